/- WHAT IS PROVED: contracts and plain laws of TabM, RgP. Conditions: stated with each. -/
import Derived.Test.YtenihpghfdcpkaaGreatPO02
import Derived.Test.YtenihpghfdcpkaaGreatPO05
import Derived.Test.YtenihpghfdcpkaaGreatPO15
import Derived.Test.YtenihpghfdcpkaaGreatPO19
import Derived.Test.YtenihpghfdcpkaaGreatPO21
import Derived.Test.YtenihpghfdcpkaaGreatPO22
import Derived.Test.YtenihpghfdcpkaaGreatPO23
import Derived.Test.YtenihpghfdcpkaaGreatPO24
set_option maxHeartbeats 4000000
set_option maxRecDepth 100000
namespace Go.Proofs.YtenihpghfdcpkaaGreat
open Go.RowKit
def Z01 (L : List CeR) (a b : Int) : Option CeR := L.find? fun c => decide (c.x.cl = a ∧ c.x.seq = b)
section
variable {L : List CeR} {a b : Int} {i : Nat} {x : CeR} {B : List Ck} {w : World}
theorem ZeE (hno : ∀ j, j < i → ∀ y, L[j]? = some y → ¬ (y.x.cl = a ∧ y.x.seq = b)) (hx : L[i]? = some x) (h : decide (x.x.cl = a ∧ x.x.seq = b) = true) : Z01 L a b = some x := by
 unfold Z01
 rw [List.find?_eq_some_iff_getElem]
 obtain ⟨hi, e⟩ := List.getElem?_eq_some_iff.1 hx
 refine ⟨h, i, hi, e, fun j hj => ?_⟩
 have := hno j hj _ (List.getElem?_eq_getElem (by omega))
 rw [show (decide (L[j].x.cl = a ∧ L[j].x.seq = b)) = false from decide_eq_false this]; rfl
theorem Zef (hno : ∀ j, j < i → ∀ y, L[j]? = some y → ¬ (y.x.cl = a ∧ y.x.seq = b)) (hi : L.length ≤ i) : Z01 L a b = none := by
 unfold Z01
 rw [List.find?_eq_none]
 intro y hy
 obtain ⟨j, hj, e⟩ := List.mem_iff_getElem.1 hy
 have := hno j (by omega) y (by rw [List.getElem?_eq_getElem hj, e])
 simpa using this
theorem Zeg (hno : ∀ j, j < i → ∀ y, L[j]? = some y → ¬ (y.x.cl = a ∧ y.x.seq = b)) (hx : L[i]? = some x) (h : decide (x.x.cl = a ∧ x.x.seq = b) = false) : ∀ j, j < i + 1 → ∀ y, L[j]? = some y → ¬ (y.x.cl = a ∧ y.x.seq = b) := fun j hj y hy => by
 rcases Nat.lt_or_ge j i with q | q
 ·exact hno j q y hy
 ·have e : j = i := by omega
  subst e
  rw [hx] at hy
  obtain rfl := Option.some.inj hy
  exact of_decide_eq_false h
structure CeT (B : List Ck) (c : CeR) : Prop where
 x : CoB c.x
 S : ∀ i, i < c.S.length → StB (c.S.getD i Zi)
 len : c.S.length ≤ 12
 bag : stC c ∈ B
theorem CeT.cb (h : CeT B x) (hb : (Z0s B).ok w) : CeB w x := ⟨h.x, Z6c hb h.bag, h.S, Nat.le_trans h.len (by decide)⟩
noncomputable def Z2M (L : List CeR) (last tm : Int) : List CeR := L.filter fun c => decide (Zz c.S > last) && decide (Zz c.S ≤ tm)
variable {last tm : Int}
theorem Zfx {D : List CeR} (hD : D = Z2M (L.take i) last tm) (hx : L[i]? = some x) (h1 : decide (Zz x.S > last) = true) (h2 : decide (Zz x.S ≤ tm) = true) : D ++ [x] = Z2M (L.take (i + 1)) last tm := by
 unfold Z2M at hD ⊢
 rw [List.take_add_one, hx, Option.toList_some, List.filter_append, ← hD, List.filter_cons, h1, h2]; rfl
theorem Zfq {D : List CeR} (hD : D = Z2M (L.take i) last tm) (hx : L[i]? = some x) (h1 : decide (Zz x.S > last) = false) : D = Z2M (L.take (i + 1)) last tm := by
 unfold Z2M at hD ⊢
 rw [List.take_add_one, hx, Option.toList_some, List.filter_append, ← hD, List.filter_cons, h1]; simp
theorem Zfw {D : List CeR} (hD : D = Z2M (L.take i) last tm) (hx : L[i]? = some x) (h2 : decide (Zz x.S ≤ tm) = false) : D = Z2M (L.take (i + 1)) last tm := by
 unfold Z2M at hD ⊢
 rw [List.take_add_one, hx, Option.toList_some, List.filter_append, ← hD, List.filter_cons, h2]; simp
theorem Z5p {c : CeR} (h : c ∈ Z2M L last tm) : c ∈ L := (List.mem_filter.1 h).1
theorem Zb0 : (Z2M L last tm).length ≤ L.length := List.length_filter_le ..
theorem Z8N (h : (Z01 L a b).isSome = true) : (Z01 L a b).getD ce0 ∈ L := by
 obtain ⟨v, hv⟩ := Option.isSome_iff_exists.1 h
 rw [hv]
 exact List.mem_of_find?_eq_some (show L.find? (fun c => decide (c.x.cl = a ∧ c.x.seq = b)) = some v from hv)
noncomputable def Z64 (F Cn floor : Int) (Lb : List Signed) (L : List CeR) (x : CeR) : Int :=
 if Z0r F Cn Lb x.x x.S = true then
  if (Z01 L x.x.cl x.x.seq).isSome = true then
   if ((Z01 L x.x.cl x.x.seq).getD ce0).x.h = x.x.h ∧ Zz ((Z01 L x.x.cl x.x.seq).getD ce0).S = Zz x.S then 0 else 5
  else if Zz x.S ≤ floor then 4 else if 64 ≤ L.length then 7 else 0
 else 3
noncomputable def ackT (rp : Int) (x : CeR) : Z9 := ⟨rp, x.x.cl, x.x.seq, x.x.h, Zz x.S, 0, 0⟩
noncomputable def ackY (rp : Int) (x : CeR) : Signed := ⟨rp, Z2T (ackT rp x)⟩
noncomputable def ackS (rp : Int) (Lb : List Signed) (x : CeR) : Z9 := ⟨rp, x.x.cl, x.x.seq, x.x.h, Zz x.S, rp, Zo (Zw Lb (ackY rp x)) (ackY rp x)⟩
def Z6p (x y : CeR) : Bool := decide (x.x.cl < y.x.cl) || (decide (x.x.cl = y.x.cl) && decide (x.x.seq < y.x.seq))
structure Ze4 (L : List CeR) (x : CeR) (k : Nat) : Prop where
 le : k ≤ L.length
 up : ∀ j, k ≤ j → ∀ y, L[j]? = some y → Z6p x y = true
 stop : k = 0 ∨ ∃ y, L[k - 1]? = some y ∧ Z6p x y = false
variable {F Cn floor rp : Int} {Lb : List Signed} {y : CeR} {k : Nat}
theorem tk3 (h : Z0r F Cn Lb x.x x.S = false) : Z64 F Cn floor Lb L x = 3 := by unfold Z64; rw [if_neg (by rw [h]; decide)]
theorem tk5 (h : Z0r F Cn Lb x.x x.S = true) (h1 : (Z01 L x.x.cl x.x.seq).isSome = true) (h2 : ¬ (((Z01 L x.x.cl x.x.seq).getD ce0).x.h = x.x.h ∧ Zz ((Z01 L x.x.cl x.x.seq).getD ce0).S = Zz x.S)) : Z64 F Cn floor Lb L x = 5 := by unfold Z64; rw [if_pos h, if_pos h1, if_neg h2]
theorem tk0 (h : Z0r F Cn Lb x.x x.S = true) (h1 : (Z01 L x.x.cl x.x.seq).isSome = true) (h2 : ((Z01 L x.x.cl x.x.seq).getD ce0).x.h = x.x.h) (h3 : Zz ((Z01 L x.x.cl x.x.seq).getD ce0).S = Zz x.S) : Z64 F Cn floor Lb L x = 0 := by unfold Z64; rw [if_pos h, if_pos h1, if_pos ⟨h2, h3⟩]
theorem tk4 (h : Z0r F Cn Lb x.x x.S = true) (h1 : (Z01 L x.x.cl x.x.seq).isSome = false) (h2 : Zz x.S ≤ floor) : Z64 F Cn floor Lb L x = 4 := by unfold Z64; rw [if_pos h, if_neg (by rw [h1]; decide), if_pos h2]
theorem tk7 (h : Z0r F Cn Lb x.x x.S = true) (h1 : (Z01 L x.x.cl x.x.seq).isSome = false) (h2 : ¬ Zz x.S ≤ floor) (h3 : 64 ≤ L.length) : Z64 F Cn floor Lb L x = 7 := by unfold Z64; rw [if_pos h, if_neg (by rw [h1]; decide), if_neg h2, if_pos h3]
theorem tkn (h : Z0r F Cn Lb x.x x.S = true) (h1 : (Z01 L x.x.cl x.x.seq).isSome = false) (h2 : ¬ Zz x.S ≤ floor) (h3 : ¬ 64 ≤ L.length) : Z64 F Cn floor Lb L x = 0 := by unfold Z64; rw [if_pos h, if_neg (by rw [h1]; decide), if_neg h2, if_neg h3]
theorem ZeK : ∀ j, L.length ≤ j → ∀ y, L[j]? = some y → Z6p x y = true := fun j hj y hy => by
 have := (List.getElem?_eq_some_iff.1 hy).1; omega
theorem ZgL (h : ∀ j, k ≤ j → ∀ y, L[j]? = some y → Z6p x y = true) (hy : L[k - 1]? = some y) (hl : Z6p x y = true) : ∀ j, k - 1 ≤ j → ∀ y, L[j]? = some y → Z6p x y = true := fun j hj z hz => by
 by_cases e : j = k - 1
 ·subst e
  rw [hy] at hz
  obtain rfl := Option.some.inj hz
  exact hl
 ·exact h j (by omega) z hz
theorem Zbi {c : CeR} (h : CeT B c) : 0 ≤ Zz c.S ∧ Zz c.S < 18446744073709551616 := by
 unfold Zz
 rcases Nat.mod_two_eq_zero_or_one (Z3V c.S).length with e | e
 ·rw [Z4o e]; decide
 ·have hm := (Zbm e).mem
  unfold Z3V at hm
  obtain ⟨s, hs, he⟩ := List.mem_map.1 hm
  obtain ⟨i, hi, hsi⟩ := List.mem_iff_getElem.1 hs
  have q := (h.S i hi).1
  rw [List.getD_eq_getElem?_getD, List.getElem?_eq_getElem hi, Option.getD_some, hsi] at q
  unfold Z3V
  rw [← he]; exact ⟨q.2.2.2.1, q.2.2.2.2⟩
end
abbrev Z3t (p0 : Int) (p1 : Int) : List Value := ([i6 p0, i6 p1] : LV)
abbrev Z9g (p0 : PrR) : List Value := ([i6 p0.r, i6 p0.e, u6 p0.f, (.slice p0.ca p0.C.length p0.cc), i6 p0.sb, i6 p0.sm] : LV)
abbrev kRgP_2 (p0 : Zg) (p1 : CeR) (p2 : Nat) : List Value := ([i6 p0.cl, i6 p0.seq] : LV) ++ hc p0.h ++ ([i6 p0.len, i6 p0.sb, i6 p0.sm, (.slice p1.sa p2 p1.sc)] : LV)
abbrev kRgP_3 : List Value := ([i6 0, i6 0] : LV) ++ hc ZC ++ ([i6 0, i6 0, i6 0, (.slice none 0 0)] : LV)
noncomputable def Z8K (f cn : Int) (L : List Signed) (fl : Int) (C : List CeR) (i : Nat) : Bool := (!decide ((i : Int) > 0) || Z6p (C.getD (i - 1) ce0) (C.getD i ce0)) && Z0r f cn L (C.getD i ce0).x (C.getD i ce0).S && !decide (Zz (C.getD i ce0).S > fl)
noncomputable def Z1R (f cn : Int) (L : List Signed) (p : PrR) : Bool := inB f p.r && !decide (p.e < 0) && !decide (p.e > 1048576) && !decide ((p.C.length : Int) > 64) && !decide (p.f = 18446744073709551615) && decide (p.sb = p.r) && Z0x L p.sb p.sm (Z1a p) && (List.range p.C.length).all (Z8K f cn L p.f p.C)
theorem Z2q (x y : CeR) : Z6p x y = !decide (or2 (Z2S x.x.cl y.x.cl) (Z2S x.x.seq y.x.seq) ≥ 0) := by
 unfold Z6p or2 Z2S
 rw [Bool.eq_iff_iff]
 simp only [Bool.or_eq_true, Bool.and_eq_true, decide_eq_true_eq, Bool.not_eq_true', decide_eq_false_iff_not]
 split <;> split <;> (try split) <;> omega
theorem Z9U (w : World) (a b c d : Int) : Calls Tryz.prog 63 #[.agg ⟨[i6 a, i6 b]⟩, .agg ⟨[i6 c, i6 d]⟩] w fun e w' => e = .returned (i6 (or2 (Z2S a c) (Z2S b d))) ∧ Upd [] w w' := (Z7U w a b c d).mono fun _ _ h => ⟨h.1, h.2.1⟩
theorem Z6I (w : World) (f cn : Int) (hf : -1099511627776 ≤ f ∧ f ≤ 1099511627776) (b mb : Nat) (L : List Signed) (hb : (Z0 b 179 [.map (some mb)]).ok w) (hm : MapAt w mb ZZ (Value.int .i64) (Z0c L)) (p : PrR) (hC : ListAt Z0Z 38 w (.slice p.ca p.C.length p.cc) p.C) (hB : ∀ i, i < p.C.length → CeB w (p.C.getD i ce0)) (h12 : ∀ i, i < p.C.length → (p.C.getD i ce0).S.length ≤ 12) (hl : p.C.length ≤ 64) (hpn : p.r ≤ 9223372036854775807 ∧ p.e ≤ 9223372036854775807 ∧ 0 ≤ p.f ∧ p.f < 18446744073709551616) :
  Calls Tryz.prog 110 #[(.agg ⟨([i6 f, i6 cn] : LV)⟩), zp b, (.agg ⟨([i6 p.r, i6 p.e, u6 p.f, (.slice p.ca p.C.length p.cc), i6 p.sb, i6 p.sm] : LV)⟩)] w fun e w' => e = .returned (.bool (Z1R f cn L p)) ∧ Upd [] w w' := by
 have H := Sat.start0 w
 refine Za Tryz.func110 rfl 87 rfl kn ?_
 refine zsl <| zy <| zdb (Z3t f cn) H fun b2 w3 H4 => ?_
 refine kk <| zy <| zdb (Z9g p) H4 fun b6 w7 H8 => ?_
 refine kk <| wv 6 (.bool false) <| znt <| Z7 <| zsl <| zwN 9 (Z3t f cn) (H8.at 1 rfl) <| wv 10 (pt b6 0) <| zw1 11 (vi p.r) (H8.cell 2 rfl rfl) <| zy <| zdq 12 (Z8E w7 f cn p.r om) H8 ?_
 intro w10 H11
 refine kk <| wv 13 (.bool (!(inB f p.r))) <| wv 14 (.bool (!(inB f p.r))) ?_
 refine (ZS (!(inB f p.r))).elim (fun b13 => ?_) (fun b13 => ?_)
 ·have g14 := Zf b13
  refine Z0z 14 (.bool true) (congrArg Value.bool b13) ?_
  iterate 3 refine wn 5 14 false ?_
  refine wv 18 (.bool true) <| wv 19 (.bool true) ?_
  iterate 3 refine wn 10 19 false ?_
  refine wv 23 (.bool true) <| wv 24 (.bool true) ?_
  iterate 4 refine wn 15 24 false ?_
  refine wv 29 (.bool true) <| wv 30 (.bool true) ?_
  iterate 3 refine wn 21 30 false ?_
  refine wv 34 (.bool true) <| wv 35 (.bool true) ?_
  iterate 6 refine wn 26 35 false ?_
  refine wv 42 (.bool true) <| znt <| Z0n rfl ?_
  refine zsl <| wv 6 (.bool false) <| znt <| Zk <| Zb <| ze1 (.bool false) ?_
  have n16 := Zf b13
  exact ⟨by simp only [Z1R, n16, bls], H11.upd 0 rfl [] ne⟩
 have g17 := Z3 b13
 refine Z0z 14 (.bool false) (congrArg Value.bool b13) ?_
 refine wy 5 14 false 15 (pt b6 1) <| wy 5 14 false 16 (vi p.e) ?_ (hr := zl1 (H11.cell 2 rfl rfl))
 refine wy 5 14 false 17 (.bool (decide (p.e < 0))) <| wv 18 (.bool (decide (p.e < 0))) <| wv 19 (.bool (decide (p.e < 0))) ?_
 refine zil 19 (fun b19 g20 => ?_) fun b19 g23 => ?_
 ·iterate 3 refine wn 10 19 false ?_
  refine wv 23 (.bool true) <| wv 24 (.bool true) ?_
  iterate 4 refine wn 15 24 false ?_
  refine wv 29 (.bool true) <| wv 30 (.bool true) ?_
  iterate 3 refine wn 21 30 false ?_
  refine wv 34 (.bool true) <| wv 35 (.bool true) ?_
  iterate 6 refine wn 26 35 false ?_
  refine wv 42 (.bool true) <| znt <| Z0n rfl ?_
  refine zsl <| wv 6 (.bool false) <| znt <| Zk <| Zb <| ze1 (.bool false) ?_
  have n22 := Z3 b13
  exact ⟨by simp only [Z1R, n22, b19, bls], H11.upd 0 rfl [] ne⟩
 refine wy 10 19 false 20 (pt b6 1) <| wy 10 19 false 21 (vi p.e) ?_ (hr := zl1 (H11.cell 2 rfl rfl))
 refine wy 10 19 false 22 (.bool (decide (p.e > 1048576))) <| wv 23 (.bool (decide (p.e > 1048576))) <| wv 24 (.bool (decide (p.e > 1048576))) ?_
 refine zil 24 (fun b25 g26 => ?_) fun b25 g29 => ?_
 ·iterate 4 refine wn 15 24 false ?_
  refine wv 29 (.bool true) <| wv 30 (.bool true) ?_
  iterate 3 refine wn 21 30 false ?_
  refine wv 34 (.bool true) <| wv 35 (.bool true) ?_
  iterate 6 refine wn 26 35 false ?_
  refine wv 42 (.bool true) <| znt <| Z0n rfl ?_
  refine zsl <| wv 6 (.bool false) <| znt <| Zk <| Zb <| ze1 (.bool false) ?_
  have n28 := Z3 b13
  exact ⟨by simp only [Z1R, n28, b19, b25, bls], H11.upd 0 rfl [] ne⟩
 refine wy 15 24 false 25 (pt b6 3) <| wy 15 24 false 26 (.slice p.ca p.C.length p.cc) ?_ (hr := zl1 (H11.cell 2 rfl rfl))
 refine wy 15 24 false 27 (vi p.C.length) <| wy 15 24 false 28 (.bool (decide ((p.C.length : Int) > 64))) <| wv 29 (.bool (decide ((p.C.length : Int) > 64))) <| wv 30 (.bool (decide ((p.C.length : Int) > 64))) ?_
 refine zil 30 (fun b31 g32 => ?_) fun b31 g35 => ?_
 ·iterate 3 refine wn 21 30 false ?_
  refine wv 34 (.bool true) <| wv 35 (.bool true) ?_
  iterate 6 refine wn 26 35 false ?_
  refine wv 42 (.bool true) <| znt <| Z0n rfl ?_
  refine zsl <| wv 6 (.bool false) <| znt <| Zk <| Zb <| ze1 (.bool false) ?_
  have n34 := Z3 b13
  exact ⟨by simp only [Z1R, n34, b19, b25, b31, bls], H11.upd 0 rfl [] ne⟩
 refine wy 21 30 false 31 (pt b6 2) <| wy 21 30 false 32 (vu p.f) ?_ (hr := zl1 (H11.cell 2 rfl rfl))
 refine wy 21 30 false 33 (.bool (decide (p.f = 18446744073709551615))) <| wv 34 (.bool (decide (p.f = 18446744073709551615))) <| wv 35 (.bool (decide (p.f = 18446744073709551615))) ?_
 refine zil 35 (fun b37 g38 => ?_) fun b37 g41 => ?_
 ·iterate 6 refine wn 26 35 false ?_
  refine wv 42 (.bool true) <| znt <| Z0n rfl ?_
  refine zsl <| wv 6 (.bool false) <| znt <| Zk <| Zb <| ze1 (.bool false) ?_
  have n40 := Z3 b13
  exact ⟨by simp only [Z1R, n40, b19, b25, b31, b37, bls], H11.upd 0 rfl [] ne⟩
 refine wy 26 35 false 36 (pt b6 4) <| wy 26 35 false 37 (pt b6 4) <| wy 26 35 false 38 (vi p.sb) ?_ (hr := zl1 (H11.cell 2 rfl rfl))
 refine wy 26 35 false 39 (pt b6 0) <| wy 26 35 false 40 (vi p.r) ?_ (hr := zl1 (H11.cell 2 rfl rfl))
 refine wy 26 35 false 41 (.bool (!(decide (p.sb = p.r)))) <| wv 42 (.bool (!(decide (p.sb = p.r)))) <| znt ?_
 refine (ZS (!(decide (p.sb = p.r)))).elim (fun b43 => ?_) (fun b43 => ?_)
 ·have g44 := Zf b43
  have g45 := of_decide_eq_false g44
  refine Z4z _ b43 ?_
  refine zsl <| wv 6 (.bool false) <| znt <| Zk <| Zb <| ze1 (.bool false) ?_
  have n48 := Z3 b13
  have n49 := Zf b43
  exact ⟨by simp only [Z1R, n48, b19, b25, b31, b37, n49, bls], H11.upd 0 rfl [] ne⟩
 have g50 := Z3 b43
 have g51 := of_decide_eq_true g50
 refine Z46 _ b43 ?_
 refine Zm <| ztn <| Z7 <| zsl <| wv 43 (pt b6 3) <| zw1 44 (.slice p.ca p.C.length p.cc) (H11.cell 2 rfl rfl) <| wv 45 (vi p.C.length) <| wv 46 (vi 0) <| znt <| Zc ?_
 have n54 := Z3 b13
 have n55 := Z3 b43
 refine Zq ([6, 7, 8] ++ List.range' 46 35) (fun F_ W_ m_ => ∃ (i : Nat), F_ 46 = (vi i) ∧ (i ≤ p.C.length) ∧ (∀ j, j < i → Z8K f cn L p.f p.C j = true) ∧ Sat w [zR w, Z0 b2 29 (Z3t f cn), Z0 b6 71 (Z9g p)] W_ ∧ m_ = p.C.length - i) _ ⟨0, (show ((vi 0) : Value) = _ by first | rfl | go_num), (Nat.zero_le _), (fun _ h => absurd h (Nat.not_lt_zero _)), H11, rfl⟩ ?_
 rintro g56 w57 _ ⟨i, v59, hi, hall, H58, rfl⟩
 refine Ze 46 _ v59 ?_
 refine zsl <| wv 47 (.bool (decide ((i : Int) < p.C.length))) <| znt <| Z7 ?_
 refine zid (fun b61 g62 => ?_) fun b61 g132 => ?_
 ·refine Zm <| ztn <| Z7 <| Zc <| zsl <| wv 48 (vi i) ?_
  obtain ⟨g64, o65, c66, e67, R68⟩ := SliceOf.atD hC ce0 (show i < p.C.length by omega)
  refine wv 49 (.pointer (some ⟨g64, o65 + ((i : Int)).toNat * 38, none⟩)) ?_ (hr := Zd (E := 76) kr kr kn rfl e67 rfl om om)
  let A0 := kRgP_2 ((p.C.getD i ce0).x) (p.C.getD i ce0) (((p.C.getD i ce0).S).length)
  refine wv 50 (.agg ⟨A0⟩) ?_ (hr := ZE (vs := A0) rfl kr kr kn (H58.runR 0 rfl (Z0k R68 0 kr (show o65 + ((i : Int)).toNat * 38 = o65 + i * 38 + 0 by omega)) (fun h => h)))
  refine zy <| zda (kRgP_3) H58 fun b70 w71 H72 => ?_
  refine kk <| wv 7 (vi i) <| zy <| Z1p A0 H72 3 fun w74 H75 => ?_
  refine kk <| znt <| Z7 <| Z7 <| zqs H75 ?_
  refine qv 51 (vi i) <| qv 52 (.bool (decide ((i : Int) > 0))) <| qv 53 (.bool (decide ((i : Int) > 0))) ?_
  refine ziq 53 (fun b77 g78 => ?_) fun b77 g110 => ?_
  ·refine qy 2 53 true 54 (pt b6 3) <| qy 2 53 true 55 (.slice p.ca p.C.length p.cc) ?_ (hr := fun _ H' => (zl1 (H'.cell 2 rfl rfl)))
   refine qy 2 53 true 56 (vi i) <| qy 2 53 true 57 (vi ((i : Int) - 1)) ?_ (hr := fun _ H' => (Z0q (z := (i : Int) - 1) kr (IntWalk.i64_in _ om)))
   obtain ⟨g80, o81, c82, e83, R84⟩ := SliceOf.atD hC ce0 (show ((i : Int) - 1).toNat < p.C.length by omega)
   refine qy 2 53 true 58 (.pointer (some ⟨g80, o81 + ((i : Int) - 1).toNat * 38, none⟩)) ?_ (hr := fun _ H' => (Zd (E := 76) kr kr kn rfl e83 rfl om om))
   refine qy 2 53 true 59 (.pointer (some ⟨g80, o81 + ((i : Int) - 1).toNat * 38, none⟩)) <| qy 2 53 true 60 (.pointer (some ⟨g80, o81 + ((i : Int) - 1).toNat * 38, none⟩)) <| qy 2 53 true 61 (.agg ⟨(Z3t ((p.C.getD ((i : Int) - 1).toNat ce0).x.cl) ((p.C.getD ((i : Int) - 1).toNat ce0).x.seq))⟩) ?_ (hr := fun _ H' => (ZE (vs := (Z3t ((p.C.getD ((i : Int) - 1).toNat ce0).x.cl) ((p.C.getD ((i : Int) - 1).toNat ce0).x.seq))) rfl kr kr kn (H'.runR 0 rfl (Z0k R84 0 kr (show o81 + ((i : Int) - 1).toNat * 38 = o81 + ((i : Int) - 1).toNat * 38 + 0 by omega)) (fun h => h))))
   refine qy 2 53 true 62 (pt b70 0) <| qy 2 53 true 63 (pt b70 0) <| qy 2 53 true 64 (.agg ⟨(Z3t ((p.C.getD i ce0).x.cl) ((p.C.getD i ce0).x.seq))⟩) ?_ (hr := fun _ H' => (zlN (vs := (Z3t ((p.C.getD i ce0).x.cl) ((p.C.getD i ce0).x.seq))) (H'.at 3 rfl)))
   refine Z0N (Z0a 2 53 true rfl kr rfl kr) (d := 65) (v := (vi (or2 (Z2S ((p.C.getD ((i : Int) - 1).toNat ce0).x.cl) ((p.C.getD i ce0).x.cl)) (Z2S ((p.C.getD ((i : Int) - 1).toNat ce0).x.seq) ((p.C.getD i ce0).x.seq))))) rfl (fun _ _ => by kernel_rfl) (fun w' H' => (Z9U w' ((p.C.getD ((i : Int) - 1).toNat ce0).x.cl) ((p.C.getD ((i : Int) - 1).toNat ce0).x.seq) ((p.C.getD i ce0).x.cl) ((p.C.getD i ce0).x.seq)).mono fun _ _ h => ⟨h.1, H'.keepU h.2⟩) ?_
   refine qy 2 53 true 66 (.bool (decide ((or2 (Z2S ((p.C.getD ((i : Int) - 1).toNat ce0).x.cl) ((p.C.getD i ce0).x.cl)) (Z2S ((p.C.getD ((i : Int) - 1).toNat ce0).x.seq) ((p.C.getD i ce0).x.seq))) ≥ 0))) <| qv 67 (.bool (decide ((or2 (Z2S ((p.C.getD ((i : Int) - 1).toNat ce0).x.cl) ((p.C.getD i ce0).x.cl)) (Z2S ((p.C.getD ((i : Int) - 1).toNat ce0).x.seq) ((p.C.getD i ce0).x.seq))) ≥ 0))) <| Z09 fun w85 H86 => ?_
   apply ztn
   refine zid (fun b87 g88 => ?_) fun b87 g90 => ?_
   ·refine zsl <| wv 6 (.bool false) <| znt <| Zk <| Zb <| Zu <| Zb <| ZT <| Zu <| Zb ?_
    refine ze1 (.bool false) ?_
    have e1 : ((i : Int) - 1).toNat = i - 1 := by omega
    have ho : Z8K f cn L p.f p.C i = false := by unfold Z8K; rw [← e1]; simp only [Z2q, b61, b77, b87, bls]
    exact ⟨by simp only [Z1R, Z0h (show i < p.C.length by omega) ho, Bool.and_false], H86.upd 0 rfl [] ne⟩
   refine Zm <| ztn <| Z7 <| zqs H86 ?_
   refine qv 68 (.agg ⟨(Z3t f cn)⟩) ?_ (hr := fun _ H' => (zlN (vs := (Z3t f cn)) (H'.at 1 rfl)))
   refine qv 69 (pt b 0) <| qv 70 (.agg ⟨A0⟩) ?_ (hr := fun _ H' => (zlN (vs := A0) (H'.at 3 rfl)))
   refine Z0N (Z8 rfl) (d := 71) (v := (.bool (Z0r f cn L (p.C.getD i ce0).x (p.C.getD i ce0).S))) rfl (fun _ _ => by kernel_rfl) (fun w' H' => (Z7a w' f cn om b mb L (H'.roCk 0 rfl hb (fun _ _ h => h)) (H'.roMap 0 rfl hm (fun h => h)) (p.C.getD i ce0).x ((hB i om).keep H' 0 rfl).x.1 (p.C.getD i ce0).sa (p.C.getD i ce0).sc (p.C.getD i ce0).S ((hB i om).keep H' 0 rfl).at_ (fun i_ hi_ => (((hB i om).keep H' 0 rfl).S i_ hi_).1) (by have q := h12 i om; omega)).mono fun _ _ h => ⟨h.1, H'.keepU h.2⟩) ?_
   refine qv 72 (.bool (!(Z0r f cn L (p.C.getD i ce0).x (p.C.getD i ce0).S))) <| qv 73 (.bool (!(Z0r f cn L (p.C.getD i ce0).x (p.C.getD i ce0).S))) ?_
   refine (ZS (!(Z0r f cn L (p.C.getD i ce0).x (p.C.getD i ce0).S))).elim (fun b92 => ?_) (fun b92 => ?_)
   ·have g93 := Zf b92
    refine Z0t 73 (.bool true) (congrArg Value.bool b92) ?_
    iterate 5 refine qn 5 73 false ?_
    refine qv 79 (.bool true) <| Z09 fun w95 H96 => ?_
    refine ztn <| Z0n rfl ?_
    refine zsl <| wv 6 (.bool false) <| znt <| Zk <| Zu <| Zb <| ZT <| Zu <| Zb <| ze1 (.bool false) ?_
    have n97 := Zf b92
    have e1 : ((i : Int) - 1).toNat = i - 1 := by omega
    have ho : Z8K f cn L p.f p.C i = false := by unfold Z8K; rw [← e1]; simp only [Z2q, b61, b77, b87, n97, bls]
    exact ⟨by simp only [Z1R, Z0h (show i < p.C.length by omega) ho, Bool.and_false], H96.upd 0 rfl [] ne⟩
   have g98 := Z3 b92
   refine Z0t 73 (.bool false) (congrArg Value.bool b92) ?_
   refine qy 5 73 false 74 (.agg ⟨A0⟩) ?_ (hr := fun _ H' => (zlN (vs := A0) (H'.at 3 rfl)))
   refine Z0N (Z0a 5 73 false rfl kr rfl kr) (d := 75) (v := (vu (Zz (p.C.getD i ce0).S))) rfl (fun _ _ => by kernel_rfl) (fun w' H' => (Z5O w' (p.C.getD i ce0).x (p.C.getD i ce0).sa (p.C.getD i ce0).sc (p.C.getD i ce0).S ((hB i om).keep H' 0 rfl).at_ (h12 i om)).mono fun _ _ h => ⟨h.1, H'.keepU h.2⟩) ?_
   refine qy 5 73 false 76 (pt b6 2) <| qy 5 73 false 77 (vu p.f) ?_ (hr := fun _ H' => (zl1 (H'.cell 2 rfl rfl)))
   refine qy 5 73 false 78 (.bool (decide ((Zz (p.C.getD i ce0).S) > p.f))) <| qv 79 (.bool (decide ((Zz (p.C.getD i ce0).S) > p.f))) <| Z09 fun w100 H101 => ?_
   apply ztn
   refine zid (fun b102 g103 => ?_) fun b102 g106 => ?_
   ·refine zsl <| wv 6 (.bool false) <| znt <| Zk <| Zu <| Zb <| ZT <| Zu <| Zb <| ze1 (.bool false) ?_
    have n105 := Z3 b92
    have e1 : ((i : Int) - 1).toNat = i - 1 := by omega
    have ho : Z8K f cn L p.f p.C i = false := by unfold Z8K; rw [← e1]; simp only [Z2q, b61, b77, b87, n105, b102, bls]
    exact ⟨by simp only [Z1R, Z0h (show i < p.C.length by omega) ho, Bool.and_false], H101.upd 0 rfl [] ne⟩
   refine Zm <| Z6 <| ztn <| Zl <| zwi 80 ((i : Int) + 1) <| wv 46 (vi ((i : Int) + 1)) <| Zn ?_
   have n108 := Z3 b92
   have e1 : ((i : Int) - 1).toNat = i - 1 := by omega
   have ho : Z8K f cn L p.f p.C i = true := by unfold Z8K; rw [← e1]; simp only [Z2q, b61, b77, b87, n108, b102, bls]
   have H109 := H101.pk [0, 1, 2]
   refine Z5 ?_ _ ⟨(i + 1), rfl, om, (fun j hj => by rcases Nat.lt_or_ge j i with h | h; exact hall j h; rw [show j = i by omega]; exact ho), H109, rfl⟩ om
   exact zs
  iterate 13 refine qn 2 53 true ?_
  refine qv 67 (.bool false) <| Z09 fun w112 H113 => ?_
  refine ztn <| Z1W rfl ?_
  refine Zm <| ztn <| Z7 <| zqs H113 ?_
  refine qv 68 (.agg ⟨(Z3t f cn)⟩) ?_ (hr := fun _ H' => (zlN (vs := (Z3t f cn)) (H'.at 1 rfl)))
  refine qv 69 (pt b 0) <| qv 70 (.agg ⟨A0⟩) ?_ (hr := fun _ H' => (zlN (vs := A0) (H'.at 3 rfl)))
  refine Z0N (Z8 rfl) (d := 71) (v := (.bool (Z0r f cn L (p.C.getD i ce0).x (p.C.getD i ce0).S))) rfl (fun _ _ => by kernel_rfl) (fun w' H' => (Z7a w' f cn om b mb L (H'.roCk 0 rfl hb (fun _ _ h => h)) (H'.roMap 0 rfl hm (fun h => h)) (p.C.getD i ce0).x ((hB i om).keep H' 0 rfl).x.1 (p.C.getD i ce0).sa (p.C.getD i ce0).sc (p.C.getD i ce0).S ((hB i om).keep H' 0 rfl).at_ (fun i_ hi_ => (((hB i om).keep H' 0 rfl).S i_ hi_).1) (by have q := h12 i om; omega)).mono fun _ _ h => ⟨h.1, H'.keepU h.2⟩) ?_
  refine qv 72 (.bool (!(Z0r f cn L (p.C.getD i ce0).x (p.C.getD i ce0).S))) <| qv 73 (.bool (!(Z0r f cn L (p.C.getD i ce0).x (p.C.getD i ce0).S))) ?_
  refine (ZS (!(Z0r f cn L (p.C.getD i ce0).x (p.C.getD i ce0).S))).elim (fun b114 => ?_) (fun b114 => ?_)
  ·have g115 := Zf b114
   refine Z0t 73 (.bool true) (congrArg Value.bool b114) ?_
   iterate 5 refine qn 5 73 false ?_
   refine qv 79 (.bool true) <| Z09 fun w117 H118 => ?_
   refine ztn <| Z0n rfl ?_
   refine zsl <| wv 6 (.bool false) <| znt <| Zk <| Zu <| Zb <| ZT <| Zu <| Zb <| ze1 (.bool false) ?_
   have n119 := Zf b114
   have e1 : ((i : Int) - 1).toNat = i - 1 := by omega
   have ho : Z8K f cn L p.f p.C i = false := by unfold Z8K; rw [← e1]; simp only [Z2q, b61, b77, n119, bls]
   exact ⟨by simp only [Z1R, Z0h (show i < p.C.length by omega) ho, Bool.and_false], H118.upd 0 rfl [] ne⟩
  have g120 := Z3 b114
  refine Z0t 73 (.bool false) (congrArg Value.bool b114) ?_
  refine qy 5 73 false 74 (.agg ⟨A0⟩) ?_ (hr := fun _ H' => (zlN (vs := A0) (H'.at 3 rfl)))
  refine Z0N (Z0a 5 73 false rfl kr rfl kr) (d := 75) (v := (vu (Zz (p.C.getD i ce0).S))) rfl (fun _ _ => by kernel_rfl) (fun w' H' => (Z5O w' (p.C.getD i ce0).x (p.C.getD i ce0).sa (p.C.getD i ce0).sc (p.C.getD i ce0).S ((hB i om).keep H' 0 rfl).at_ (h12 i om)).mono fun _ _ h => ⟨h.1, H'.keepU h.2⟩) ?_
  refine qy 5 73 false 76 (pt b6 2) <| qy 5 73 false 77 (vu p.f) ?_ (hr := fun _ H' => (zl1 (H'.cell 2 rfl rfl)))
  refine qy 5 73 false 78 (.bool (decide ((Zz (p.C.getD i ce0).S) > p.f))) <| qv 79 (.bool (decide ((Zz (p.C.getD i ce0).S) > p.f))) <| Z09 fun w122 H123 => ?_
  apply ztn
  refine zid (fun b124 g125 => ?_) fun b124 g128 => ?_
  ·refine zsl <| wv 6 (.bool false) <| znt <| Zk <| Zu <| Zb <| ZT <| Zu <| Zb <| ze1 (.bool false) ?_
   have n127 := Z3 b114
   have e1 : ((i : Int) - 1).toNat = i - 1 := by omega
   have ho : Z8K f cn L p.f p.C i = false := by unfold Z8K; rw [← e1]; simp only [Z2q, b61, b77, n127, b124, bls]
   exact ⟨by simp only [Z1R, Z0h (show i < p.C.length by omega) ho, Bool.and_false], H123.upd 0 rfl [] ne⟩
  refine Zm <| Z6 <| ztn <| Zl <| zwi 80 ((i : Int) + 1) <| wv 46 (vi ((i : Int) + 1)) <| Zn ?_
  have n130 := Z3 b114
  have e1 : ((i : Int) - 1).toNat = i - 1 := by omega
  have ho : Z8K f cn L p.f p.C i = true := by unfold Z8K; rw [← e1]; simp only [Z2q, b61, b77, n130, b124, bls]
  have H131 := H123.pk [0, 1, 2]
  refine Z5 ?_ _ ⟨(i + 1), rfl, om, (fun j hj => by rcases Nat.lt_or_ge j i with h | h; exact hall j h; rw [show j = i by omega]; exact ho), H131, rfl⟩ om
  exact zs
 refine zxb <| ztn <| Z7 <| ZX H58 [zR w, Z0 b2 29 (Z3t f cn), Z0 b6 71 (Z9g p)] 7 rfl kr (fun Hx => (Hx.pk [0, 1, 2])) fun w134 H135 S136 => ?_
 refine hv0 0 S136 81 (pt b 0) <| hv0 1 S136 82 (pt b6 4) <| hv0 2 S136 83 (.agg ⟨(Z3t p.sb p.sm)⟩) ?_ (he := fun _ H' => (zlN (vs := (Z3t p.sb p.sm)) (H'.at 2 rfl)))
 refine hv0 3 S136 84 (.agg ⟨(Z9g p)⟩) ?_ (he := fun _ H' => (zlN (vs := (Z9g p)) (H'.at 2 rfl)))
 refine zhy 4 ?_
 refine zdc 85 (Z6o w134 p (ListAt.now H135 0 rfl hC) (fun i_ hi_ => (hB i_ hi_).keep H135 0 rfl) hl hpn) ?_
 rintro _ w138 ⟨u139, rfl, k140, p141, q142⟩
 have H143 := H135.addU p141 k140 q142
 obtain ⟨a144, c145, rfl⟩ := Z1 (H143.at 3 rfl)
 refine ⟨_, rfl, ?_⟩
 have S146 := H143.pk [0, 1, 2]
 refine kh S146 <| zhy 5 ?_
 refine zdq 86 (Z70 w138 b mb L (H143.roCk 0 rfl hb (fun _ _ h => h)) (H143.roMap 0 rfl hm (fun h => h)) a144 c145 (Z1a p) (ListAt.row (enc := Zr) (sz := 1) Zs (by decide) (H143.at 3 rfl)) p.sb p.sm) H143 ?_
 intro w148 H149
 have S151 := H149.pk [0, 1, 2]
 refine kh S151 <| hv0 6 S151 6 (.bool (Z0x L p.sb p.sm (Z1a p))) <| zhf <| ztn <| Zk <| ze1 (.bool (Z0x L p.sb p.sm (Z1a p))) ?_
 have hn0 : i = p.C.length := by omega
 subst hn0
 exact ⟨by simp only [Z1R, Z1B hall, n54, b19, b25, b31, b37, n55, bls], H149.upd 0 rfl [] ne⟩
end Go.Proofs.YtenihpghfdcpkaaGreat
