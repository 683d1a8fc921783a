/- WHAT IS PROVED: contracts and plain laws of RgP. Conditions: stated with each. -/
import Derived.Test.YtenihpghfdcpkaaGreatPV02
import Derived.Test.YtenihpghfdcpkaaGreatPV05
import Derived.Test.YtenihpghfdcpkaaGreatPV15
import Derived.Test.YtenihpghfdcpkaaGreatPV19
import Derived.Test.YtenihpghfdcpkaaGreatPV22
import Derived.Test.YtenihpghfdcpkaaGreatPV23
import Derived.Test.YtenihpghfdcpkaaGreatPV24
set_option maxHeartbeats 4000000
set_option maxRecDepth 100000
namespace Go.Proofs.YtenihpghfdcpkaaGreat
open Go.RowKit
abbrev Z1u (p0 : Int) (p1 : Int) : List Value := ([i6 p0, i6 p1] : LV)
abbrev Z4S (p0 : PrR) : List Value := ([i6 p0.r, i6 p0.e, u6 p0.f, (.slice p0.ca p0.C.length p0.cc), i6 p0.sb, i6 p0.sm] : LV)
abbrev Z7w (p0 : Zj) (p1 : CeR) (p2 : Nat) : List Value := ([i6 p0.cl, i6 p0.seq] : LV) ++ hc p0.h ++ ([i6 p0.len, i6 p0.sb, i6 p0.sm, (.slice p1.sa p2 p1.sc)] : LV)
abbrev kRgP_3 : List Value := ([i6 0, i6 0] : LV) ++ hc Zz ++ ([i6 0, i6 0, i6 0, (.slice none 0 0)] : LV)
noncomputable def Z4J (f cn : Int) (L : List Signed) (fl : Int) (C : List CeR) (i : Nat) : Bool := (!decide ((i : Int) > 0) || Z4Z (C.getD (i - 1) ce0) (C.getD i ce0)) && Z0z f cn L (C.getD i ce0).x (C.getD i ce0).S && !decide (ZZ (C.getD i ce0).S > fl)
noncomputable def Z0H (f cn : Int) (L : List Signed) (p : PrR) : Bool := inB f p.r && !decide (p.e < 0) && !decide (p.e > 1048576) && !decide ((p.C.length : Int) > 64) && !decide (p.f = 18446744073709551615) && decide (p.sb = p.r) && Z0B L p.sb p.sm (Z11 p) && (List.range p.C.length).all (Z4J f cn L p.f p.C)
theorem Z2k (x y : CeR) : Z4Z x y = !decide (or2 (Z71 x.x.cl y.x.cl) (Z71 x.x.seq y.x.seq) ≥ 0) := by
 unfold Z4Z or2 Z71
 rw [Bool.eq_iff_iff]
 simp only [Bool.or_eq_true, Bool.and_eq_true, decide_eq_true_eq, Bool.not_eq_true', decide_eq_false_iff_not]
 split <;> split <;> (try split) <;> omega
theorem Z9N (w : World) (a b c d : Int) : Calls Tryz.prog 63 #[.agg ⟨[i6 a, i6 b]⟩, .agg ⟨[i6 c, i6 d]⟩] w fun e w' => e = .returned (i6 (or2 (Z71 a c) (Z71 b d))) ∧ Upd [] w w' := (Zb8 w a b c d).mono fun _ _ h => ⟨h.1, h.2.1⟩
theorem Z6K (w : World) (f cn : Int) (hf : -1099511627776 ≤ f ∧ f ≤ 1099511627776) (b mb : Nat) (L : List Signed) (hb : (Z0 b 179 [.map (some mb)]).ok w) (hm : MapAt w mb Z0c (Value.int .i64) (Z0o L)) (p : PrR) (hC : ListAt Z1o 38 w (.slice p.ca p.C.length p.cc) p.C) (hB : ∀ i, i < p.C.length → CeB w (p.C.getD i ce0)) (h12 : ∀ i, i < p.C.length → (p.C.getD i ce0).S.length ≤ 12) (hl : p.C.length ≤ 64) (hpn : p.r ≤ 9223372036854775807 ∧ p.e ≤ 9223372036854775807 ∧ 0 ≤ p.f ∧ p.f < 18446744073709551616) :
  Calls Tryz.prog 110 #[(.agg ⟨([i6 f, i6 cn] : LV)⟩), zp b, (.agg ⟨([i6 p.r, i6 p.e, u6 p.f, (.slice p.ca p.C.length p.cc), i6 p.sb, i6 p.sm] : LV)⟩)] w fun e w' => e = .returned (.bool (Z0H f cn L p)) ∧ Upd [] w w' := by
 have H := Sat.start0 w
 refine Zg Tryz.func110 rfl 87 rfl kn ?_
 refine zsl <| zy <| zdb (Z1u f cn) H fun b2 w3 H4 => ?_
 refine kk <| zy <| zdb (Z4S p) H4 fun b6 w7 H8 => ?_
 refine kk <| wv 6 (.bool false) <| znt <| Z9 <| zsl <| zwN 9 (Z1u f cn) (H8.at 1 rfl) <| wv 10 (pt b6 0) <| zw1 11 (vi p.r) (H8.cell 2 rfl rfl) <| zy <| zdq 12 (Z9U w7 f cn p.r om) H8 ?_
 intro w10 H11
 refine kk <| wv 13 (.bool (!(inB f p.r))) <| wv 14 (.bool (!(inB f p.r))) ?_
 refine (ZY (!(inB f p.r))).elim (fun b13 => ?_) (fun b13 => ?_)
 ·have g14 := Z7 b13
  refine Z1Q 14 (.bool true) (congrArg Value.bool b13) ?_
  iterate 3 refine wn 5 14 false ?_
  refine wv 18 (.bool true) <| wv 19 (.bool true) ?_
  iterate 3 refine wn 10 19 false ?_
  refine wv 23 (.bool true) <| wv 24 (.bool true) ?_
  iterate 4 refine wn 15 24 false ?_
  refine wv 29 (.bool true) <| wv 30 (.bool true) ?_
  iterate 3 refine wn 21 30 false ?_
  refine wv 34 (.bool true) <| wv 35 (.bool true) ?_
  iterate 6 refine wn 26 35 false ?_
  refine wv 42 (.bool true) <| znt <| Z06 rfl ?_
  refine zsl <| wv 6 (.bool false) <| znt <| Zk <| Z4 <| ze1 (.bool false) ?_
  have n16 := Z7 b13
  exact ⟨by simp only [Z0H, n16, bls], H11.upd 0 rfl [] ne⟩
 have g17 := Z2 b13
 refine Z1Q 14 (.bool false) (congrArg Value.bool b13) ?_
 refine wy 5 14 false 15 (pt b6 1) <| wy 5 14 false 16 (vi p.e) ?_ (hr := zl1 (H11.cell 2 rfl rfl))
 refine wy 5 14 false 17 (.bool (decide (p.e < 0))) <| wv 18 (.bool (decide (p.e < 0))) <| wv 19 (.bool (decide (p.e < 0))) ?_
 refine zil 19 (fun b19 g20 => ?_) fun b19 g23 => ?_
 ·iterate 3 refine wn 10 19 false ?_
  refine wv 23 (.bool true) <| wv 24 (.bool true) ?_
  iterate 4 refine wn 15 24 false ?_
  refine wv 29 (.bool true) <| wv 30 (.bool true) ?_
  iterate 3 refine wn 21 30 false ?_
  refine wv 34 (.bool true) <| wv 35 (.bool true) ?_
  iterate 6 refine wn 26 35 false ?_
  refine wv 42 (.bool true) <| znt <| Z06 rfl ?_
  refine zsl <| wv 6 (.bool false) <| znt <| Zk <| Z4 <| ze1 (.bool false) ?_
  have n22 := Z2 b13
  exact ⟨by simp only [Z0H, n22, b19, bls], H11.upd 0 rfl [] ne⟩
 refine wy 10 19 false 20 (pt b6 1) <| wy 10 19 false 21 (vi p.e) ?_ (hr := zl1 (H11.cell 2 rfl rfl))
 refine wy 10 19 false 22 (.bool (decide (p.e > 1048576))) <| wv 23 (.bool (decide (p.e > 1048576))) <| wv 24 (.bool (decide (p.e > 1048576))) ?_
 refine zil 24 (fun b25 g26 => ?_) fun b25 g29 => ?_
 ·iterate 4 refine wn 15 24 false ?_
  refine wv 29 (.bool true) <| wv 30 (.bool true) ?_
  iterate 3 refine wn 21 30 false ?_
  refine wv 34 (.bool true) <| wv 35 (.bool true) ?_
  iterate 6 refine wn 26 35 false ?_
  refine wv 42 (.bool true) <| znt <| Z06 rfl ?_
  refine zsl <| wv 6 (.bool false) <| znt <| Zk <| Z4 <| ze1 (.bool false) ?_
  have n28 := Z2 b13
  exact ⟨by simp only [Z0H, n28, b19, b25, bls], H11.upd 0 rfl [] ne⟩
 refine wy 15 24 false 25 (pt b6 3) <| wy 15 24 false 26 (.slice p.ca p.C.length p.cc) ?_ (hr := zl1 (H11.cell 2 rfl rfl))
 refine wy 15 24 false 27 (vi p.C.length) <| wy 15 24 false 28 (.bool (decide ((p.C.length : Int) > 64))) <| wv 29 (.bool (decide ((p.C.length : Int) > 64))) <| wv 30 (.bool (decide ((p.C.length : Int) > 64))) ?_
 refine zil 30 (fun b31 g32 => ?_) fun b31 g35 => ?_
 ·iterate 3 refine wn 21 30 false ?_
  refine wv 34 (.bool true) <| wv 35 (.bool true) ?_
  iterate 6 refine wn 26 35 false ?_
  refine wv 42 (.bool true) <| znt <| Z06 rfl ?_
  refine zsl <| wv 6 (.bool false) <| znt <| Zk <| Z4 <| ze1 (.bool false) ?_
  have n34 := Z2 b13
  exact ⟨by simp only [Z0H, n34, b19, b25, b31, bls], H11.upd 0 rfl [] ne⟩
 refine wy 21 30 false 31 (pt b6 2) <| wy 21 30 false 32 (vu p.f) ?_ (hr := zl1 (H11.cell 2 rfl rfl))
 refine wy 21 30 false 33 (.bool (decide (p.f = 18446744073709551615))) <| wv 34 (.bool (decide (p.f = 18446744073709551615))) <| wv 35 (.bool (decide (p.f = 18446744073709551615))) ?_
 refine zil 35 (fun b37 g38 => ?_) fun b37 g41 => ?_
 ·iterate 6 refine wn 26 35 false ?_
  refine wv 42 (.bool true) <| znt <| Z06 rfl ?_
  refine zsl <| wv 6 (.bool false) <| znt <| Zk <| Z4 <| ze1 (.bool false) ?_
  have n40 := Z2 b13
  exact ⟨by simp only [Z0H, n40, b19, b25, b31, b37, bls], H11.upd 0 rfl [] ne⟩
 refine wy 26 35 false 36 (pt b6 4) <| wy 26 35 false 37 (pt b6 4) <| wy 26 35 false 38 (vi p.sb) ?_ (hr := zl1 (H11.cell 2 rfl rfl))
 refine wy 26 35 false 39 (pt b6 0) <| wy 26 35 false 40 (vi p.r) ?_ (hr := zl1 (H11.cell 2 rfl rfl))
 refine wy 26 35 false 41 (.bool (!(decide (p.sb = p.r)))) <| wv 42 (.bool (!(decide (p.sb = p.r)))) <| znt ?_
 refine (ZY (!(decide (p.sb = p.r)))).elim (fun b43 => ?_) (fun b43 => ?_)
 ·have g44 := Z7 b43
  have g45 := of_decide_eq_false g44
  refine Z48 _ b43 ?_
  refine zsl <| wv 6 (.bool false) <| znt <| Zk <| Z4 <| ze1 (.bool false) ?_
  have n48 := Z2 b13
  have n49 := Z7 b43
  exact ⟨by simp only [Z0H, n48, b19, b25, b31, b37, n49, bls], H11.upd 0 rfl [] ne⟩
 have g50 := Z2 b43
 have g51 := of_decide_eq_true g50
 refine Z3L _ b43 ?_
 refine Zp <| ztn <| Z9 <| zsl <| wv 43 (pt b6 3) <| zw1 44 (.slice p.ca p.C.length p.cc) (H11.cell 2 rfl rfl) <| wv 45 (vi p.C.length) <| wv 46 (vi 0) <| znt <| Zh ?_
 have n54 := Z2 b13
 have n55 := Z2 b43
 refine ZB ([6, 7, 8] ++ List.range' 46 35) (fun F_ W_ m_ => ∃ (i : Nat), F_ 46 = (vi i) ∧ (i ≤ p.C.length) ∧ (∀ j, j < i → Z4J f cn L p.f p.C j = true) ∧ Sat w [zR w, Z0 b2 29 (Z1u f cn), Z0 b6 71 (Z4S p)] W_ ∧ m_ = p.C.length - i) _ ⟨0, (show ((vi 0) : Value) = _ by first | rfl | go_num), (Nat.zero_le _), (fun _ h => absurd h (Nat.not_lt_zero _)), H11, rfl⟩ ?_
 rintro g56 w57 _ ⟨i, v59, hi, hall, H58, rfl⟩
 refine Zn 46 _ v59 ?_
 refine zsl <| wv 47 (.bool (decide ((i : Int) < p.C.length))) <| znt <| Z9 ?_
 refine zid (fun b61 g62 => ?_) fun b61 g132 => ?_
 ·refine Zp <| ztn <| Z9 <| Zh <| zsl <| wv 48 (vi i) ?_
  obtain ⟨g64, o65, c66, e67, R68⟩ := SliceOf.atD hC ce0 (show i < p.C.length by omega)
  refine wv 49 (.pointer (some ⟨g64, o65 + ((i : Int)).toNat * 38, none⟩)) ?_ (hr := Z8 (E := 76) kr kr kn rfl e67 rfl om om)
  let A0 := Z7w ((p.C.getD i ce0).x) (p.C.getD i ce0) (((p.C.getD i ce0).S).length)
  refine wv 50 (.agg ⟨A0⟩) ?_ (hr := ZX (vs := A0) rfl kr kr kn (H58.runR 0 rfl (Z08 R68 0 kr (show o65 + ((i : Int)).toNat * 38 = o65 + i * 38 + 0 by omega)) (fun h => h)))
  refine zy <| zda (kRgP_3) H58 fun b70 w71 H72 => ?_
  refine kk <| wv 7 (vi i) <| zy <| Z1S A0 H72 3 fun w74 H75 => ?_
  refine kk <| znt <| Z9 <| Z9 <| zqs H75 ?_
  refine qv 51 (vi i) <| qv 52 (.bool (decide ((i : Int) > 0))) <| qv 53 (.bool (decide ((i : Int) > 0))) ?_
  refine ziq 53 (fun b77 g78 => ?_) fun b77 g110 => ?_
  ·refine qy 2 53 true 54 (pt b6 3) <| qy 2 53 true 55 (.slice p.ca p.C.length p.cc) ?_ (hr := fun _ H' => (zl1 (H'.cell 2 rfl rfl)))
   refine qy 2 53 true 56 (vi i) <| qy 2 53 true 57 (vi ((i : Int) - 1)) ?_ (hr := fun _ H' => (Z0A (z := (i : Int) - 1) kr (IntWalk.i64_in _ om)))
   obtain ⟨g80, o81, c82, e83, R84⟩ := SliceOf.atD hC ce0 (show ((i : Int) - 1).toNat < p.C.length by omega)
   refine qy 2 53 true 58 (.pointer (some ⟨g80, o81 + ((i : Int) - 1).toNat * 38, none⟩)) ?_ (hr := fun _ H' => (Z8 (E := 76) kr kr kn rfl e83 rfl om om))
   refine qy 2 53 true 59 (.pointer (some ⟨g80, o81 + ((i : Int) - 1).toNat * 38, none⟩)) <| qy 2 53 true 60 (.pointer (some ⟨g80, o81 + ((i : Int) - 1).toNat * 38, none⟩)) <| qy 2 53 true 61 (.agg ⟨(Z1u ((p.C.getD ((i : Int) - 1).toNat ce0).x.cl) ((p.C.getD ((i : Int) - 1).toNat ce0).x.seq))⟩) ?_ (hr := fun _ H' => (ZX (vs := (Z1u ((p.C.getD ((i : Int) - 1).toNat ce0).x.cl) ((p.C.getD ((i : Int) - 1).toNat ce0).x.seq))) rfl kr kr kn (H'.runR 0 rfl (Z08 R84 0 kr (show o81 + ((i : Int) - 1).toNat * 38 = o81 + ((i : Int) - 1).toNat * 38 + 0 by omega)) (fun h => h))))
   refine qy 2 53 true 62 (pt b70 0) <| qy 2 53 true 63 (pt b70 0) <| qy 2 53 true 64 (.agg ⟨(Z1u ((p.C.getD i ce0).x.cl) ((p.C.getD i ce0).x.seq))⟩) ?_ (hr := fun _ H' => (zlN (vs := (Z1u ((p.C.getD i ce0).x.cl) ((p.C.getD i ce0).x.seq))) (H'.at 3 rfl)))
   refine Z0r (Z05 2 53 true rfl kr rfl kr) (d := 65) (v := (vi (or2 (Z71 ((p.C.getD ((i : Int) - 1).toNat ce0).x.cl) ((p.C.getD i ce0).x.cl)) (Z71 ((p.C.getD ((i : Int) - 1).toNat ce0).x.seq) ((p.C.getD i ce0).x.seq))))) rfl (fun _ _ => by kernel_rfl) (fun w' H' => (Z9N w' ((p.C.getD ((i : Int) - 1).toNat ce0).x.cl) ((p.C.getD ((i : Int) - 1).toNat ce0).x.seq) ((p.C.getD i ce0).x.cl) ((p.C.getD i ce0).x.seq)).mono fun _ _ h => ⟨h.1, H'.keepU h.2⟩) ?_
   refine qy 2 53 true 66 (.bool (decide ((or2 (Z71 ((p.C.getD ((i : Int) - 1).toNat ce0).x.cl) ((p.C.getD i ce0).x.cl)) (Z71 ((p.C.getD ((i : Int) - 1).toNat ce0).x.seq) ((p.C.getD i ce0).x.seq))) ≥ 0))) <| qv 67 (.bool (decide ((or2 (Z71 ((p.C.getD ((i : Int) - 1).toNat ce0).x.cl) ((p.C.getD i ce0).x.cl)) (Z71 ((p.C.getD ((i : Int) - 1).toNat ce0).x.seq) ((p.C.getD i ce0).x.seq))) ≥ 0))) <| Z01 fun w85 H86 => ?_
   apply ztn
   refine zid (fun b87 g88 => ?_) fun b87 g90 => ?_
   ·refine zsl <| wv 6 (.bool false) <| znt <| Zk <| Z4 <| Zf <| Z4 <| Zs <| Zf <| Z4 ?_
    refine ze1 (.bool false) ?_
    have e1 : ((i : Int) - 1).toNat = i - 1 := by omega
    have ho : Z4J f cn L p.f p.C i = false := by unfold Z4J; rw [← e1]; simp only [Z2k, b61, b77, b87, bls]
    exact ⟨by simp only [Z0H, ZP (show i < p.C.length by omega) ho, Bool.and_false], H86.upd 0 rfl [] ne⟩
   refine Zp <| ztn <| Z9 <| zqs H86 ?_
   refine qv 68 (.agg ⟨(Z1u f cn)⟩) ?_ (hr := fun _ H' => (zlN (vs := (Z1u f cn)) (H'.at 1 rfl)))
   refine qv 69 (pt b 0) <| qv 70 (.agg ⟨A0⟩) ?_ (hr := fun _ H' => (zlN (vs := A0) (H'.at 3 rfl)))
   refine Z0r (Zc rfl) (d := 71) (v := (.bool (Z0z f cn L (p.C.getD i ce0).x (p.C.getD i ce0).S))) rfl (fun _ _ => by kernel_rfl) (fun w' H' => (Z6b w' f cn om b mb L (H'.roCk 0 rfl hb (fun _ _ h => h)) (H'.roMap 0 rfl hm (fun h => h)) (p.C.getD i ce0).x ((hB i om).keep H' 0 rfl).x.1 (p.C.getD i ce0).sa (p.C.getD i ce0).sc (p.C.getD i ce0).S ((hB i om).keep H' 0 rfl).at_ (fun i_ hi_ => (((hB i om).keep H' 0 rfl).S i_ hi_).1) (by have q := h12 i om; omega)).mono fun _ _ h => ⟨h.1, H'.keepU h.2⟩) ?_
   refine qv 72 (.bool (!(Z0z f cn L (p.C.getD i ce0).x (p.C.getD i ce0).S))) <| qv 73 (.bool (!(Z0z f cn L (p.C.getD i ce0).x (p.C.getD i ce0).S))) ?_
   refine (ZY (!(Z0z f cn L (p.C.getD i ce0).x (p.C.getD i ce0).S))).elim (fun b92 => ?_) (fun b92 => ?_)
   ·have g93 := Z7 b92
    refine Z09 73 (.bool true) (congrArg Value.bool b92) ?_
    iterate 5 refine qn 5 73 false ?_
    refine qv 79 (.bool true) <| Z01 fun w95 H96 => ?_
    refine ztn <| Z06 rfl ?_
    refine zsl <| wv 6 (.bool false) <| znt <| Zk <| Zf <| Z4 <| Zs <| Zf <| Z4 <| ze1 (.bool false) ?_
    have n97 := Z7 b92
    have e1 : ((i : Int) - 1).toNat = i - 1 := by omega
    have ho : Z4J f cn L p.f p.C i = false := by unfold Z4J; rw [← e1]; simp only [Z2k, b61, b77, b87, n97, bls]
    exact ⟨by simp only [Z0H, ZP (show i < p.C.length by omega) ho, Bool.and_false], H96.upd 0 rfl [] ne⟩
   have g98 := Z2 b92
   refine Z09 73 (.bool false) (congrArg Value.bool b92) ?_
   refine qy 5 73 false 74 (.agg ⟨A0⟩) ?_ (hr := fun _ H' => (zlN (vs := A0) (H'.at 3 rfl)))
   refine Z0r (Z05 5 73 false rfl kr rfl kr) (d := 75) (v := (vu (ZZ (p.C.getD i ce0).S))) rfl (fun _ _ => by kernel_rfl) (fun w' H' => (Z93 w' (p.C.getD i ce0).x (p.C.getD i ce0).sa (p.C.getD i ce0).sc (p.C.getD i ce0).S ((hB i om).keep H' 0 rfl).at_ (h12 i om)).mono fun _ _ h => ⟨h.1, H'.keepU h.2⟩) ?_
   refine qy 5 73 false 76 (pt b6 2) <| qy 5 73 false 77 (vu p.f) ?_ (hr := fun _ H' => (zl1 (H'.cell 2 rfl rfl)))
   refine qy 5 73 false 78 (.bool (decide ((ZZ (p.C.getD i ce0).S) > p.f))) <| qv 79 (.bool (decide ((ZZ (p.C.getD i ce0).S) > p.f))) <| Z01 fun w100 H101 => ?_
   apply ztn
   refine zid (fun b102 g103 => ?_) fun b102 g106 => ?_
   ·refine zsl <| wv 6 (.bool false) <| znt <| Zk <| Zf <| Z4 <| Zs <| Zf <| Z4 <| ze1 (.bool false) ?_
    have n105 := Z2 b92
    have e1 : ((i : Int) - 1).toNat = i - 1 := by omega
    have ho : Z4J f cn L p.f p.C i = false := by unfold Z4J; rw [← e1]; simp only [Z2k, b61, b77, b87, n105, b102, bls]
    exact ⟨by simp only [Z0H, ZP (show i < p.C.length by omega) ho, Bool.and_false], H101.upd 0 rfl [] ne⟩
   refine Zp <| Z6 <| ztn <| ZG <| zwi 80 ((i : Int) + 1) <| wv 46 (vi ((i : Int) + 1)) <| ZL ?_
   have n108 := Z2 b92
   have e1 : ((i : Int) - 1).toNat = i - 1 := by omega
   have ho : Z4J f cn L p.f p.C i = true := by unfold Z4J; rw [← e1]; simp only [Z2k, b61, b77, b87, n108, b102, bls]
   have H109 := H101.pk [0, 1, 2]
   refine Za ?_ _ ⟨(i + 1), rfl, om, (fun j hj => by rcases Nat.lt_or_ge j i with h | h; exact hall j h; rw [show j = i by omega]; exact ho), H109, rfl⟩ om
   exact zs
  iterate 13 refine qn 2 53 true ?_
  refine qv 67 (.bool false) <| Z01 fun w112 H113 => ?_
  refine ztn <| Z2h rfl ?_
  refine Zp <| ztn <| Z9 <| zqs H113 ?_
  refine qv 68 (.agg ⟨(Z1u f cn)⟩) ?_ (hr := fun _ H' => (zlN (vs := (Z1u f cn)) (H'.at 1 rfl)))
  refine qv 69 (pt b 0) <| qv 70 (.agg ⟨A0⟩) ?_ (hr := fun _ H' => (zlN (vs := A0) (H'.at 3 rfl)))
  refine Z0r (Zc rfl) (d := 71) (v := (.bool (Z0z f cn L (p.C.getD i ce0).x (p.C.getD i ce0).S))) rfl (fun _ _ => by kernel_rfl) (fun w' H' => (Z6b w' f cn om b mb L (H'.roCk 0 rfl hb (fun _ _ h => h)) (H'.roMap 0 rfl hm (fun h => h)) (p.C.getD i ce0).x ((hB i om).keep H' 0 rfl).x.1 (p.C.getD i ce0).sa (p.C.getD i ce0).sc (p.C.getD i ce0).S ((hB i om).keep H' 0 rfl).at_ (fun i_ hi_ => (((hB i om).keep H' 0 rfl).S i_ hi_).1) (by have q := h12 i om; omega)).mono fun _ _ h => ⟨h.1, H'.keepU h.2⟩) ?_
  refine qv 72 (.bool (!(Z0z f cn L (p.C.getD i ce0).x (p.C.getD i ce0).S))) <| qv 73 (.bool (!(Z0z f cn L (p.C.getD i ce0).x (p.C.getD i ce0).S))) ?_
  refine (ZY (!(Z0z f cn L (p.C.getD i ce0).x (p.C.getD i ce0).S))).elim (fun b114 => ?_) (fun b114 => ?_)
  ·have g115 := Z7 b114
   refine Z09 73 (.bool true) (congrArg Value.bool b114) ?_
   iterate 5 refine qn 5 73 false ?_
   refine qv 79 (.bool true) <| Z01 fun w117 H118 => ?_
   refine ztn <| Z06 rfl ?_
   refine zsl <| wv 6 (.bool false) <| znt <| Zk <| Zf <| Z4 <| Zs <| Zf <| Z4 <| ze1 (.bool false) ?_
   have n119 := Z7 b114
   have e1 : ((i : Int) - 1).toNat = i - 1 := by omega
   have ho : Z4J f cn L p.f p.C i = false := by unfold Z4J; rw [← e1]; simp only [Z2k, b61, b77, n119, bls]
   exact ⟨by simp only [Z0H, ZP (show i < p.C.length by omega) ho, Bool.and_false], H118.upd 0 rfl [] ne⟩
  have g120 := Z2 b114
  refine Z09 73 (.bool false) (congrArg Value.bool b114) ?_
  refine qy 5 73 false 74 (.agg ⟨A0⟩) ?_ (hr := fun _ H' => (zlN (vs := A0) (H'.at 3 rfl)))
  refine Z0r (Z05 5 73 false rfl kr rfl kr) (d := 75) (v := (vu (ZZ (p.C.getD i ce0).S))) rfl (fun _ _ => by kernel_rfl) (fun w' H' => (Z93 w' (p.C.getD i ce0).x (p.C.getD i ce0).sa (p.C.getD i ce0).sc (p.C.getD i ce0).S ((hB i om).keep H' 0 rfl).at_ (h12 i om)).mono fun _ _ h => ⟨h.1, H'.keepU h.2⟩) ?_
  refine qy 5 73 false 76 (pt b6 2) <| qy 5 73 false 77 (vu p.f) ?_ (hr := fun _ H' => (zl1 (H'.cell 2 rfl rfl)))
  refine qy 5 73 false 78 (.bool (decide ((ZZ (p.C.getD i ce0).S) > p.f))) <| qv 79 (.bool (decide ((ZZ (p.C.getD i ce0).S) > p.f))) <| Z01 fun w122 H123 => ?_
  apply ztn
  refine zid (fun b124 g125 => ?_) fun b124 g128 => ?_
  ·refine zsl <| wv 6 (.bool false) <| znt <| Zk <| Zf <| Z4 <| Zs <| Zf <| Z4 <| ze1 (.bool false) ?_
   have n127 := Z2 b114
   have e1 : ((i : Int) - 1).toNat = i - 1 := by omega
   have ho : Z4J f cn L p.f p.C i = false := by unfold Z4J; rw [← e1]; simp only [Z2k, b61, b77, n127, b124, bls]
   exact ⟨by simp only [Z0H, ZP (show i < p.C.length by omega) ho, Bool.and_false], H123.upd 0 rfl [] ne⟩
  refine Zp <| Z6 <| ztn <| ZG <| zwi 80 ((i : Int) + 1) <| wv 46 (vi ((i : Int) + 1)) <| ZL ?_
  have n130 := Z2 b114
  have e1 : ((i : Int) - 1).toNat = i - 1 := by omega
  have ho : Z4J f cn L p.f p.C i = true := by unfold Z4J; rw [← e1]; simp only [Z2k, b61, b77, n130, b124, bls]
  have H131 := H123.pk [0, 1, 2]
  refine Za ?_ _ ⟨(i + 1), rfl, om, (fun j hj => by rcases Nat.lt_or_ge j i with h | h; exact hall j h; rw [show j = i by omega]; exact ho), H131, rfl⟩ om
  exact zs
 refine zxb <| ztn <| Z9 <| Z0a H58 [zR w, Z0 b2 29 (Z1u f cn), Z0 b6 71 (Z4S p)] 7 rfl kr (fun Hx => (Hx.pk [0, 1, 2])) fun w134 H135 S136 => ?_
 refine hv0 0 S136 81 (pt b 0) <| hv0 1 S136 82 (pt b6 4) <| hv0 2 S136 83 (.agg ⟨(Z1u p.sb p.sm)⟩) ?_ (he := fun _ H' => (zlN (vs := (Z1u p.sb p.sm)) (H'.at 2 rfl)))
 refine hv0 3 S136 84 (.agg ⟨(Z4S p)⟩) ?_ (he := fun _ H' => (zlN (vs := (Z4S p)) (H'.at 2 rfl)))
 refine zhy 4 ?_
 refine zdc 85 (Z5Y w134 p (ListAt.now H135 0 rfl hC) (fun i_ hi_ => (hB i_ hi_).keep H135 0 rfl) hl hpn) ?_
 rintro _ w138 ⟨u139, rfl, k140, p141, q142⟩
 have H143 := H135.addU p141 k140 q142
 obtain ⟨a144, c145, rfl⟩ := Z3 (H143.at 3 rfl)
 refine ⟨_, rfl, ?_⟩
 have S146 := H143.pk [0, 1, 2]
 refine kh S146 <| zhy 5 ?_
 refine zdq 86 (Z6y w138 b mb L (H143.roCk 0 rfl hb (fun _ _ h => h)) (H143.roMap 0 rfl hm (fun h => h)) a144 c145 (Z11 p) (ListAt.row (enc := Zx) (sz := 1) Zw (by decide) (H143.at 3 rfl)) p.sb p.sm) H143 ?_
 intro w148 H149
 have S151 := H149.pk [0, 1, 2]
 refine kh S151 <| hv0 6 S151 6 (.bool (Z0B L p.sb p.sm (Z11 p))) <| zhf <| ztn <| Zk <| ze1 (.bool (Z0B L p.sb p.sm (Z11 p))) ?_
 have hn0 : i = p.C.length := by omega
 subst hn0
 exact ⟨by simp only [Z0H, Z1r hall, n54, b19, b25, b31, b37, n55, bls], H149.upd 0 rfl [] ne⟩
theorem Z6O (w : World) (f cn : Int) (hf : -1099511627776 ≤ f ∧ f ≤ 1099511627776) (r : Nat) (ra : Option Addr) (rc : Nat) (L : List Signed) (hb : (Z0 r 165 [.slice ra L.length rc]).ok w) (hr : (Zo 181 2 (.slice ra L.length rc) L.length (L.flatMap Z47)).ok w) (hn : L.Nodup) (hL : L.length ≤ 1000000) (p : PrR) (hC : ListAt Z1o 38 w (.slice p.ca p.C.length p.cc) p.C) (hB : ∀ i, i < p.C.length → CeB w (p.C.getD i ce0)) (h12 : ∀ i, i < p.C.length → (p.C.getD i ce0).S.length ≤ 12) (hl : p.C.length ≤ 64) (hpn : p.r ≤ 9223372036854775807 ∧ p.e ≤ 9223372036854775807 ∧ 0 ≤ p.f ∧ p.f < 18446744073709551616) :
  Calls Tryz.prog 73 #[(.agg ⟨([i6 f, i6 cn] : LV)⟩), zp r, (.agg ⟨([i6 p.r, i6 p.e, u6 p.f, (.slice p.ca p.C.length p.cc), i6 p.sb, i6 p.sm] : LV)⟩)] w fun e w' => e = .returned (.bool (Z0H f cn L p)) ∧ Upd [] w w' := by
 have H := Sat.start0 w
 refine Zg Tryz.func73 rfl 106 rfl kn ?_
 refine zsl <| zy <| zdb (Z1u f cn) H fun b2 w3 H4 => ?_
 refine kk <| zy <| zdb (Z4S p) H4 fun b6 w7 H8 => ?_
 refine kk <| wv 6 (.bool false) <| znt <| Z9 <| Z9 <| Z0a H8 [zR w, Z0 b2 29 (Z1u f cn), Z0 b6 71 (Z4S p)] 48 rfl kr (fun Hx => (Hx.pk [0, 1, 2])) fun w9 H10 S11 => ?_
 refine hv0 0 S11 8 (pt b6 0) <| hv0 1 S11 9 (vi p.r) ?_ (he := fun _ H' => (zl1 (H'.cell 2 rfl rfl)))
 refine hv0 2 S11 10 (.bool (decide (p.r < 0))) <| hv0 3 S11 11 (.bool (decide (p.r < 0))) ?_
 refine zih 11 (fun b12 g13 => ?_) fun b12 g14 => ?_
 ·refine Zu 4 S11 3 11 false ?_
  refine Zu 5 S11 3 11 false ?_
  refine Zu 6 S11 3 11 false ?_
  refine Zu 7 S11 3 11 false ?_
  refine Zu 8 S11 3 11 false ?_
  refine hv0 9 S11 17 (.bool true) <| hv0 10 S11 18 (.bool true) <| Zu 11 S11 10 18 false ?_
  refine Zu 12 S11 10 18 false ?_
  refine Zu 13 S11 10 18 false ?_
  refine hv0 14 S11 22 (.bool true) <| hv0 15 S11 23 (.bool true) <| Zu 16 S11 15 23 false ?_
  refine Zu 17 S11 15 23 false ?_
  refine Zu 18 S11 15 23 false ?_
  refine hv0 19 S11 27 (.bool true) <| hv0 20 S11 28 (.bool true) <| Zu 21 S11 20 28 false ?_
  refine Zu 22 S11 20 28 false ?_
  refine Zu 23 S11 20 28 false ?_
  refine Zu 24 S11 20 28 false ?_
  refine hv0 25 S11 33 (.bool true) <| hv0 26 S11 34 (.bool true) <| Zu 27 S11 26 34 false ?_
  refine Zu 28 S11 26 34 false ?_
  refine Zu 29 S11 26 34 false ?_
  refine hv0 30 S11 38 (.bool true) <| hv0 31 S11 39 (.bool true) <| Zu 32 S11 31 39 false ?_
  refine Zu 33 S11 31 39 false ?_
  refine Zu 34 S11 31 39 false ?_
  refine Zu 35 S11 31 39 false ?_
  refine Zu 36 S11 31 39 false ?_
  refine Zu 37 S11 31 39 false ?_
  refine hv0 38 S11 46 (.bool true) <| hv0 39 S11 47 (.bool true) <| Zu 40 S11 39 47 false ?_
  refine Zu 41 S11 39 47 false ?_
  refine Zu 42 S11 39 47 false ?_
  refine Zu 43 S11 39 47 false ?_
  refine Zu 44 S11 39 47 false ?_
  refine Zu 45 S11 39 47 false ?_
  refine Zu 46 S11 39 47 false ?_
  refine hv0 47 S11 55 (.bool true) <| zhf <| ztn <| Z06 rfl ?_
  refine zsl <| wv 6 (.bool false) <| znt <| Zk <| Z4 <| ze1 (.bool false) ?_
  have hin : inB f p.r = false := by unfold inB; simp; omega
  exact ⟨by simp only [Z0H, hin, bls], H10.upd 0 rfl [] ne⟩
 refine Z0U 4 S11 3 11 false 12 (pt b6 0) <| Z0U 5 S11 3 11 false 13 (vi p.r) ?_ (he := fun _ H' => (zl1 (H'.cell 2 rfl rfl)))
 let A3 : Value := .agg ⟨(Z1u f cn)⟩
 refine Z0U 6 S11 3 11 false 14 A3 ?_ (he := fun _ H' => (zlN (vs := (Z1u f cn)) (H'.at 1 rfl)))
 refine Z34 7 rfl kr (Z05 3 11 false rfl kr rfl kr) (fun Kq kq => ?_)
 refine zdq 15 (Z7o w9 f cn om) H10 ?_
 intro w18 H19
 have S21 := H19.pk [0, 1, 2]
 refine kq _ _ S21 <| Z0U 8 S21 3 11 false 16 (.bool (decide (p.r ≥ (3 * f + 1)))) <| hv0 9 S21 17 (.bool (decide (p.r ≥ (3 * f + 1)))) <| hv0 10 S21 18 (.bool (decide (p.r ≥ (3 * f + 1)))) ?_
 refine zih 18 (fun b22 g23 => ?_) fun b22 g25 => ?_
 ·refine Zu 11 S21 10 18 false ?_
  refine Zu 12 S21 10 18 false ?_
  refine Zu 13 S21 10 18 false ?_
  refine hv0 14 S21 22 (.bool true) <| hv0 15 S21 23 (.bool true) <| Zu 16 S21 15 23 false ?_
  refine Zu 17 S21 15 23 false ?_
  refine Zu 18 S21 15 23 false ?_
  refine hv0 19 S21 27 (.bool true) <| hv0 20 S21 28 (.bool true) <| Zu 21 S21 20 28 false ?_
  refine Zu 22 S21 20 28 false ?_
  refine Zu 23 S21 20 28 false ?_
  refine Zu 24 S21 20 28 false ?_
  refine hv0 25 S21 33 (.bool true) <| hv0 26 S21 34 (.bool true) <| Zu 27 S21 26 34 false ?_
  refine Zu 28 S21 26 34 false ?_
  refine Zu 29 S21 26 34 false ?_
  refine hv0 30 S21 38 (.bool true) <| hv0 31 S21 39 (.bool true) <| Zu 32 S21 31 39 false ?_
  refine Zu 33 S21 31 39 false ?_
  refine Zu 34 S21 31 39 false ?_
  refine Zu 35 S21 31 39 false ?_
  refine Zu 36 S21 31 39 false ?_
  refine Zu 37 S21 31 39 false ?_
  refine hv0 38 S21 46 (.bool true) <| hv0 39 S21 47 (.bool true) <| Zu 40 S21 39 47 false ?_
  refine Zu 41 S21 39 47 false ?_
  refine Zu 42 S21 39 47 false ?_
  refine Zu 43 S21 39 47 false ?_
  refine Zu 44 S21 39 47 false ?_
  refine Zu 45 S21 39 47 false ?_
  refine Zu 46 S21 39 47 false ?_
  refine hv0 47 S21 55 (.bool true) <| zhf <| ztn <| Z06 rfl ?_
  refine zsl <| wv 6 (.bool false) <| znt <| Zk <| Z4 <| ze1 (.bool false) ?_
  have hin : inB f p.r = false := by unfold inB; simp; omega
  exact ⟨by simp only [Z0H, hin, bls], H19.upd 0 rfl [] ne⟩
 refine Z0U 11 S21 10 18 false 19 (pt b6 1) <| Z0U 12 S21 10 18 false 20 (vi p.e) ?_ (he := fun _ H' => (zl1 (H'.cell 2 rfl rfl)))
 refine Z0U 13 S21 10 18 false 21 (.bool (decide (p.e < 0))) <| hv0 14 S21 22 (.bool (decide (p.e < 0))) <| hv0 15 S21 23 (.bool (decide (p.e < 0))) ?_
 refine zih 23 (fun b27 g28 => ?_) fun b27 g29 => ?_
 ·refine Zu 16 S21 15 23 false ?_
  refine Zu 17 S21 15 23 false ?_
  refine Zu 18 S21 15 23 false ?_
  refine hv0 19 S21 27 (.bool true) <| hv0 20 S21 28 (.bool true) <| Zu 21 S21 20 28 false ?_
  refine Zu 22 S21 20 28 false ?_
  refine Zu 23 S21 20 28 false ?_
  refine Zu 24 S21 20 28 false ?_
  refine hv0 25 S21 33 (.bool true) <| hv0 26 S21 34 (.bool true) <| Zu 27 S21 26 34 false ?_
  refine Zu 28 S21 26 34 false ?_
  refine Zu 29 S21 26 34 false ?_
  refine hv0 30 S21 38 (.bool true) <| hv0 31 S21 39 (.bool true) <| Zu 32 S21 31 39 false ?_
  refine Zu 33 S21 31 39 false ?_
  refine Zu 34 S21 31 39 false ?_
  refine Zu 35 S21 31 39 false ?_
  refine Zu 36 S21 31 39 false ?_
  refine Zu 37 S21 31 39 false ?_
  refine hv0 38 S21 46 (.bool true) <| hv0 39 S21 47 (.bool true) <| Zu 40 S21 39 47 false ?_
  refine Zu 41 S21 39 47 false ?_
  refine Zu 42 S21 39 47 false ?_
  refine Zu 43 S21 39 47 false ?_
  refine Zu 44 S21 39 47 false ?_
  refine Zu 45 S21 39 47 false ?_
  refine Zu 46 S21 39 47 false ?_
  refine hv0 47 S21 55 (.bool true) <| zhf <| ztn <| Z06 rfl ?_
  refine zsl <| wv 6 (.bool false) <| znt <| Zk <| Z4 <| ze1 (.bool false) ?_
  have hin : inB f p.r = true := by unfold inB; simp; omega
  exact ⟨by simp only [Z0H, b12, b22, b27, hin, bls], H19.upd 0 rfl [] ne⟩
 refine Z0U 16 S21 15 23 false 24 (pt b6 1) <| Z0U 17 S21 15 23 false 25 (vi p.e) ?_ (he := fun _ H' => (zl1 (H'.cell 2 rfl rfl)))
 refine Z0U 18 S21 15 23 false 26 (.bool (decide (p.e > 1048576))) <| hv0 19 S21 27 (.bool (decide (p.e > 1048576))) <| hv0 20 S21 28 (.bool (decide (p.e > 1048576))) ?_
 refine zih 28 (fun b32 g32 => ?_) fun b32 g35 => ?_
 ·refine Zu 21 S21 20 28 false ?_
  refine Zu 22 S21 20 28 false ?_
  refine Zu 23 S21 20 28 false ?_
  refine Zu 24 S21 20 28 false ?_
  refine hv0 25 S21 33 (.bool true) <| hv0 26 S21 34 (.bool true) <| Zu 27 S21 26 34 false ?_
  refine Zu 28 S21 26 34 false ?_
  refine Zu 29 S21 26 34 false ?_
  refine hv0 30 S21 38 (.bool true) <| hv0 31 S21 39 (.bool true) <| Zu 32 S21 31 39 false ?_
  refine Zu 33 S21 31 39 false ?_
  refine Zu 34 S21 31 39 false ?_
  refine Zu 35 S21 31 39 false ?_
  refine Zu 36 S21 31 39 false ?_
  refine Zu 37 S21 31 39 false ?_
  refine hv0 38 S21 46 (.bool true) <| hv0 39 S21 47 (.bool true) <| Zu 40 S21 39 47 false ?_
  refine Zu 41 S21 39 47 false ?_
  refine Zu 42 S21 39 47 false ?_
  refine Zu 43 S21 39 47 false ?_
  refine Zu 44 S21 39 47 false ?_
  refine Zu 45 S21 39 47 false ?_
  refine Zu 46 S21 39 47 false ?_
  refine hv0 47 S21 55 (.bool true) <| zhf <| ztn <| Z06 rfl ?_
  refine zsl <| wv 6 (.bool false) <| znt <| Zk <| Z4 <| ze1 (.bool false) ?_
  have hin : inB f p.r = true := by unfold inB; simp; omega
  exact ⟨by simp only [Z0H, b12, b22, b27, b32, hin, bls], H19.upd 0 rfl [] ne⟩
 refine Z0U 21 S21 20 28 false 29 (pt b6 3) <| Z0U 22 S21 20 28 false 30 (.slice p.ca p.C.length p.cc) ?_ (he := fun _ H' => (zl1 (H'.cell 2 rfl rfl)))
 refine Z0V 23 rfl kr kr kr (fun _ _ _ h => h) S21 (Z05 20 28 false rfl kr rfl kr) (d := 31) (v := (vi p.C.length)) rfl (fun _ H' => kr) ?_
 refine Z0U 24 S21 20 28 false 32 (.bool (decide ((p.C.length : Int) > 64))) <| hv0 25 S21 33 (.bool (decide ((p.C.length : Int) > 64))) <| hv0 26 S21 34 (.bool (decide ((p.C.length : Int) > 64))) ?_
 refine zih 34 (fun b37 g38 => ?_) fun b37 g40 => ?_
 ·refine Zu 27 S21 26 34 false ?_
  refine Zu 28 S21 26 34 false ?_
  refine Zu 29 S21 26 34 false ?_
  refine hv0 30 S21 38 (.bool true) <| hv0 31 S21 39 (.bool true) <| Zu 32 S21 31 39 false ?_
  refine Zu 33 S21 31 39 false ?_
  refine Zu 34 S21 31 39 false ?_
  refine Zu 35 S21 31 39 false ?_
  refine Zu 36 S21 31 39 false ?_
  refine Zu 37 S21 31 39 false ?_
  refine hv0 38 S21 46 (.bool true) <| hv0 39 S21 47 (.bool true) <| Zu 40 S21 39 47 false ?_
  refine Zu 41 S21 39 47 false ?_
  refine Zu 42 S21 39 47 false ?_
  refine Zu 43 S21 39 47 false ?_
  refine Zu 44 S21 39 47 false ?_
  refine Zu 45 S21 39 47 false ?_
  refine Zu 46 S21 39 47 false ?_
  refine hv0 47 S21 55 (.bool true) <| zhf <| ztn <| Z06 rfl ?_
  refine zsl <| wv 6 (.bool false) <| znt <| Zk <| Z4 <| ze1 (.bool false) ?_
  have hin : inB f p.r = true := by unfold inB; simp; omega
  exact ⟨by simp only [Z0H, b12, b22, b27, b32, b37, hin, bls], H19.upd 0 rfl [] ne⟩
 refine Z0U 27 S21 26 34 false 35 (pt b6 2) <| Z0U 28 S21 26 34 false 36 (vu p.f) ?_ (he := fun _ H' => (zl1 (H'.cell 2 rfl rfl)))
 refine Z0U 29 S21 26 34 false 37 (.bool (decide (p.f = 18446744073709551615))) <| hv0 30 S21 38 (.bool (decide (p.f = 18446744073709551615))) <| hv0 31 S21 39 (.bool (decide (p.f = 18446744073709551615))) ?_
 refine zih 39 (fun b42 g43 => ?_) fun b42 g45 => ?_
 ·refine Zu 32 S21 31 39 false ?_
  refine Zu 33 S21 31 39 false ?_
  refine Zu 34 S21 31 39 false ?_
  refine Zu 35 S21 31 39 false ?_
  refine Zu 36 S21 31 39 false ?_
  refine Zu 37 S21 31 39 false ?_
  refine hv0 38 S21 46 (.bool true) <| hv0 39 S21 47 (.bool true) <| Zu 40 S21 39 47 false ?_
  refine Zu 41 S21 39 47 false ?_
  refine Zu 42 S21 39 47 false ?_
  refine Zu 43 S21 39 47 false ?_
  refine Zu 44 S21 39 47 false ?_
  refine Zu 45 S21 39 47 false ?_
  refine Zu 46 S21 39 47 false ?_
  refine hv0 47 S21 55 (.bool true) <| zhf <| ztn <| Z06 rfl ?_
  refine zsl <| wv 6 (.bool false) <| znt <| Zk <| Z4 <| ze1 (.bool false) ?_
  have hin : inB f p.r = true := by unfold inB; simp; omega
  exact ⟨by simp only [Z0H, b12, b22, b27, b32, b37, b42, hin, bls], H19.upd 0 rfl [] ne⟩
 refine Z0U 32 S21 31 39 false 40 (pt b6 4) <| Z0U 33 S21 31 39 false 41 (pt b6 4) <| Z0U 34 S21 31 39 false 42 (vi p.sb) ?_ (he := fun _ H' => (zl1 (H'.cell 2 rfl rfl)))
 refine Z0U 35 S21 31 39 false 43 (pt b6 0) <| Z0U 36 S21 31 39 false 44 (vi p.r) ?_ (he := fun _ H' => (zl1 (H'.cell 2 rfl rfl)))
 refine Z0U 37 S21 31 39 false 45 (.bool (!(decide (p.sb = p.r)))) <| hv0 38 S21 46 (.bool (!(decide (p.sb = p.r)))) <| hv0 39 S21 47 (.bool (!(decide (p.sb = p.r)))) ?_
 refine (ZY (!(decide (p.sb = p.r)))).elim (fun b47 => ?_) (fun b47 => ?_)
 ·have g48 := Z7 b47
  have g49 := of_decide_eq_false g48
  refine Z3K 47 (.bool true) (congrArg Value.bool b47) ?_
  refine Zu 40 S21 39 47 false ?_
  refine Zu 41 S21 39 47 false ?_
  refine Zu 42 S21 39 47 false ?_
  refine Zu 43 S21 39 47 false ?_
  refine Zu 44 S21 39 47 false ?_
  refine Zu 45 S21 39 47 false ?_
  refine Zu 46 S21 39 47 false ?_
  refine hv0 47 S21 55 (.bool true) <| zhf <| ztn <| Z06 rfl ?_
  refine zsl <| wv 6 (.bool false) <| znt <| Zk <| Z4 <| ze1 (.bool false) ?_
  have n52 := Z7 b47
  have hin : inB f p.r = true := by unfold inB; simp; omega
  exact ⟨by simp only [Z0H, b12, b22, b27, b32, b37, b42, n52, hin, bls], H19.upd 0 rfl [] ne⟩
 have g53 := Z2 b47
 have g54 := of_decide_eq_true g53
 refine Z3K 47 (.bool false) (congrArg Value.bool b47) ?_
 refine Z0U 40 S21 39 47 false 48 (pt r 0) <| Z0U 41 S21 39 47 false 49 (pt b6 4) <| Z0U 42 S21 39 47 false 50 (.agg ⟨(Z1u p.sb p.sm)⟩) ?_ (he := fun _ H' => (zlN (vs := (Z1u p.sb p.sm)) (H'.at 2 rfl)))
 refine Z0U 43 S21 39 47 false 51 (.agg ⟨(Z4S p)⟩) ?_ (he := fun _ H' => (zlN (vs := (Z4S p)) (H'.at 2 rfl)))
 refine Z34 44 rfl kr (Z05 39 47 false rfl kr rfl kr) (fun Kq kq => ?_)
 refine zdc 52 (Z2Y w18 p (ListAt.now H19 0 rfl hC) (fun i_ hi_ => (hB i_ hi_).keep H19 0 rfl) hl hpn) ?_
 rintro _ w58 ⟨u59, rfl, k60, p61, q62⟩
 have H63 := H19.addU p61 k60 q62
 obtain ⟨a64, c65, rfl⟩ := Z3 (H63.at 3 rfl)
 refine ⟨_, rfl, ?_⟩
 have S66 := H63.pk [0, 1, 2]
 refine kq _ _ S66 <| Z34 45 rfl kr (Z05 39 47 false rfl kr rfl kr) (fun Kq kq => ?_)
 refine zdq 53 (Z3S w58 r ra rc L (H63.roCk 0 rfl hb (fun _ _ h => h)) (H63.roCk 0 rfl hr (fun _ _ h => h)) hn hL a64 c65 (Z11 p) (ListAt.row (enc := Zx) (sz := 1) Zw (by decide) (H63.at 3 rfl)) p.sb p.sm) H63 ?_
 intro w68 H69
 have S71 := H69.pk [0, 1, 2]
 let A4 : Value := .bool (!(Z0B L p.sb p.sm (Z11 p)))
 refine kq _ _ S71 <| Z0U 46 S71 39 47 false 54 A4 <| hv0 47 S71 55 A4 <| zhf <| ztn ?_
 refine (ZY (!(Z0B L p.sb p.sm (Z11 p)))).elim (fun b72 => ?_) (fun b72 => ?_)
 ·have g73 := Z7 b72
  refine Z48 _ b72 ?_
  refine zsl <| wv 6 (.bool false) <| znt <| Zk <| Z4 <| ze1 (.bool false) ?_
  have n75 := Z2 b47
  have n76 := Z7 b72
  have hin : inB f p.r = true := by unfold inB; simp; omega
  exact ⟨by simp only [Z0H, b12, b22, b27, b32, b37, b42, n75, n76, hin, bls], H69.upd 0 rfl [] ne⟩
 have g77 := Z2 b72
 refine Z3L _ b72 ?_
 refine Zp <| ztn <| Z9 <| zsl <| wv 56 (pt b6 3) <| zw1 57 (.slice p.ca p.C.length p.cc) (H69.cell 2 rfl rfl) <| wv 58 (vi p.C.length) <| wv 59 (vi 0) <| znt <| Zh ?_
 have n79 := Z2 b47
 have n80 := Z2 b72
 have hin : inB f p.r = true := by unfold inB; simp; omega
 refine ZB ([6, 7] ++ List.range' 59 47) (fun F_ W_ m_ => ∃ (i : Nat), F_ 59 = (vi i) ∧ (i ≤ p.C.length) ∧ (∀ j, j < i → Z4J f cn L p.f p.C j = true) ∧ Sat w [zR w, Z0 b2 29 (Z1u f cn), Z0 b6 71 (Z4S p), Zo 5 1 (.slice a64 ((Z11 p).length) c65) ((Z11 p).length) ((Z11 p).flatMap Zx)] W_ ∧ m_ = p.C.length - i) _ ⟨0, (show ((vi 0) : Value) = _ by first | rfl | go_num), (Nat.zero_le _), (fun _ h => absurd h (Nat.not_lt_zero _)), H69, rfl⟩ ?_
 rintro g81 w82 _ ⟨i, v84, hi, hall, H83, rfl⟩
 refine Zn 59 _ v84 ?_
 refine zsl <| wv 60 (.bool (decide ((i : Int) < p.C.length))) <| znt <| Z9 ?_
 refine zid (fun b86 g87 => ?_) fun b86 g154 => ?_
 ·refine Zp <| ztn <| Z9 <| Zh <| zsl <| wv 61 (vi i) <| wv 7 (vi i) <| znt <| Z9 <| zqs H83 ?_
  refine qv 62 (vi i) <| qv 63 (.bool (decide ((i : Int) > 0))) <| qv 64 (.bool (decide ((i : Int) > 0))) ?_
  let A0 : Value := .bool (!(Z0z f cn L (p.C.getD i ce0).x (p.C.getD i ce0).S))
  let A1 : Value := .agg ⟨(Z7w ((p.C.getD i ce0).x) (p.C.getD i ce0) (((p.C.getD i ce0).S).length))⟩
  let A2 : Value := .bool (Z0z f cn L (p.C.getD i ce0).x (p.C.getD i ce0).S)
  refine ziq 64 (fun b89 g90 => ?_) fun b89 g130 => ?_
  ·refine qy 2 64 true 65 (pt b6 3) <| qy 2 64 true 66 (.slice p.ca p.C.length p.cc) ?_ (hr := fun _ H' => (zl1 (H'.cell 2 rfl rfl)))
   refine qy 2 64 true 67 (vi i) <| qy 2 64 true 68 (vi ((i : Int) - 1)) ?_ (hr := fun _ H' => (Z0A (z := (i : Int) - 1) kr (IntWalk.i64_in _ om)))
   obtain ⟨g92, o93, c94, e95, R96⟩ := SliceOf.atD hC ce0 (show ((i : Int) - 1).toNat < p.C.length by omega)
   refine qy 2 64 true 69 (.pointer (some ⟨g92, o93 + ((i : Int) - 1).toNat * 38, none⟩)) ?_ (hr := fun _ H' => (Z8 (E := 76) kr kr kn rfl e95 rfl om om))
   refine qy 2 64 true 70 (.pointer (some ⟨g92, o93 + ((i : Int) - 1).toNat * 38, none⟩)) <| qy 2 64 true 71 (.pointer (some ⟨g92, o93 + ((i : Int) - 1).toNat * 38, none⟩)) <| qy 2 64 true 72 (.agg ⟨(Z1u ((p.C.getD ((i : Int) - 1).toNat ce0).x.cl) ((p.C.getD ((i : Int) - 1).toNat ce0).x.seq))⟩) ?_ (hr := fun _ H' => (ZX (vs := (Z1u ((p.C.getD ((i : Int) - 1).toNat ce0).x.cl) ((p.C.getD ((i : Int) - 1).toNat ce0).x.seq))) rfl kr kr kn (H'.runR 0 rfl (Z08 R96 0 kr (show o93 + ((i : Int) - 1).toNat * 38 = o93 + ((i : Int) - 1).toNat * 38 + 0 by omega)) (fun h => h))))
   refine qy 2 64 true 73 (pt b6 3) <| qy 2 64 true 74 (.slice p.ca p.C.length p.cc) ?_ (hr := fun _ H' => (zl1 (H'.cell 2 rfl rfl)))
   refine qy 2 64 true 75 (vi i) ?_
   obtain ⟨g97, o98, c99, e100, R101⟩ := SliceOf.atD hC ce0 (show i < p.C.length by omega)
   refine qy 2 64 true 76 (.pointer (some ⟨g97, o98 + ((i : Int)).toNat * 38, none⟩)) ?_ (hr := fun _ H' => (Z8 (E := 76) kr kr kn rfl e100 rfl om om))
   refine qy 2 64 true 77 (.pointer (some ⟨g97, o98 + ((i : Int)).toNat * 38, none⟩)) <| qy 2 64 true 78 (.pointer (some ⟨g97, o98 + ((i : Int)).toNat * 38, none⟩)) <| qy 2 64 true 79 (.agg ⟨(Z1u ((p.C.getD i ce0).x.cl) ((p.C.getD i ce0).x.seq))⟩) ?_ (hr := fun _ H' => (ZX (vs := (Z1u ((p.C.getD i ce0).x.cl) ((p.C.getD i ce0).x.seq))) rfl kr kr kn (H'.runR 0 rfl (Z08 R101 0 kr (show o98 + ((i : Int)).toNat * 38 = o98 + i * 38 + 0 by omega)) (fun h => h))))
   refine Z0r (Z05 2 64 true rfl kr rfl kr) (d := 80) (v := (.bool (decide (((p.C.getD ((i : Int) - 1).toNat ce0).x.cl) < ((p.C.getD i ce0).x.cl)) || decide (((p.C.getD ((i : Int) - 1).toNat ce0).x.cl) = ((p.C.getD i ce0).x.cl)) && decide (((p.C.getD ((i : Int) - 1).toNat ce0).x.seq) < ((p.C.getD i ce0).x.seq))))) rfl (fun _ _ => by kernel_rfl) (fun w' H' => (Z8C w' ((p.C.getD ((i : Int) - 1).toNat ce0).x.cl) ((p.C.getD ((i : Int) - 1).toNat ce0).x.seq) ((p.C.getD i ce0).x.cl) ((p.C.getD i ce0).x.seq)).mono fun _ _ h => ⟨h.1, H'.keepU h.2⟩) ?_
   refine qy 2 64 true 81 (.bool (!(decide (((p.C.getD ((i : Int) - 1).toNat ce0).x.cl) < ((p.C.getD i ce0).x.cl)) || decide (((p.C.getD ((i : Int) - 1).toNat ce0).x.cl) = ((p.C.getD i ce0).x.cl)) && decide (((p.C.getD ((i : Int) - 1).toNat ce0).x.seq) < ((p.C.getD i ce0).x.seq))))) <| qv 82 (.bool (!(decide (((p.C.getD ((i : Int) - 1).toNat ce0).x.cl) < ((p.C.getD i ce0).x.cl)) || decide (((p.C.getD ((i : Int) - 1).toNat ce0).x.cl) = ((p.C.getD i ce0).x.cl)) && decide (((p.C.getD ((i : Int) - 1).toNat ce0).x.seq) < ((p.C.getD i ce0).x.seq))))) <| qv 83 (.bool (!(decide (((p.C.getD ((i : Int) - 1).toNat ce0).x.cl) < ((p.C.getD i ce0).x.cl)) || decide (((p.C.getD ((i : Int) - 1).toNat ce0).x.cl) = ((p.C.getD i ce0).x.cl)) && decide (((p.C.getD ((i : Int) - 1).toNat ce0).x.seq) < ((p.C.getD i ce0).x.seq))))) ?_
   refine (ZY (!(decide (((p.C.getD ((i : Int) - 1).toNat ce0).x.cl) < ((p.C.getD i ce0).x.cl)) || decide (((p.C.getD ((i : Int) - 1).toNat ce0).x.cl) = ((p.C.getD i ce0).x.cl)) && decide (((p.C.getD ((i : Int) - 1).toNat ce0).x.seq) < ((p.C.getD i ce0).x.seq))))).elim (fun b102 => ?_) (fun b102 => ?_)
   ·have g103 := Z7 b102
    refine Z09 83 (.bool true) (congrArg Value.bool b102) ?_
    iterate 9 refine qn 21 83 false ?_
    refine qv 93 (.bool true) <| qv 94 (.bool true) ?_
    iterate 9 refine qn 32 94 false ?_
    refine qv 104 (.bool true) <| Z01 fun w105 H106 => ?_
    refine ztn <| Z06 rfl ?_
    refine zsl <| wv 6 (.bool false) <| znt <| Zk <| Zf <| Z4 <| Zs <| Zf <| Z4 <| ze1 (.bool false) ?_
    have n107 := Z7 b102
    have e1 : ((i : Int) - 1).toNat = i - 1 := by omega
    have ho : Z4J f cn L p.f p.C i = false := by unfold Z4J; rw [← e1]; simp only [Z4Z, b86, b89, n107, bls]
    exact ⟨by simp only [Z0H, ZP (show i < p.C.length by omega) ho, Bool.and_false], H106.upd 0 rfl [] ne⟩
   have g108 := Z2 b102
   refine Z09 83 (.bool false) (congrArg Value.bool b102) ?_
   refine qy 21 83 false 84 A3 ?_ (hr := fun _ H' => (zlN (vs := (Z1u f cn)) (H'.at 1 rfl)))
   refine qy 21 83 false 85 (pt r 0) <| qy 21 83 false 86 (pt b6 3) <| qy 21 83 false 87 (.slice p.ca p.C.length p.cc) ?_ (hr := fun _ H' => (zl1 (H'.cell 2 rfl rfl)))
   refine qy 21 83 false 88 (vi i) <| qy 21 83 false 89 (.pointer (some ⟨g97, o98 + ((i : Int)).toNat * 38, none⟩)) ?_ (hr := fun _ H' => (Z8 (E := 76) kr kr kn rfl e100 rfl om om))
   refine qy 21 83 false 90 A1 ?_ (hr := fun _ H' => (ZX (vs := (Z7w ((p.C.getD i ce0).x) (p.C.getD i ce0) (((p.C.getD i ce0).S).length))) rfl kr kr kn (H'.runR 0 rfl (Z08 R101 0 kr (show o98 + ((i : Int)).toNat * 38 = o98 + i * 38 + 0 by omega)) (fun h => h))))
   refine Z0r (Z05 21 83 false rfl kr rfl kr) (d := 91) (v := A2) rfl (fun _ _ => by kernel_rfl) (fun w' H' => (Z4V w' f cn om r ra rc L (H'.roCk 0 rfl hb (fun _ _ h => h)) (H'.roCk 0 rfl hr (fun _ _ h => h)) hn hL (p.C.getD i ce0).x ((hB i om).keep H' 0 rfl).x.1 (p.C.getD i ce0).sa (p.C.getD i ce0).sc (p.C.getD i ce0).S ((hB i om).keep H' 0 rfl).at_ (fun i_ hi_ => (((hB i om).keep H' 0 rfl).S i_ hi_).1) (by have q := h12 i om; omega)).mono fun _ _ h => ⟨h.1, H'.keepU h.2⟩) ?_
   refine qy 21 83 false 92 A0 <| qv 93 A0 <| qv 94 A0 ?_
   refine (ZY (!(Z0z f cn L (p.C.getD i ce0).x (p.C.getD i ce0).S))).elim (fun b110 => ?_) (fun b110 => ?_)
   ·have g111 := Z7 b110
    refine Z09 94 (.bool true) (congrArg Value.bool b110) ?_
    iterate 9 refine qn 32 94 false ?_
    refine qv 104 (.bool true) <| Z01 fun w113 H114 => ?_
    refine ztn <| Z06 rfl ?_
    refine zsl <| wv 6 (.bool false) <| znt <| Zk <| Zf <| Z4 <| Zs <| Zf <| Z4 <| ze1 (.bool false) ?_
    have n115 := Z2 b102
    have n116 := Z7 b110
    have e1 : ((i : Int) - 1).toNat = i - 1 := by omega
    have ho : Z4J f cn L p.f p.C i = false := by unfold Z4J; rw [← e1]; simp only [Z4Z, b86, b89, n115, n116, bls]
    exact ⟨by simp only [Z0H, ZP (show i < p.C.length by omega) ho, Bool.and_false], H114.upd 0 rfl [] ne⟩
   have g117 := Z2 b110
   refine Z09 94 (.bool false) (congrArg Value.bool b110) ?_
   refine qy 32 94 false 95 (pt b6 3) <| qy 32 94 false 96 (.slice p.ca p.C.length p.cc) ?_ (hr := fun _ H' => (zl1 (H'.cell 2 rfl rfl)))
   refine qy 32 94 false 97 (vi i) <| qy 32 94 false 98 (.pointer (some ⟨g97, o98 + ((i : Int)).toNat * 38, none⟩)) ?_ (hr := fun _ H' => (Z8 (E := 76) kr kr kn rfl e100 rfl om om))
   refine qy 32 94 false 99 A1 ?_ (hr := fun _ H' => (ZX (vs := (Z7w ((p.C.getD i ce0).x) (p.C.getD i ce0) (((p.C.getD i ce0).S).length))) rfl kr kr kn (H'.runR 0 rfl (Z08 R101 0 kr (show o98 + ((i : Int)).toNat * 38 = o98 + i * 38 + 0 by omega)) (fun h => h))))
   refine Z0r (Z05 32 94 false rfl kr rfl kr) (d := 100) (v := (vu (ZZ (p.C.getD i ce0).S))) rfl (fun _ _ => by kernel_rfl) (fun w' H' => (Z2T w' (p.C.getD i ce0).x (p.C.getD i ce0).sa (p.C.getD i ce0).sc (p.C.getD i ce0).S ((hB i om).keep H' 0 rfl).at_ (h12 i om)).mono fun _ _ h => ⟨h.1, H'.keepU h.2⟩) ?_
   refine qy 32 94 false 101 (pt b6 2) <| qy 32 94 false 102 (vu p.f) ?_ (hr := fun _ H' => (zl1 (H'.cell 2 rfl rfl)))
   refine qy 32 94 false 103 (.bool (decide ((ZZ (p.C.getD i ce0).S) > p.f))) <| qv 104 (.bool (decide ((ZZ (p.C.getD i ce0).S) > p.f))) <| Z01 fun w119 H120 => ?_
   apply ztn
   refine zid (fun b121 g122 => ?_) fun b121 g126 => ?_
   ·refine zsl <| wv 6 (.bool false) <| znt <| Zk <| Zf <| Z4 <| Zs <| Zf <| Z4 <| ze1 (.bool false) ?_
    have n124 := Z2 b102
    have n125 := Z2 b110
    have e1 : ((i : Int) - 1).toNat = i - 1 := by omega
    have ho : Z4J f cn L p.f p.C i = false := by unfold Z4J; rw [← e1]; simp only [Z4Z, b86, b89, n124, n125, b121, bls]
    exact ⟨by simp only [Z0H, ZP (show i < p.C.length by omega) ho, Bool.and_false], H120.upd 0 rfl [] ne⟩
   refine Zp <| Z6 <| ztn <| ZG <| zwi 105 ((i : Int) + 1) <| wv 59 (vi ((i : Int) + 1)) <| ZL ?_
   have n128 := Z2 b102
   have n129 := Z2 b110
   have e1 : ((i : Int) - 1).toNat = i - 1 := by omega
   have ho : Z4J f cn L p.f p.C i = true := by unfold Z4J; rw [← e1]; simp only [Z4Z, b86, b89, n128, n129, b121, bls]
   refine Za ?_ _ ⟨(i + 1), rfl, om, (fun j hj => by rcases Nat.lt_or_ge j i with h | h; exact hall j h; rw [show j = i by omega]; exact ho), H120, rfl⟩ om
   exact zs
  iterate 17 refine qn 2 64 true ?_
  refine qv 82 (.bool false) <| qv 83 (.bool false) <| qy 21 83 false 84 A3 ?_ (hr := fun _ H' => (zlN (vs := (Z1u f cn)) (H'.at 1 rfl)))
  refine qy 21 83 false 85 (pt r 0) <| qy 21 83 false 86 (pt b6 3) <| qy 21 83 false 87 (.slice p.ca p.C.length p.cc) ?_ (hr := fun _ H' => (zl1 (H'.cell 2 rfl rfl)))
  refine qy 21 83 false 88 (vi i) ?_
  obtain ⟨g132, o133, c134, e135, R136⟩ := SliceOf.atD hC ce0 (show i < p.C.length by omega)
  refine qy 21 83 false 89 (.pointer (some ⟨g132, o133 + ((i : Int)).toNat * 38, none⟩)) ?_ (hr := fun _ H' => (Z8 (E := 76) kr kr kn rfl e135 rfl om om))
  refine qy 21 83 false 90 A1 ?_ (hr := fun _ H' => (ZX (vs := (Z7w ((p.C.getD i ce0).x) (p.C.getD i ce0) (((p.C.getD i ce0).S).length))) rfl kr kr kn (H'.runR 0 rfl (Z08 R136 0 kr (show o133 + ((i : Int)).toNat * 38 = o133 + i * 38 + 0 by omega)) (fun h => h))))
  refine Z0r (Z05 21 83 false rfl kr rfl kr) (d := 91) (v := A2) rfl (fun _ _ => by kernel_rfl) (fun w' H' => (Z4V w' f cn om r ra rc L (H'.roCk 0 rfl hb (fun _ _ h => h)) (H'.roCk 0 rfl hr (fun _ _ h => h)) hn hL (p.C.getD i ce0).x ((hB i om).keep H' 0 rfl).x.1 (p.C.getD i ce0).sa (p.C.getD i ce0).sc (p.C.getD i ce0).S ((hB i om).keep H' 0 rfl).at_ (fun i_ hi_ => (((hB i om).keep H' 0 rfl).S i_ hi_).1) (by have q := h12 i om; omega)).mono fun _ _ h => ⟨h.1, H'.keepU h.2⟩) ?_
  refine qy 21 83 false 92 A0 <| qv 93 A0 <| qv 94 A0 ?_
  refine (ZY (!(Z0z f cn L (p.C.getD i ce0).x (p.C.getD i ce0).S))).elim (fun b137 => ?_) (fun b137 => ?_)
  ·have g138 := Z7 b137
   refine Z09 94 (.bool true) (congrArg Value.bool b137) ?_
   iterate 9 refine qn 32 94 false ?_
   refine qv 104 (.bool true) <| Z01 fun w140 H141 => ?_
   refine ztn <| Z06 rfl ?_
   refine zsl <| wv 6 (.bool false) <| znt <| Zk <| Zf <| Z4 <| Zs <| Zf <| Z4 <| ze1 (.bool false) ?_
   have n142 := Z7 b137
   have e1 : ((i : Int) - 1).toNat = i - 1 := by omega
   have ho : Z4J f cn L p.f p.C i = false := by unfold Z4J; rw [← e1]; simp only [Z4Z, b86, b89, n142, bls]
   exact ⟨by simp only [Z0H, ZP (show i < p.C.length by omega) ho, Bool.and_false], H141.upd 0 rfl [] ne⟩
  have g143 := Z2 b137
  refine Z09 94 (.bool false) (congrArg Value.bool b137) ?_
  refine qy 32 94 false 95 (pt b6 3) <| qy 32 94 false 96 (.slice p.ca p.C.length p.cc) ?_ (hr := fun _ H' => (zl1 (H'.cell 2 rfl rfl)))
  refine qy 32 94 false 97 (vi i) <| qy 32 94 false 98 (.pointer (some ⟨g132, o133 + ((i : Int)).toNat * 38, none⟩)) ?_ (hr := fun _ H' => (Z8 (E := 76) kr kr kn rfl e135 rfl om om))
  refine qy 32 94 false 99 A1 ?_ (hr := fun _ H' => (ZX (vs := (Z7w ((p.C.getD i ce0).x) (p.C.getD i ce0) (((p.C.getD i ce0).S).length))) rfl kr kr kn (H'.runR 0 rfl (Z08 R136 0 kr (show o133 + ((i : Int)).toNat * 38 = o133 + i * 38 + 0 by omega)) (fun h => h))))
  refine Z0r (Z05 32 94 false rfl kr rfl kr) (d := 100) (v := (vu (ZZ (p.C.getD i ce0).S))) rfl (fun _ _ => by kernel_rfl) (fun w' H' => (Z2T w' (p.C.getD i ce0).x (p.C.getD i ce0).sa (p.C.getD i ce0).sc (p.C.getD i ce0).S ((hB i om).keep H' 0 rfl).at_ (h12 i om)).mono fun _ _ h => ⟨h.1, H'.keepU h.2⟩) ?_
  refine qy 32 94 false 101 (pt b6 2) <| qy 32 94 false 102 (vu p.f) ?_ (hr := fun _ H' => (zl1 (H'.cell 2 rfl rfl)))
  refine qy 32 94 false 103 (.bool (decide ((ZZ (p.C.getD i ce0).S) > p.f))) <| qv 104 (.bool (decide ((ZZ (p.C.getD i ce0).S) > p.f))) <| Z01 fun w145 H146 => ?_
  apply ztn
  refine zid (fun b147 g148 => ?_) fun b147 g151 => ?_
  ·refine zsl <| wv 6 (.bool false) <| znt <| Zk <| Zf <| Z4 <| Zs <| Zf <| Z4 <| ze1 (.bool false) ?_
   have n150 := Z2 b137
   have e1 : ((i : Int) - 1).toNat = i - 1 := by omega
   have ho : Z4J f cn L p.f p.C i = false := by unfold Z4J; rw [← e1]; simp only [Z4Z, b86, b89, n150, b147, bls]
   exact ⟨by simp only [Z0H, ZP (show i < p.C.length by omega) ho, Bool.and_false], H146.upd 0 rfl [] ne⟩
  refine Zp <| Z6 <| ztn <| ZG <| zwi 105 ((i : Int) + 1) <| wv 59 (vi ((i : Int) + 1)) <| ZL ?_
  have n153 := Z2 b137
  have e1 : ((i : Int) - 1).toNat = i - 1 := by omega
  have ho : Z4J f cn L p.f p.C i = true := by unfold Z4J; rw [← e1]; simp only [Z4Z, b86, b89, n153, b147, bls]
  refine Za ?_ _ ⟨(i + 1), rfl, om, (fun j hj => by rcases Nat.lt_or_ge j i with h | h; exact hall j h; rw [show j = i by omega]; exact ho), H146, rfl⟩ om
  exact zs
 refine zxb <| ztn <| zsl <| wv 6 (.bool true) <| znt <| Zk <| ze1 (.bool true) ?_
 have hn0 : i = p.C.length := by omega
 subst hn0
 exact ⟨by simp only [Z0H, Z1r hall, b12, b22, b27, b32, b37, b42, n79, n80, hin, bls], H83.upd 0 rfl [] ne⟩
end Go.Proofs.YtenihpghfdcpkaaGreat
