/- WHAT IS PROVED: contracts and plain laws of TimeE, TabM, Wt, DenyT. Conditions: stated with each. -/
import Derived.Test.YtenihpghfdcpkaaGreatPA05
import Derived.Test.YtenihpghfdcpkaaGreatPA07
import Derived.Test.YtenihpghfdcpkaaGreatPA09
import Derived.Test.YtenihpghfdcpkaaGreatPA10
import Derived.Test.YtenihpghfdcpkaaGreatPA12
set_option maxHeartbeats 4000000
set_option maxRecDepth 100000
namespace Go.Proofs.YtenihpghfdcpkaaGreat
open Go.RowKit
abbrev Z6g (p0 : Z9) (p1 : Option Addr) (p2 : Nat) (p3 : Nat) : List Value := ([(.int .i64 p0.cl), (.int .i64 p0.seq)] : List Value) ++ hc p0.h ++ ([(.int .i64 p0.len), (.int .i64 p0.sb), (.int .i64 p0.sm), (.slice p1 p2 p3)] : List Value)
abbrev Zat (p0 : Option Addr) (p1 : List Int) (p2 : Nat) : Ck := Zc 25 1 (.slice p0 p1.length p2) p1.length (p1.flatMap Z4j)
abbrev Z8l (p0 : Z4) : List Value := ([(.int .i64 p0.r), (.int .i64 p0.cl), (.int .i64 p0.seq)] : List Value) ++ hc p0.h ++ ([(.int .u64 p0.t), (.int .i64 p0.sb), (.int .i64 p0.sm)] : List Value)
abbrev Zez : List Value := ([(.int .i64 (0)), (.int .i64 (0)), (.int .i64 (0))] : List Value) ++ hc Zn ++ ([(.int .u64 (0)), (.int .i64 (0)), (.int .i64 (0))] : List Value)
theorem Z9p (w : World) (x : Z9) (sa : Option Addr) (sc : Nat) (S : List Z4) (hS : ListAt Z1U 38 w (.slice sa S.length sc) S) (hlS : S.length ≤ 12) :
  Calls Tryz.prog 57 #[(.agg ⟨(([(.int .i64 (x.cl)), (.int .i64 (x.seq))] : List Value) ++ hc x.h ++ ([(.int .i64 (x.len)), (.int .i64 (x.sb)), (.int .i64 (x.sm)), (.slice sa S.length sc)] : List Value))⟩)] w fun e w' => e = .returned (.int .u64 (Zj S)) ∧ Upd [] w w' := by
 have H := Sat.start0 w
 refine Z8 Tryz.func57 rfl 27 rfl kn ?_
 refine zsl <| zy <| zdb (Z6g x sa S.length sc) H fun b2 w3 H4 => ?_
 refine kk <| wv 2 (vu 0) <| Z0y <| wv 3 (.slice none 0 0) <| znt <| Z5 <| zsl <| wv 8 (pt b2 37) <| zw1 9 (.slice sa S.length sc) (H4.cell 1 rfl kr) <| wv 10 (vi S.length) ?_
 refine wv 11 (vi 0) <| znt <| Za ?_
 have H5 := H4.addNil 25 1
 refine Zw ([3, 5] ++ List.range' 11 10) (fun F_ W_ m_ => ∃ (i : Nat) (a : Option Addr) (c : Nat) (D : List Int), F_ 11 = (vi i) ∧ F_ 3 = (.slice a D.length c) ∧ (i ≤ S.length) ∧ (D = Z3X (S.take i)) ∧ Sat w [Z3 w (fun _ => False), Z0 b2 76 (Z6g x sa S.length sc), (Zat a D c)] W_ ∧ m_ = S.length - i) _ ⟨0, none, 0, [], (show ((vi 0) : Value) = _ by first | rfl | go_num), (by first | rfl | go_num), (Nat.zero_le _), rfl, H5, rfl⟩ ?_
 rintro g6 w7 _ ⟨i, a, c, D, v9, v10, hi, hD, H8, rfl⟩
 refine Zd 11 _ v9 ?_
 refine Zd 3 _ v10 ?_
 have hDl : D.length = i := by rw [hD, Z5C, List.length_take]; omega
 refine zsl <| wv 12 (.bool (decide ((i : Int) < S.length))) <| znt <| Z5 ?_
 refine zid (fun b12 g13 => ?_) fun b12 g41 => ?_
 ·refine Zt <| ztn <| Z5 <| Za <| zsl ?_
  obtain ⟨g15, o16, c17, e18, R19⟩ := SliceOf.atD hS Zf (show i < S.length by omega)
  refine wv 13 (.pointer (some ⟨g15, o16 + ((i : Int)).toNat * 38, none⟩)) ?_ (hr := Zh (E := 149) kr kr kn rfl e18 rfl om om)
  refine wv 14 (.agg ⟨(Z8l (S.getD i Zf))⟩) ?_ (hr := Z05 (vs := (Z8l (S.getD i Zf))) rfl kr kr kn (H8.runR 0 rfl (Z0W R19 0 kr (show o16 + ((i : Int)).toNat * 38 = o16 + i * 38 + 0 by omega)) (fun h => h)))
  refine zy <| zda (Zez) H8 fun b21 w22 H23 => ?_
  refine kk <| zy <| Z1z (Z8l (S.getD i Zf)) H23 3 fun w25 H26 => ?_
  refine kk <| znt <| Zl <| wv 15 (.slice a D.length c) <| wv 16 (pt b21 35) <| zw1 17 (vu ((S.getD i Zf).t)) (H26.cell 3 rfl kr) <| zy <| Z2w 25 1 8 (vu 0) [(0, (vu ((S.getD i Zf).t)))] ([(vu ((S.getD i Zf).t))] : List Value) H26 fun b29 w30 H31 => ?_
  have H32 := H31.ct 4 rfl (Zc 25 1 (.slice (some ⟨b29, 0, none⟩) 1 1) 1 ([(S.getD i Zf).t].flatMap Z4j)) (by rw [show (([(vu ((S.getD i Zf).t))] : List Value) : List Value) = [(S.getD i Zf).t].flatMap Z4j from rfl])
  refine kk <| zy <| Z00 (T := 109) (e := 25) (size := 1) (bytes := 8) rfl H32 kr 2 4 rfl rfl rfl rfl (ZX Z4j ZaL [(S.getD i Zf).t]) om om fun v34 w35 H36 => ?_
  have H39 := H36.ct 2 rfl (Zc 25 1 v34 ((D ++ [(S.getD i Zf).t]).length) ((D ++ [(S.getD i Zf).t]).flatMap Z4j)) ja
  obtain ⟨a37, c38, rfl⟩ := Z2 (H39.at 2 rfl)
  refine kk <| wv 3 (.slice a37 ((D ++ [(S.getD i Zf).t]).length) c38) <| Zu <| Z7 <| ztn <| Zl <| zwi 20 ((i : Int) + 1) <| wv 11 (vi ((i : Int) + 1)) <| Zu ?_
  have hDl : D.length = i := by rw [hD, Z5C, List.length_take]; omega
  have H40 := H39.pk [0, 1, 2]
  refine Z6 ?_ _ ⟨(i + 1), a37, c38, (D ++ [(S.getD i Zf).t]), rfl, (show ((.slice a37 ((D ++ [(S.getD i Zf).t]).length) c38) : Value) = _ by first | rfl | go_num), om, (by rw [hD, Z7w S om]), H40, rfl⟩ om
  exact zs
 refine zxb <| ztn <| zsl <| wv 22 (.slice a D.length c) <| zy <| zdq 23 (Zef w7 (.slice a D.length c) D (ListAt.row (enc := Z4j) (sz := 1) Z27 (by decide) (H8.at 2 rfl)) om) H8 fun w44 H45 => ?_
 refine kk <| wv 21 (.tuple #[(vu (Z5Y D)), (.bool (decide (D.length % 2 = 1)))]) <| wv 24 (vu (Z5Y D)) <| wv 25 (.bool (decide (D.length % 2 = 1))) <| wv 6 (vu (Z5Y D)) <| wv 7 (.bool (decide (D.length % 2 = 1))) <| Z0y <| wv 26 (vu (Z5Y D)) <| wv 2 (vu (Z5Y D)) <| znt ?_
 refine Zq <| ze1 (vu (Z5Y D)) ?_
 have hT : D = Z3X S := by rw [hD, List.take_of_length_le om]
 exact ⟨by unfold Zj; rw [← hT], H45.upd 0 rfl [] ne⟩
theorem Z3Q (w : World) (x : Z9) (sa : Option Addr) (sc : Nat) (S : List Z4) (hS : ListAt Z1U 38 w (.slice sa S.length sc) S) (hlS : S.length ≤ 12) :
  Calls Tryz.prog 17 #[(.agg ⟨(([(.int .i64 (x.cl)), (.int .i64 (x.seq))] : List Value) ++ hc x.h ++ ([(.int .i64 (x.len)), (.int .i64 (x.sb)), (.int .i64 (x.sm)), (.slice sa S.length sc)] : List Value))⟩)] w fun e w' => e = .returned (.int .u64 (Zj S)) ∧ Upd [] w w' := by
 have H := Sat.start0 w
 refine Z8 Tryz.func17 rfl 29 rfl kn ?_
 refine zsl <| zy <| zdb (Z6g x sa S.length sc) H fun b2 w3 H4 => ?_
 refine kk <| wv 2 (vu 0) <| Z0y <| wv 3 (.slice none 0 0) <| znt <| Z5 <| zsl <| wv 7 (pt b2 37) <| zw1 8 (.slice sa S.length sc) (H4.cell 1 rfl kr) <| wv 9 (vi S.length) ?_
 refine wv 10 (vi 0) <| znt <| Za ?_
 have H5 := H4.addNil 25 1
 refine Zw ([3, 4] ++ List.range' 10 13) (fun F_ W_ m_ => ∃ (i : Nat) (a : Option Addr) (c : Nat) (D : List Int), F_ 10 = (vi i) ∧ F_ 3 = (.slice a D.length c) ∧ (i ≤ S.length) ∧ (D = Z3X (S.take i)) ∧ Sat w [Z3 w (fun _ => False), Z0 b2 76 (Z6g x sa S.length sc), (Zat a D c)] W_ ∧ m_ = S.length - i) _ ⟨0, none, 0, [], (show ((vi 0) : Value) = _ by first | rfl | go_num), (by first | rfl | go_num), (Nat.zero_le _), rfl, H5, rfl⟩ ?_
 rintro g6 w7 _ ⟨i, a, c, D, v9, v10, hi, hD, H8, rfl⟩
 refine Zd 10 _ v9 ?_
 refine Zd 3 _ v10 ?_
 have hDl : D.length = i := by rw [hD, Z5C, List.length_take]; omega
 refine zsl <| wv 11 (.bool (decide ((i : Int) < S.length))) <| znt <| Z5 ?_
 refine zid (fun b12 g13 => ?_) fun b12 g33 => ?_
 ·refine Zt <| ztn <| Z5 <| Za <| zsl <| wv 12 (vi i) <| wv 4 (vi i) <| znt <| Zl <| wv 13 (.slice a D.length c) ?_
  refine wv 14 (pt b2 37) <| zw1 15 (.slice sa S.length sc) (H8.cell 1 rfl kr) <| wv 16 (vi i) ?_
  obtain ⟨g15, o16, c17, e18, R19⟩ := SliceOf.atD hS Zf (show i < S.length by omega)
  refine wv 17 (.pointer (some ⟨g15, o16 + ((i : Int)).toNat * 38, none⟩)) ?_ (hr := Zh (E := 149) kr kr kn rfl e18 rfl om om)
  refine wv 18 (.pointer (some ⟨g15, o16 + ((i : Int)).toNat * 38 + 35, none⟩)) <| zw1 19 (vu ((S.getD i Zf).t)) (H8.cellR 0 rfl (Z0P R19 35 kr (show o16 + ((i : Int)).toNat * 38 + 35 = o16 + i * 38 + 35 by omega)) (fun h => h)) <| zy <| Z2w 25 1 8 (vu 0) [(0, (vu ((S.getD i Zf).t)))] ([(vu ((S.getD i Zf).t))] : List Value) H8 fun b21 w22 H23 => ?_
  have H24 := H23.ct 3 rfl (Zc 25 1 (.slice (some ⟨b21, 0, none⟩) 1 1) 1 ([(S.getD i Zf).t].flatMap Z4j)) (by rw [show (([(vu ((S.getD i Zf).t))] : List Value) : List Value) = [(S.getD i Zf).t].flatMap Z4j from rfl])
  refine kk <| zy <| Z00 (T := 109) (e := 25) (size := 1) (bytes := 8) rfl H24 kr 2 3 rfl rfl rfl rfl (ZX Z4j ZaL [(S.getD i Zf).t]) om om fun v26 w27 H28 => ?_
  have H31 := H28.ct 2 rfl (Zc 25 1 v26 ((D ++ [(S.getD i Zf).t]).length) ((D ++ [(S.getD i Zf).t]).flatMap Z4j)) ja
  obtain ⟨a29, c30, rfl⟩ := Z2 (H31.at 2 rfl)
  refine kk <| wv 3 (.slice a29 ((D ++ [(S.getD i Zf).t]).length) c30) <| Zu <| Z7 <| ztn <| Zl <| zwi 22 ((i : Int) + 1) <| wv 10 (vi ((i : Int) + 1)) <| Zu ?_
  have hDl : D.length = i := by rw [hD, Z5C, List.length_take]; omega
  have H32 := H31.pk [0, 1, 2]
  refine Z6 ?_ _ ⟨(i + 1), a29, c30, (D ++ [(S.getD i Zf).t]), rfl, (show ((.slice a29 ((D ++ [(S.getD i Zf).t]).length) c30) : Value) = _ by first | rfl | go_num), om, (by rw [hD, Z7w S om]), H32, rfl⟩ om
  exact zs
 refine zxb <| ztn <| zsl <| wv 24 (.slice a D.length c) <| zy <| zdq 25 (ZdZ w7 (.slice a D.length c) D (ListAt.row (enc := Z4j) (sz := 1) Z27 (by decide) (H8.at 2 rfl)) om) H8 fun w36 H37 => ?_
 refine kk <| wv 23 (.tuple #[(vu (Z5Y D)), (.bool (decide (D.length % 2 = 1)))]) <| wv 26 (vu (Z5Y D)) <| wv 27 (.bool (decide (D.length % 2 = 1))) <| wv 5 (vu (Z5Y D)) <| wv 6 (.bool (decide (D.length % 2 = 1))) <| Z0y <| wv 28 (vu (Z5Y D)) <| wv 2 (vu (Z5Y D)) <| znt ?_
 refine Zq <| ze1 (vu (Z5Y D)) ?_
 have hT : D = Z3X S := by rw [hD, List.take_of_length_le om]
 exact ⟨by unfold Zj; rw [← hT], H37.upd 0 rfl [] ne⟩
def ZU (L : List CeR) (a b : Int) : Option CeR := L.find? fun c => decide (c.x.cl = a ∧ c.x.seq = b)
section
variable {L : List CeR} {a b : Int} {i : Nat} {x : CeR} {B : List Ck} {w : World}
theorem Zeu (hno : ∀ j, j < i → ∀ y, L[j]? = some y → ¬ (y.x.cl = a ∧ y.x.seq = b)) (hx : L[i]? = some x) (h : decide (x.x.cl = a ∧ x.x.seq = b) = true) : ZU L a b = some x := by
 unfold ZU
 rw [List.find?_eq_some_iff_getElem]
 obtain ⟨hi, e⟩ := List.getElem?_eq_some_iff.1 hx
 refine ⟨h, i, hi, e, fun j hj => ?_⟩
 have := hno j hj _ (List.getElem?_eq_getElem (by omega))
 rw [show (decide (L[j].x.cl = a ∧ L[j].x.seq = b)) = false from decide_eq_false this]; rfl
theorem Zc4 (hno : ∀ j, j < i → ∀ y, L[j]? = some y → ¬ (y.x.cl = a ∧ y.x.seq = b)) (hi : L.length ≤ i) : ZU L a b = none := by
 unfold ZU
 rw [List.find?_eq_none]
 intro y hy
 obtain ⟨j, hj, e⟩ := List.mem_iff_getElem.1 hy
 have := hno j (by omega) y (by rw [List.getElem?_eq_getElem hj, e])
 simpa using this
theorem Zc7 (hno : ∀ j, j < i → ∀ y, L[j]? = some y → ¬ (y.x.cl = a ∧ y.x.seq = b)) (hx : L[i]? = some x) (h : decide (x.x.cl = a ∧ x.x.seq = b) = false) : ∀ j, j < i + 1 → ∀ y, L[j]? = some y → ¬ (y.x.cl = a ∧ y.x.seq = b) := fun j hj y hy => by
 rcases Nat.lt_or_ge j i with q | q
 ·exact hno j q y hy
 ·have e : j = i := by omega
  subst e
  rw [hx] at hy
  obtain rfl := Option.some.inj hy
  exact of_decide_eq_false h
structure CeT (B : List Ck) (c : CeR) : Prop where
 x : CoB c.x
 S : ∀ i, i < c.S.length → StB (c.S.getD i Zf)
 len : c.S.length ≤ 12
 bag : stC c ∈ B
theorem CeT.cb (h : CeT B x) (hb : (Z0b B).ok w) : CeB w x := ⟨h.x, Z69 hb h.bag, h.S, Nat.le_trans h.len (by decide)⟩
noncomputable def Z2z (L : List CeR) (last tm : Int) : List CeR := L.filter fun c => decide (Zj c.S > last) && decide (Zj c.S ≤ tm)
variable {last tm : Int}
theorem ZdV {D : List CeR} (hD : D = Z2z (L.take i) last tm) (hx : L[i]? = some x) (h1 : decide (Zj x.S > last) = true) (h2 : decide (Zj x.S ≤ tm) = true) : D ++ [x] = Z2z (L.take (i + 1)) last tm := by
 unfold Z2z at hD ⊢
 rw [List.take_add_one, hx, Option.toList_some, List.filter_append, ← hD, List.filter_cons, h1, h2]; rfl
theorem Ze6 {D : List CeR} (hD : D = Z2z (L.take i) last tm) (hx : L[i]? = some x) (h1 : decide (Zj x.S > last) = false) : D = Z2z (L.take (i + 1)) last tm := by
 unfold Z2z at hD ⊢
 rw [List.take_add_one, hx, Option.toList_some, List.filter_append, ← hD, List.filter_cons, h1]; simp
theorem Zeq {D : List CeR} (hD : D = Z2z (L.take i) last tm) (hx : L[i]? = some x) (h2 : decide (Zj x.S ≤ tm) = false) : D = Z2z (L.take (i + 1)) last tm := by
 unfold Z2z at hD ⊢
 rw [List.take_add_one, hx, Option.toList_some, List.filter_append, ← hD, List.filter_cons, h2]; simp
theorem Z5o {c : CeR} (h : c ∈ Z2z L last tm) : c ∈ L := (List.mem_filter.1 h).1
theorem ZaO : (Z2z L last tm).length ≤ L.length := List.length_filter_le ..
theorem Z8x (h : (ZU L a b).isSome = true) : (ZU L a b).getD ce0 ∈ L := by
 obtain ⟨v, hv⟩ := Option.isSome_iff_exists.1 h
 rw [hv]
 exact List.mem_of_find?_eq_some (show L.find? (fun c => decide (c.x.cl = a ∧ c.x.seq = b)) = some v from hv)
noncomputable def Z5T (F Cn floor : Int) (Lb : List Signed) (L : List CeR) (x : CeR) : Int :=
 if Z14 F Cn Lb x.x x.S = true then
  if (ZU L x.x.cl x.x.seq).isSome = true then
   if ((ZU L x.x.cl x.x.seq).getD ce0).x.h = x.x.h ∧ Zj ((ZU L x.x.cl x.x.seq).getD ce0).S = Zj x.S then 0 else 5
  else if Zj x.S ≤ floor then 4 else if 64 ≤ L.length then 7 else 0
 else 3
noncomputable def ackT (rp : Int) (x : CeR) : Z4 := ⟨rp, x.x.cl, x.x.seq, x.x.h, Zj x.S, 0, 0⟩
noncomputable def ackY (rp : Int) (x : CeR) : Signed := ⟨rp, Z2K (ackT rp x)⟩
noncomputable def ackS (rp : Int) (Lb : List Signed) (x : CeR) : Z4 := ⟨rp, x.x.cl, x.x.seq, x.x.h, Zj x.S, rp, Ze (Zg Lb (ackY rp x)) (ackY rp x)⟩
def Z7j (x y : CeR) : Bool := decide (x.x.cl < y.x.cl) || (decide (x.x.cl = y.x.cl) && decide (x.x.seq < y.x.seq))
structure Zdo (L : List CeR) (x : CeR) (k : Nat) : Prop where
 le : k ≤ L.length
 up : ∀ j, k ≤ j → ∀ y, L[j]? = some y → Z7j x y = true
 stop : k = 0 ∨ ∃ y, L[k - 1]? = some y ∧ Z7j x y = false
variable {F Cn floor rp : Int} {Lb : List Signed} {y : CeR} {k : Nat}
theorem tk3 (h : Z14 F Cn Lb x.x x.S = false) : Z5T F Cn floor Lb L x = 3 := by unfold Z5T; rw [if_neg (by rw [h]; decide)]
theorem tk5 (h : Z14 F Cn Lb x.x x.S = true) (h1 : (ZU L x.x.cl x.x.seq).isSome = true) (h2 : ¬ (((ZU L x.x.cl x.x.seq).getD ce0).x.h = x.x.h ∧ Zj ((ZU L x.x.cl x.x.seq).getD ce0).S = Zj x.S)) : Z5T F Cn floor Lb L x = 5 := by unfold Z5T; rw [if_pos h, if_pos h1, if_neg h2]
theorem tk0 (h : Z14 F Cn Lb x.x x.S = true) (h1 : (ZU L x.x.cl x.x.seq).isSome = true) (h2 : ((ZU L x.x.cl x.x.seq).getD ce0).x.h = x.x.h) (h3 : Zj ((ZU L x.x.cl x.x.seq).getD ce0).S = Zj x.S) : Z5T F Cn floor Lb L x = 0 := by unfold Z5T; rw [if_pos h, if_pos h1, if_pos ⟨h2, h3⟩]
theorem tk4 (h : Z14 F Cn Lb x.x x.S = true) (h1 : (ZU L x.x.cl x.x.seq).isSome = false) (h2 : Zj x.S ≤ floor) : Z5T F Cn floor Lb L x = 4 := by unfold Z5T; rw [if_pos h, if_neg (by rw [h1]; decide), if_pos h2]
theorem tk7 (h : Z14 F Cn Lb x.x x.S = true) (h1 : (ZU L x.x.cl x.x.seq).isSome = false) (h2 : ¬ Zj x.S ≤ floor) (h3 : 64 ≤ L.length) : Z5T F Cn floor Lb L x = 7 := by unfold Z5T; rw [if_pos h, if_neg (by rw [h1]; decide), if_neg h2, if_pos h3]
theorem tkn (h : Z14 F Cn Lb x.x x.S = true) (h1 : (ZU L x.x.cl x.x.seq).isSome = false) (h2 : ¬ Zj x.S ≤ floor) (h3 : ¬ 64 ≤ L.length) : Z5T F Cn floor Lb L x = 0 := by unfold Z5T; rw [if_pos h, if_neg (by rw [h1]; decide), if_neg h2, if_neg h3]
theorem Ze2 : ∀ j, L.length ≤ j → ∀ y, L[j]? = some y → Z7j x y = true := fun j hj y hy => by
 have := (List.getElem?_eq_some_iff.1 hy).1; omega
theorem Zfq (h : ∀ j, k ≤ j → ∀ y, L[j]? = some y → Z7j x y = true) (hy : L[k - 1]? = some y) (hl : Z7j x y = true) : ∀ j, k - 1 ≤ j → ∀ y, L[j]? = some y → Z7j x y = true := fun j hj z hz => by
 by_cases e : j = k - 1
 ·subst e
  rw [hy] at hz
  obtain rfl := Option.some.inj hz
  exact hl
 ·exact h j (by omega) z hz
theorem ZaS {c : CeR} (h : CeT B c) : 0 ≤ Zj c.S ∧ Zj c.S < 18446744073709551616 := by
 unfold Zj
 rcases Nat.mod_two_eq_zero_or_one (Z3X c.S).length with e | e
 ·rw [Z4G e]; decide
 ·have hm := (ZaU e).mem
  unfold Z3X at hm
  obtain ⟨s, hs, he⟩ := List.mem_map.1 hm
  obtain ⟨i, hi, hsi⟩ := List.mem_iff_getElem.1 hs
  have q := (h.S i hi).1
  rw [List.getD_eq_getElem?_getD, List.getElem?_eq_getElem hi, Option.getD_some, hsi] at q
  unfold Z3X
  rw [← he]; exact ⟨q.2.2.2.1, q.2.2.2.2⟩
end
abbrev Za8 (p0 : Option Addr) (p1 : Nat) (p2 : Nat) : List Value := ([(.slice p0 p1 p2)] : List Value)
abbrev Zeh (p0 : Option Addr) (p1 : List UInt8) (p2 : Nat) : Ck := Zc 5 1 (.slice p0 p1.length p2) p1.length (p1.flatMap Zy)
theorem ListAt.nowD {α : Type} {enc : α → List Value} {sz : Nat} {w0 w W : World} {G : List Ck} {D : Nat → Prop} (H : Sat w0 G w) (j : Nat) (hj : G[j]? = Option.some (Z3 W D)) {a : Option Addr} {n c : Nat} {xs : List α} (hv : ListAt enc sz W (.slice a n c) xs) (hf : 0 < xs.length → ∀ ad, a = some ad → ¬ D ad.block) : ListAt enc sz w (.slice a n c) xs := by
 rcases hv with h | ⟨h0, b', o, c', e, hc, h⟩
 ·exact .inl h
 have ha : a = some ⟨b', o, none⟩ := by simp only [Value.slice.injEq] at e; exact e.1
 refine .inr ⟨h0, b', o, c', e, hc, fun i hi q u hq => ?_⟩
 have h1 := h i hi q u hq
 rw [Addr.add_lit] at h1 ⊢
 exact H.cellR j hj h1 (show ¬ D b' from hf h0 _ ha)
theorem Z6B (w : World) (r : Nat) (a0 : Option Addr) (c0 : Nat) (B : List UInt8) (hB : (ZR (wrL r a0 c0 B)).ok w) (hl : B.length ≤ 1000000) (x : Hash) :
  Calls Tryz.prog 160 #[(.pointer (some ⟨r, 0, none⟩)), (.agg ⟨(hc x)⟩)] w fun e w' => ∃ a' c', e = .returned (.pointer (some ⟨r, 0, none⟩)) ∧ Sat w [Z0 r 266 [.slice a' (B ++ x.l).length c'], Zc 5 1 (.slice a' (B ++ x.l).length c') (B ++ x.l).length ((B ++ x.l).flatMap Zy), Z3 w (ZR (wrL r a0 c0 B)).fp] w' := by
 have H := Sat.start (wrL r a0 c0 B) hB
 have hx := x.len
 refine Z8 Tryz.func160 rfl 15 rfl kn ?_
 refine zsl <| zy <| zdb (hc x) H fun b2 w3 H4 => ?_
 refine kk <| wv 4 (.pointer none) <| znt <| Z5 <| Z18 H4 [Z0 r 266 (Za8 a0 B.length c0), Z3 w (ZR (wrL r a0 c0 B)).fp, Z0 b2 61 (hc x)] [9] 10 rfl kr (fun Hx => (Hx.pk [0, 2, 3])) fun w5 H6 S7 => ?_
 refine zkp 0 S7 5 (pt r 0) <| zkp 1 S7 6 (pt r 0) <| zkp 2 S7 7 (pt r 0) <| zkp 3 S7 8 (pt r 0) <| zkv 4 S7 9 (.slice a0 B.length c0) ?_ (he := fun _ H' => (zl1 (H'.cell 0 rfl rfl)))
 refine zkp 5 S7 10 (.slice (some ⟨b2, 0, none⟩) 32 32) <| zky 6 ?_
 refine Z4F (T := 84) (e := 5) (size := 1) (bytes := 1) rfl H6 kr Zk Z0C 1 rfl (ListAt.ofHash (x := x) (Z3U (H6.at 3 rfl) kr) (by decide)) rfl rfl om om ?_
 intro v9 w10 H12
 have H11 := H12.ct 1 rfl (Zc 5 1 v9 ((B ++ x.l).length) ((B ++ x.l).flatMap Zy)) (by simp only [List.length_append, List.flatMap_append])
 obtain ⟨a13, c14, rfl⟩ := Z2 (H11.at 1 rfl)
 have S15 := H11.pk [0, 2, 3]
 refine ke S15 <| zkp 7 S15 12 (pt r 0) <| zkp 8 S15 13 (pt r 0) <| Z3v 9 (Sat w [Z3 w (ZR (wrL r a0 c0 B)).fp, Z0 b2 61 (hc x)]) rfl kr (Zb rfl) rfl (fun Kq kq => ?_)
 refine Z1z (Za8 a13 ((B ++ x.l).length) c14) H11 0 ?_
 intro w17 (H18 : Sat w [Z0 r 266 (Za8 a13 ((B ++ x.l).length) c14), (Zeh a13 (B ++ x.l) c14), Z3 w (ZR (wrL r a0 c0 B)).fp, Z0 b2 61 (hc x)] w17)
 have S20 := H18.pk [2, 3]
 refine kq _ _ S20 <| zhf <| ztn <| zsl <| wv 14 (pt r 0) <| wv 4 (pt r 0) <| znt <| Zq <| ze1 (pt r 0) ?_
 have hX : (B ++ x.l) = (B ++ x.l) := by rfl
 exact ⟨a13, c14, rfl, (H18.pk [0, 1, 2]).cast (by show [_, _, _] = _; rw [hX])⟩
theorem Z3l (w : World) (r : Nat) (a0 : Option Addr) (c0 : Nat) (B : List UInt8) (hB : (ZR (wrL r a0 c0 B)).ok w) (hl : B.length ≤ 1000000) (ta : Option Addr) (tc : Nat) (tx : List UInt8) (ht : ListAt Zy 1 w (.slice ta tx.length tc) tx) (hoff : 0 < tx.length → ∀ ad, ta = some ad → ¬ (ZR (wrL r a0 c0 B)).fp ad.block) (hl2 : tx.length ≤ 1000000) :
  Calls Tryz.prog 158 #[(.pointer (some ⟨r, 0, none⟩)), (.slice ta tx.length tc)] w fun e w' => ∃ a' c', e = .returned (.pointer (some ⟨r, 0, none⟩)) ∧ Sat w [Z0 r 266 [.slice a' (B ++ ZK tx).length c'], Zc 5 1 (.slice a' (B ++ ZK tx).length c') (B ++ ZK tx).length ((B ++ ZK tx).flatMap Zy), Z3 w (ZR (wrL r a0 c0 B)).fp] w' := by
 have H := Sat.start (wrL r a0 c0 B) hB
 have hvl := ZM (tx.length : Int)
 refine Z8 Tryz.func158 rfl 19 rfl kn ?_
 refine zsl <| wv 4 (.pointer none) <| Z0y <| wv 5 (pt r 0) <| wv 6 (.slice ta tx.length tc) <| wv 7 (vi tx.length) <| zy ?_
 have l7 := ZM (tx.length : Int)
 refine zdc 8 (Z34 w r a0 c0 B (H.fn [0, 1]) om (tx.length : Int) om) ?_
 rintro _ w2 ⟨a4, c5, rfl, T3⟩
 have H8 := H.tl [Z0 r 266 (Za8 a4 ((B ++ Zi (tx.length : Int)).length) c5), (Zeh a4 (B ++ Zi (tx.length : Int)) c5)] [0, 1] [2] T3 [0, 1, 2]
 refine ⟨_, rfl, ?_⟩
 refine kk <| Z0y <| wv 9 (pt r 0) <| wv 10 (pt r 0) <| wv 11 (pt r 0) <| wv 12 (pt r 0) <| zw1 13 (.slice a4 ((B ++ Zi (tx.length : Int)).length) c5) (H8.cell 0 rfl rfl) <| wv 14 (.slice ta tx.length tc) <| zy <| Z4F (T := 84) (e := 5) (size := 1) (bytes := 1) rfl H8 kr Zk Z0C 1 rfl (ListAt.nowD H8 2 rfl ht hoff) rfl rfl (by simp only [List.length_append]; omega) (by simp only [List.length_append]; omega) ?_
 intro v10 w11 H13
 have H12 := H13.ct 1 rfl (Zc 5 1 v10 (((B ++ Zi (tx.length : Int)) ++ tx).length) (((B ++ Zi (tx.length : Int)) ++ tx).flatMap Zy)) (by simp only [List.length_append, List.flatMap_append])
 obtain ⟨a14, c15, rfl⟩ := Z2 (H12.at 1 rfl)
 refine kk <| wv 16 (pt r 0) <| wv 17 (pt r 0) <| zy <| Z3i (vs := (Za8 a14 (((B ++ Zi (tx.length : Int)) ++ tx).length) c15)) rfl H12 0 rfl rfl rfl rfl kr kn kn kr ?_
 intro w17 (H18 : Sat w [Z0 r 266 (Za8 a14 (((B ++ Zi (tx.length : Int)) ++ tx).length) c15), (Zeh a14 ((B ++ Zi (tx.length : Int)) ++ tx) c15), Z3 w (ZR (wrL r a0 c0 B)).fp] w17)
 refine kk <| Z0y <| wv 18 (pt r 0) <| wv 4 (pt r 0) <| znt <| Zq <| ze1 (pt r 0) ?_
 have hX : ((B ++ Zi (tx.length : Int)) ++ tx) = (B ++ ZK tx) := by unfold ZK Zi; rw [show (max 0 (tx.length : Int)).toNat = tx.length by omega, List.append_assoc]
 exact ⟨a14, c15, rfl, (H18.pick [0, 1, 2] (by decide)).cast (by show [_, _, _] = _; rw [hX])⟩
theorem Z6i (w : World) :
  Calls Tryz.prog 157 #[] w fun e w' => ∃ r a c, e = .returned (.pointer (some ⟨r, 0, none⟩)) ∧ (ZR (wrL r a c [])).ok w' ∧ Upd [] w w' ∧ ∀ q_, (ZR (wrL r a c [])).fp q_ → w.heap.size ≤ q_ := by
 have H := Sat.start0 w
 refine Z8 Tryz.func157 rfl 3 rfl kn ?_
 refine zsl <| wv 0 (.pointer none) <| Z0y <| wv 1 (.agg ⟨([(.slice none 0 0)] : List Value)⟩) <| zy <| zdb ([(.slice none 0 0)] : List Value) H fun b2 w3 H4 => ?_
 refine kk <| wv 0 (pt b2 0) <| znt <| Zq <| ze1 (pt b2 0) ?_
 have H5 := H4.addNil 5 1
 exact ⟨b2, none, 0, rfl, H5.fn [1, 2], H5.upd 0 rfl [] ne, H5.freshS 0 rfl (fun _ h => h) [1, 2] rfl rfl⟩
theorem Zdw (w : World) (s : List UInt8) (hs : 0 < s.length ∧ s.length ≤ 1000000) :
  Calls Tryz.prog 140 #[(Z3R s)] w fun e w' => ∃ r a c, e = .returned (.pointer (some ⟨r, 0, none⟩)) ∧ (ZR (wrL r a c (ZK s))).ok w' ∧ Upd [] w w' ∧ ∀ q_, (ZR (wrL r a c (ZK s))).fp q_ → w.heap.size ≤ q_ := by
 have H := Sat.start0 w
 refine Z8 Tryz.func140 rfl 7 rfl kn ?_
 refine zsl <| wv 2 (.pointer none) <| Z0y <| zy <| zdc 3 (Z6i w) ?_
 rintro _ w2 ⟨r3, a4, c5, rfl, k6, p7, q8⟩
 have H9 := H.addU p7 k6 q8
 have H10 := H9.open 1 rfl
 refine ⟨_, rfl, ?_⟩
 refine kk <| wv 4 (Z3R s) <| zy <| ZdG (e := 5) (s := s) rfl H10 kr kr kr rfl om om fun b14 c15 w12 H13 => ?_
 refine kk <| zy ?_
 have l22 := Z0D s
 refine zdc 6 (Z3l w12 r3 a4 c5 ([] : List UInt8) (H13.fn [1, 2]) (by simp) (some ⟨b14, 0, none⟩) c15 s (ListAt.ofTxt (H13.at 3 rfl)) (Z7Q (fun b hb => H13.offP [1, 2] 3 rfl rfl (by decide) hb)) (by first | omega | simp)) ?_
 rintro _ w17 ⟨a19, c20, rfl, T18⟩
 have H23 := H13.tl [Z0 r3 266 (Za8 a19 ((([] : List UInt8) ++ ZK s).length) c20), (Zeh a19 (([] : List UInt8) ++ ZK s) c20)] [1, 2] [0, 3] T18 [2, 0, 1, 3]
 refine ⟨_, rfl, ?_⟩
 refine kk <| wv 2 (pt r3 0) <| znt <| Zq <| ze1 (pt r3 0) ?_
 have hX : (([] : List UInt8) ++ ZK s) = ZK s := by exact List.nil_append _
 exact ⟨r3, a19, c20, rfl, (by rw [← hX]; exact H23.fn [1, 2]), H23.upd 0 rfl [] ne, (by rw [← hX]; exact H23.freshS 0 rfl (fun _ h => h) [1, 2] rfl rfl)⟩
structure Z1d where
 r : Int
 i : Int
 sb : Int
 sm : Int
deriving DecidableEq
def Z3n (d : Z1d) : List Value := [.int .i64 d.r, .int .i64 d.i, .int .i64 d.sb, .int .i64 d.sm]
theorem Zc5 (d : Z1d) : (Z3n d).length = 4 := rfl
theorem Z8L (d : Z1d) : (Z3n d).all (·.oneCell') = true := by simp [Z3n, Value.oneCell']
def Z16 : Z1d := ⟨0, 0, 0, 0⟩
def Z02 (r i : Int) : List UInt8 := [ZK [100, 101, 110, 121], Zi r, Zi i].flatten
theorem Z6V (r i : Int) : (Z02 r i).length ≤ 40 := by
 unfold Z02
 have h1 := Z0D [100, 101, 110, 121]
 have h2 := ZM r
 have h3 := ZM i
 simp only [List.length_cons, List.length_nil] at h1
 simp only [List.flatten_cons, List.flatten_nil, List.length_append, List.length_nil]
 omega
end Go.Proofs.YtenihpghfdcpkaaGreat
