/- WHAT IS PROVED: contracts and plain laws of KpL, Own11, Com11, Wk11. Conditions: stated with each. -/
import Derived.Test.YtoaifondpohniaaGreatPL04
import Derived.Test.YtoaifondpohniaaGreatPL06
import Derived.Test.YtoaifondpohniaaGreatPL17
import Derived.Test.YtoaifondpohniaaGreatPL28
import Derived.Test.YtoaifondpohniaaGreatPL33
import Derived.Test.YtoaifondpohniaaGreatPL35
set_option maxHeartbeats 4000000
set_option maxRecDepth 100000
namespace Go.Proofs.YtoaifondpohniaaGreat
open Go.RowKit
abbrev Z8S (p0 : Za) : List Value := ([(.int .i64 p0.r), (.int .i64 p0.cl), (.int .i64 p0.seq)] : List Value) ++ hc p0.h ++ ([(.int .u64 p0.t), (.int .i64 p0.sb), (.int .i64 p0.sm)] : List Value)
abbrev Zc4 (p0 : CeR) : List Value := ([(.int .i64 p0.x.cl), (.int .i64 p0.x.seq)] : List Value) ++ hc p0.x.h ++ ([(.int .i64 p0.x.len), (.int .i64 p0.x.sb), (.int .i64 p0.x.sm), (.slice p0.sa p0.S.length p0.sc)] : List Value)
abbrev Zc5 (p0 : Zg) : List Value := ([(.int .i64 p0.cl), (.int .i64 p0.seq)] : List Value) ++ hc p0.h ++ ([(.int .i64 p0.len), (.int .i64 p0.sb), (.int .i64 p0.sm)] : List Value)
abbrev Z8T (p0 : Zg) (p1 : CeR) (p2 : Nat) : List Value := ([(.int .i64 p0.cl), (.int .i64 p0.seq)] : List Value) ++ hc p0.h ++ ([(.int .i64 p0.len), (.int .i64 p0.sb), (.int .i64 p0.sm), (.slice p1.sa p2 p1.sc)] : List Value)
abbrev Zc6 (p0 : PrR) : List Value := ([(.int .i64 p0.r), (.int .i64 p0.e), (.int .u64 p0.f), (.slice p0.ca p0.C.length p0.cc), (.int .i64 p0.sb), (.int .i64 p0.sm)] : List Value)
theorem ZaL {α β : Type} {f : α → β} {C D : List α} (h : D.map f = C.map f) : D.length = C.length := by
 have q := congrArg List.length h
 simpa using q
def Zci (p : PrR) : Int × Int × Int × Int × Int × List (Zg × List Za) := (p.r, p.e, p.f, p.sb, p.sm, p.C.map fun c => (c.x, c.S))
theorem Z9L (w : World) (va : Option Addr) (vc : Nat) (xs : List Za) (hxs : ListAt Z0q 38 w (.slice va xs.length vc) xs) (ua : Option Addr) (uc : Nat) (ys : List Za) (hys : ListAt Z0q 38 w (.slice ua ys.length uc) ys) (hxy : ys = xs) :
  Calls Tryz.prog 62 #[(.slice va xs.length vc), (.slice ua ys.length uc)] w fun e w' => e = .returned (.bool true) ∧ Upd [] w w' := by
 have H := Sat.start0 w
 have hlen : ys.length = xs.length := by rw [hxy]
 have hle := SliceOf.le hxs
 unfold maxLen at hle
 refine Zh Tryz.func62 rfl 26 rfl (Nat.le_of_ble_eq_true rfl) ?_
 apply zsl
 refine wv 4 (.bool false) ?_
 apply znt
 apply Zd
 apply zsl
 refine wv 6 (.slice va xs.length vc) ?_
 refine wv 7 (.int .i64 ((xs.length : Int))) ?_
 refine wv 8 (.slice ua ys.length uc) ?_
 refine wv 9 (.int .i64 ((ys.length : Int))) ?_
 refine wv 10 (.bool (!(decide ((xs.length : Int) = (ys.length : Int))))) ?_
 apply znt
 have b1 : (!(decide ((xs.length : Int) = (ys.length : Int)))) = false := by rw [decide_eq_true (by omega)]; rfl
 have g2 := Zj b1
 have g3 := of_decide_eq_true g2
 refine Z1w _ b1 ?_
 apply ZW
 apply ztn
 apply Zd
 apply zsl
 refine wv 5 (.int .i64 (0)) ?_
 apply znt
 apply ZM
 refine Z0b ([4, 5] ++ List.range' 11 15) (fun F_ W_ m_ => ∃ (i : Nat), F_ 5 = (.int .i64 ((i : Int))) ∧ (i ≤ xs.length) ∧ Sat w [Z7 w (fun _ => False)] W_ ∧ m_ = xs.length - i) _ ⟨0, (show ((.int .i64 (0)) : Value) = _ by first | rfl | go_num), (Nat.zero_le _), H, rfl⟩ ?_
 rintro g4 w5 _ ⟨i, v7, hi, H6, rfl⟩
 refine Zl 5 _ v7 ?_
 apply Zd
 apply zsl
 refine wv 11 (.int .i64 ((i : Int))) ?_
 refine wv 12 (.slice va xs.length vc) ?_
 refine wv 13 (.int .i64 ((xs.length : Int))) ?_
 refine wv 14 (.bool (decide ((i : Int) < (xs.length : Int)))) ?_
 apply znt
 refine (Zr (decide ((i : Int) < (xs.length : Int)))).elim (fun b9 => ?_) (fun b9 => ?_)
 ·have g10 := of_decide_eq_true b9
  refine Z1V _ b9 ?_
  apply ZW
  apply ztn
  apply Zd
  apply ZM
  apply Zd
  refine zqs H6 ?_
  refine qv 17 (.slice va xs.length vc) ?_
  refine qv 18 (.int .i64 ((i : Int))) ?_
  obtain ⟨g12, o13, c14, e15, R16⟩ := SliceOf.atD hxs Ze (show i < xs.length by omega)
  refine qv 19 (.pointer (some ⟨g12, o13 + ((i : Int)).toNat * 38, none⟩)) ?_ (hr := fun _ H' => (ZV (E := 101) (by kernel_rfl) (by kernel_rfl) (Nat.le_of_ble_eq_true rfl) rfl e15 rfl (by omega) (by omega)))
  refine qv 20 (.agg ⟨(Z8S (xs.getD i Ze))⟩) ?_ (hr := fun _ H' => (Z0k (vs := (Z8S (xs.getD i Ze))) rfl (by kernel_rfl) (by kernel_rfl) (Nat.le_of_ble_eq_true (by kernel_rfl)) (H'.runR 0 rfl (Z16 R16 0 (by kernel_rfl) (show o13 + ((i : Int)).toNat * 38 = o13 + i * 38 + 0 by omega)) (fun h => h))))
  refine qv 21 (.slice ua ys.length uc) ?_
  refine qv 22 (.int .i64 ((i : Int))) ?_
  obtain ⟨g17, o18, c19, e20, R21⟩ := SliceOf.atD hys Ze (show i < ys.length by omega)
  refine qv 23 (.pointer (some ⟨g17, o18 + ((i : Int)).toNat * 38, none⟩)) ?_ (hr := fun _ H' => (ZV (E := 101) (by kernel_rfl) (by kernel_rfl) (Nat.le_of_ble_eq_true rfl) rfl e20 rfl (by omega) (by omega)))
  refine qv 24 (.agg ⟨(Z8S (ys.getD i Ze))⟩) ?_ (hr := fun _ H' => (Z0k (vs := (Z8S (ys.getD i Ze))) rfl (by kernel_rfl) (by kernel_rfl) (Nat.le_of_ble_eq_true (by kernel_rfl)) (H'.runR 0 rfl (Z16 R21 0 (by kernel_rfl) (show o18 + ((i : Int)).toNat * 38 = o18 + i * 38 + 0 by omega)) (fun h => h))))
  refine qv 25 (.bool (!(decide ((xs.getD i Ze) = (ys.getD i Ze))))) ?_ (hr := fun _ H' => (stF.e_ne (xs.getD i Ze) (ys.getD i Ze) rfl rfl))
  refine Z1a ?_
  intro w22 H23
  apply ztn
  have b24 : (!(decide ((xs.getD i Ze) = (ys.getD i Ze)))) = false := by rw [decide_eq_true (by rw [hxy])]; rfl
  have g25 := Zj b24
  have g26 := of_decide_eq_true g25
  refine Z1w _ b24 ?_
  apply ZW
  apply Zw
  apply ztn
  apply Zq
  refine wv 15 (.int .i64 ((i : Int))) ?_
  refine zwi 16 ((i : Int) + 1) ?_
  refine wv 5 (.int .i64 ((i : Int) + 1)) ?_
  apply Zn
  refine ZF ?_ _ ⟨(i + 1), rfl, (by omega), H23, rfl⟩ (by omega)
  exact zs
 have g27 := of_decide_eq_false b9
 refine Z1w _ b9 ?_
 apply zxb
 apply ztn
 apply zsl
 refine wv 4 (.bool true) ?_
 apply znt
 apply ZI
 refine ze1 (.bool true) ?_
 exact ⟨rfl, H6.upd 0 rfl [] (fun _ h => h.elim)⟩
theorem Z7y (w : World) (c d : CeR) (hc_ : Zcp w c) (hd_ : Zcp w d) (hx : d.x = c.x) (hS : d.S = c.S) :
  Calls Tryz.prog 27 #[(.agg ⟨(([(.int .i64 (c.x.cl)), (.int .i64 (c.x.seq))] : List Value) ++ hc c.x.h ++ ([(.int .i64 (c.x.len)), (.int .i64 (c.x.sb)), (.int .i64 (c.x.sm)), (.slice c.sa c.S.length c.sc)] : List Value))⟩), (.agg ⟨(([(.int .i64 (d.x.cl)), (.int .i64 (d.x.seq))] : List Value) ++ hc d.x.h ++ ([(.int .i64 (d.x.len)), (.int .i64 (d.x.sb)), (.int .i64 (d.x.sm)), (.slice d.sa d.S.length d.sc)] : List Value))⟩)] w fun e w' => e = .returned (.bool true) ∧ Upd [] w w' := by
 have H := Sat.start0 w
 refine Zh Tryz.func27 rfl 17 rfl (Nat.le_of_ble_eq_true rfl) ?_
 apply zsl
 refine zwd fun Kq kq => ?_
 refine zdb (Zc4 c) H ?_
 intro b2 w3 H4
 refine kq _ _ ?_
 clear kq Kq
 refine zwd fun Kq kq => ?_
 refine zdb (Zc4 d) H4 ?_
 intro b6 w7 H8
 refine kq _ _ ?_
 clear kq Kq
 refine wv 4 (.bool false) ?_
 apply Z2Q
 refine wv 5 (pt b2 0) ?_
 refine zwN 6 (Zc5 c.x) (H8.at 1 rfl) ?_
 refine wv 7 (pt b6 0) ?_
 refine zwN 8 (Zc5 d.x) (H8.at 2 rfl) ?_
 refine wv 9 (.bool (decide (c.x = d.x))) ?_ (hr := coF.e_eq c.x d.x rfl rfl)
 refine wv 10 (.bool (decide (c.x = d.x))) ?_
 have b9 : (decide (c.x = d.x)) = true := by exact decide_eq_true hx.symm
 refine ZJ 10 (.bool true) (congrArg Value.bool b9) ?_
 have g10 := of_decide_eq_true b9
 refine wy 5 10 true 11 (pt b2 37) ?_
 refine wy 5 10 true 12 (.slice c.sa c.S.length c.sc) ?_ (hr := Z8 rfl (by kernel_rfl) (H8.cell 1 rfl (by kernel_rfl)))
 refine wy 5 10 true 13 (pt b6 37) ?_
 refine wy 5 10 true 14 (.slice d.sa d.S.length d.sc) ?_ (hr := Z8 rfl (by kernel_rfl) (H8.cell 2 rfl (by kernel_rfl)))
 refine Z07 (ZD 5 10 true rfl (by kernel_rfl) rfl (by kernel_rfl)) (fun Kq kq => ?_)
 refine zdq 15 (Z9L w7 c.sa c.sc c.S (ListAt.now H8 0 rfl hc_) d.sa d.sc d.S (ListAt.now H8 0 rfl hd_) hS) H8 ?_
 intro w12 H13
 refine kq _ _ ?_
 clear kq Kq
 refine wv 16 (.bool true) ?_
 refine wv 4 (.bool true) ?_
 apply znt
 apply ZI
 refine ze1 (.bool true) ?_
 exact ⟨rfl, H13.upd 0 rfl [] (fun _ h => h.elim)⟩
theorem ce_at {C D : List CeR} (h : D.map (fun c => (c.x, c.S)) = C.map fun c => (c.x, c.S)) {i : Nat} (hi : i < C.length) : (D.getD i ce0).x = (C.getD i ce0).x ∧ (D.getD i ce0).S = (C.getD i ce0).S := by
 have hl := ZaL h
 have e := congrArg (fun l => l[i]?) h
 simp only [List.getElem?_map, List.getElem?_eq_getElem hi, List.getElem?_eq_getElem (show i < D.length by omega), Option.map_some, Option.some.injEq, Prod.mk.injEq] at e
 rw [List.getD_eq_getElem?_getD, List.getD_eq_getElem?_getD, List.getElem?_eq_getElem hi, List.getElem?_eq_getElem (show i < D.length by omega)]
 exact e
theorem Z6q (w : World) (va : Option Addr) (vc : Nat) (C : List CeR) (hC : ListAt Z03 38 w (.slice va C.length vc) C) (hCo : ∀ c ∈ C, Zcp w c) (ua : Option Addr) (uc : Nat) (D : List CeR) (hD : ListAt Z03 38 w (.slice ua D.length uc) D) (hDo : ∀ c ∈ D, Zcp w c) (he : D.map (fun c => (c.x, c.S)) = C.map fun c => (c.x, c.S)) :
  Calls Tryz.prog 69 #[(.slice va C.length vc), (.slice ua D.length uc)] w fun e w' => e = .returned (.bool true) ∧ Upd [] w w' := by
 have H := Sat.start0 w
 have hlen : D.length = C.length := ZaL he
 have hle := SliceOf.le hC
 unfold maxLen at hle
 refine Zh Tryz.func69 rfl 27 rfl (Nat.le_of_ble_eq_true rfl) ?_
 apply zsl
 refine wv 4 (.bool false) ?_
 apply znt
 apply Zd
 apply zsl
 refine wv 6 (.slice va C.length vc) ?_
 refine wv 7 (.int .i64 ((C.length : Int))) ?_
 refine wv 8 (.slice ua D.length uc) ?_
 refine wv 9 (.int .i64 ((D.length : Int))) ?_
 refine wv 10 (.bool (!(decide ((C.length : Int) = (D.length : Int))))) ?_
 apply znt
 have b1 : (!(decide ((C.length : Int) = (D.length : Int)))) = false := by rw [decide_eq_true (by omega)]; rfl
 refine Z1w _ b1 ?_
 apply ZW
 apply ztn
 apply Zd
 apply zsl
 refine wv 11 (.slice va C.length vc) ?_
 refine wv 12 (.int .i64 ((C.length : Int))) ?_
 refine wv 13 (.int .i64 (0)) ?_
 apply znt
 apply ZM
 refine Z0b ([4, 5] ++ List.range' 13 14) (fun F_ W_ m_ => ∃ (i : Nat), F_ 13 = (.int .i64 ((i : Int))) ∧ (i ≤ C.length) ∧ Sat w [Z7 w (fun _ => False)] W_ ∧ m_ = C.length - i) _ ⟨0, (show ((.int .i64 (0)) : Value) = _ by first | rfl | go_num), (Nat.zero_le _), H, rfl⟩ ?_
 rintro g4 w5 _ ⟨i, v7, hi, H6, rfl⟩
 refine Zl 13 _ v7 ?_
 apply zsl
 refine wv 14 (.bool (decide ((i : Int) < (C.length : Int)))) ?_
 apply znt
 apply Zd
 refine (Zr (decide ((i : Int) < (C.length : Int)))).elim (fun b9 => ?_) (fun b9 => ?_)
 ·have g10 := of_decide_eq_true b9
  refine Z1V _ b9 ?_
  apply ZW
  apply ztn
  apply Zd
  apply ZM
  apply zsl
  refine wv 15 (.int .i64 ((i : Int))) ?_
  refine wv 5 (.int .i64 ((i : Int))) ?_
  apply znt
  apply Zd
  refine zqs H6 ?_
  refine qv 16 (.slice va C.length vc) ?_
  refine qv 17 (.int .i64 ((i : Int))) ?_
  obtain ⟨g12, o13, c14, e15, R16⟩ := SliceOf.atD hC ce0 (show i < C.length by omega)
  refine qv 18 (.pointer (some ⟨g12, o13 + ((i : Int)).toNat * 38, none⟩)) ?_ (hr := fun _ H' => (ZV (E := 53) (by kernel_rfl) (by kernel_rfl) (Nat.le_of_ble_eq_true rfl) rfl e15 rfl (by omega) (by omega)))
  refine qv 19 (.agg ⟨(Z8T ((C.getD i ce0).x) (C.getD i ce0) (((C.getD i ce0).S).length))⟩) ?_ (hr := fun _ H' => (Z0k (vs := (Z8T ((C.getD i ce0).x) (C.getD i ce0) (((C.getD i ce0).S).length))) rfl (by kernel_rfl) (by kernel_rfl) (Nat.le_of_ble_eq_true (by kernel_rfl)) (H'.runR 0 rfl (Z16 R16 0 (by kernel_rfl) (show o13 + ((i : Int)).toNat * 38 = o13 + i * 38 + 0 by omega)) (fun h => h))))
  refine qv 20 (.slice ua D.length uc) ?_
  refine qv 21 (.int .i64 ((i : Int))) ?_
  obtain ⟨g17, o18, c19, e20, R21⟩ := SliceOf.atD hD ce0 (show i < D.length by omega)
  refine qv 22 (.pointer (some ⟨g17, o18 + ((i : Int)).toNat * 38, none⟩)) ?_ (hr := fun _ H' => (ZV (E := 53) (by kernel_rfl) (by kernel_rfl) (Nat.le_of_ble_eq_true rfl) rfl e20 rfl (by omega) (by omega)))
  refine qv 23 (.agg ⟨(Z8T ((D.getD i ce0).x) (D.getD i ce0) (((D.getD i ce0).S).length))⟩) ?_ (hr := fun _ H' => (Z0k (vs := (Z8T ((D.getD i ce0).x) (D.getD i ce0) (((D.getD i ce0).S).length))) rfl (by kernel_rfl) (by kernel_rfl) (Nat.le_of_ble_eq_true (by kernel_rfl)) (H'.runR 0 rfl (Z16 R21 0 (by kernel_rfl) (show o18 + ((i : Int)).toNat * 38 = o18 + i * 38 + 0 by omega)) (fun h => h))))
  refine Z1R (Z1 rfl) (d := 24) (v := (.bool true)) rfl (fun _ _ => by kernel_rfl) (fun w' H' => (Z7y w' (C.getD i ce0) (D.getD i ce0) (ListAt.now H' 0 rfl (hCo _ (Z3D (by omega)))) (ListAt.now H' 0 rfl (hDo _ (Z3D (by omega)))) (ce_at he (i := i) (by omega)).1 (ce_at he (i := i) (by omega)).2).mono fun _ _ h => ⟨h.1, H'.keepU h.2⟩) ?_
  refine qv 25 (.bool false) ?_
  refine Z1a ?_
  intro w22 H23
  apply ztn
  refine Z1g rfl ?_
  apply ZW
  apply Zw
  apply ztn
  apply Zq
  refine zwi 26 ((i : Int) + 1) ?_
  refine wv 13 (.int .i64 ((i : Int) + 1)) ?_
  apply Zn
  refine ZF ?_ _ ⟨(i + 1), rfl, (by omega), H23, rfl⟩ (by omega)
  exact zs
 have g24 := of_decide_eq_false b9
 refine Z1w _ b9 ?_
 apply zxb
 apply ztn
 apply zsl
 refine wv 4 (.bool true) ?_
 apply znt
 apply ZI
 refine ze1 (.bool true) ?_
 exact ⟨rfl, H6.upd 0 rfl [] (fun _ h => h.elim)⟩
theorem Zaw (w : World) (p q : PrR) (hp : PrOk w p) (hq : PrOk w q) (he : Zci q = Zci p) :
  Calls Tryz.prog 65 #[(.agg ⟨([(.int .i64 (p.r)), (.int .i64 (p.e)), (.int .u64 (p.f)), (.slice p.ca p.C.length p.cc), (.int .i64 (p.sb)), (.int .i64 (p.sm))] : List Value)⟩), (.agg ⟨([(.int .i64 (q.r)), (.int .i64 (q.e)), (.int .u64 (q.f)), (.slice q.ca q.C.length q.cc), (.int .i64 (q.sb)), (.int .i64 (q.sm))] : List Value)⟩)] w fun e w' => e = .returned (.bool true) ∧ Upd [] w w' := by
 have H := Sat.start0 w
 unfold Zci at he
 simp only [Prod.mk.injEq] at he
 obtain ⟨e1, e2, e3, e4, e5, e6⟩ := he
 refine Zh Tryz.func65 rfl 38 rfl (Nat.le_of_ble_eq_true rfl) ?_
 apply zsl
 refine zwd fun Kq kq => ?_
 refine zdb (Zc6 p) H ?_
 intro b2 w3 H4
 refine kq _ _ ?_
 clear kq Kq
 refine zwd fun Kq kq => ?_
 refine zdb (Zc6 q) H4 ?_
 intro b6 w7 H8
 refine kq _ _ ?_
 clear kq Kq
 refine wv 4 (.bool false) ?_
 apply Z2Q
 refine wv 5 (pt b2 0) ?_
 refine zw1 6 (.int .i64 (p.r)) (H8.cell 1 rfl rfl) ?_
 refine wv 7 (pt b6 0) ?_
 refine zw1 8 (.int .i64 (q.r)) (H8.cell 2 rfl rfl) ?_
 refine wv 9 (.bool (decide (p.r = q.r))) ?_
 refine wv 10 (.bool (decide (p.r = q.r))) ?_
 have b9 : (decide (p.r = q.r)) = true := by exact decide_eq_true e1.symm
 refine ZJ 10 (.bool true) (congrArg Value.bool b9) ?_
 have g10 := of_decide_eq_true b9
 refine wy 5 10 true 11 (pt b2 1) ?_
 refine wy 5 10 true 12 (.int .i64 (p.e)) ?_ (hr := Z8 rfl (by kernel_rfl) (H8.cell 1 rfl rfl))
 refine wy 5 10 true 13 (pt b6 1) ?_
 refine wy 5 10 true 14 (.int .i64 (q.e)) ?_ (hr := Z8 rfl (by kernel_rfl) (H8.cell 2 rfl rfl))
 refine wy 5 10 true 15 (.bool (decide (p.e = q.e))) ?_
 refine wv 16 (.bool (decide (p.e = q.e))) ?_
 refine wv 17 (.bool (decide (p.e = q.e))) ?_
 have b11 : (decide (p.e = q.e)) = true := by exact decide_eq_true e2.symm
 refine ZJ 17 (.bool true) (congrArg Value.bool b11) ?_
 have g12 := of_decide_eq_true b11
 refine wy 12 17 true 18 (pt b2 2) ?_
 refine wy 12 17 true 19 (.int .u64 (p.f)) ?_ (hr := Z8 rfl (by kernel_rfl) (H8.cell 1 rfl rfl))
 refine wy 12 17 true 20 (pt b6 2) ?_
 refine wy 12 17 true 21 (.int .u64 (q.f)) ?_ (hr := Z8 rfl (by kernel_rfl) (H8.cell 2 rfl rfl))
 refine wy 12 17 true 22 (.bool (decide (p.f = q.f))) ?_
 refine wv 23 (.bool (decide (p.f = q.f))) ?_
 refine wv 24 (.bool (decide (p.f = q.f))) ?_
 have b13 : (decide (p.f = q.f)) = true := by exact decide_eq_true e3.symm
 refine ZJ 24 (.bool true) (congrArg Value.bool b13) ?_
 have g14 := of_decide_eq_true b13
 refine wy 19 24 true 25 (pt b2 4) ?_
 refine wy 19 24 true 26 (.agg ⟨([(.int .i64 (p.sb)), (.int .i64 (p.sm))] : List Value)⟩) ?_ (hr := Zi (vs := ([(.int .i64 (p.sb)), (.int .i64 (p.sm))] : List Value)) rfl (by kernel_rfl) (by kernel_rfl) (by exact Nat.le_of_ble_eq_true (by kernel_rfl)) (H8.at 1 rfl) (by kernel_rfl))
 refine wy 19 24 true 27 (pt b6 4) ?_
 refine wy 19 24 true 28 (.agg ⟨([(.int .i64 (q.sb)), (.int .i64 (q.sm))] : List Value)⟩) ?_ (hr := Zi (vs := ([(.int .i64 (q.sb)), (.int .i64 (q.sm))] : List Value)) rfl (by kernel_rfl) (by kernel_rfl) (by exact Nat.le_of_ble_eq_true (by kernel_rfl)) (H8.at 2 rfl) (by kernel_rfl))
 refine wy 19 24 true 29 (.bool (decide (p.sb = q.sb ∧ p.sm = q.sm))) ?_ (hr := Zcv p.sb p.sm q.sb q.sm rfl rfl)
 refine wv 30 (.bool (decide (p.sb = q.sb ∧ p.sm = q.sm))) ?_
 refine wv 31 (.bool (decide (p.sb = q.sb ∧ p.sm = q.sm))) ?_
 have b15 : (decide (p.sb = q.sb ∧ p.sm = q.sm)) = true := by exact decide_eq_true ⟨e4.symm, e5.symm⟩
 refine ZJ 31 (.bool true) (congrArg Value.bool b15) ?_
 refine wy 26 31 true 32 (pt b2 3) ?_
 refine wy 26 31 true 33 (.slice p.ca p.C.length p.cc) ?_ (hr := Z8 rfl (by kernel_rfl) (H8.cell 1 rfl rfl))
 refine wy 26 31 true 34 (pt b6 3) ?_
 refine wy 26 31 true 35 (.slice q.ca q.C.length q.cc) ?_ (hr := Z8 rfl (by kernel_rfl) (H8.cell 2 rfl rfl))
 refine Z07 (ZD 26 31 true rfl (by kernel_rfl) rfl (by kernel_rfl)) (fun Kq kq => ?_)
 refine zdq 36 (Z6q w7 p.ca p.cc p.C (ListAt.now H8 0 rfl hp.1) (fun c hc => ListAt.now H8 0 rfl (hp.2 c hc)) q.ca q.cc q.C (ListAt.now H8 0 rfl hq.1) (fun c hc => ListAt.now H8 0 rfl (hq.2 c hc)) e6) H8 ?_
 intro w17 H18
 refine kq _ _ ?_
 clear kq Kq
 refine wv 37 (.bool true) ?_
 refine wv 4 (.bool true) ?_
 apply znt
 apply ZI
 refine ze1 (.bool true) ?_
 exact ⟨rfl, H18.upd 0 rfl [] (fun _ h => h.elim)⟩
theorem Z8n (w : World) (F Cn rp : Int) (hF : -1099511627776 ≤ F ∧ F ≤ 1099511627776) (hok : (Z1r F Cn && inB F rp) = true) :
  Calls Tryz.prog 22 #[.agg ⟨[.int .i64 F, .int .i64 Cn]⟩, .int .i64 rp] w fun e w' => ∃ t tm, e = .returned (.tuple #[.pointer (some ⟨t, 0, none⟩), .int .i64 0]) ∧ (ZL [Z0 t 121 [.int .i64 F, .int .i64 Cn, .int .i64 rp, .map (some tm)], ZQ tm nmV ceV []]).ok w' ∧ Upd [] w w' ∧ ∀ b, (ZL [Z0 t 121 [.int .i64 F, .int .i64 Cn, .int .i64 rp, .map (some tm)], ZQ tm nmV ceV []]).fp b → w.heap.size ≤ b :=
 (Z7H w F Cn rp hF).mono fun e w' q => by
  rcases q with ⟨_, h2, _⟩ | ⟨t, tm, he, _, hT⟩
  ·rw [hok] at h2; cases h2
  ·exact ⟨t, tm, he, hT.fin [0, 1] (by decide) rfl, hT.upd 2 rfl [] (fun _ h => h.elim), hT.freshS 2 rfl (fun _ h => h) [0, 1] rfl rfl⟩
theorem Z62 (w : World) :
  Calls Tryz.prog 21 #[] w fun e w' => e = .returned (.bool true) ∧ Upd [] w w' := by
 have H := Sat.start0 w
 refine Zh Tryz.func21 rfl 47 rfl (Nat.le_of_ble_eq_true rfl) ?_
 refine Zd ?_
 refine Zq ?_
 refine Z2 (Z1 rfl) (d := 0) (v := (.bool false)) rfl (by kernel_rfl) ?_
 refine Zn ?_
 refine Z4 ?_
 refine Zd ?_
 refine Zq ?_
 refine Z2 (Z1 rfl) (d := 7) (v := (.agg ⟨([(.int .i64 (1)), (.int .i64 (1))] : List Value)⟩)) rfl (by kernel_rfl) ?_
 refine Z07 (Z1 rfl) (fun K1 hK1 => ?_)
 refine Z0g (d := 8) rfl (by kernel_rfl) (Z8n w 1 1 0 (by omega) (by decide)) ?_
 rintro _ w2 ⟨t3, m4, rfl, k5, u6, q7⟩
 have H8 : Sat w [Z7 w (fun _ => False), ZL [Z0 t3 121 [.int .i64 1, .int .i64 1, .int .i64 0, .map (some m4)], ZQ m4 nmV ceV []]] w2 := H.addU u6 k5 q7
 have H9 : Sat w [Z7 w (fun _ => False), Z0 t3 121 ([(.int .i64 (1)), (.int .i64 (1)), (.int .i64 (0)), (.map (some m4))] : List Value), ZQ m4 nmV ceV []] w2 := H8.open 1 rfl
 refine ⟨_, rfl, ?_⟩
 refine hK1 _ _ ?_
 clear hK1 K1
 refine Z2 (Z1 rfl) (d := 6) (v := (.tuple #[(.pointer (some ⟨t3, 0, none⟩)), (.int .i64 (0))])) rfl (by kernel_rfl) ?_
 refine Z2 (Z1 rfl) (d := 9) (v := (.pointer (some ⟨t3, 0, none⟩))) rfl (by kernel_rfl) ?_
 refine Z2 (Z1 rfl) (d := 10) (v := (.int .i64 (0))) rfl (by kernel_rfl) ?_
 refine Z2 (Z1 rfl) (d := 1) (v := (.pointer (some ⟨t3, 0, none⟩))) rfl (by kernel_rfl) ?_
 refine Z2 (Z1 rfl) (d := 2) (v := (.int .i64 (0))) rfl (by kernel_rfl) ?_
 refine Zn ?_
 refine Z4 ?_
 refine Zd ?_
 refine Zq ?_
 refine Z07 (Z1 rfl) (fun K10 hK10 => ?_)
 refine Z0g (d := 11) rfl (by kernel_rfl) (Z97 w2) ?_
 rintro _ w11 ⟨b12, m13, rfl, k14, p15, q16⟩
 have H17 : Sat w [Z7 w (fun _ => False), Z0 t3 121 ([(.int .i64 (1)), (.int .i64 (1)), (.int .i64 (0)), (.map (some m4))] : List Value), ZQ m4 nmV ceV [], ZL [Z0 b12 110 [.map (some m13)], ZQ m13 Zz (Value.int .i64) (ZS [])]] w11 := H9.addU p15 k14 q16
 have H18 : Sat w [Z7 w (fun _ => False), Z0 t3 121 ([(.int .i64 (1)), (.int .i64 (1)), (.int .i64 (0)), (.map (some m4))] : List Value), ZQ m4 nmV ceV [], Z0 b12 110 ([(.map (some m13))] : List Value), ZQ m13 Zz (Value.int .i64) (ZS [])] w11 := H17.open 3 rfl
 refine ⟨_, rfl, ?_⟩
 refine hK10 _ _ ?_
 clear hK10 K10
 refine Z2 (Z1 rfl) (d := 3) (v := (.pointer (some ⟨b12, 0, none⟩))) rfl (by kernel_rfl) ?_
 refine Zn ?_
 refine Z4 ?_
 refine Zd ?_
 refine Zd ?_
 refine Zq ?_
 refine Z2 (Z1 rfl) (d := 12) (v := (.int .i64 (0))) rfl (by kernel_rfl) ?_
 refine Z2 (Z1 rfl) (d := 13) (v := (.bool false)) rfl (by kernel_rfl) ?_
 refine Z2 (Z1 rfl) (d := 14) (v := (.bool false)) rfl (by kernel_rfl) ?_
 refine Z2 (ZD 2 14 false rfl (by kernel_rfl) rfl (by kernel_rfl)) (d := 15) (v := (.pointer (some ⟨t3, 0, none⟩))) rfl (by kernel_rfl) ?_
 refine Z2 (ZD 2 14 false rfl (by kernel_rfl) rfl (by kernel_rfl)) (d := 16) (v := (.bool false)) rfl (by kernel_rfl) ?_
 refine Z2 (Z1 rfl) (d := 17) (v := (.bool false)) rfl (by kernel_rfl) ?_
 refine Z2 (Z1 rfl) (d := 18) (v := (.bool false)) rfl (by kernel_rfl) ?_
 refine Z2 (ZD 6 18 false rfl (by kernel_rfl) rfl (by kernel_rfl)) (d := 19) (v := (.pointer (some ⟨b12, 0, none⟩))) rfl (by kernel_rfl) ?_
 refine Z2 (ZD 6 18 false rfl (by kernel_rfl) rfl (by kernel_rfl)) (d := 20) (v := (.bool false)) rfl (by kernel_rfl) ?_
 refine Z2 (Z1 rfl) (d := 21) (v := (.bool false)) rfl (by kernel_rfl) ?_
 refine Zn ?_
 refine Z4 ?_
 refine Z1g rfl ?_
 refine ZW ?_
 refine Z4 ?_
 refine Zd ?_
 have H19 := H18.bag0
 refine Zq ?_
 refine Z2 (Z1 rfl) (d := 23) (v := (.pointer (some ⟨t3, 0, none⟩))) rfl (by kernel_rfl) ?_
 refine Z2 (Z1 rfl) (d := 24) (v := (.pointer (some ⟨b12, 0, none⟩))) rfl (by kernel_rfl) ?_
 refine Z07 (Z1 rfl) (fun K20 hK20 => ?_)
 refine Z0g (d := 25) rfl (by kernel_rfl) (Z4y w11 t3 m4 1 1 0 ([]) [] b12 m13 ([]) (H19.fin [1, 2, 5, 3, 4] (by decide) rfl) (fun q hq => absurd hq List.not_mem_nil) (Nat.zero_le _) (by omega) List.nodup_nil (Nat.zero_le _) 0 0 5 (by omega) (by omega)) ?_
 rintro _ wp21 ⟨ca21, cc21, HL21, Bh21, ss21, rfl, hs21, hsp21, hco21, hcD21, hT21⟩
 have H22 : Sat w [Z7 w (fun _ => False), Z0 t3 121 ([(.int .i64 (1)), (.int .i64 (1)), (.int .i64 (0)), (.map (some m4))] : List Value), ZQ m4 nmV ceV [], Z0 b12 110 ([(.map (some m13))] : List Value), ZQ m13 Zz (Value.int .i64) (ZS (Zp ([]) (⟨0, Z0f (⟨0, 0, 5, ca21, cc21, 0, 0, (Z0a HL21 0 5)⟩ : PrR)⟩ : Signed))), ZY [], Zk 53 38 (.slice ca21 ((Z0a HL21 0 5).length) cc21) ((Z0a HL21 0 5).length) ((Z0a HL21 0 5).flatMap Z03), ZY Bh21] wp21 := (Sat.turnL (L' := [Z0 t3 121 ([(.int .i64 (1)), (.int .i64 (1)), (.int .i64 (0)), (.map (some m4))] : List Value), ZQ m4 nmV ceV [], ZY [], Z0 b12 110 ([(.map (some m13))] : List Value), ZQ m13 Zz (Value.int .i64) (ZS (Zp ([]) (⟨0, Z0f (⟨0, 0, 5, ca21, cc21, 0, 0, (Z0a HL21 0 5)⟩ : PrR)⟩ : Signed))), Zk 53 38 (.slice ca21 ((Z0a HL21 0 5).length) cc21) ((Z0a HL21 0 5).length) ((Z0a HL21 0 5).flatMap Z03), ZY Bh21]) (R := [Z7 w (fun _ => False)]) H19 [1, 2, 5, 3, 4] [0] (by decide) (by kernel_rfl) rfl hT21).pick [7, 0, 1, 3, 4, 2, 5, 6] (by decide)
 refine ⟨_, rfl, ?_⟩
 have hl0 : HL21.length = 0 := by have q1 := Z8l hco21; have q2 := hs21.length_eq; rw [List.length_map] at q2; rw [q1, q2]; rfl
 have hl1 : (Z0a HL21 0 5).length = 0 := by have q := Z7c (L := HL21) (last := 0) (tm := 5); omega
 have hm1 : ZB (Zp ([]) (⟨0, Z0f (⟨0, 0, 5, ca21, cc21, 0, 0, (Z0a HL21 0 5)⟩ : PrR)⟩ : Signed)) (⟨0, Z0f (⟨0, 0, 5, ca21, cc21, 0, 0, (Z0a HL21 0 5)⟩ : PrR)⟩ : Signed) = 1 := by simp [ZB, Zp]
 refine hK20 _ _ ?_
 clear hK20 K20
 refine Z2 (Z1 rfl) (d := 22) (v := (.tuple #[(.agg ⟨([(.int .i64 (0)), (.int .i64 (0)), (.int .u64 (5)), (.slice ca21 ((Z0a HL21 0 5).length) cc21), (.int .i64 (0)), (.int .i64 (ZB (Zp ([]) (⟨0, Z0f (⟨0, 0, 5, ca21, cc21, 0, 0, (Z0a HL21 0 5)⟩ : PrR)⟩ : Signed)) (⟨0, Z0f (⟨0, 0, 5, ca21, cc21, 0, 0, (Z0a HL21 0 5)⟩ : PrR)⟩ : Signed)))] : List Value)⟩), (.int .i64 (0))])) rfl (by kernel_rfl) ?_
 refine Z2 (Z1 rfl) (d := 26) (v := (.agg ⟨([(.int .i64 (0)), (.int .i64 (0)), (.int .u64 (5)), (.slice ca21 ((Z0a HL21 0 5).length) cc21), (.int .i64 (0)), (.int .i64 (ZB (Zp ([]) (⟨0, Z0f (⟨0, 0, 5, ca21, cc21, 0, 0, (Z0a HL21 0 5)⟩ : PrR)⟩ : Signed)) (⟨0, Z0f (⟨0, 0, 5, ca21, cc21, 0, 0, (Z0a HL21 0 5)⟩ : PrR)⟩ : Signed)))] : List Value)⟩)) rfl (by kernel_rfl) ?_
 refine Z2 (Z1 rfl) (d := 27) (v := (.int .i64 (0))) rfl (by kernel_rfl) ?_
 refine Z07 (Z1 rfl) (fun K23 hK23 => ?_)
 refine Z2q (zs := ([(.int .i64 (0)), (.int .i64 (0)), (.int .u64 (0)), (.slice none 0 0), (.int .i64 (0)), (.int .i64 (0))] : List Value)) (z := (.agg ⟨([(.int .i64 (0)), (.int .i64 (0)), (.int .u64 (0)), (.slice none 0 0), (.int .i64 (0)), (.int .i64 (0))] : List Value)⟩)) rfl H22 (by kernel_rfl) (by kernel_rfl) ?_
 intro b24 w25 (H26 : Sat w [Z7 w (fun _ => False), Z0 t3 121 ([(.int .i64 (1)), (.int .i64 (1)), (.int .i64 (0)), (.map (some m4))] : List Value), ZQ m4 nmV ceV [], Z0 b12 110 ([(.map (some m13))] : List Value), ZQ m13 Zz (Value.int .i64) (ZS (Zp ([]) (⟨0, Z0f (⟨0, 0, 5, ca21, cc21, 0, 0, (Z0a HL21 0 5)⟩ : PrR)⟩ : Signed))), ZY [], Zk 53 38 (.slice ca21 ((Z0a HL21 0 5).length) cc21) ((Z0a HL21 0 5).length) ((Z0a HL21 0 5).flatMap Z03), ZY Bh21, Z0 b24 34 ([(.int .i64 (0)), (.int .i64 (0)), (.int .u64 (0)), (.slice none 0 0), (.int .i64 (0)), (.int .i64 (0))] : List Value)] w25)
 refine hK23 _ _ ?_
 clear hK23 K23
 refine Z07 (Z1 rfl) (fun K27 hK27 => ?_)
 refine Z1U (vs := ([(.int .i64 (0)), (.int .i64 (0)), (.int .u64 (5)), (.slice ca21 ((Z0a HL21 0 5).length) cc21), (.int .i64 (0)), (.int .i64 (ZB (Zp ([]) (⟨0, Z0f (⟨0, 0, 5, ca21, cc21, 0, 0, (Z0a HL21 0 5)⟩ : PrR)⟩ : Signed)) (⟨0, Z0f (⟨0, 0, 5, ca21, cc21, 0, 0, (Z0a HL21 0 5)⟩ : PrR)⟩ : Signed)))] : List Value)) (cs' := ([(.int .i64 (0)), (.int .i64 (0)), (.int .u64 (5)), (.slice ca21 ((Z0a HL21 0 5).length) cc21), (.int .i64 (0)), (.int .i64 (ZB (Zp ([]) (⟨0, Z0f (⟨0, 0, 5, ca21, cc21, 0, 0, (Z0a HL21 0 5)⟩ : PrR)⟩ : Signed)) (⟨0, Z0f (⟨0, 0, 5, ca21, cc21, 0, 0, (Z0a HL21 0 5)⟩ : PrR)⟩ : Signed)))] : List Value)) rfl H26 8 rfl rfl rfl rfl (by kernel_rfl) (Nat.le_of_ble_eq_true (by kernel_rfl)) (Nat.le_of_ble_eq_true (by kernel_rfl)) (by kernel_rfl) (by kernel_rfl) ?_
 intro w28 (H29 : Sat w [Z7 w (fun _ => False), Z0 t3 121 ([(.int .i64 (1)), (.int .i64 (1)), (.int .i64 (0)), (.map (some m4))] : List Value), ZQ m4 nmV ceV [], Z0 b12 110 ([(.map (some m13))] : List Value), ZQ m13 Zz (Value.int .i64) (ZS (Zp ([]) (⟨0, Z0f (⟨0, 0, 5, ca21, cc21, 0, 0, (Z0a HL21 0 5)⟩ : PrR)⟩ : Signed))), ZY [], Zk 53 38 (.slice ca21 ((Z0a HL21 0 5).length) cc21) ((Z0a HL21 0 5).length) ((Z0a HL21 0 5).flatMap Z03), ZY Bh21, Z0 b24 34 ([(.int .i64 (0)), (.int .i64 (0)), (.int .u64 (5)), (.slice ca21 ((Z0a HL21 0 5).length) cc21), (.int .i64 (0)), (.int .i64 (ZB (Zp ([]) (⟨0, Z0f (⟨0, 0, 5, ca21, cc21, 0, 0, (Z0a HL21 0 5)⟩ : PrR)⟩ : Signed)) (⟨0, Z0f (⟨0, 0, 5, ca21, cc21, 0, 0, (Z0a HL21 0 5)⟩ : PrR)⟩ : Signed)))] : List Value)] w28)
 refine hK27 _ _ ?_
 clear hK27 K27
 refine Z2 (Z1 rfl) (d := 5) (v := (.int .i64 (0))) rfl (by kernel_rfl) ?_
 refine Zn ?_
 refine Z4 ?_
 refine Zd ?_
 refine Zq ?_
 refine Z2 (Z1 rfl) (d := 28) (v := (.int .i64 (0))) rfl (by kernel_rfl) ?_
 refine Z2 (Z1 rfl) (d := 29) (v := (.bool true)) rfl (by kernel_rfl) ?_
 refine Z2 (Z1 rfl) (d := 30) (v := (.bool true)) rfl (by kernel_rfl) ?_
 refine Z2 (ZD 2 30 true rfl (by kernel_rfl) rfl (by kernel_rfl)) (d := 31) (v := (.pointer (some ⟨b24, 3, none⟩))) rfl (by kernel_rfl) ?_
 refine Z2 (ZD 2 30 true rfl (by kernel_rfl) rfl (by kernel_rfl)) (d := 32) (v := (.slice ca21 ((Z0a HL21 0 5).length) cc21)) rfl (Z8 rfl (by kernel_rfl) (H29.cell 8 rfl rfl)) ?_
 refine Z2 (ZD 2 30 true rfl (by kernel_rfl) rfl (by kernel_rfl)) (d := 33) (v := (.int .i64 (((Z0a HL21 0 5).length : Int)))) rfl (by kernel_rfl) ?_
 refine Z2 (ZD 2 30 true rfl (by kernel_rfl) rfl (by kernel_rfl)) (d := 34) (v := (.bool (decide (((Z0a HL21 0 5).length : Int) = 0)))) rfl (by kernel_rfl) ?_
 refine Z2 (Z1 rfl) (d := 35) (v := (.bool (decide (((Z0a HL21 0 5).length : Int) = 0)))) rfl (by kernel_rfl) ?_
 refine Z2 (Z1 rfl) (d := 36) (v := (.bool (decide (((Z0a HL21 0 5).length : Int) = 0)))) rfl (by kernel_rfl) ?_
 have b31 : (decide (((Z0a HL21 0 5).length : Int) = 0)) = true := by exact decide_eq_true (by omega)
 refine ZJ 36 (.bool true) (congrArg Value.bool b31) ?_
 have g32 := of_decide_eq_true b31
 refine Z2 (ZD 8 36 true rfl (by kernel_rfl) rfl (by kernel_rfl)) (d := 37) (v := (.pointer (some ⟨b24, 2, none⟩))) rfl (by kernel_rfl) ?_
 refine Z2 (ZD 8 36 true rfl (by kernel_rfl) rfl (by kernel_rfl)) (d := 38) (v := (.int .u64 (5))) rfl (Z8 rfl (by kernel_rfl) (H29.cell 8 rfl rfl)) ?_
 refine Z2 (ZD 8 36 true rfl (by kernel_rfl) rfl (by kernel_rfl)) (d := 39) (v := (.bool true)) rfl (by kernel_rfl) ?_
 refine Z2 (Z1 rfl) (d := 40) (v := (.bool true)) rfl (by kernel_rfl) ?_
 refine Z2 (Z1 rfl) (d := 41) (v := (.bool true)) rfl (by kernel_rfl) ?_
 refine Z2 (ZD 13 41 true rfl (by kernel_rfl) rfl (by kernel_rfl)) (d := 42) (v := (.pointer (some ⟨b24, 4, none⟩))) rfl (by kernel_rfl) ?_
 refine Z2 (ZD 13 41 true rfl (by kernel_rfl) rfl (by kernel_rfl)) (d := 43) (v := (.pointer (some ⟨b24, 5, none⟩))) rfl (by kernel_rfl) ?_
 refine Z2 (ZD 13 41 true rfl (by kernel_rfl) rfl (by kernel_rfl)) (d := 44) (v := (.int .i64 (ZB (Zp ([]) (⟨0, Z0f (⟨0, 0, 5, ca21, cc21, 0, 0, (Z0a HL21 0 5)⟩ : PrR)⟩ : Signed)) (⟨0, Z0f (⟨0, 0, 5, ca21, cc21, 0, 0, (Z0a HL21 0 5)⟩ : PrR)⟩ : Signed)))) rfl (Z8 rfl (by kernel_rfl) (H29.cell 8 rfl rfl)) ?_
 refine Z2 (ZD 13 41 true rfl (by kernel_rfl) rfl (by kernel_rfl)) (d := 45) (v := (.bool (decide ((ZB (Zp ([]) (⟨0, Z0f (⟨0, 0, 5, ca21, cc21, 0, 0, (Z0a HL21 0 5)⟩ : PrR)⟩ : Signed)) (⟨0, Z0f (⟨0, 0, 5, ca21, cc21, 0, 0, (Z0a HL21 0 5)⟩ : PrR)⟩ : Signed)) = 1)))) rfl (by kernel_rfl) ?_
 refine Z2 (Z1 rfl) (d := 46) (v := (.bool (decide ((ZB (Zp ([]) (⟨0, Z0f (⟨0, 0, 5, ca21, cc21, 0, 0, (Z0a HL21 0 5)⟩ : PrR)⟩ : Signed)) (⟨0, Z0f (⟨0, 0, 5, ca21, cc21, 0, 0, (Z0a HL21 0 5)⟩ : PrR)⟩ : Signed)) = 1)))) rfl (by kernel_rfl) ?_
 refine Z2 (Z1 rfl) (d := 0) (v := (.bool (decide ((ZB (Zp ([]) (⟨0, Z0f (⟨0, 0, 5, ca21, cc21, 0, 0, (Z0a HL21 0 5)⟩ : PrR)⟩ : Signed)) (⟨0, Z0f (⟨0, 0, 5, ca21, cc21, 0, 0, (Z0a HL21 0 5)⟩ : PrR)⟩ : Signed)) = 1)))) rfl (by kernel_rfl) ?_
 refine Zn ?_
 refine Z4 ?_
 refine ZI ?_
 refine Z2e rfl (ZT (v := (.bool (decide ((ZB (Zp ([]) (⟨0, Z0f (⟨0, 0, 5, ca21, cc21, 0, 0, (Z0a HL21 0 5)⟩ : PrR)⟩ : Signed)) (⟨0, Z0f (⟨0, 0, 5, ca21, cc21, 0, 0, (Z0a HL21 0 5)⟩ : PrR)⟩ : Signed)) = 1)))) rfl) ?_
 exact ⟨by rw [decide_eq_true hm1], H29.upd 0 rfl [] (fun _ h => h.elim)⟩
end Go.Proofs.YtoaifondpohniaaGreat
