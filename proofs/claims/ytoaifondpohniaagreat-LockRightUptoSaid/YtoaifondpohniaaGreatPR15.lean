/- WHAT IS PROVED: contracts and plain laws of BatA, EnA, Bag, CloneS. Conditions: stated with each. -/
import Derived.Shelf.SlicesE.Clone
import Derived.Test.YtoaifondpohniaaGreatPR03
import Derived.Test.YtoaifondpohniaaGreatPR04
import Derived.Test.YtoaifondpohniaaGreatPR05
import Derived.Test.YtoaifondpohniaaGreatPR06
import Derived.Test.YtoaifondpohniaaGreatPR11
import Derived.Test.YtoaifondpohniaaGreatPR14
set_option maxHeartbeats 4000000
set_option maxRecDepth 100000
namespace Go.Proofs.YtoaifondpohniaaGreat
open Go.RowKit
abbrev Z37 (p0 : Int) (p1 : Int) : List Value := ([(.int .i64 p0), (.int .i64 p1)] : List Value)
abbrev Zcj : List Value := ([(.pointer none), (.pointer none)] : List Value)
abbrev Z8c (p0 : Nat) (p1 : Nat) : List Value := ([(pt p0 0), (pt p1 0)] : List Value)
theorem Z1F (w : World) (v n : Int) (hn : n ≤ 4611686018427387904) :
  Calls Tryz.prog 8 #[(.int .i64 (v)), (.int .i64 (n))] w fun e w' => e = .returned (.int .i64 (Z8 v n)) ∧ Upd [] w w' := by
 have H := Sat.start0 w
 refine Zp Tryz.func8 rfl 17 rfl (Nat.le_of_ble_eq_true rfl) ?_
 apply zsl
 refine wv 4 (.int .i64 (0)) ?_
 apply znt
 apply Zt
 apply zsl
 refine wv 6 (.int .i64 (n)) ?_
 refine wv 7 (.bool (decide (n < 1))) ?_
 apply znt
 refine (Zl (decide (n < 1))).elim (fun b1 => ?_) (fun b1 => ?_)
 ·have g2 := of_decide_eq_true b1
  refine Z1o _ b1 ?_
  apply zsl
  refine wv 4 (.int .i64 (0)) ?_
  apply znt
  apply ZA
  apply Zr
  refine ze1 (.int .i64 (0)) ?_
  exact ⟨by unfold Z8; rw [if_pos (of_decide_eq_true b1)], H.upd 0 rfl [] (fun _ h => h.elim)⟩
 have g3 := of_decide_eq_false b1
 refine Z18 _ b1 ?_
 apply ZL
 apply ztn
 apply zsl
 refine wv 8 (.int .i64 (v)) ?_
 refine wv 9 (.int .i64 (n)) ?_
 refine wv 10 (.int .i64 (Int.tmod v n)) ?_ (hr := ZbP (by kernel_rfl) (by omega))
 refine wv 5 (.int .i64 (Int.tmod v n)) ?_
 apply znt
 apply Zt
 apply zsl
 refine wv 11 (.int .i64 (Int.tmod v n)) ?_
 refine wv 12 (.bool (decide ((Int.tmod v n) < 0))) ?_
 apply znt
 refine (Zl (decide ((Int.tmod v n) < 0))).elim (fun b4 => ?_) (fun b4 => ?_)
 ·have g5 := of_decide_eq_true b4
  refine Z1o _ b4 ?_
  apply ZU
  refine wv 13 (.int .i64 (Int.tmod v n)) ?_
  refine wv 14 (.int .i64 (n)) ?_
  refine wv 15 (.int .i64 ((Int.tmod v n) + n)) ?_ (hr := Z0I (z := (Int.tmod v n) + n) (by kernel_rfl) (IntWalk.i64_in _ (by have := Z96 v n (by omega); omega)))
  refine wv 5 (.int .i64 ((Int.tmod v n) + n)) ?_
  apply Z1y
  refine wv 16 (.int .i64 ((Int.tmod v n) + n)) ?_
  refine wv 4 (.int .i64 ((Int.tmod v n) + n)) ?_
  apply znt
  apply ZA
  refine ze1 (.int .i64 ((Int.tmod v n) + n)) ?_
  exact ⟨by unfold Z8; rw [if_neg (of_decide_eq_false b1), Z7L v n (by have := of_decide_eq_false b1; omega), if_pos (of_decide_eq_true b4)], H.upd 0 rfl [] (fun _ h => h.elim)⟩
 have g6 := of_decide_eq_false b4
 refine Z18 _ b4 ?_
 apply ZL
 apply ztn
 apply zsl
 refine wv 16 (.int .i64 (Int.tmod v n)) ?_
 refine wv 4 (.int .i64 (Int.tmod v n)) ?_
 apply znt
 apply ZA
 refine ze1 (.int .i64 (Int.tmod v n)) ?_
 exact ⟨by unfold Z8; rw [if_neg (of_decide_eq_false b1), Z7L v n (by have := of_decide_eq_false b1; omega), if_neg (of_decide_eq_false b4)], H.upd 0 rfl [] (fun _ h => h.elim)⟩
theorem wN_any (w : World) (f c : Int) (hf : -1099511627776 ≤ f ∧ f ≤ 1099511627776) :
  Calls Tryz.prog 80 #[(.agg ⟨([(.int .i64 (f)), (.int .i64 (c))] : List Value)⟩)] w fun e w' => e = .returned (.int .i64 (3 * f + 1)) ∧ Upd [] w w' := by
 have H := Sat.start0 w
 refine Zp Tryz.func80 rfl 7 rfl (Nat.le_of_ble_eq_true rfl) ?_
 apply zsl
 refine zwd fun Kq kq => ?_
 refine zdb (Z37 f c) H ?_
 intro b2 w3 H4
 refine kq _ _ ?_
 clear kq Kq
 refine wv 2 (.int .i64 (0)) ?_
 apply Z1y
 refine wv 3 (pt b2 0) ?_
 refine zw1 4 (.int .i64 (f)) (H4.cell 1 rfl rfl) ?_
 refine zwi 5 (3 * f) ?_
 refine zwi 6 ((3 * f) + 1) ?_
 refine wv 2 (.int .i64 ((3 * f) + 1)) ?_
 apply znt
 apply ZA
 refine ze1 (.int .i64 ((3 * f) + 1)) ?_
 exact ⟨rfl, H4.upd 0 rfl [] (fun _ h => h.elim)⟩
theorem wQ_any (w : World) (f c : Int) (hf : -1099511627776 ≤ f ∧ f ≤ 1099511627776) :
  Calls Tryz.prog 90 #[(.agg ⟨([(.int .i64 (f)), (.int .i64 (c))] : List Value)⟩)] w fun e w' => e = .returned (.int .i64 (2 * f + 1)) ∧ Upd [] w w' := by
 have H := Sat.start0 w
 refine Zp Tryz.func90 rfl 7 rfl (Nat.le_of_ble_eq_true rfl) ?_
 apply zsl
 refine zwd fun Kq kq => ?_
 refine zdb (Z37 f c) H ?_
 intro b2 w3 H4
 refine kq _ _ ?_
 clear kq Kq
 refine wv 2 (.int .i64 (0)) ?_
 apply Z1y
 refine wv 3 (pt b2 0) ?_
 refine zw1 4 (.int .i64 (f)) (H4.cell 1 rfl rfl) ?_
 refine zwi 5 (2 * f) ?_
 refine zwi 6 ((2 * f) + 1) ?_
 refine wv 2 (.int .i64 ((2 * f) + 1)) ?_
 apply znt
 apply ZA
 refine ze1 (.int .i64 ((2 * f) + 1)) ?_
 exact ⟨rfl, H4.upd 0 rfl [] (fun _ h => h.elim)⟩
theorem Z8Y (w : World) (f c : Int) (hf : -1099511627776 ≤ f ∧ f ≤ 1099511627776) :
  Calls Tryz.prog 51 #[(.agg ⟨([(.int .i64 (f)), (.int .i64 (c))] : List Value)⟩)] w fun e w' => e = .returned (.int .i64 (3 * f + 1)) ∧ Upd [] w w' := by
 have H := Sat.start0 w
 refine Zp Tryz.func51 rfl 7 rfl (Nat.le_of_ble_eq_true rfl) ?_
 apply zsl
 refine zwd fun Kq kq => ?_
 refine zdb (Z37 f c) H ?_
 intro b2 w3 H4
 refine kq _ _ ?_
 clear kq Kq
 refine wv 2 (.int .i64 (0)) ?_
 apply Z1y
 refine wv 3 (pt b2 0) ?_
 refine zw1 4 (.int .i64 (f)) (H4.cell 1 rfl rfl) ?_
 refine zwi 5 (3 * f) ?_
 refine zwi 6 ((3 * f) + 1) ?_
 refine wv 2 (.int .i64 ((3 * f) + 1)) ?_
 apply znt
 apply ZA
 refine ze1 (.int .i64 ((3 * f) + 1)) ?_
 exact ⟨rfl, H4.upd 0 rfl [] (fun _ h => h.elim)⟩
theorem ZaG (w : World) (f c : Int) (hf : -1099511627776 ≤ f ∧ f ≤ 1099511627776) :
  Calls Tryz.prog 37 #[(.agg ⟨([(.int .i64 (f)), (.int .i64 (c))] : List Value)⟩)] w fun e w' => e = .returned (.int .i64 (2 * f + 1)) ∧ Upd [] w w' := by
 have H := Sat.start0 w
 refine Zp Tryz.func37 rfl 7 rfl (Nat.le_of_ble_eq_true rfl) ?_
 apply zsl
 refine zwd fun Kq kq => ?_
 refine zdb (Z37 f c) H ?_
 intro b2 w3 H4
 refine kq _ _ ?_
 clear kq Kq
 refine wv 2 (.int .i64 (0)) ?_
 apply Z1y
 refine wv 3 (pt b2 0) ?_
 refine zw1 4 (.int .i64 (f)) (H4.cell 1 rfl rfl) ?_
 refine zwi 5 (2 * f) ?_
 refine zwi 6 ((2 * f) + 1) ?_
 refine wv 2 (.int .i64 ((2 * f) + 1)) ?_
 apply znt
 apply ZA
 refine ze1 (.int .i64 ((2 * f) + 1)) ?_
 exact ⟨rfl, H4.upd 0 rfl [] (fun _ h => h.elim)⟩
theorem Z74 (w : World) (f c r : Int) (hf : -1099511627776 ≤ f ∧ f ≤ 1099511627776) :
  Calls Tryz.prog 48 #[(.agg ⟨([(.int .i64 (f)), (.int .i64 (c))] : List Value)⟩), (.int .i64 (r))] w fun e w' => e = .returned (.bool (inB f r)) ∧ Upd [] w w' := by
 have H := Sat.start0 w
 refine Zp Tryz.func48 rfl 13 rfl (Nat.le_of_ble_eq_true rfl) ?_
 apply zsl
 refine zwd fun Kq kq => ?_
 refine zdb (Z37 f c) H ?_
 intro b2 w3 H4
 refine kq _ _ ?_
 clear kq Kq
 refine wv 4 (.bool false) ?_
 apply znt
 refine Z0X [4, 5, 6, 7, 8, 9, 10, 11, 12] (fun G_ W_ => G_ 4 = (.bool (inB f r)) ∧ Sat w [Z6 w (fun _ => False), Z0 b2 36 (Z37 f c)] W_) ?_ ?_
 ·apply ZU
  refine wv 5 (.int .i64 (r)) ?_
  refine wv 6 (.bool (decide (r ≥ 0))) ?_
  refine wv 7 (.bool (decide (r ≥ 0))) ?_
  refine (Zl (decide (r ≥ 0))).elim (fun b6 => ?_) (fun b6 => ?_)
  ·have g7 := of_decide_eq_true b6
   refine ZI 7 (.bool true) (congrArg Value.bool b6) ?_
   refine wy 2 7 true 8 (.int .i64 (r)) ?_
   refine wy 2 7 true 9 (.agg ⟨(Z37 f c)⟩) ?_ (hr := Zc (vs := (Z37 f c)) rfl (by kernel_rfl) (by kernel_rfl) (by exact Nat.le_of_ble_eq_true (by kernel_rfl)) (H4.at 1 rfl) (by kernel_rfl))
   refine Z5d (Z01 2 7 true rfl (by kernel_rfl) rfl (by kernel_rfl)) (fun Kq kq => ?_)
   refine zdq 10 (wN_any w3 f c (by omega)) H4 ?_
   intro w9 H10
   refine kq _ _ ?_
   clear kq Kq
   refine wy 2 7 true 11 (.bool (decide (r < (3 * f + 1)))) ?_
   refine wv 12 (.bool (decide (r < (3 * f + 1)))) ?_
   refine wv 4 (.bool (decide (r < (3 * f + 1)))) ?_
   apply ZQ
   refine ZJ ?_ ⟨(congrArg Value.bool (show (decide (r < (3 * f + 1))) = (inB f r) by simp [inB, b6])), H10⟩
   exact zs
  have g12 := of_decide_eq_false b6
  refine ZI 7 (.bool false) (congrArg Value.bool b6) ?_
  iterate 4 refine wn 2 7 true ?_
  refine wv 12 (.bool false) ?_
  refine wv 4 (.bool false) ?_
  apply ZQ
  refine ZJ ?_ ⟨(congrArg Value.bool (show false = (inB f r) by simp [inB, b6])), H4⟩
  exact zs
 rintro f13 w14 ⟨v16, H15⟩
 refine ZF 4 _ v16 ?_
 apply ZA
 refine ze1 (.bool (inB f r)) ?_
 exact ⟨rfl, H15.upd 0 rfl [] (fun _ h => h.elim)⟩
theorem Z5J (w : World) (b bm : Nat) (B : List Signed) (hbk : (Z0 b 110 [.map (some bm)]).ok w) (hbm : MapAt w bm Z0e (Value.int .i64) (Z04 B)) (ta : Option Addr) (tc : Nat) (tx : List UInt8) (ht : ListAt ZN 1 w (.slice ta tx.length tc) tx) (p m : Int) :
  Calls Tryz.prog 49 #[(.pointer (some ⟨b, 0, none⟩)), (.agg ⟨([(.int .i64 (p)), (.int .i64 (m))] : List Value)⟩), (.slice ta tx.length tc)] w fun e w' => e = .returned (.bool (Z0p B p m tx)) ∧ Upd [] w w' := by
 have H := Sat.start0 w
 have hmk : (ZV (Z04 B) (⟨p, tx⟩ : Signed)).getD 0 = Zu B (⟨p, tx⟩ : Signed) := by rw [Z3I]; rfl
 refine Zp Tryz.func49 rfl 26 rfl (Nat.le_of_ble_eq_true rfl) ?_
 apply zsl
 refine zwd fun Kq kq => ?_
 refine zdb (Z37 p m) H ?_
 intro b2 w3 H4
 refine kq _ _ ?_
 clear kq Kq
 refine wv 6 (.bool false) ?_
 apply znt
 apply Zt
 refine zqs H4 ?_
 refine qv 8 (pt b 0) ?_
 refine qv 9 (pt b 0) ?_
 refine qv 10 (pt b 0) ?_
 refine qv 11 (.map (some bm)) ?_ (hr := fun _ H' => (Z2 rfl (by kernel_rfl) (H'.roCell 0 rfl hbk (fun h => h) rfl)))
 refine qv 12 (pt b2 0) ?_
 refine qv 13 (.int .i64 (p)) ?_ (hr := fun _ H' => (Z2 rfl (by kernel_rfl) (H'.cell 1 rfl rfl)))
 refine qv 14 (.slice ta tx.length tc) ?_
 refine qv 15 (Z2O tx) ?_ (hr := fun _ H' => (Z21 (e := 5) (s := tx) (by kernel_rfl) (by kernel_rfl) (by kernel_rfl) rfl (Z25 (ListAt.now H' 0 rfl ht))))
 refine Z8q (Zs rfl) (d := 16) (v := (.agg ⟨([(.int .i64 (p)), (Z2O tx)] : List Value)⟩)) rfl (fun _ H' => (by kernel_rfl)) ?_
 refine qv 17 (.int .i64 ((ZV (Z04 B) (⟨p, tx⟩ : Signed)).getD 0)) ?_ (hr := fun _ H' => (Z3A (kt := 107) (et := 3) Z4Y (by kernel_rfl) (fun w => by kernel_rfl) rfl (⟨p, tx⟩ : Signed) rfl (H'.roMap 0 rfl hbm (fun h => h)) (ZcI (Value.int .i64) _ _)))
 refine qv 7 (.int .i64 ((ZV (Z04 B) (⟨p, tx⟩ : Signed)).getD 0)) ?_
 refine Z0S ?_
 intro w5 H6
 apply ztn
 apply zsl
 refine wv 18 (.int .i64 ((ZV (Z04 B) (⟨p, tx⟩ : Signed)).getD 0)) ?_
 refine wv 19 (.bool (decide (((ZV (Z04 B) (⟨p, tx⟩ : Signed)).getD 0) > 0))) ?_
 refine wv 20 (.bool (decide (((ZV (Z04 B) (⟨p, tx⟩ : Signed)).getD 0) > 0))) ?_
 refine (Zl (decide (((ZV (Z04 B) (⟨p, tx⟩ : Signed)).getD 0) > 0))).elim (fun b7 => ?_) (fun b7 => ?_)
 ·have g8 := of_decide_eq_true b7
  refine ZI 20 (.bool true) (congrArg Value.bool b7) ?_
  refine wy 2 20 true 21 (.int .i64 ((ZV (Z04 B) (⟨p, tx⟩ : Signed)).getD 0)) ?_
  refine wy 2 20 true 22 (pt b2 1) ?_
  refine wy 2 20 true 23 (.int .i64 (m)) ?_ (hr := Z2 rfl (by kernel_rfl) (H6.cell 1 rfl rfl))
  refine wy 2 20 true 24 (.bool (decide (((ZV (Z04 B) (⟨p, tx⟩ : Signed)).getD 0) = m))) ?_
  refine wv 25 (.bool (decide (((ZV (Z04 B) (⟨p, tx⟩ : Signed)).getD 0) = m))) ?_
  refine wv 6 (.bool (decide (((ZV (Z04 B) (⟨p, tx⟩ : Signed)).getD 0) = m))) ?_
  apply znt
  apply ZA
  refine ze1 (.bool (decide (((ZV (Z04 B) (⟨p, tx⟩ : Signed)).getD 0) = m))) ?_
  exact ⟨by unfold Z0p; rw [← hmk]; simp [b7], H6.upd 0 rfl [] (fun _ h => h.elim)⟩
 have g10 := of_decide_eq_false b7
 refine ZI 20 (.bool false) (congrArg Value.bool b7) ?_
 iterate 4 refine wn 2 20 true ?_
 refine wv 25 (.bool false) ?_
 refine wv 6 (.bool false) ?_
 apply znt
 apply ZA
 refine ze1 (.bool false) ?_
 exact ⟨by unfold Z0p; rw [← hmk]; simp [b7], H6.upd 0 rfl [] (fun _ h => h.elim)⟩
theorem Z8X (w : World) :
  Calls Tryz.prog 36 #[] w fun e w' => ∃ b mb, e = .returned (.pointer (some ⟨b, 0, none⟩)) ∧ (Z0c [Z0 b 110 [.map (some mb)], Z3d mb Z0e (Value.int .i64) (Z04 [])]).ok w' ∧ Upd [] w w' ∧ ∀ q_, (Z0c [Z0 b 110 [.map (some mb)], Z3d mb Z0e (Value.int .i64) (Z04 [])]).fp q_ → w.heap.size ≤ q_ := by
 have H := Sat.start0 w
 refine Zp Tryz.func36 rfl 4 rfl (Nat.le_of_ble_eq_true rfl) ?_
 apply zsl
 refine wv 0 (.pointer none) ?_
 apply Z1y
 refine zwd fun Kq kq => ?_
 refine Z7h Z0e (Value.int .i64) rfl H ?_
 intro b2 w3 H4
 refine kq _ _ ?_
 clear kq Kq
 refine wv 2 (.agg ⟨([(.map (some b2))] : List Value)⟩) ?_
 refine zwd fun Kq kq => ?_
 refine zdb ([(.map (some b2))] : List Value) H4 ?_
 intro b6 w7 H8
 refine kq _ _ ?_
 clear kq Kq
 refine wv 0 (pt b6 0) ?_
 apply znt
 apply ZA
 refine ze1 (pt b6 0) ?_
 exact ⟨b6, b2, rfl, H8.fn [2, 1], H8.upd 0 rfl [] (fun _ h => h.elim), H8.freshS 0 rfl (fun _ h => h) [2, 1] rfl rfl⟩
theorem Zay (w : World) :
  Calls Tryz.prog 7 #[] w fun e w' => ∃ b mb r, e = .returned (.tuple #[.agg #[.pointer (some ⟨b, 0, none⟩), .pointer (some ⟨r, 0, none⟩)], .bool true]) ∧ (Z0c [Z0 b 110 [.map (some mb)], Z3d mb Z0e (Value.int .i64) (Z04 []), Z0 r 98 [.slice none 0 0]]).ok w' ∧ Upd [] w w' ∧ ∀ q_, (Z0c [Z0 b 110 [.map (some mb)], Z3d mb Z0e (Value.int .i64) (Z04 []), Z0 r 98 [.slice none 0 0]]).fp q_ → w.heap.size ≤ q_ := by
 have H := Sat.start0 w
 refine Zp Tryz.func7 rfl 10 rfl (Nat.le_of_ble_eq_true rfl) ?_
 apply zsl
 refine zwd fun Kq kq => ?_
 refine zda (Zcj) H ?_
 intro b2 w3 H4
 refine kq _ _ ?_
 clear kq Kq
 refine wv 1 (.bool false) ?_
 apply Z1y
 refine zwd fun Kq kq => ?_
 refine zdc 3 (Z8X w3) ?_
 rintro _ w6 ⟨b7, m8, rfl, k9, p10, q11⟩
 have H12 := H4.addU p10 k9 q11
 have H13 := H12.open 2 rfl
 refine ⟨_, rfl, ?_⟩
 refine kq _ _ ?_
 clear kq Kq
 refine wv 2 (pt b7 0) ?_
 apply Z1y
 refine wv 4 (pt b7 0) ?_
 refine wv 5 (.agg ⟨([(.slice none 0 0)] : List Value)⟩) ?_
 refine zwd fun Kq kq => ?_
 refine zdb ([(.slice none 0 0)] : List Value) H13 ?_
 intro b15 w16 H17
 refine kq _ _ ?_
 clear kq Kq
 refine wv 7 (.agg ⟨(Z8c b7 b15)⟩) ?_
 refine wv 8 (pt b7 0) ?_
 refine wv 9 (.bool true) ?_
 refine zwd fun Kq kq => ?_
 refine Z2q (vs := (Z8c b7 b15)) rfl H17 1 rfl rfl rfl rfl (by kernel_rfl) (Nat.le_of_ble_eq_true (by kernel_rfl)) (Nat.le_of_ble_eq_true (by kernel_rfl)) (by kernel_rfl) ?_
 intro w19 H20
 refine kq _ _ ?_
 clear kq Kq
 refine wv 1 (.bool true) ?_
 apply znt
 apply ZA
 refine Z9g rfl (Z0i (vs := (Z8c b7 b15)) rfl (by kernel_rfl) (by kernel_rfl) (by exact Nat.le_of_ble_eq_true (by kernel_rfl)) (H20.at 1 rfl) (by kernel_rfl)) (Z1m (v := (.bool true)) rfl) ?_
 exact ⟨b7, m8, b15, rfl, H20.fn [2, 3, 4], H20.upd 0 rfl [] (fun _ h => h.elim), H20.freshS 0 rfl (fun _ h => h) [2, 3, 4] rfl rfl⟩
theorem Z7F (w : World) (a b c d : Int) :
  Calls Tryz.prog 28 #[(.agg ⟨([(.int .i64 (a)), (.int .i64 (b))] : List Value)⟩), (.agg ⟨([(.int .i64 (c)), (.int .i64 (d))] : List Value)⟩)] w fun e w' => e = .returned (.bool (decide (a < c) || (decide (a = c) && decide (b < d)))) ∧ Upd [] w w' := by
 have H := Sat.start0 w
 refine Zp Tryz.func28 rfl 24 rfl (Nat.le_of_ble_eq_true rfl) ?_
 refine Zt ?_
 refine ZU ?_
 refine Z5d (Zs rfl) (fun K1 hK1 => ?_)
 refine Zce (vs := ([(.int .i64 (a)), (.int .i64 (b))] : List Value)) rfl H rfl rfl ?_
 intro b2 w3 (H4 : Sat w [Z6 w (fun _ => False), Z0 b2 24 ([(.int .i64 (a)), (.int .i64 (b))] : List Value)] w3)
 refine hK1 _ _ ?_
 clear hK1 K1
 refine Z5d (Zs rfl) (fun K5 hK5 => ?_)
 refine Zce (vs := ([(.int .i64 (c)), (.int .i64 (d))] : List Value)) rfl H4 rfl rfl ?_
 intro b6 w7 (H8 : Sat w [Z6 w (fun _ => False), Z0 b2 24 ([(.int .i64 (a)), (.int .i64 (b))] : List Value), Z0 b6 24 ([(.int .i64 (c)), (.int .i64 (d))] : List Value)] w7)
 refine hK5 _ _ ?_
 clear hK5 K5
 refine ZX (Zs rfl) (d := 4) (v := (.bool false)) rfl (by kernel_rfl) ?_
 refine ZQ ?_
 refine Z0M ?_
 refine Zt ?_
 refine ZU ?_
 refine ZX (Zs rfl) (d := 5) (v := (.pointer (some ⟨b2, 0, none⟩))) rfl (by kernel_rfl) ?_
 refine ZX (Zs rfl) (d := 6) (v := (.int .i64 (a))) rfl (Z2 rfl (by kernel_rfl) (H8.cell 1 rfl rfl)) ?_
 refine ZX (Zs rfl) (d := 7) (v := (.pointer (some ⟨b6, 0, none⟩))) rfl (by kernel_rfl) ?_
 refine ZX (Zs rfl) (d := 8) (v := (.int .i64 (c))) rfl (Z2 rfl (by kernel_rfl) (H8.cell 2 rfl rfl)) ?_
 refine ZX (Zs rfl) (d := 9) (v := (.bool (decide (a < c)))) rfl (by kernel_rfl) ?_
 refine ZX (Zs rfl) (d := 10) (v := (.bool (decide (a < c)))) rfl (by kernel_rfl) ?_
 refine (Zl (decide (a < c))).elim (fun b9 => ?_) (fun b9 => ?_)
 ·have g10 := of_decide_eq_true b9
  refine ZI 10 (.bool true) (congrArg Value.bool b9) ?_
  have g11 := of_decide_eq_true b9
  refine Z1t (Z2y 5 10 false rfl (by kernel_rfl) rfl (by kernel_rfl)) rfl ?_
  refine Z1t (Z2y 5 10 false rfl (by kernel_rfl) rfl (by kernel_rfl)) rfl ?_
  refine Z1t (Z2y 5 10 false rfl (by kernel_rfl) rfl (by kernel_rfl)) rfl ?_
  refine Z1t (Z2y 5 10 false rfl (by kernel_rfl) rfl (by kernel_rfl)) rfl ?_
  refine Z1t (Z2y 5 10 false rfl (by kernel_rfl) rfl (by kernel_rfl)) rfl ?_
  refine Z1t (Z2y 5 10 false rfl (by kernel_rfl) rfl (by kernel_rfl)) rfl ?_
  refine Z1t (Z7R 11 16 true rfl (by kernel_rfl) rfl (by kernel_rfl)) rfl ?_
  refine Z1t (Z7R 11 16 true rfl (by kernel_rfl) rfl (by kernel_rfl)) rfl ?_
  refine Z1t (Z7R 11 16 true rfl (by kernel_rfl) rfl (by kernel_rfl)) rfl ?_
  refine Z1t (Z7R 11 16 true rfl (by kernel_rfl) rfl (by kernel_rfl)) rfl ?_
  refine Z1t (Z7R 11 16 true rfl (by kernel_rfl) rfl (by kernel_rfl)) rfl ?_
  refine Z1t (Z2y 5 10 false rfl (by kernel_rfl) rfl (by kernel_rfl)) rfl ?_
  refine ZX (Zs rfl) (d := 23) (v := (.bool true)) rfl (by kernel_rfl) ?_
  refine ZX (Zs rfl) (d := 4) (v := (.bool true)) rfl (by kernel_rfl) ?_
  refine ZQ ?_
  refine Z0M ?_
  refine ZA ?_
  refine Z6E rfl (Z1m (v := (.bool true)) rfl) ?_
  exact ⟨by simp [b9], H8.upd 0 rfl [] (fun _ h => h.elim)⟩
 ·have g12 := of_decide_eq_false b9
  refine ZI 10 (.bool false) (congrArg Value.bool b9) ?_
  have g13 := of_decide_eq_false b9
  refine ZX (Z01 5 10 false rfl (by kernel_rfl) rfl (by kernel_rfl)) (d := 11) (v := (.pointer (some ⟨b2, 0, none⟩))) rfl (by kernel_rfl) ?_
  refine ZX (Z01 5 10 false rfl (by kernel_rfl) rfl (by kernel_rfl)) (d := 12) (v := (.int .i64 (a))) rfl (Z2 rfl (by kernel_rfl) (H8.cell 1 rfl rfl)) ?_
  refine ZX (Z01 5 10 false rfl (by kernel_rfl) rfl (by kernel_rfl)) (d := 13) (v := (.pointer (some ⟨b6, 0, none⟩))) rfl (by kernel_rfl) ?_
  refine ZX (Z01 5 10 false rfl (by kernel_rfl) rfl (by kernel_rfl)) (d := 14) (v := (.int .i64 (c))) rfl (Z2 rfl (by kernel_rfl) (H8.cell 2 rfl rfl)) ?_
  refine ZX (Z01 5 10 false rfl (by kernel_rfl) rfl (by kernel_rfl)) (d := 15) (v := (.bool (decide (a = c)))) rfl (by kernel_rfl) ?_
  refine ZX (Z01 5 10 false rfl (by kernel_rfl) rfl (by kernel_rfl)) (d := 16) (v := (.bool (decide (a = c)))) rfl (by kernel_rfl) ?_
  refine (Zl (decide (a = c))).elim (fun b14 => ?_) (fun b14 => ?_)
  ·have g15 := of_decide_eq_true b14
   refine ZI 16 (.bool true) (congrArg Value.bool b14) ?_
   have g16 := of_decide_eq_true b14
   refine ZX (Z01 11 16 true rfl (by kernel_rfl) rfl (by kernel_rfl)) (d := 17) (v := (.pointer (some ⟨b2, 1, none⟩))) rfl (by kernel_rfl) ?_
   refine ZX (Z01 11 16 true rfl (by kernel_rfl) rfl (by kernel_rfl)) (d := 18) (v := (.int .i64 (b))) rfl (Z2 rfl (by kernel_rfl) (H8.cell 1 rfl rfl)) ?_
   refine ZX (Z01 11 16 true rfl (by kernel_rfl) rfl (by kernel_rfl)) (d := 19) (v := (.pointer (some ⟨b6, 1, none⟩))) rfl (by kernel_rfl) ?_
   refine ZX (Z01 11 16 true rfl (by kernel_rfl) rfl (by kernel_rfl)) (d := 20) (v := (.int .i64 (d))) rfl (Z2 rfl (by kernel_rfl) (H8.cell 2 rfl rfl)) ?_
   refine ZX (Z01 11 16 true rfl (by kernel_rfl) rfl (by kernel_rfl)) (d := 21) (v := (.bool (decide (b < d)))) rfl (by kernel_rfl) ?_
   refine ZX (Z01 5 10 false rfl (by kernel_rfl) rfl (by kernel_rfl)) (d := 22) (v := (.bool (decide (b < d)))) rfl (by kernel_rfl) ?_
   refine ZX (Zs rfl) (d := 23) (v := (.bool (decide (b < d)))) rfl (by kernel_rfl) ?_
   refine ZX (Zs rfl) (d := 4) (v := (.bool (decide (b < d)))) rfl (by kernel_rfl) ?_
   refine ZQ ?_
   refine Z0M ?_
   refine ZA ?_
   refine Z6E rfl (Z1m (v := (.bool (decide (b < d)))) rfl) ?_
   exact ⟨by simp [b9, b14], H8.upd 0 rfl [] (fun _ h => h.elim)⟩
  ·have g17 := of_decide_eq_false b14
   refine ZI 16 (.bool false) (congrArg Value.bool b14) ?_
   have g18 := of_decide_eq_false b14
   refine Z1t (Z2y 11 16 true rfl (by kernel_rfl) rfl (by kernel_rfl)) rfl ?_
   refine Z1t (Z2y 11 16 true rfl (by kernel_rfl) rfl (by kernel_rfl)) rfl ?_
   refine Z1t (Z2y 11 16 true rfl (by kernel_rfl) rfl (by kernel_rfl)) rfl ?_
   refine Z1t (Z2y 11 16 true rfl (by kernel_rfl) rfl (by kernel_rfl)) rfl ?_
   refine Z1t (Z2y 11 16 true rfl (by kernel_rfl) rfl (by kernel_rfl)) rfl ?_
   refine ZX (Z01 5 10 false rfl (by kernel_rfl) rfl (by kernel_rfl)) (d := 22) (v := (.bool false)) rfl (by kernel_rfl) ?_
   refine ZX (Zs rfl) (d := 23) (v := (.bool false)) rfl (by kernel_rfl) ?_
   refine ZX (Zs rfl) (d := 4) (v := (.bool false)) rfl (by kernel_rfl) ?_
   refine ZQ ?_
   refine Z0M ?_
   refine ZA ?_
   refine Z6E rfl (Z1m (v := (.bool false)) rfl) ?_
   exact ⟨by simp [b9, b14], H8.upd 0 rfl [] (fun _ h => h.elim)⟩
def Z0o (L : List Ck) : Ck where
 fp b := ∃ A ∈ L, A.fp b
 ok w := ∀ A ∈ L, A.ok w
 stay {w w'} h hb A hA := A.stay (h A hA) fun b hf => hb b ⟨A, hA, hf⟩
 lt {w} h b hb := by obtain ⟨A, hA, hf⟩ := hb; exact A.lt (h A hA) b hf
section
variable {w0 w : World} {A : Ck} {L R G : List Ck}
theorem Sat.bag0 (H : Sat w0 G w) : Sat w0 (G ++ [Z0o []]) w :=
 H.add (Ext.refl w) (fun _ _ => rfl) (fun A hA => by simp at hA) (fun b hb => by obtain ⟨A, hA, _⟩ := hb; simp at hA)
theorem Sat.bag (H : Sat w0 (Z0o L :: A :: R) w) : Sat w0 (Z0o (A :: L) :: R) w := by
 have h1 := List.pairwise_cons.1 H.dis
 have h2 := List.pairwise_cons.1 h1.2
 refine ⟨H.ext, fun C hC => ?_, List.pairwise_cons.2 ⟨fun C hC b hb hc => ?_, h2.2⟩⟩
 ·rcases List.mem_cons.1 hC with rfl | hC
  ·intro B hB
   rcases List.mem_cons.1 hB with rfl | hB
   ·exact H.all _ (by simp)
   ·exact (show (Z0o L).ok w from H.all _ (by simp)) B hB
  ·exact H.all _ (by simp [hC])
 ·obtain ⟨B, hB, hf⟩ := hb
  rcases List.mem_cons.1 hB with rfl | hB
  ·exact h2.1 C hC b hf hc
  ·exact h1.1 C (by simp [hC]) b ⟨B, hB, hf⟩ hc
end
def stC (c : CeR) : Ck := ZH 101 38 (.slice c.sa c.S.length c.sc) c.S.length (c.S.flatMap Z0J)
def ceC (p : PrR) : Ck := ZH 53 38 (.slice p.ca p.C.length p.cc) p.C.length (p.C.flatMap Z0h)
def PIn (L : List Ck) (p : PrR) : Prop := ceC p ∈ L ∧ ∀ c ∈ p.C, stC c ∈ L
section
variable {L : List Ck} {A : Ck} {p : PrR} {x : CeR} {C : List CeR} {D : List PrR} {w : World} {a b : Int} {S : List Z5}
theorem PIn.ok (h : PIn L p) (hb : (Z0o L).ok w) : PrOk w p :=
 ⟨ListAt.row ZZ (by decide) (hb _ h.1), fun c hc => ListAt.row Z2r (by decide) (hb _ (h.2 c hc))⟩
theorem PIn.more (h : PIn L p) : PIn (A :: L) p := ⟨List.mem_cons_of_mem _ h.1, fun c hc => List.mem_cons_of_mem _ (h.2 c hc)⟩
theorem Zci (h : ∀ c ∈ C, stC c ∈ L) : ∀ c ∈ C ++ [x], stC c ∈ stC x :: L := fun c hc => by
 rcases List.mem_append.1 hc with hc | hc
 ·exact List.mem_cons_of_mem _ (h c hc)
 ·rw [List.mem_singleton.1 hc]; exact List.mem_cons_self
theorem Z3S {c : CeR} (h : (Z0o L).ok w) (hm : stC c ∈ L) : ListAt Z0J 38 w (.slice c.sa c.S.length c.sc) c.S := ListAt.row Z2r (by decide) (h _ hm)
end
def Z82 : Go.Shelf.Ren := ⟨fun | 41 => 94 | n => n, fun | 22 => 51 | 23 => 101 | 4 => 4 | n => n, fun | n => n⟩
theorem Z9P : Go.Proofs.SlLaysE0.n41 Tryz.prog Z82 := {
 mixed := by kernel_rfl,
 f41 := ⟨Tryz.f94.name, by decide, Tryz.func94.trans (congrArg some (by kernel_rfl))⟩,
 t4 := Tryz.underlying4,
 a4 := Tryz.isAgg4,
 z4 := Tryz.sizeOf4,
 v4 := Tryz.zeroValue4,
 t22 := Tryz.underlying51,
 a22 := Tryz.isAgg51,
 z22 := Tryz.sizeOf51,
 v22 := Tryz.zeroValue51 }
theorem Z9f (w : World) (v : Value) (s : List Z5) (hs : (ZH 101 38 v s.length (s.flatMap Z0J)).ok w) (hl : s.length ≤ 1000) : Calls Tryz.prog 94 #[v] w fun e w' => ∃ u, e = .returned u ∧ (ZH 101 38 u s.length (s.flatMap Z0J)).ok w' ∧ Upd [] w w' ∧ ∀ b, (ZH 101 38 u s.length (s.flatMap Z0J)).fp b → w.heap.size ≤ b := by
 have hfl : (s.flatMap Z0J).length = s.length * 38 := Z1u Z0J 38 Z2r s
 obtain ⟨i, z, _, h1, h2, h3, h4, h5, h6⟩ := Z3N (P := Tryz.prog) (T := 51) (e := 101) (size := 38) (bytes := 80) (by kernel_rfl)
 have hs' := hs
 rcases hs.2 with ⟨rfl, h0⟩ | ⟨g, c, cur, rfl, _⟩
 ·obtain rfl := List.eq_nil_of_length_eq_zero h0
  exact (AnyE.slices_Clone_nil (P := Tryz.prog) Z9P 0 0 w).mono fun e w' ⟨he, hw⟩ => ⟨_, he, World.ownsRow_nil _ 0 _ _, hw ▸ Upd.refl _ _, fun b hb => by simp [ZH, Value.ownBlock] at hb⟩
 ·refine (AnyE.slices_Clone (P := Tryz.prog) Z9P i z 38 80 h1 h2 h3 h4 h5 h6 Tryz.sizeOf101 g 0 s.length c (s.flatMap Z0J) w hfl (by unfold maxLen; omega) (by omega) (fun j u hu => by rw [Nat.zero_add]; exact Z3O hs' rfl hu) (fun u hu => List.all_eq_true.1 (Z0U Z0J Z5t s) u hu)).mono fun e w' ⟨v', he, hr, _, hb⟩ => ⟨v', he, ?_, Below.upd hb, ?_⟩
  ·refine ⟨hr.1, ?_⟩
   rcases hr.2 with h | ⟨g', cap, cur', e1, _, r⟩
   ·exact .inl h
   ·exact .inr ⟨g', cap, cur', e1, Nat.zero_le _, r⟩
  ·intro b hb2
   rcases hr.2 with ⟨rfl, _⟩ | ⟨g', cap, cur', rfl, hge, _⟩
   ·simp [ZH, Value.ownBlock] at hb2
   ·simp only [ZH, Value.ownBlock, Option.some.injEq] at hb2; omega
end Go.Proofs.YtoaifondpohniaaGreat
