/- WHAT IS PROVED: contracts and plain laws of BatA, EnA, Bag, CloneS. Conditions: stated with each. -/
import Derived.Shelf.SlicesE.Clone
import Derived.Test.YtoaifondpohniaaGreatMT03
import Derived.Test.YtoaifondpohniaaGreatMT04
import Derived.Test.YtoaifondpohniaaGreatMT05
import Derived.Test.YtoaifondpohniaaGreatMT06
import Derived.Test.YtoaifondpohniaaGreatMT12
import Derived.Test.YtoaifondpohniaaGreatMT15
import Derived.Test.YtoaifondpohniaaGreatMT16
set_option maxHeartbeats 4000000
set_option maxRecDepth 100000
namespace Go.Proofs.YtoaifondpohniaaGreat
open Go.RowKit
theorem Z2V (w : World) (v n : Int) (hn : n ≤ 4611686018427387904) :
  Calls Tryz.prog 8 #[(.int .i64 (v)), (.int .i64 (n))] w fun e w' => e = .returned (.int .i64 (Z0a v n)) ∧ Upd [] w w' := by
 have H := Sat.start0 w
 refine Zr Tryz.func8 rfl 17 rfl (Nat.le_of_ble_eq_true rfl) ?_
 refine Zb ?_
 refine Zl ?_
 refine Z3 (Z0 rfl) (d := 4) (v := (.int .i64 (0))) rfl (by kernel_rfl) ?_
 refine Zi ?_
 refine Z4 ?_
 refine Zb ?_
 refine Zb ?_
 refine Zl ?_
 refine Z3 (Z0 rfl) (d := 6) (v := (.int .i64 (n))) rfl (by kernel_rfl) ?_
 refine Z3 (Z0 rfl) (d := 7) (v := (.bool (decide (n < 1)))) rfl (by kernel_rfl) ?_
 refine Zi ?_
 refine Z4 ?_
 refine (ZD (decide (n < 1))).elim (fun b1 => ?_) (fun b1 => ?_)
 ·have g2 := of_decide_eq_true b1
  refine Zj 7 (.bool true) (congrArg Value.bool b1) ?_
  refine Z0p rfl ?_
  refine Zb ?_
  refine Zl ?_
  refine Z3 (Z0 rfl) (d := 4) (v := (.int .i64 (0))) rfl (by kernel_rfl) ?_
  refine Zi ?_
  refine Z4 ?_
  refine ZY ?_
  refine ZP ?_
  refine Z1i rfl (ZJ (v := (.int .i64 (0))) rfl) ?_
  exact ⟨by unfold Z0a; rw [if_pos (of_decide_eq_true b1)], H.upd 0 rfl [] (fun _ h => h.elim)⟩
 ·have g3 := of_decide_eq_false b1
  refine Zj 7 (.bool false) (congrArg Value.bool b1) ?_
  refine Z0r rfl ?_
  refine ZZ ?_
  refine Z4 ?_
  refine Zb ?_
  refine Zl ?_
  refine Z3 (Z0 rfl) (d := 8) (v := (.int .i64 (v))) rfl (by kernel_rfl) ?_
  refine Z3 (Z0 rfl) (d := 9) (v := (.int .i64 (n))) rfl (by kernel_rfl) ?_
  refine Z3 (Z0 rfl) (d := 10) (v := (.int .i64 (Int.tmod v n))) rfl (e_tmod (by kernel_rfl) (by omega)) ?_
  refine Z3 (Z0 rfl) (d := 5) (v := (.int .i64 (Int.tmod v n))) rfl (by kernel_rfl) ?_
  refine Zi ?_
  refine Z4 ?_
  refine Zb ?_
  refine Zb ?_
  refine Zl ?_
  refine Z3 (Z0 rfl) (d := 11) (v := (.int .i64 (Int.tmod v n))) rfl (by kernel_rfl) ?_
  refine Z3 (Z0 rfl) (d := 12) (v := (.bool (decide ((Int.tmod v n) < 0)))) rfl (by kernel_rfl) ?_
  refine Zi ?_
  refine Z4 ?_
  refine (ZD (decide ((Int.tmod v n) < 0))).elim (fun b4 => ?_) (fun b4 => ?_)
  ·have g5 := of_decide_eq_true b4
   refine Zj 12 (.bool true) (congrArg Value.bool b4) ?_
   refine Z0p rfl ?_
   refine Zl ?_
   refine Z3 (Z0 rfl) (d := 13) (v := (.int .i64 (Int.tmod v n))) rfl (by kernel_rfl) ?_
   refine Z3 (Z0 rfl) (d := 14) (v := (.int .i64 (n))) rfl (by kernel_rfl) ?_
   refine Z3 (Z0 rfl) (d := 15) (v := (.int .i64 ((Int.tmod v n) + n))) rfl (Z0l (z := (Int.tmod v n) + n) (by kernel_rfl) (IntWalk.i64_in _ (by have := Z6T v n (by omega); omega))) ?_
   refine Z3 (Z0 rfl) (d := 5) (v := (.int .i64 ((Int.tmod v n) + n))) rfl (by kernel_rfl) ?_
   refine Zi ?_
   refine Z4 ?_
   refine Zb ?_
   refine Zl ?_
   refine Z3 (Z0 rfl) (d := 16) (v := (.int .i64 ((Int.tmod v n) + n))) rfl (by kernel_rfl) ?_
   refine Z3 (Z0 rfl) (d := 4) (v := (.int .i64 ((Int.tmod v n) + n))) rfl (by kernel_rfl) ?_
   refine Zi ?_
   refine Z4 ?_
   refine ZY ?_
   refine Z1i rfl (ZJ (v := (.int .i64 ((Int.tmod v n) + n))) rfl) ?_
   exact ⟨by unfold Z0a; rw [if_neg (of_decide_eq_false b1), Z5w v n (by have := of_decide_eq_false b1; omega), if_pos (of_decide_eq_true b4)], H.upd 0 rfl [] (fun _ h => h.elim)⟩
  ·have g6 := of_decide_eq_false b4
   refine Zj 12 (.bool false) (congrArg Value.bool b4) ?_
   refine Z0r rfl ?_
   refine ZZ ?_
   refine Z4 ?_
   refine Zb ?_
   refine Zl ?_
   refine Z3 (Z0 rfl) (d := 16) (v := (.int .i64 (Int.tmod v n))) rfl (by kernel_rfl) ?_
   refine Z3 (Z0 rfl) (d := 4) (v := (.int .i64 (Int.tmod v n))) rfl (by kernel_rfl) ?_
   refine Zi ?_
   refine Z4 ?_
   refine ZY ?_
   refine Z1i rfl (ZJ (v := (.int .i64 (Int.tmod v n))) rfl) ?_
   exact ⟨by unfold Z0a; rw [if_neg (of_decide_eq_false b1), Z5w v n (by have := of_decide_eq_false b1; omega), if_neg (of_decide_eq_false b4)], H.upd 0 rfl [] (fun _ h => h.elim)⟩
theorem wN_any (w : World) (f c : Int) (hf : -1099511627776 ≤ f ∧ f ≤ 1099511627776) :
  Calls Tryz.prog 80 #[(.agg ⟨([(.int .i64 (f)), (.int .i64 (c))] : List Value)⟩)] w fun e w' => e = .returned (.int .i64 (3 * f + 1)) ∧ Upd [] w w' := by
 have H := Sat.start0 w
 refine Zr Tryz.func80 rfl 7 rfl (Nat.le_of_ble_eq_true rfl) ?_
 refine Zb ?_
 refine Zl ?_
 refine ZQ (Z0 rfl) (fun K1 hK1 => ?_)
 refine Z1F (vs := ([(.int .i64 (f)), (.int .i64 (c))] : List Value)) rfl H rfl rfl ?_
 intro b2 w3 (H4 : Sat w [Z5 w (fun _ => False), Z1 b2 36 ([(.int .i64 (f)), (.int .i64 (c))] : List Value)] w3)
 refine hK1 _ _ ?_
 clear hK1 K1
 refine Z3 (Z0 rfl) (d := 2) (v := (.int .i64 (0))) rfl (by kernel_rfl) ?_
 refine Zi ?_
 refine Z4 ?_
 refine Zb ?_
 refine Zl ?_
 refine Z3 (Z0 rfl) (d := 3) (v := (.pointer (some ⟨b2, 0, none⟩))) rfl (by kernel_rfl) ?_
 refine Z3 (Z0 rfl) (d := 4) (v := (.int .i64 (f))) rfl (Za rfl (by kernel_rfl) (H4.cell 1 rfl rfl)) ?_
 refine Z3 (Z0 rfl) (d := 5) (v := (.int .i64 (3 * f))) rfl (Z0l (z := 3 * f) (by kernel_rfl) (IntWalk.i64_in _ (by omega))) ?_
 refine Z3 (Z0 rfl) (d := 6) (v := (.int .i64 ((3 * f) + 1))) rfl (Z0l (z := (3 * f) + 1) (by kernel_rfl) (IntWalk.i64_in _ (by omega))) ?_
 refine Z3 (Z0 rfl) (d := 2) (v := (.int .i64 ((3 * f) + 1))) rfl (by kernel_rfl) ?_
 refine Zi ?_
 refine Z4 ?_
 refine ZY ?_
 refine Z1i rfl (ZJ (v := (.int .i64 ((3 * f) + 1))) rfl) ?_
 exact ⟨rfl, H4.upd 0 rfl [] (fun _ h => h.elim)⟩
theorem wQ_any (w : World) (f c : Int) (hf : -1099511627776 ≤ f ∧ f ≤ 1099511627776) :
  Calls Tryz.prog 90 #[(.agg ⟨([(.int .i64 (f)), (.int .i64 (c))] : List Value)⟩)] w fun e w' => e = .returned (.int .i64 (2 * f + 1)) ∧ Upd [] w w' := by
 have H := Sat.start0 w
 refine Zr Tryz.func90 rfl 7 rfl (Nat.le_of_ble_eq_true rfl) ?_
 refine Zb ?_
 refine Zl ?_
 refine ZQ (Z0 rfl) (fun K1 hK1 => ?_)
 refine Z1F (vs := ([(.int .i64 (f)), (.int .i64 (c))] : List Value)) rfl H rfl rfl ?_
 intro b2 w3 (H4 : Sat w [Z5 w (fun _ => False), Z1 b2 36 ([(.int .i64 (f)), (.int .i64 (c))] : List Value)] w3)
 refine hK1 _ _ ?_
 clear hK1 K1
 refine Z3 (Z0 rfl) (d := 2) (v := (.int .i64 (0))) rfl (by kernel_rfl) ?_
 refine Zi ?_
 refine Z4 ?_
 refine Zb ?_
 refine Zl ?_
 refine Z3 (Z0 rfl) (d := 3) (v := (.pointer (some ⟨b2, 0, none⟩))) rfl (by kernel_rfl) ?_
 refine Z3 (Z0 rfl) (d := 4) (v := (.int .i64 (f))) rfl (Za rfl (by kernel_rfl) (H4.cell 1 rfl rfl)) ?_
 refine Z3 (Z0 rfl) (d := 5) (v := (.int .i64 (2 * f))) rfl (Z0l (z := 2 * f) (by kernel_rfl) (IntWalk.i64_in _ (by omega))) ?_
 refine Z3 (Z0 rfl) (d := 6) (v := (.int .i64 ((2 * f) + 1))) rfl (Z0l (z := (2 * f) + 1) (by kernel_rfl) (IntWalk.i64_in _ (by omega))) ?_
 refine Z3 (Z0 rfl) (d := 2) (v := (.int .i64 ((2 * f) + 1))) rfl (by kernel_rfl) ?_
 refine Zi ?_
 refine Z4 ?_
 refine ZY ?_
 refine Z1i rfl (ZJ (v := (.int .i64 ((2 * f) + 1))) rfl) ?_
 exact ⟨rfl, H4.upd 0 rfl [] (fun _ h => h.elim)⟩
theorem Z9d (w : World) (f c : Int) (hf : -1099511627776 ≤ f ∧ f ≤ 1099511627776) :
  Calls Tryz.prog 37 #[(.agg ⟨([(.int .i64 (f)), (.int .i64 (c))] : List Value)⟩)] w fun e w' => e = .returned (.int .i64 (2 * f + 1)) ∧ Upd [] w w' := by
 have H := Sat.start0 w
 refine Zr Tryz.func37 rfl 7 rfl (Nat.le_of_ble_eq_true rfl) ?_
 refine Zb ?_
 refine Zl ?_
 refine ZQ (Z0 rfl) (fun K1 hK1 => ?_)
 refine Z1F (vs := ([(.int .i64 (f)), (.int .i64 (c))] : List Value)) rfl H rfl rfl ?_
 intro b2 w3 (H4 : Sat w [Z5 w (fun _ => False), Z1 b2 36 ([(.int .i64 (f)), (.int .i64 (c))] : List Value)] w3)
 refine hK1 _ _ ?_
 clear hK1 K1
 refine Z3 (Z0 rfl) (d := 2) (v := (.int .i64 (0))) rfl (by kernel_rfl) ?_
 refine Zi ?_
 refine Z4 ?_
 refine Zb ?_
 refine Zl ?_
 refine Z3 (Z0 rfl) (d := 3) (v := (.pointer (some ⟨b2, 0, none⟩))) rfl (by kernel_rfl) ?_
 refine Z3 (Z0 rfl) (d := 4) (v := (.int .i64 (f))) rfl (Za rfl (by kernel_rfl) (H4.cell 1 rfl rfl)) ?_
 refine Z3 (Z0 rfl) (d := 5) (v := (.int .i64 (2 * f))) rfl (Z0l (z := 2 * f) (by kernel_rfl) (IntWalk.i64_in _ (by omega))) ?_
 refine Z3 (Z0 rfl) (d := 6) (v := (.int .i64 ((2 * f) + 1))) rfl (Z0l (z := (2 * f) + 1) (by kernel_rfl) (IntWalk.i64_in _ (by omega))) ?_
 refine Z3 (Z0 rfl) (d := 2) (v := (.int .i64 ((2 * f) + 1))) rfl (by kernel_rfl) ?_
 refine Zi ?_
 refine Z4 ?_
 refine ZY ?_
 refine Z1i rfl (ZJ (v := (.int .i64 ((2 * f) + 1))) rfl) ?_
 exact ⟨rfl, H4.upd 0 rfl [] (fun _ h => h.elim)⟩
theorem Z6u (w : World) (f c r : Int) (hf : -1099511627776 ≤ f ∧ f ≤ 1099511627776) :
  Calls Tryz.prog 48 #[(.agg ⟨([(.int .i64 (f)), (.int .i64 (c))] : List Value)⟩), (.int .i64 (r))] w fun e w' => e = .returned (.bool (inB f r)) ∧ Upd [] w w' := by
 have H := Sat.start0 w
 refine Zr Tryz.func48 rfl 13 rfl (Nat.le_of_ble_eq_true rfl) ?_
 refine Zb ?_
 refine Zl ?_
 refine ZQ (Z0 rfl) (fun K1 hK1 => ?_)
 refine Z1F (vs := ([(.int .i64 (f)), (.int .i64 (c))] : List Value)) rfl H rfl rfl ?_
 intro b2 w3 (H4 : Sat w [Z5 w (fun _ => False), Z1 b2 36 ([(.int .i64 (f)), (.int .i64 (c))] : List Value)] w3)
 refine hK1 _ _ ?_
 clear hK1 K1
 refine Z3 (Z0 rfl) (d := 4) (v := (.bool false)) rfl (by kernel_rfl) ?_
 refine Zi ?_
 refine Z4 ?_
 refine Z1j [4, 5, 6, 7, 8, 9, 10, 11, 12] (fun G_ W_ => G_ 4 = (.bool (inB f r)) ∧ Sat w [Z5 w (fun _ => False), Z1 b2 36 ([(.int .i64 (f)), (.int .i64 (c))] : List Value)] W_) ?_ ?_
 ·refine Zl ?_
  refine Z3 (Z0 rfl) (d := 5) (v := (.int .i64 (r))) rfl (by kernel_rfl) ?_
  refine Z3 (Z0 rfl) (d := 6) (v := (.bool (decide (r ≥ 0)))) rfl (by kernel_rfl) ?_
  refine Z3 (Z0 rfl) (d := 7) (v := (.bool (decide (r ≥ 0)))) rfl (by kernel_rfl) ?_
  refine (ZD (decide (r ≥ 0))).elim (fun b6 => ?_) (fun b6 => ?_)
  ·have g7 := of_decide_eq_true b6
   refine ZV 7 (.bool true) (congrArg Value.bool b6) ?_
   refine Z3 (Zu 2 7 true rfl (by kernel_rfl) rfl (by kernel_rfl)) (d := 8) (v := (.int .i64 (r))) rfl (by kernel_rfl) ?_
   refine Z3 (Zu 2 7 true rfl (by kernel_rfl) rfl (by kernel_rfl)) (d := 9) (v := (.agg ⟨([(.int .i64 (f)), (.int .i64 (c))] : List Value)⟩)) rfl (Zs (vs := ([(.int .i64 (f)), (.int .i64 (c))] : List Value)) rfl (by kernel_rfl) (by kernel_rfl) (by exact Nat.le_of_ble_eq_true (by kernel_rfl)) (H4.at 1 rfl) (by kernel_rfl)) ?_
   refine ZQ (Zu 2 7 true rfl (by kernel_rfl) rfl (by kernel_rfl)) (fun K8 hK8 => ?_)
   refine ZX (d := 10) rfl (by kernel_rfl) (wN_any w3 f c (by omega)) ?_
   rintro _ w9 ⟨rfl, u11⟩
   have H10 := H4.keepU u11
   refine ⟨_, rfl, ?_⟩
   refine hK8 _ _ ?_
   clear hK8 K8
   refine Z3 (Zu 2 7 true rfl (by kernel_rfl) rfl (by kernel_rfl)) (d := 11) (v := (.bool (decide (r < (3 * f + 1))))) rfl (by kernel_rfl) ?_
   refine Z3 (Z0 rfl) (d := 12) (v := (.bool (decide (r < (3 * f + 1))))) rfl (by kernel_rfl) ?_
   refine Z3 (Z0 rfl) (d := 4) (v := (.bool (decide (r < (3 * f + 1))))) rfl (by kernel_rfl) ?_
   refine Zi ?_
   refine Z02 ?_ ⟨(congrArg Value.bool (show (decide (r < (3 * f + 1))) = (inB f r) by simp [inB, b6])), H10⟩
   exact (Z2 rfl (Z2 rfl (Z2 rfl (Z2 rfl (Z2 rfl (Z2 rfl (Z2 rfl (Z2 rfl (Z2 rfl (Z2 rfl (Z3b)))))))))))
  ·have g12 := of_decide_eq_false b6
   refine ZV 7 (.bool false) (congrArg Value.bool b6) ?_
   refine ZC (Zn 2 7 true rfl (by kernel_rfl) rfl (by kernel_rfl)) rfl ?_
   refine ZC (Zn 2 7 true rfl (by kernel_rfl) rfl (by kernel_rfl)) rfl ?_
   refine ZC (Zn 2 7 true rfl (by kernel_rfl) rfl (by kernel_rfl)) rfl ?_
   refine ZC (Zn 2 7 true rfl (by kernel_rfl) rfl (by kernel_rfl)) rfl ?_
   refine Z3 (Z0 rfl) (d := 12) (v := (.bool false)) rfl (by kernel_rfl) ?_
   refine Z3 (Z0 rfl) (d := 4) (v := (.bool false)) rfl (by kernel_rfl) ?_
   refine Zi ?_
   refine Z02 ?_ ⟨(congrArg Value.bool (show false = (inB f r) by simp [inB, b6])), H4⟩
   exact (Z2 rfl (Z2 rfl (Z2 rfl (Z2 rfl (Z2 rfl (Z2 rfl (Z2 rfl (Z2 rfl (Z2 rfl (Z2 rfl (Z3b)))))))))))
 ·rintro f13 w14 ⟨v16, H15⟩
  refine Zj 4 _ v16 ?_
  refine ZY ?_
  refine Z1i rfl (ZJ (v := (.bool (inB f r))) rfl) ?_
  exact ⟨rfl, H15.upd 0 rfl [] (fun _ h => h.elim)⟩
theorem Z6o (w : World) (b bm : Nat) (B : List Signed) (hbk : (Z1 b 110 [.map (some bm)]).ok w) (hbm : MapAt w bm Z7 (Value.int .i64) (Zh B)) (ta : Option Addr) (tc : Nat) (tx : List UInt8) (ht : ListAt Zw 1 w (.slice ta tx.length tc) tx) (p m : Int) :
  Calls Tryz.prog 49 #[(.pointer (some ⟨b, 0, none⟩)), (.agg ⟨([(.int .i64 (p)), (.int .i64 (m))] : List Value)⟩), (.slice ta tx.length tc)] w fun e w' => e = .returned (.bool (Z1f B p m tx)) ∧ Upd [] w w' := by
 have H := Sat.start0 w
 have hmk : (Z6 (Zh B) (⟨p, tx⟩ : Signed)).getD 0 = Zm B (⟨p, tx⟩ : Signed) := by rw [Z30]; rfl
 refine Zr Tryz.func49 rfl 26 rfl (Nat.le_of_ble_eq_true rfl) ?_
 refine Zb ?_
 refine Zl ?_
 refine ZQ (Z0 rfl) (fun K1 hK1 => ?_)
 refine Z1F (vs := ([(.int .i64 (p)), (.int .i64 (m))] : List Value)) rfl H rfl rfl ?_
 intro b2 w3 (H4 : Sat w [Z5 w (fun _ => False), Z1 b2 29 ([(.int .i64 (p)), (.int .i64 (m))] : List Value)] w3)
 refine hK1 _ _ ?_
 clear hK1 K1
 refine Z3 (Z0 rfl) (d := 6) (v := (.bool false)) rfl (by kernel_rfl) ?_
 refine Zi ?_
 refine Z4 ?_
 refine Zb ?_
 refine Z2k H4 (by kernel_rfl) (by kernel_rfl) ?_
 refine ZT (Z0 rfl) (d := 8) (v := (.pointer (some ⟨b, 0, none⟩))) rfl (fun _ H' => (by kernel_rfl)) ?_
 refine ZT (Z0 rfl) (d := 9) (v := (.pointer (some ⟨b, 0, none⟩))) rfl (fun _ H' => (by kernel_rfl)) ?_
 refine ZT (Z0 rfl) (d := 10) (v := (.pointer (some ⟨b, 0, none⟩))) rfl (fun _ H' => (by kernel_rfl)) ?_
 refine ZT (Z0 rfl) (d := 11) (v := (.map (some bm))) rfl (fun _ H' => (Za rfl (by kernel_rfl) (H'.roCell 0 rfl hbk (fun h => h) rfl))) ?_
 refine ZT (Z0 rfl) (d := 12) (v := (.pointer (some ⟨b2, 0, none⟩))) rfl (fun _ H' => (by kernel_rfl)) ?_
 refine ZT (Z0 rfl) (d := 13) (v := (.int .i64 (p))) rfl (fun _ H' => (Za rfl (by kernel_rfl) (H'.cell 1 rfl rfl))) ?_
 refine ZT (Z0 rfl) (d := 14) (v := (.slice ta tx.length tc)) rfl (fun _ H' => (by kernel_rfl)) ?_
 refine ZT (Z0 rfl) (d := 15) (v := (Z1L tx)) rfl (fun _ H' => (Z21 (e := 5) (s := tx) (by kernel_rfl) (by kernel_rfl) (by kernel_rfl) rfl (Z1X (ListAt.now H' 0 rfl ht)))) ?_
 refine ZT (Z0 rfl) (d := 16) (v := (.agg ⟨([(.int .i64 (p)), (Z1L tx)] : List Value)⟩)) rfl (fun _ H' => (by kernel_rfl)) ?_
 refine ZT (Z0 rfl) (d := 17) (v := (.int .i64 ((Z6 (Zh B) (⟨p, tx⟩ : Signed)).getD 0))) rfl (fun _ H' => (Z2Y (kt := 107) (et := 3) Z3J (by kernel_rfl) (fun w => by kernel_rfl) rfl (⟨p, tx⟩ : Signed) rfl (H'.roMap 0 rfl hbm (fun h => h)) (Z9B (Value.int .i64) _ _))) ?_
 refine ZT (Z0 rfl) (d := 7) (v := (.int .i64 ((Z6 (Zh B) (⟨p, tx⟩ : Signed)).getD 0))) rfl (fun _ H' => (by kernel_rfl)) ?_
 refine Z1Q ?_
 intro w5 H6
 refine Z4 ?_
 refine Zb ?_
 refine Zl ?_
 refine Z3 (Z0 rfl) (d := 18) (v := (.int .i64 ((Z6 (Zh B) (⟨p, tx⟩ : Signed)).getD 0))) rfl (by kernel_rfl) ?_
 refine Z3 (Z0 rfl) (d := 19) (v := (.bool (decide (((Z6 (Zh B) (⟨p, tx⟩ : Signed)).getD 0) > 0)))) rfl (by kernel_rfl) ?_
 refine Z3 (Z0 rfl) (d := 20) (v := (.bool (decide (((Z6 (Zh B) (⟨p, tx⟩ : Signed)).getD 0) > 0)))) rfl (by kernel_rfl) ?_
 refine (ZD (decide (((Z6 (Zh B) (⟨p, tx⟩ : Signed)).getD 0) > 0))).elim (fun b7 => ?_) (fun b7 => ?_)
 ·have g8 := of_decide_eq_true b7
  refine ZV 20 (.bool true) (congrArg Value.bool b7) ?_
  have g9 := of_decide_eq_true b7
  refine Z3 (Zu 2 20 true rfl (by kernel_rfl) rfl (by kernel_rfl)) (d := 21) (v := (.int .i64 ((Z6 (Zh B) (⟨p, tx⟩ : Signed)).getD 0))) rfl (by kernel_rfl) ?_
  refine Z3 (Zu 2 20 true rfl (by kernel_rfl) rfl (by kernel_rfl)) (d := 22) (v := (.pointer (some ⟨b2, 1, none⟩))) rfl (by kernel_rfl) ?_
  refine Z3 (Zu 2 20 true rfl (by kernel_rfl) rfl (by kernel_rfl)) (d := 23) (v := (.int .i64 (m))) rfl (Za rfl (by kernel_rfl) (H6.cell 1 rfl rfl)) ?_
  refine Z3 (Zu 2 20 true rfl (by kernel_rfl) rfl (by kernel_rfl)) (d := 24) (v := (.bool (decide (((Z6 (Zh B) (⟨p, tx⟩ : Signed)).getD 0) = m)))) rfl (by kernel_rfl) ?_
  refine Z3 (Z0 rfl) (d := 25) (v := (.bool (decide (((Z6 (Zh B) (⟨p, tx⟩ : Signed)).getD 0) = m)))) rfl (by kernel_rfl) ?_
  refine Z3 (Z0 rfl) (d := 6) (v := (.bool (decide (((Z6 (Zh B) (⟨p, tx⟩ : Signed)).getD 0) = m)))) rfl (by kernel_rfl) ?_
  refine Zi ?_
  refine Z4 ?_
  refine ZY ?_
  refine Z1i rfl (ZJ (v := (.bool (decide (((Z6 (Zh B) (⟨p, tx⟩ : Signed)).getD 0) = m)))) rfl) ?_
  exact ⟨by unfold Z1f; rw [← hmk]; simp [b7], H6.upd 0 rfl [] (fun _ h => h.elim)⟩
 ·have g10 := of_decide_eq_false b7
  refine ZV 20 (.bool false) (congrArg Value.bool b7) ?_
  have g11 := of_decide_eq_false b7
  refine ZC (Zn 2 20 true rfl (by kernel_rfl) rfl (by kernel_rfl)) rfl ?_
  refine ZC (Zn 2 20 true rfl (by kernel_rfl) rfl (by kernel_rfl)) rfl ?_
  refine ZC (Zn 2 20 true rfl (by kernel_rfl) rfl (by kernel_rfl)) rfl ?_
  refine ZC (Zn 2 20 true rfl (by kernel_rfl) rfl (by kernel_rfl)) rfl ?_
  refine Z3 (Z0 rfl) (d := 25) (v := (.bool false)) rfl (by kernel_rfl) ?_
  refine Z3 (Z0 rfl) (d := 6) (v := (.bool false)) rfl (by kernel_rfl) ?_
  refine Zi ?_
  refine Z4 ?_
  refine ZY ?_
  refine Z1i rfl (ZJ (v := (.bool false)) rfl) ?_
  exact ⟨by unfold Z1f; rw [← hmk]; simp [b7], H6.upd 0 rfl [] (fun _ h => h.elim)⟩
theorem Z6D (w : World) :
  Calls Tryz.prog 36 #[] w fun e w' => ∃ b mb, e = .returned (.pointer (some ⟨b, 0, none⟩)) ∧ (ZI [Z1 b 110 [.map (some mb)], ZA mb Z7 (Value.int .i64) (Zh [])]).ok w' ∧ Upd [] w w' ∧ ∀ q_, (ZI [Z1 b 110 [.map (some mb)], ZA mb Z7 (Value.int .i64) (Zh [])]).fp q_ → w.heap.size ≤ q_ := by
 have H := Sat.start0 w
 refine Zr Tryz.func36 rfl 4 rfl (Nat.le_of_ble_eq_true rfl) ?_
 refine Zb ?_
 refine Zl ?_
 refine Z3 (Z0 rfl) (d := 0) (v := (.pointer none)) rfl (by kernel_rfl) ?_
 refine Zi ?_
 refine Z4 ?_
 refine Zb ?_
 refine Zl ?_
 refine ZQ (Z0 rfl) (fun K1 hK1 => ?_)
 refine Z5E Z7 (Value.int .i64) rfl H ?_
 intro b2 w3 (H4 : Sat w [Z5 w (fun _ => False), ZA b2 Z7 (Value.int .i64) []] w3)
 refine hK1 _ _ ?_
 clear hK1 K1
 refine Z3 (Z0 rfl) (d := 2) (v := (.agg ⟨([(.map (some b2))] : List Value)⟩)) rfl (by kernel_rfl) ?_
 refine ZQ (Z0 rfl) (fun K5 hK5 => ?_)
 refine Z1F (vs := ([(.map (some b2))] : List Value)) rfl H4 rfl rfl ?_
 intro b6 w7 (H8 : Sat w [Z5 w (fun _ => False), ZA b2 Z7 (Value.int .i64) [], Z1 b6 110 ([(.map (some b2))] : List Value)] w7)
 refine hK5 _ _ ?_
 clear hK5 K5
 refine Z3 (Z0 rfl) (d := 0) (v := (.pointer (some ⟨b6, 0, none⟩))) rfl (by kernel_rfl) ?_
 refine Zi ?_
 refine Z4 ?_
 refine ZY ?_
 refine Z1i rfl (ZJ (v := (.pointer (some ⟨b6, 0, none⟩))) rfl) ?_
 exact ⟨b6, b2, rfl, H8.fin [2, 1] (by decide) rfl, H8.upd 0 rfl [] (fun _ h => h.elim), H8.freshS 0 rfl (fun _ h => h) [2, 1] rfl rfl⟩
theorem Z8n (w : World) :
  Calls Tryz.prog 7 #[] w fun e w' => ∃ b mb r, e = .returned (.tuple #[.agg #[.pointer (some ⟨b, 0, none⟩), .pointer (some ⟨r, 0, none⟩)], .bool true]) ∧ (ZI [Z1 b 110 [.map (some mb)], ZA mb Z7 (Value.int .i64) (Zh []), Z1 r 98 [.slice none 0 0]]).ok w' ∧ Upd [] w w' ∧ ∀ q_, (ZI [Z1 b 110 [.map (some mb)], ZA mb Z7 (Value.int .i64) (Zh []), Z1 r 98 [.slice none 0 0]]).fp q_ → w.heap.size ≤ q_ := by
 have H := Sat.start0 w
 refine Zr Tryz.func7 rfl 10 rfl (Nat.le_of_ble_eq_true rfl) ?_
 refine Zb ?_
 refine Zl ?_
 refine ZQ (Z0 rfl) (fun K1 hK1 => ?_)
 refine Z19 (zs := ([(.pointer none), (.pointer none)] : List Value)) (z := (.agg ⟨([(.pointer none), (.pointer none)] : List Value)⟩)) rfl H (by kernel_rfl) (by kernel_rfl) ?_
 intro b2 w3 (H4 : Sat w [Z5 w (fun _ => False), Z1 b2 40 ([(.pointer none), (.pointer none)] : List Value)] w3)
 refine hK1 _ _ ?_
 clear hK1 K1
 refine Z3 (Z0 rfl) (d := 1) (v := (.bool false)) rfl (by kernel_rfl) ?_
 refine Zi ?_
 refine Z4 ?_
 refine Zb ?_
 refine Zl ?_
 refine ZQ (Z0 rfl) (fun K5 hK5 => ?_)
 refine ZX (d := 3) rfl (by kernel_rfl) (Z6D w3) ?_
 rintro _ w6 ⟨b7, m8, rfl, k9, p10, q11⟩
 have H12 : Sat w [Z5 w (fun _ => False), Z1 b2 40 ([(.pointer none), (.pointer none)] : List Value), ZI [Z1 b7 110 [.map (some m8)], ZA m8 Z7 (Value.int .i64) (Zh [])]] w6 := H4.addU p10 k9 q11
 have H13 : Sat w [Z5 w (fun _ => False), Z1 b2 40 ([(.pointer none), (.pointer none)] : List Value), Z1 b7 110 ([(.map (some m8))] : List Value), ZA m8 Z7 (Value.int .i64) (Zh [])] w6 := H12.open 2 rfl
 refine ⟨_, rfl, ?_⟩
 refine hK5 _ _ ?_
 clear hK5 K5
 refine Z3 (Z0 rfl) (d := 2) (v := (.pointer (some ⟨b7, 0, none⟩))) rfl (by kernel_rfl) ?_
 refine Zi ?_
 refine Z4 ?_
 refine Zb ?_
 refine Zl ?_
 refine Z3 (Z0 rfl) (d := 4) (v := (.pointer (some ⟨b7, 0, none⟩))) rfl (by kernel_rfl) ?_
 refine Z3 (Z0 rfl) (d := 5) (v := (.agg ⟨([(.slice none 0 0)] : List Value)⟩)) rfl (by kernel_rfl) ?_
 refine ZQ (Z0 rfl) (fun K14 hK14 => ?_)
 refine Z1F (vs := ([(.slice none 0 0)] : List Value)) rfl H13 rfl rfl ?_
 intro b15 w16 (H17 : Sat w [Z5 w (fun _ => False), Z1 b2 40 ([(.pointer none), (.pointer none)] : List Value), Z1 b7 110 ([(.map (some m8))] : List Value), ZA m8 Z7 (Value.int .i64) (Zh []), Z1 b15 98 ([(.slice none 0 0)] : List Value)] w16)
 refine hK14 _ _ ?_
 clear hK14 K14
 refine Z3 (Z0 rfl) (d := 7) (v := (.agg ⟨([(.pointer (some ⟨b7, 0, none⟩)), (.pointer (some ⟨b15, 0, none⟩))] : List Value)⟩)) rfl (by kernel_rfl) ?_
 refine Z3 (Z0 rfl) (d := 8) (v := (.pointer (some ⟨b7, 0, none⟩))) rfl (by kernel_rfl) ?_
 refine Z3 (Z0 rfl) (d := 9) (v := (.bool true)) rfl (by kernel_rfl) ?_
 refine ZQ (Z0 rfl) (fun K18 hK18 => ?_)
 refine Z29 (vs := ([(.pointer (some ⟨b7, 0, none⟩)), (.pointer (some ⟨b15, 0, none⟩))] : List Value)) rfl H17 1 rfl rfl rfl rfl (by kernel_rfl) (Nat.le_of_ble_eq_true (by kernel_rfl)) (Nat.le_of_ble_eq_true (by kernel_rfl)) (by kernel_rfl) ?_
 intro w19 (H20 : Sat w [Z5 w (fun _ => False), Z1 b2 40 ([(.pointer (some ⟨b7, 0, none⟩)), (.pointer (some ⟨b15, 0, none⟩))] : List Value), Z1 b7 110 ([(.map (some m8))] : List Value), ZA m8 Z7 (Value.int .i64) (Zh []), Z1 b15 98 ([(.slice none 0 0)] : List Value)] w19)
 refine hK18 _ _ ?_
 clear hK18 K18
 refine Z3 (Z0 rfl) (d := 1) (v := (.bool true)) rfl (by kernel_rfl) ?_
 refine Zi ?_
 refine Z4 ?_
 refine ZY ?_
 refine Z7s rfl (Z0e (vs := ([(.pointer (some ⟨b7, 0, none⟩)), (.pointer (some ⟨b15, 0, none⟩))] : List Value)) rfl (by kernel_rfl) (by kernel_rfl) (by exact Nat.le_of_ble_eq_true (by kernel_rfl)) (H20.at 1 rfl) (by kernel_rfl)) (ZJ (v := (.bool true)) rfl) ?_
 exact ⟨b7, m8, b15, rfl, H20.fin [2, 3, 4] (by decide) rfl, H20.upd 0 rfl [] (fun _ h => h.elim), H20.freshS 0 rfl (fun _ h => h) [2, 3, 4] rfl rfl⟩
def ZL (L : List Ck) : Ck where
 fp b := ∃ A ∈ L, A.fp b
 ok w := ∀ A ∈ L, A.ok w
 stay {w w'} h hb A hA := A.stay (h A hA) fun b hf => hb b ⟨A, hA, hf⟩
 lt {w} h b hb := by obtain ⟨A, hA, hf⟩ := hb; exact A.lt (h A hA) b hf
section
variable {w0 w : World} {A : Ck} {L R G : List Ck}
theorem Sat.bag0 (H : Sat w0 G w) : Sat w0 (G ++ [ZL []]) w :=
 H.add (Ext.refl w) (fun _ _ => rfl) (fun A hA => by simp at hA) (fun b hb => by obtain ⟨A, hA, _⟩ := hb; simp at hA)
theorem Sat.bag (H : Sat w0 (ZL L :: A :: R) w) : Sat w0 (ZL (A :: L) :: R) w := by
 have h1 := List.pairwise_cons.1 H.dis
 have h2 := List.pairwise_cons.1 h1.2
 refine ⟨H.ext, fun C hC => ?_, List.pairwise_cons.2 ⟨fun C hC b hb hc => ?_, h2.2⟩⟩
 ·rcases List.mem_cons.1 hC with rfl | hC
  ·intro B hB
   rcases List.mem_cons.1 hB with rfl | hB
   ·exact H.all _ (by simp)
   ·exact (show (ZL L).ok w from H.all _ (by simp)) B hB
  ·exact H.all _ (by simp [hC])
 ·obtain ⟨B, hB, hf⟩ := hb
  rcases List.mem_cons.1 hB with rfl | hB
  ·exact h2.1 C hC b hf hc
  ·exact h1.1 C (by simp [hC]) b ⟨B, hB, hf⟩ hc
end
def stC (c : CeR) : Ck := Zd 101 38 (.slice c.sa c.S.length c.sc) c.S.length (c.S.flatMap Z0o)
def ceC (p : PrR) : Ck := Zd 53 38 (.slice p.ca p.C.length p.cc) p.C.length (p.C.flatMap Z01)
def PIn (L : List Ck) (p : PrR) : Prop := ceC p ∈ L ∧ ∀ c ∈ p.C, stC c ∈ L
section
variable {L : List Ck} {A : Ck} {p : PrR} {x : CeR} {C : List CeR} {D : List PrR} {w : World} {a b : Int} {S : List Ze}
theorem PIn.ok (h : PIn L p) (hb : (ZL L).ok w) : PrOk w p :=
 ⟨ListAt.row Z2E (by decide) (hb _ h.1), fun c hc => ListAt.row Z2o (by decide) (hb _ (h.2 c hc))⟩
theorem PIn.more (h : PIn L p) : PIn (A :: L) p := ⟨List.mem_cons_of_mem _ h.1, fun c hc => List.mem_cons_of_mem _ (h.2 c hc)⟩
theorem Z9v (h : ∀ c ∈ C, stC c ∈ L) : ∀ c ∈ C ++ [x], stC c ∈ stC x :: L := fun c hc => by
 rcases List.mem_append.1 hc with hc | hc
 ·exact List.mem_cons_of_mem _ (h c hc)
 ·rw [List.mem_singleton.1 hc]; exact List.mem_cons_self
theorem Z3g {c : CeR} (h : (ZL L).ok w) (hm : stC c ∈ L) : ListAt Z0o 38 w (.slice c.sa c.S.length c.sc) c.S := ListAt.row Z2o (by decide) (h _ hm)
end
def Z6w : Go.Shelf.Ren := ⟨fun | 41 => 94 | n => n, fun | 22 => 51 | 23 => 101 | 4 => 4 | n => n, fun | n => n⟩
theorem Z7z : Go.Proofs.SlLaysE0.n41 Tryz.prog Z6w := {
 mixed := by kernel_rfl,
 f41 := ⟨Tryz.f94.name, by decide, Tryz.func94.trans (congrArg some (by kernel_rfl))⟩,
 t4 := Tryz.underlying4,
 a4 := Tryz.isAgg4,
 z4 := Tryz.sizeOf4,
 v4 := Tryz.zeroValue4,
 t22 := Tryz.underlying51,
 a22 := Tryz.isAgg51,
 z22 := Tryz.sizeOf51,
 v22 := Tryz.zeroValue51 }
theorem Z7k (w : World) (v : Value) (s : List Ze) (hs : (Zd 101 38 v s.length (s.flatMap Z0o)).ok w) (hl : s.length ≤ 1000) : Calls Tryz.prog 94 #[v] w fun e w' => ∃ u, e = .returned u ∧ (Zd 101 38 u s.length (s.flatMap Z0o)).ok w' ∧ Upd [] w w' ∧ ∀ b, (Zd 101 38 u s.length (s.flatMap Z0o)).fp b → w.heap.size ≤ b := by
 have hfl : (s.flatMap Z0o).length = s.length * 38 := Z1J Z0o 38 Z2o s
 obtain ⟨i, z, _, h1, h2, h3, h4, h5, h6⟩ := Z3a (P := Tryz.prog) (T := 51) (e := 101) (size := 38) (bytes := 80) (by kernel_rfl)
 have hs' := hs
 rcases hs.2 with ⟨rfl, h0⟩ | ⟨g, c, cur, rfl, _⟩
 ·obtain rfl := List.eq_nil_of_length_eq_zero h0
  exact (AnyE.slices_Clone_nil (P := Tryz.prog) Z7z 0 0 w).mono fun e w' ⟨he, hw⟩ => ⟨_, he, World.ownsRow_nil _ 0 _ _, hw ▸ Upd.refl _ _, fun b hb => by simp [Zd, Value.ownBlock] at hb⟩
 ·refine (AnyE.slices_Clone (P := Tryz.prog) Z7z i z 38 80 h1 h2 h3 h4 h5 h6 Tryz.sizeOf101 g 0 s.length c (s.flatMap Z0o) w hfl (by unfold maxLen; omega) (by omega) (fun j u hu => by rw [Nat.zero_add]; exact Z2Q hs' rfl hu) (fun u hu => List.all_eq_true.1 (Z0Z Z0o Z4s s) u hu)).mono fun e w' ⟨v', he, hr, _, hb⟩ => ⟨v', he, ?_, Below.upd hb, ?_⟩
  ·refine ⟨hr.1, ?_⟩
   rcases hr.2 with h | ⟨g', cap, cur', e1, _, r⟩
   ·exact .inl h
   ·exact .inr ⟨g', cap, cur', e1, Nat.zero_le _, r⟩
  ·intro b hb2
   rcases hr.2 with ⟨rfl, _⟩ | ⟨g', cap, cur', rfl, hge, _⟩
   ·simp [Zd, Value.ownBlock] at hb2
   ·simp only [Zd, Value.ownBlock, Option.some.injEq] at hb2; omega
end Go.Proofs.YtoaifondpohniaaGreat
