/- WHAT IS PROVED: contracts and plain laws of BatA. Conditions: stated with each. -/
import Derived.Test.YtgigjkjdmalmaaaGreatPR05
import Derived.Test.YtgigjkjdmalmaaaGreatPR12
import Derived.Test.YtgigjkjdmalmaaaGreatPR13
set_option maxHeartbeats 4000000
set_option maxRecDepth 100000
namespace Go.Proofs.YtgigjkjdmalmaaaGreat
open Go.RowKit
theorem Z2b (w : World) (v n : Int) (hn : n ≤ 4611686018427387904) :
  Calls Tryz.prog 8 #[(.int .i64 (v)), (.int .i64 (n))] w fun e w' => e = .returned (.int .i64 (Z08 v n)) ∧ Upd [] w w' := by
 have H := Sat.start0 w
 refine Zu Tryz.func8 rfl 17 rfl (Nat.le_of_ble_eq_true rfl) ?_
 refine Zf ?_
 refine Zm ?_
 refine Z3 (Z1 rfl) (d := 4) (v := (.int .i64 (0))) rfl (by kernel_rfl) ?_
 refine Zj ?_
 refine Z7 ?_
 refine Zf ?_
 refine Zf ?_
 refine Zm ?_
 refine Z3 (Z1 rfl) (d := 6) (v := (.int .i64 (n))) rfl (by kernel_rfl) ?_
 refine Z3 (Z1 rfl) (d := 7) (v := (.bool (decide (n < 1)))) rfl (by kernel_rfl) ?_
 refine Zj ?_
 refine Z7 ?_
 refine (Z00 (decide (n < 1))).elim (fun b1 => ?_) (fun b1 => ?_)
 ·have g2 := of_decide_eq_true b1
  refine Zq 7 (.bool true) (congrArg Value.bool b1) ?_
  refine Z0o rfl ?_
  refine Zf ?_
  refine Zm ?_
  refine Z3 (Z1 rfl) (d := 4) (v := (.int .i64 (0))) rfl (by kernel_rfl) ?_
  refine Zj ?_
  refine Z7 ?_
  refine ZY ?_
  refine Z1b ?_
  refine Z0I rfl (ZI (v := (.int .i64 (0))) rfl) ?_
  exact ⟨by unfold Z08; rw [if_pos (of_decide_eq_true b1)], H.upd 0 rfl [] (fun _ h => h.elim)⟩
 ·have g3 := of_decide_eq_false b1
  refine Zq 7 (.bool false) (congrArg Value.bool b1) ?_
  refine ZT rfl ?_
  refine ZO ?_
  refine Z7 ?_
  refine Zf ?_
  refine Zm ?_
  refine Z3 (Z1 rfl) (d := 8) (v := (.int .i64 (v))) rfl (by kernel_rfl) ?_
  refine Z3 (Z1 rfl) (d := 9) (v := (.int .i64 (n))) rfl (by kernel_rfl) ?_
  refine Z3 (Z1 rfl) (d := 10) (v := (.int .i64 (Int.tmod v n))) rfl (e_tmod (by kernel_rfl) (by omega)) ?_
  refine Z3 (Z1 rfl) (d := 5) (v := (.int .i64 (Int.tmod v n))) rfl (by kernel_rfl) ?_
  refine Zj ?_
  refine Z7 ?_
  refine Zf ?_
  refine Zf ?_
  refine Zm ?_
  refine Z3 (Z1 rfl) (d := 11) (v := (.int .i64 (Int.tmod v n))) rfl (by kernel_rfl) ?_
  refine Z3 (Z1 rfl) (d := 12) (v := (.bool (decide ((Int.tmod v n) < 0)))) rfl (by kernel_rfl) ?_
  refine Zj ?_
  refine Z7 ?_
  refine (Z00 (decide ((Int.tmod v n) < 0))).elim (fun b4 => ?_) (fun b4 => ?_)
  ·have g5 := of_decide_eq_true b4
   refine Zq 12 (.bool true) (congrArg Value.bool b4) ?_
   refine Z0o rfl ?_
   refine Zm ?_
   refine Z3 (Z1 rfl) (d := 13) (v := (.int .i64 (Int.tmod v n))) rfl (by kernel_rfl) ?_
   refine Z3 (Z1 rfl) (d := 14) (v := (.int .i64 (n))) rfl (by kernel_rfl) ?_
   refine Z3 (Z1 rfl) (d := 15) (v := (.int .i64 ((Int.tmod v n) + n))) rfl (Z06 (z := (Int.tmod v n) + n) (by kernel_rfl) (IntWalk.i64_in _ (by have := Z4F v n (by omega); omega))) ?_
   refine Z3 (Z1 rfl) (d := 5) (v := (.int .i64 ((Int.tmod v n) + n))) rfl (by kernel_rfl) ?_
   refine Zj ?_
   refine Z7 ?_
   refine Zf ?_
   refine Zm ?_
   refine Z3 (Z1 rfl) (d := 16) (v := (.int .i64 ((Int.tmod v n) + n))) rfl (by kernel_rfl) ?_
   refine Z3 (Z1 rfl) (d := 4) (v := (.int .i64 ((Int.tmod v n) + n))) rfl (by kernel_rfl) ?_
   refine Zj ?_
   refine Z7 ?_
   refine ZY ?_
   refine Z0I rfl (ZI (v := (.int .i64 ((Int.tmod v n) + n))) rfl) ?_
   exact ⟨by unfold Z08; rw [if_neg (of_decide_eq_false b1), Z3Y v n (by have := of_decide_eq_false b1; omega), if_pos (of_decide_eq_true b4)], H.upd 0 rfl [] (fun _ h => h.elim)⟩
  ·have g6 := of_decide_eq_false b4
   refine Zq 12 (.bool false) (congrArg Value.bool b4) ?_
   refine ZT rfl ?_
   refine ZO ?_
   refine Z7 ?_
   refine Zf ?_
   refine Zm ?_
   refine Z3 (Z1 rfl) (d := 16) (v := (.int .i64 (Int.tmod v n))) rfl (by kernel_rfl) ?_
   refine Z3 (Z1 rfl) (d := 4) (v := (.int .i64 (Int.tmod v n))) rfl (by kernel_rfl) ?_
   refine Zj ?_
   refine Z7 ?_
   refine ZY ?_
   refine Z0I rfl (ZI (v := (.int .i64 (Int.tmod v n))) rfl) ?_
   exact ⟨by unfold Z08; rw [if_neg (of_decide_eq_false b1), Z3Y v n (by have := of_decide_eq_false b1; omega), if_neg (of_decide_eq_false b4)], H.upd 0 rfl [] (fun _ h => h.elim)⟩
theorem Z6v (w : World) (f c : Int) (hf : -1099511627776 ≤ f ∧ f ≤ 1099511627776) :
  Calls Tryz.prog 55 #[(.agg ⟨([(.int .i64 (f)), (.int .i64 (c))] : List Value)⟩)] w fun e w' => e = .returned (.int .i64 (3 * f + 1)) ∧ Upd [] w w' := by
 have H := Sat.start0 w
 refine Zu Tryz.func55 rfl 7 rfl (Nat.le_of_ble_eq_true rfl) ?_
 refine Zf ?_
 refine Zm ?_
 refine ZC (Z1 rfl) (fun K1 hK1 => ?_)
 refine Z0L (vs := ([(.int .i64 (f)), (.int .i64 (c))] : List Value)) rfl H rfl rfl ?_
 intro b2 w3 (H4 : Sat w [Zb w (fun _ => False), Z6 b2 27 ([(.int .i64 (f)), (.int .i64 (c))] : List Value)] w3)
 refine hK1 _ _ ?_
 clear hK1 K1
 refine Z3 (Z1 rfl) (d := 2) (v := (.int .i64 (0))) rfl (by kernel_rfl) ?_
 refine Zj ?_
 refine Z7 ?_
 refine Zf ?_
 refine Zm ?_
 refine Z3 (Z1 rfl) (d := 3) (v := (.pointer (some ⟨b2, 0, none⟩))) rfl (by kernel_rfl) ?_
 refine Z3 (Z1 rfl) (d := 4) (v := (.int .i64 (f))) rfl (Zh rfl (by kernel_rfl) (H4.cell 1 rfl rfl)) ?_
 refine Z3 (Z1 rfl) (d := 5) (v := (.int .i64 (3 * f))) rfl (Z06 (z := 3 * f) (by kernel_rfl) (IntWalk.i64_in _ (by omega))) ?_
 refine Z3 (Z1 rfl) (d := 6) (v := (.int .i64 ((3 * f) + 1))) rfl (Z06 (z := (3 * f) + 1) (by kernel_rfl) (IntWalk.i64_in _ (by omega))) ?_
 refine Z3 (Z1 rfl) (d := 2) (v := (.int .i64 ((3 * f) + 1))) rfl (by kernel_rfl) ?_
 refine Zj ?_
 refine Z7 ?_
 refine ZY ?_
 refine Z0I rfl (ZI (v := (.int .i64 ((3 * f) + 1))) rfl) ?_
 exact ⟨rfl, H4.upd 0 rfl [] (fun _ h => h.elim)⟩
theorem rN_any (w : World) (f c : Int) (hf : -1099511627776 ≤ f ∧ f ≤ 1099511627776) :
  Calls Tryz.prog 9 #[(.agg ⟨([(.int .i64 (f)), (.int .i64 (c))] : List Value)⟩)] w fun e w' => e = .returned (.int .i64 (3 * f + 1)) ∧ Upd [] w w' := by
 have H := Sat.start0 w
 refine Zu Tryz.func9 rfl 7 rfl (Nat.le_of_ble_eq_true rfl) ?_
 refine Zf ?_
 refine Zm ?_
 refine ZC (Z1 rfl) (fun K1 hK1 => ?_)
 refine Z0L (vs := ([(.int .i64 (f)), (.int .i64 (c))] : List Value)) rfl H rfl rfl ?_
 intro b2 w3 (H4 : Sat w [Zb w (fun _ => False), Z6 b2 27 ([(.int .i64 (f)), (.int .i64 (c))] : List Value)] w3)
 refine hK1 _ _ ?_
 clear hK1 K1
 refine Z3 (Z1 rfl) (d := 2) (v := (.int .i64 (0))) rfl (by kernel_rfl) ?_
 refine Zj ?_
 refine Z7 ?_
 refine Zf ?_
 refine Zm ?_
 refine Z3 (Z1 rfl) (d := 3) (v := (.pointer (some ⟨b2, 0, none⟩))) rfl (by kernel_rfl) ?_
 refine Z3 (Z1 rfl) (d := 4) (v := (.int .i64 (f))) rfl (Zh rfl (by kernel_rfl) (H4.cell 1 rfl rfl)) ?_
 refine Z3 (Z1 rfl) (d := 5) (v := (.int .i64 (3 * f))) rfl (Z06 (z := 3 * f) (by kernel_rfl) (IntWalk.i64_in _ (by omega))) ?_
 refine Z3 (Z1 rfl) (d := 6) (v := (.int .i64 ((3 * f) + 1))) rfl (Z06 (z := (3 * f) + 1) (by kernel_rfl) (IntWalk.i64_in _ (by omega))) ?_
 refine Z3 (Z1 rfl) (d := 2) (v := (.int .i64 ((3 * f) + 1))) rfl (by kernel_rfl) ?_
 refine Zj ?_
 refine Z7 ?_
 refine ZY ?_
 refine Z0I rfl (ZI (v := (.int .i64 ((3 * f) + 1))) rfl) ?_
 exact ⟨rfl, H4.upd 0 rfl [] (fun _ h => h.elim)⟩
theorem Z4s (w : World) (f c r : Int) (hf : -1099511627776 ≤ f ∧ f ≤ 1099511627776) :
  Calls Tryz.prog 36 #[(.agg ⟨([(.int .i64 (f)), (.int .i64 (c))] : List Value)⟩), (.int .i64 (r))] w fun e w' => e = .returned (.bool (inB f r)) ∧ Upd [] w w' := by
 have H := Sat.start0 w
 refine Zu Tryz.func36 rfl 13 rfl (Nat.le_of_ble_eq_true rfl) ?_
 refine Zf ?_
 refine Zm ?_
 refine ZC (Z1 rfl) (fun K1 hK1 => ?_)
 refine Z0L (vs := ([(.int .i64 (f)), (.int .i64 (c))] : List Value)) rfl H rfl rfl ?_
 intro b2 w3 (H4 : Sat w [Zb w (fun _ => False), Z6 b2 27 ([(.int .i64 (f)), (.int .i64 (c))] : List Value)] w3)
 refine hK1 _ _ ?_
 clear hK1 K1
 refine Z3 (Z1 rfl) (d := 4) (v := (.bool false)) rfl (by kernel_rfl) ?_
 refine Zj ?_
 refine Z7 ?_
 refine Z0p [4, 5, 6, 7, 8, 9, 10, 11, 12] (fun G_ W_ => G_ 4 = (.bool (inB f r)) ∧ Sat w [Zb w (fun _ => False), Z6 b2 27 ([(.int .i64 (f)), (.int .i64 (c))] : List Value)] W_) ?_ ?_
 ·refine Zm ?_
  refine Z3 (Z1 rfl) (d := 5) (v := (.int .i64 (r))) rfl (by kernel_rfl) ?_
  refine Z3 (Z1 rfl) (d := 6) (v := (.bool (decide (r ≥ 0)))) rfl (by kernel_rfl) ?_
  refine Z3 (Z1 rfl) (d := 7) (v := (.bool (decide (r ≥ 0)))) rfl (by kernel_rfl) ?_
  refine (Z00 (decide (r ≥ 0))).elim (fun b6 => ?_) (fun b6 => ?_)
  ·have g7 := of_decide_eq_true b6
   refine Z05 7 (.bool true) (congrArg Value.bool b6) ?_
   refine Z3 (Zs 2 7 true rfl (by kernel_rfl) rfl (by kernel_rfl)) (d := 8) (v := (.int .i64 (r))) rfl (by kernel_rfl) ?_
   refine Z3 (Zs 2 7 true rfl (by kernel_rfl) rfl (by kernel_rfl)) (d := 9) (v := (.agg ⟨([(.int .i64 (f)), (.int .i64 (c))] : List Value)⟩)) rfl (ZM (vs := ([(.int .i64 (f)), (.int .i64 (c))] : List Value)) rfl (by kernel_rfl) (by kernel_rfl) (by exact Nat.le_of_ble_eq_true (by kernel_rfl)) (H4.at 1 rfl) (by kernel_rfl)) ?_
   refine ZC (Zs 2 7 true rfl (by kernel_rfl) rfl (by kernel_rfl)) (fun K8 hK8 => ?_)
   refine ZD (d := 10) rfl (by kernel_rfl) (Z6v w3 f c (by omega)) ?_
   rintro _ w9 ⟨rfl, u11⟩
   have H10 := H4.keepU u11
   refine ⟨_, rfl, ?_⟩
   refine hK8 _ _ ?_
   clear hK8 K8
   refine Z3 (Zs 2 7 true rfl (by kernel_rfl) rfl (by kernel_rfl)) (d := 11) (v := (.bool (decide (r < (3 * f + 1))))) rfl (by kernel_rfl) ?_
   refine Z3 (Z1 rfl) (d := 12) (v := (.bool (decide (r < (3 * f + 1))))) rfl (by kernel_rfl) ?_
   refine Z3 (Z1 rfl) (d := 4) (v := (.bool (decide (r < (3 * f + 1))))) rfl (by kernel_rfl) ?_
   refine Zj ?_
   refine ZS ?_ ⟨(congrArg Value.bool (show (decide (r < (3 * f + 1))) = (inB f r) by simp [inB, b6])), H10⟩
   exact (Z4 rfl (Z4 rfl (Z4 rfl (Z4 rfl (Z4 rfl (Z4 rfl (Z4 rfl (Z4 rfl (Z4 rfl (Z4 rfl (ZP)))))))))))
  ·have g12 := of_decide_eq_false b6
   refine Z05 7 (.bool false) (congrArg Value.bool b6) ?_
   refine ZG (ZQ 2 7 true rfl (by kernel_rfl) rfl (by kernel_rfl)) rfl ?_
   refine ZG (ZQ 2 7 true rfl (by kernel_rfl) rfl (by kernel_rfl)) rfl ?_
   refine ZG (ZQ 2 7 true rfl (by kernel_rfl) rfl (by kernel_rfl)) rfl ?_
   refine ZG (ZQ 2 7 true rfl (by kernel_rfl) rfl (by kernel_rfl)) rfl ?_
   refine Z3 (Z1 rfl) (d := 12) (v := (.bool false)) rfl (by kernel_rfl) ?_
   refine Z3 (Z1 rfl) (d := 4) (v := (.bool false)) rfl (by kernel_rfl) ?_
   refine Zj ?_
   refine ZS ?_ ⟨(congrArg Value.bool (show false = (inB f r) by simp [inB, b6])), H4⟩
   exact (Z4 rfl (Z4 rfl (Z4 rfl (Z4 rfl (Z4 rfl (Z4 rfl (Z4 rfl (Z4 rfl (Z4 rfl (Z4 rfl (ZP)))))))))))
 ·rintro f13 w14 ⟨v16, H15⟩
  refine Zq 4 _ v16 ?_
  refine ZY ?_
  refine Z0I rfl (ZI (v := (.bool (inB f r))) rfl) ?_
  exact ⟨rfl, H15.upd 0 rfl [] (fun _ h => h.elim)⟩
theorem Z4y (w : World) :
  Calls Tryz.prog 10 #[] w fun e w' => ∃ b mb, e = .returned (.pointer (some ⟨b, 0, none⟩)) ∧ (ZF [Z6 b 108 [.map (some mb)], Zi mb Zc (Value.int .i64) (Zk [])]).ok w' ∧ Upd [] w w' ∧ ∀ q_, (ZF [Z6 b 108 [.map (some mb)], Zi mb Zc (Value.int .i64) (Zk [])]).fp q_ → w.heap.size ≤ q_ := by
 have H := Sat.start0 w
 refine Zu Tryz.func10 rfl 4 rfl (Nat.le_of_ble_eq_true rfl) ?_
 refine Zf ?_
 refine Zm ?_
 refine Z3 (Z1 rfl) (d := 0) (v := (.pointer none)) rfl (by kernel_rfl) ?_
 refine Zj ?_
 refine Z7 ?_
 refine Zf ?_
 refine Zm ?_
 refine ZC (Z1 rfl) (fun K1 hK1 => ?_)
 refine Z0b Zc (Value.int .i64) rfl H ?_
 intro b2 w3 (H4 : Sat w [Zb w (fun _ => False), Zi b2 Zc (Value.int .i64) []] w3)
 refine hK1 _ _ ?_
 clear hK1 K1
 refine Z3 (Z1 rfl) (d := 2) (v := (.agg ⟨([(.map (some b2))] : List Value)⟩)) rfl (by kernel_rfl) ?_
 refine ZC (Z1 rfl) (fun K5 hK5 => ?_)
 refine Z0L (vs := ([(.map (some b2))] : List Value)) rfl H4 rfl rfl ?_
 intro b6 w7 (H8 : Sat w [Zb w (fun _ => False), Zi b2 Zc (Value.int .i64) [], Z6 b6 108 ([(.map (some b2))] : List Value)] w7)
 refine hK5 _ _ ?_
 clear hK5 K5
 refine Z3 (Z1 rfl) (d := 0) (v := (.pointer (some ⟨b6, 0, none⟩))) rfl (by kernel_rfl) ?_
 refine Zj ?_
 refine Z7 ?_
 refine ZY ?_
 refine Z0I rfl (ZI (v := (.pointer (some ⟨b6, 0, none⟩))) rfl) ?_
 exact ⟨b6, b2, rfl, H8.fin [2, 1] (by decide) rfl, H8.upd 0 rfl [] (fun _ h => h.elim), H8.freshS 0 rfl (fun _ h => h) [2, 1] rfl rfl⟩
end Go.Proofs.YtgigjkjdmalmaaaGreat
