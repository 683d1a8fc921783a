/- WHAT IS PROVED: small contracts of chapter 12; denials and tombstones. Conditions: stated with each. -/
import Derived.Test.YtenihpghfdcpkaaBatD
import Derived.Test.YtenihpghfdcpkaaDt16
import Derived.Test.YtenihpghfdcpkaaListAt
import Derived.Test.YtenihpghfdcpkaaArrB
namespace Go.Proofs.Ytenihpghfdcpkaa
open Go.RowKit

set_option maxRecDepth 100000 in
set_option maxHeartbeats 400000 in
theorem within_any (w : World) (v n : Int) (hn : n ≤ 4611686018427387904) :
    Calls Try.prog 12 #[(.int .i64 (v)), (.int .i64 (n))] w fun e w' => e = .returned (.int .i64 (withinV v n)) ∧ Upd [] w w' := by
  have H := Sat.start0 w
  refine calls_fr Try.func12 rfl 17 rfl (Nat.le_of_ble_eq_true rfl) ?_
  refine w_seq ?_
  refine w_lit ?_
  refine wl_pure (wants0 rfl) (d := 4) (v := (.int .i64 (0))) rfl (by kernel_rfl) ?_
  refine w_nil ?_
  refine then_normal ?_
  refine w_seq ?_
  refine w_seq ?_
  refine w_lit ?_
  refine wl_pure (wants0 rfl) (d := 6) (v := (.int .i64 (n))) rfl (by kernel_rfl) ?_
  refine wl_pure (wants0 rfl) (d := 7) (v := (.bool (decide (n < 1)))) rfl (by kernel_rfl) ?_
  refine w_nil ?_
  refine then_normal ?_
  refine (bsplit (decide (n < 1))).elim (fun b1 => ?_) (fun b1 => ?_)
  · have g2 := of_decide_eq_true b1
    refine wp_know 7 (.bool true) (congrArg Value.bool b1) ?_
    refine wp_ift rfl ?_
    refine w_seq ?_
    refine w_lit ?_
    refine wl_pure (wants0 rfl) (d := 4) (v := (.int .i64 (0))) rfl (by kernel_rfl) ?_
    refine w_nil ?_
    refine then_normal ?_
    refine w_ret ?_
    refine then_ret ?_
    refine end1 rfl (res_tmp (v := (.int .i64 (0))) rfl) ?_
    exact ⟨by unfold withinV; rw [if_pos (of_decide_eq_true b1)], H.upd 0 rfl [] (fun _ h => h.elim)⟩
  · have g3 := of_decide_eq_false b1
    refine wp_know 7 (.bool false) (congrArg Value.bool b1) ?_
    refine wp_iff rfl ?_
    refine w_skip ?_
    refine then_normal ?_
    refine w_seq ?_
    refine w_lit ?_
    refine wl_pure (wants0 rfl) (d := 8) (v := (.int .i64 (v))) rfl (by kernel_rfl) ?_
    refine wl_pure (wants0 rfl) (d := 9) (v := (.int .i64 (n))) rfl (by kernel_rfl) ?_
    refine wl_pure (wants0 rfl) (d := 10) (v := (.int .i64 (Int.tmod v n))) rfl (e_tmod (by kernel_rfl) (by omega)) ?_
    refine wl_pure (wants0 rfl) (d := 5) (v := (.int .i64 (Int.tmod v n))) rfl (by kernel_rfl) ?_
    refine w_nil ?_
    refine then_normal ?_
    refine w_seq ?_
    refine w_seq ?_
    refine w_lit ?_
    refine wl_pure (wants0 rfl) (d := 11) (v := (.int .i64 (Int.tmod v n))) rfl (by kernel_rfl) ?_
    refine wl_pure (wants0 rfl) (d := 12) (v := (.bool (decide ((Int.tmod v n) < 0)))) rfl (by kernel_rfl) ?_
    refine w_nil ?_
    refine then_normal ?_
    refine (bsplit (decide ((Int.tmod v n) < 0))).elim (fun b4 => ?_) (fun b4 => ?_)
    · have g5 := of_decide_eq_true b4
      refine wp_know 12 (.bool true) (congrArg Value.bool b4) ?_
      refine wp_ift rfl ?_
      refine w_lit ?_
      refine wl_pure (wants0 rfl) (d := 13) (v := (.int .i64 (Int.tmod v n))) rfl (by kernel_rfl) ?_
      refine wl_pure (wants0 rfl) (d := 14) (v := (.int .i64 (n))) rfl (by kernel_rfl) ?_
      refine wl_pure (wants0 rfl) (d := 15) (v := (.int .i64 ((Int.tmod v n) + n))) rfl (e_int (z := (Int.tmod v n) + n) (by kernel_rfl) (IntWalk.i64_in _ (by have := tmod_lim v n (by omega); omega))) ?_
      refine wl_pure (wants0 rfl) (d := 5) (v := (.int .i64 ((Int.tmod v n) + n))) rfl (by kernel_rfl) ?_
      refine w_nil ?_
      refine then_normal ?_
      refine w_seq ?_
      refine w_lit ?_
      refine wl_pure (wants0 rfl) (d := 16) (v := (.int .i64 ((Int.tmod v n) + n))) rfl (by kernel_rfl) ?_
      refine wl_pure (wants0 rfl) (d := 4) (v := (.int .i64 ((Int.tmod v n) + n))) rfl (by kernel_rfl) ?_
      refine w_nil ?_
      refine then_normal ?_
      refine w_ret ?_
      refine end1 rfl (res_tmp (v := (.int .i64 ((Int.tmod v n) + n))) rfl) ?_
      exact ⟨by unfold withinV; rw [if_neg (of_decide_eq_false b1), tmod_emod v n (by have := of_decide_eq_false b1; omega), if_pos (of_decide_eq_true b4)], H.upd 0 rfl [] (fun _ h => h.elim)⟩
    · have g6 := of_decide_eq_false b4
      refine wp_know 12 (.bool false) (congrArg Value.bool b4) ?_
      refine wp_iff rfl ?_
      refine w_skip ?_
      refine then_normal ?_
      refine w_seq ?_
      refine w_lit ?_
      refine wl_pure (wants0 rfl) (d := 16) (v := (.int .i64 (Int.tmod v n))) rfl (by kernel_rfl) ?_
      refine wl_pure (wants0 rfl) (d := 4) (v := (.int .i64 (Int.tmod v n))) rfl (by kernel_rfl) ?_
      refine w_nil ?_
      refine then_normal ?_
      refine w_ret ?_
      refine end1 rfl (res_tmp (v := (.int .i64 (Int.tmod v n))) rfl) ?_
      exact ⟨by unfold withinV; rw [if_neg (of_decide_eq_false b1), tmod_emod v n (by have := of_decide_eq_false b1; omega), if_neg (of_decide_eq_false b4)], H.upd 0 rfl [] (fun _ h => h.elim)⟩

set_option maxRecDepth 100000 in
set_option maxHeartbeats 400000 in
theorem wN_any (w : World) (f c : Int) (hf : -1099511627776 ≤ f ∧ f ≤ 1099511627776) :
    Calls Try.prog 51 #[(.agg ⟨([(.int .i64 (f)), (.int .i64 (c))] : List Value)⟩)] w fun e w' => e = .returned (.int .i64 (3 * f + 1)) ∧ Upd [] w w' := by
  have H := Sat.start0 w
  refine calls_fr Try.func51 rfl 7 rfl (Nat.le_of_ble_eq_true rfl) ?_
  refine w_seq ?_
  refine w_lit ?_
  refine wl_do (wants0 rfl) (fun K1 hK1 => ?_)
  refine d_box (vs := ([(.int .i64 (f)), (.int .i64 (c))] : List Value)) rfl H rfl rfl ?_
  intro b2 w3 (H4 : Sat w [restC w (fun _ => False), cellC b2 57 ([(.int .i64 (f)), (.int .i64 (c))] : List Value)] w3)
  refine hK1 _ _ ?_
  clear hK1 K1
  refine wl_pure (wants0 rfl) (d := 2) (v := (.int .i64 (0))) rfl (by kernel_rfl) ?_
  refine w_nil ?_
  refine then_normal ?_
  refine w_seq ?_
  refine w_lit ?_
  refine wl_pure (wants0 rfl) (d := 3) (v := (.pointer (some ⟨b2, 0, none⟩))) rfl (by kernel_rfl) ?_
  refine wl_pure (wants0 rfl) (d := 4) (v := (.int .i64 (f))) rfl (e_load1 rfl (by kernel_rfl) (H4.cell 1 rfl rfl)) ?_
  refine wl_pure (wants0 rfl) (d := 5) (v := (.int .i64 (3 * f))) rfl (e_int (z := 3 * f) (by kernel_rfl) (IntWalk.i64_in _ (by omega))) ?_
  refine wl_pure (wants0 rfl) (d := 6) (v := (.int .i64 ((3 * f) + 1))) rfl (e_int (z := (3 * f) + 1) (by kernel_rfl) (IntWalk.i64_in _ (by omega))) ?_
  refine wl_pure (wants0 rfl) (d := 2) (v := (.int .i64 ((3 * f) + 1))) rfl (by kernel_rfl) ?_
  refine w_nil ?_
  refine then_normal ?_
  refine w_ret ?_
  refine end1 rfl (res_tmp (v := (.int .i64 ((3 * f) + 1))) rfl) ?_
  exact ⟨rfl, H4.upd 0 rfl [] (fun _ h => h.elim)⟩

set_option maxRecDepth 100000 in
set_option maxHeartbeats 400000 in
theorem wQ_any (w : World) (f c : Int) (hf : -1099511627776 ≤ f ∧ f ≤ 1099511627776) :
    Calls Try.prog 40 #[(.agg ⟨([(.int .i64 (f)), (.int .i64 (c))] : List Value)⟩)] w fun e w' => e = .returned (.int .i64 (2 * f + 1)) ∧ Upd [] w w' := by
  have H := Sat.start0 w
  refine calls_fr Try.func40 rfl 7 rfl (Nat.le_of_ble_eq_true rfl) ?_
  refine w_seq ?_
  refine w_lit ?_
  refine wl_do (wants0 rfl) (fun K1 hK1 => ?_)
  refine d_box (vs := ([(.int .i64 (f)), (.int .i64 (c))] : List Value)) rfl H rfl rfl ?_
  intro b2 w3 (H4 : Sat w [restC w (fun _ => False), cellC b2 57 ([(.int .i64 (f)), (.int .i64 (c))] : List Value)] w3)
  refine hK1 _ _ ?_
  clear hK1 K1
  refine wl_pure (wants0 rfl) (d := 2) (v := (.int .i64 (0))) rfl (by kernel_rfl) ?_
  refine w_nil ?_
  refine then_normal ?_
  refine w_seq ?_
  refine w_lit ?_
  refine wl_pure (wants0 rfl) (d := 3) (v := (.pointer (some ⟨b2, 0, none⟩))) rfl (by kernel_rfl) ?_
  refine wl_pure (wants0 rfl) (d := 4) (v := (.int .i64 (f))) rfl (e_load1 rfl (by kernel_rfl) (H4.cell 1 rfl rfl)) ?_
  refine wl_pure (wants0 rfl) (d := 5) (v := (.int .i64 (2 * f))) rfl (e_int (z := 2 * f) (by kernel_rfl) (IntWalk.i64_in _ (by omega))) ?_
  refine wl_pure (wants0 rfl) (d := 6) (v := (.int .i64 ((2 * f) + 1))) rfl (e_int (z := (2 * f) + 1) (by kernel_rfl) (IntWalk.i64_in _ (by omega))) ?_
  refine wl_pure (wants0 rfl) (d := 2) (v := (.int .i64 ((2 * f) + 1))) rfl (by kernel_rfl) ?_
  refine w_nil ?_
  refine then_normal ?_
  refine w_ret ?_
  refine end1 rfl (res_tmp (v := (.int .i64 ((2 * f) + 1))) rfl) ?_
  exact ⟨rfl, H4.upd 0 rfl [] (fun _ h => h.elim)⟩

set_option maxRecDepth 100000 in
set_option maxHeartbeats 400000 in
theorem rN_any (w : World) (f c : Int) (hf : -1099511627776 ≤ f ∧ f ≤ 1099511627776) :
    Calls Try.prog 17 #[(.agg ⟨([(.int .i64 (f)), (.int .i64 (c))] : List Value)⟩)] w fun e w' => e = .returned (.int .i64 (3 * f + 1)) ∧ Upd [] w w' := by
  have H := Sat.start0 w
  refine calls_fr Try.func17 rfl 7 rfl (Nat.le_of_ble_eq_true rfl) ?_
  refine w_seq ?_
  refine w_lit ?_
  refine wl_do (wants0 rfl) (fun K1 hK1 => ?_)
  refine d_box (vs := ([(.int .i64 (f)), (.int .i64 (c))] : List Value)) rfl H rfl rfl ?_
  intro b2 w3 (H4 : Sat w [restC w (fun _ => False), cellC b2 57 ([(.int .i64 (f)), (.int .i64 (c))] : List Value)] w3)
  refine hK1 _ _ ?_
  clear hK1 K1
  refine wl_pure (wants0 rfl) (d := 2) (v := (.int .i64 (0))) rfl (by kernel_rfl) ?_
  refine w_nil ?_
  refine then_normal ?_
  refine w_seq ?_
  refine w_lit ?_
  refine wl_pure (wants0 rfl) (d := 3) (v := (.pointer (some ⟨b2, 0, none⟩))) rfl (by kernel_rfl) ?_
  refine wl_pure (wants0 rfl) (d := 4) (v := (.int .i64 (f))) rfl (e_load1 rfl (by kernel_rfl) (H4.cell 1 rfl rfl)) ?_
  refine wl_pure (wants0 rfl) (d := 5) (v := (.int .i64 (3 * f))) rfl (e_int (z := 3 * f) (by kernel_rfl) (IntWalk.i64_in _ (by omega))) ?_
  refine wl_pure (wants0 rfl) (d := 6) (v := (.int .i64 ((3 * f) + 1))) rfl (e_int (z := (3 * f) + 1) (by kernel_rfl) (IntWalk.i64_in _ (by omega))) ?_
  refine wl_pure (wants0 rfl) (d := 2) (v := (.int .i64 ((3 * f) + 1))) rfl (by kernel_rfl) ?_
  refine w_nil ?_
  refine then_normal ?_
  refine w_ret ?_
  refine end1 rfl (res_tmp (v := (.int .i64 ((3 * f) + 1))) rfl) ?_
  exact ⟨rfl, H4.upd 0 rfl [] (fun _ h => h.elim)⟩

set_option maxRecDepth 100000 in
set_option maxHeartbeats 400000 in
theorem rQ_any (w : World) (f c : Int) (hf : -1099511627776 ≤ f ∧ f ≤ 1099511627776) :
    Calls Try.prog 13 #[(.agg ⟨([(.int .i64 (f)), (.int .i64 (c))] : List Value)⟩)] w fun e w' => e = .returned (.int .i64 (2 * f + 1)) ∧ Upd [] w w' := by
  have H := Sat.start0 w
  refine calls_fr Try.func13 rfl 7 rfl (Nat.le_of_ble_eq_true rfl) ?_
  refine w_seq ?_
  refine w_lit ?_
  refine wl_do (wants0 rfl) (fun K1 hK1 => ?_)
  refine d_box (vs := ([(.int .i64 (f)), (.int .i64 (c))] : List Value)) rfl H rfl rfl ?_
  intro b2 w3 (H4 : Sat w [restC w (fun _ => False), cellC b2 57 ([(.int .i64 (f)), (.int .i64 (c))] : List Value)] w3)
  refine hK1 _ _ ?_
  clear hK1 K1
  refine wl_pure (wants0 rfl) (d := 2) (v := (.int .i64 (0))) rfl (by kernel_rfl) ?_
  refine w_nil ?_
  refine then_normal ?_
  refine w_seq ?_
  refine w_lit ?_
  refine wl_pure (wants0 rfl) (d := 3) (v := (.pointer (some ⟨b2, 0, none⟩))) rfl (by kernel_rfl) ?_
  refine wl_pure (wants0 rfl) (d := 4) (v := (.int .i64 (f))) rfl (e_load1 rfl (by kernel_rfl) (H4.cell 1 rfl rfl)) ?_
  refine wl_pure (wants0 rfl) (d := 5) (v := (.int .i64 (2 * f))) rfl (e_int (z := 2 * f) (by kernel_rfl) (IntWalk.i64_in _ (by omega))) ?_
  refine wl_pure (wants0 rfl) (d := 6) (v := (.int .i64 ((2 * f) + 1))) rfl (e_int (z := (2 * f) + 1) (by kernel_rfl) (IntWalk.i64_in _ (by omega))) ?_
  refine wl_pure (wants0 rfl) (d := 2) (v := (.int .i64 ((2 * f) + 1))) rfl (by kernel_rfl) ?_
  refine w_nil ?_
  refine then_normal ?_
  refine w_ret ?_
  refine end1 rfl (res_tmp (v := (.int .i64 ((2 * f) + 1))) rfl) ?_
  exact ⟨rfl, H4.upd 0 rfl [] (fun _ h => h.elim)⟩

set_option maxRecDepth 100000 in
set_option maxHeartbeats 400000 in
theorem wIn_any (w : World) (f c r : Int) (hf : -1099511627776 ≤ f ∧ f ≤ 1099511627776) :
    Calls Try.prog 37 #[(.agg ⟨([(.int .i64 (f)), (.int .i64 (c))] : List Value)⟩), (.int .i64 (r))] w fun e w' => e = .returned (.bool (inB f r)) ∧ Upd [] w w' := by
  have H := Sat.start0 w
  refine calls_fr Try.func37 rfl 13 rfl (Nat.le_of_ble_eq_true rfl) ?_
  refine w_seq ?_
  refine w_lit ?_
  refine wl_do (wants0 rfl) (fun K1 hK1 => ?_)
  refine d_box (vs := ([(.int .i64 (f)), (.int .i64 (c))] : List Value)) rfl H rfl rfl ?_
  intro b2 w3 (H4 : Sat w [restC w (fun _ => False), cellC b2 57 ([(.int .i64 (f)), (.int .i64 (c))] : List Value)] w3)
  refine hK1 _ _ ?_
  clear hK1 K1
  refine wl_pure (wants0 rfl) (d := 4) (v := (.bool false)) rfl (by kernel_rfl) ?_
  refine w_nil ?_
  refine then_normal ?_
  refine wp_meetR [4, 5, 6, 7, 8, 9, 10, 11, 12] (fun G_ W_ => G_ 4 = (.bool (inB f r)) ∧ Sat w [restC w (fun _ => False), cellC b2 57 ([(.int .i64 (f)), (.int .i64 (c))] : List Value)] W_) ?_ ?_
  · refine w_lit ?_
    refine wl_pure (wants0 rfl) (d := 5) (v := (.int .i64 (r))) rfl (by kernel_rfl) ?_
    refine wl_pure (wants0 rfl) (d := 6) (v := (.bool (decide (r ≥ 0)))) rfl (by kernel_rfl) ?_
    refine wl_pure (wants0 rfl) (d := 7) (v := (.bool (decide (r ≥ 0)))) rfl (by kernel_rfl) ?_
    refine (bsplit (decide (r ≥ 0))).elim (fun b6 => ?_) (fun b6 => ?_)
    · have g7 := of_decide_eq_true b6
      refine wl_know 7 (.bool true) (congrArg Value.bool b6) ?_
      refine wl_pure (wantsY 2 7 true rfl (by kernel_rfl) rfl (by kernel_rfl)) (d := 8) (v := (.int .i64 (r))) rfl (by kernel_rfl) ?_
      refine wl_pure (wantsY 2 7 true rfl (by kernel_rfl) rfl (by kernel_rfl)) (d := 9) (v := (.agg ⟨([(.int .i64 (f)), (.int .i64 (c))] : List Value)⟩)) rfl (e_loadN (vs := ([(.int .i64 (f)), (.int .i64 (c))] : List Value)) rfl (by kernel_rfl) (by kernel_rfl) (by exact Nat.le_of_ble_eq_true (by kernel_rfl)) (H4.at 1 rfl) (by kernel_rfl)) ?_
      refine wl_do (wantsY 2 7 true rfl (by kernel_rfl) rfl (by kernel_rfl)) (fun K8 hK8 => ?_)
      refine d_call (d := 10) rfl (by kernel_rfl) (wN_any w3 f c (by omega)) ?_
      rintro _ w9 ⟨rfl, u11⟩
      have H10 := H4.keepU u11
      refine ⟨_, rfl, ?_⟩
      refine hK8 _ _ ?_
      clear hK8 K8
      refine wl_pure (wantsY 2 7 true rfl (by kernel_rfl) rfl (by kernel_rfl)) (d := 11) (v := (.bool (decide (r < (3 * f + 1))))) rfl (by kernel_rfl) ?_
      refine wl_pure (wants0 rfl) (d := 12) (v := (.bool (decide (r < (3 * f + 1))))) rfl (by kernel_rfl) ?_
      refine wl_pure (wants0 rfl) (d := 4) (v := (.bool (decide (r < (3 * f + 1))))) rfl (by kernel_rfl) ?_
      refine w_nil ?_
      refine meetR_at ?_ ⟨(congrArg Value.bool (show (decide (r < (3 * f + 1))) = (inB f r) by simp [inB, b6])), H10⟩
      exact (same_upd rfl (same_upd rfl (same_upd rfl (same_upd rfl (same_upd rfl (same_upd rfl (same_upd rfl (same_upd rfl (same_upd rfl (same_upd rfl (same_refl)))))))))))
    · have g12 := of_decide_eq_false b6
      refine wl_know 7 (.bool false) (congrArg Value.bool b6) ?_
      refine wl_pass (wantsN 2 7 true rfl (by kernel_rfl) rfl (by kernel_rfl)) rfl ?_
      refine wl_pass (wantsN 2 7 true rfl (by kernel_rfl) rfl (by kernel_rfl)) rfl ?_
      refine wl_pass (wantsN 2 7 true rfl (by kernel_rfl) rfl (by kernel_rfl)) rfl ?_
      refine wl_pass (wantsN 2 7 true rfl (by kernel_rfl) rfl (by kernel_rfl)) rfl ?_
      refine wl_pure (wants0 rfl) (d := 12) (v := (.bool false)) rfl (by kernel_rfl) ?_
      refine wl_pure (wants0 rfl) (d := 4) (v := (.bool false)) rfl (by kernel_rfl) ?_
      refine w_nil ?_
      refine meetR_at ?_ ⟨(congrArg Value.bool (show false = (inB f r) by simp [inB, b6])), H4⟩
      exact (same_upd rfl (same_upd rfl (same_upd rfl (same_upd rfl (same_upd rfl (same_upd rfl (same_upd rfl (same_upd rfl (same_upd rfl (same_upd rfl (same_refl)))))))))))
  · rintro f13 w14 ⟨v16, H15⟩
    refine wp_know 4 _ v16 ?_
    refine w_ret ?_
    refine end1 rfl (res_tmp (v := (.bool (inB f r))) rfl) ?_
    exact ⟨rfl, H15.upd 0 rfl [] (fun _ h => h.elim)⟩

set_option maxRecDepth 100000 in
set_option maxHeartbeats 400000 in
theorem pRightQ_any (w : World) (b bm : Nat) (B : List Signed) (hbk : (cellC b 109 [.map (some bm)]).ok w) (hbm : MapAt w bm signedV (Value.int .i64) (marks B)) (ta : Option Addr) (tc : Nat) (tx : List UInt8) (ht : ListAt encB 1 w (.slice ta tx.length tc) tx) (p m : Int) :
    Calls Try.prog 38 #[(.pointer (some ⟨b, 0, none⟩)), (.agg ⟨([(.int .i64 (p)), (.int .i64 (m))] : List Value)⟩), (.slice ta tx.length tc)] w fun e w' => e = .returned (.bool (rightB B p m tx)) ∧ Upd [] w w' := by
  have H := Sat.start0 w
  have hmk : (lookM (marks B) (⟨p, tx⟩ : Signed)).getD 0 = markOf B (⟨p, tx⟩ : Signed) := by rw [look_marks]; rfl
  refine calls_fr Try.func38 rfl 26 rfl (Nat.le_of_ble_eq_true rfl) ?_
  refine w_seq ?_
  refine w_lit ?_
  refine wl_do (wants0 rfl) (fun K1 hK1 => ?_)
  refine d_box (vs := ([(.int .i64 (p)), (.int .i64 (m))] : List Value)) rfl H rfl rfl ?_
  intro b2 w3 (H4 : Sat w [restC w (fun _ => False), cellC b2 31 ([(.int .i64 (p)), (.int .i64 (m))] : List Value)] w3)
  refine hK1 _ _ ?_
  clear hK1 K1
  refine wl_pure (wants0 rfl) (d := 6) (v := (.bool false)) rfl (by kernel_rfl) ?_
  refine w_nil ?_
  refine then_normal ?_
  refine w_seq ?_
  refine q_start H4 (by kernel_rfl) (by kernel_rfl) ?_
  refine q_val (wants0 rfl) (d := 8) (v := (.pointer (some ⟨b, 0, none⟩))) rfl (fun _ H' => (by kernel_rfl)) ?_
  refine q_val (wants0 rfl) (d := 9) (v := (.pointer (some ⟨b, 0, none⟩))) rfl (fun _ H' => (by kernel_rfl)) ?_
  refine q_val (wants0 rfl) (d := 10) (v := (.pointer (some ⟨b, 0, none⟩))) rfl (fun _ H' => (by kernel_rfl)) ?_
  refine q_val (wants0 rfl) (d := 11) (v := (.map (some bm))) rfl (fun _ H' => (e_load1 rfl (by kernel_rfl) (H'.roCell 0 rfl hbk (fun h => h) rfl))) ?_
  refine q_val (wants0 rfl) (d := 12) (v := (.pointer (some ⟨b2, 0, none⟩))) rfl (fun _ H' => (by kernel_rfl)) ?_
  refine q_val (wants0 rfl) (d := 13) (v := (.int .i64 (p))) rfl (fun _ H' => (e_load1 rfl (by kernel_rfl) (H'.cell 1 rfl rfl))) ?_
  refine q_val (wants0 rfl) (d := 14) (v := (.slice ta tx.length tc)) rfl (fun _ H' => (by kernel_rfl)) ?_
  refine q_val (wants0 rfl) (d := 15) (v := (strV tx)) rfl (fun _ H' => (e_convBytes (e := 5) (s := tx) (by kernel_rfl) (by kernel_rfl) (by kernel_rfl) rfl (list_bytes (ListAt.now H' 0 rfl ht)))) ?_
  refine q_val (wants0 rfl) (d := 16) (v := (.agg ⟨([(.int .i64 (p)), (strV tx)] : List Value)⟩)) rfl (fun _ H' => (by kernel_rfl)) ?_
  refine q_val (wants0 rfl) (d := 17) (v := (.int .i64 ((lookM (marks B) (⟨p, tx⟩ : Signed)).getD 0))) rfl (fun _ H' => (e_lookup (kt := 106) (et := 3) signedK (by kernel_rfl) (fun w => by kernel_rfl) rfl (⟨p, tx⟩ : Signed) rfl (H'.roMap 0 rfl hbm (fun h => h)) (optD (Value.int .i64) _ _))) ?_
  refine q_val (wants0 rfl) (d := 7) (v := (.int .i64 ((lookM (marks B) (⟨p, tx⟩ : Signed)).getD 0))) rfl (fun _ H' => (by kernel_rfl)) ?_
  refine q_end ?_
  intro w5 H6
  refine then_normal ?_
  refine w_seq ?_
  refine w_lit ?_
  refine wl_pure (wants0 rfl) (d := 18) (v := (.int .i64 ((lookM (marks B) (⟨p, tx⟩ : Signed)).getD 0))) rfl (by kernel_rfl) ?_
  refine wl_pure (wants0 rfl) (d := 19) (v := (.bool (decide (((lookM (marks B) (⟨p, tx⟩ : Signed)).getD 0) > 0)))) rfl (by kernel_rfl) ?_
  refine wl_pure (wants0 rfl) (d := 20) (v := (.bool (decide (((lookM (marks B) (⟨p, tx⟩ : Signed)).getD 0) > 0)))) rfl (by kernel_rfl) ?_
  refine (bsplit (decide (((lookM (marks B) (⟨p, tx⟩ : Signed)).getD 0) > 0))).elim (fun b7 => ?_) (fun b7 => ?_)
  · have g8 := of_decide_eq_true b7
    refine wl_know 20 (.bool true) (congrArg Value.bool b7) ?_
    have g9 := of_decide_eq_true b7
    refine wl_pure (wantsY 2 20 true rfl (by kernel_rfl) rfl (by kernel_rfl)) (d := 21) (v := (.int .i64 ((lookM (marks B) (⟨p, tx⟩ : Signed)).getD 0))) rfl (by kernel_rfl) ?_
    refine wl_pure (wantsY 2 20 true rfl (by kernel_rfl) rfl (by kernel_rfl)) (d := 22) (v := (.pointer (some ⟨b2, 1, none⟩))) rfl (by kernel_rfl) ?_
    refine wl_pure (wantsY 2 20 true rfl (by kernel_rfl) rfl (by kernel_rfl)) (d := 23) (v := (.int .i64 (m))) rfl (e_load1 rfl (by kernel_rfl) (H6.cell 1 rfl rfl)) ?_
    refine wl_pure (wantsY 2 20 true rfl (by kernel_rfl) rfl (by kernel_rfl)) (d := 24) (v := (.bool (decide (((lookM (marks B) (⟨p, tx⟩ : Signed)).getD 0) = m)))) rfl (by kernel_rfl) ?_
    refine wl_pure (wants0 rfl) (d := 25) (v := (.bool (decide (((lookM (marks B) (⟨p, tx⟩ : Signed)).getD 0) = m)))) rfl (by kernel_rfl) ?_
    refine wl_pure (wants0 rfl) (d := 6) (v := (.bool (decide (((lookM (marks B) (⟨p, tx⟩ : Signed)).getD 0) = m)))) rfl (by kernel_rfl) ?_
    refine w_nil ?_
    refine then_normal ?_
    refine w_ret ?_
    refine end1 rfl (res_tmp (v := (.bool (decide (((lookM (marks B) (⟨p, tx⟩ : Signed)).getD 0) = m)))) rfl) ?_
    exact ⟨by unfold rightB; rw [← hmk]; simp [b7], H6.upd 0 rfl [] (fun _ h => h.elim)⟩
  · have g10 := of_decide_eq_false b7
    refine wl_know 20 (.bool false) (congrArg Value.bool b7) ?_
    have g11 := of_decide_eq_false b7
    refine wl_pass (wantsN 2 20 true rfl (by kernel_rfl) rfl (by kernel_rfl)) rfl ?_
    refine wl_pass (wantsN 2 20 true rfl (by kernel_rfl) rfl (by kernel_rfl)) rfl ?_
    refine wl_pass (wantsN 2 20 true rfl (by kernel_rfl) rfl (by kernel_rfl)) rfl ?_
    refine wl_pass (wantsN 2 20 true rfl (by kernel_rfl) rfl (by kernel_rfl)) rfl ?_
    refine wl_pure (wants0 rfl) (d := 25) (v := (.bool false)) rfl (by kernel_rfl) ?_
    refine wl_pure (wants0 rfl) (d := 6) (v := (.bool false)) rfl (by kernel_rfl) ?_
    refine w_nil ?_
    refine then_normal ?_
    refine w_ret ?_
    refine end1 rfl (res_tmp (v := (.bool false)) rfl) ?_
    exact ⟨by unfold rightB; rw [← hmk]; simp [b7], H6.upd 0 rfl [] (fun _ h => h.elim)⟩

set_option maxRecDepth 100000 in
set_option maxHeartbeats 1000000 in
theorem wRightDeny_any (w : World) (F C : Int) (hF : -1099511627776 ≤ F ∧ F ≤ 1099511627776) (b bm : Nat) (B : List Signed) (hbk : (cellC b 109 [.map (some bm)]).ok w) (hbm : MapAt w bm signedV (Value.int .i64) (marks B)) (d : DenyD) (hd : DnOk d) :
    Calls Try.prog 16 #[(.agg ⟨([(.int .i64 (F)), (.int .i64 (C))] : List Value)⟩), (.pointer (some ⟨b, 0, none⟩)), (.agg ⟨([(.int .i64 (d.r)), (.int .i64 (d.i)), (.int .i64 (d.sb)), (.int .i64 (d.sm))] : List Value)⟩)] w fun e w' => e = .returned (.bool (rightDn F B d)) ∧ Upd [] w w' := by
  have H := Sat.start0 w
  have hd2 := hd
  unfold DnOk at hd2
  refine calls_fr Try.func16 rfl 32 rfl (Nat.le_of_ble_eq_true rfl) ?_
  refine w_seq ?_
  refine w_lit ?_
  refine wl_do (wants0 rfl) (fun K1 hK1 => ?_)
  refine d_box (vs := ([(.int .i64 (F)), (.int .i64 (C))] : List Value)) rfl H rfl rfl ?_
  intro b2 w3 (H4 : Sat w [restC w (fun _ => False), cellC b2 57 ([(.int .i64 (F)), (.int .i64 (C))] : List Value)] w3)
  refine hK1 _ _ ?_
  clear hK1 K1
  refine wl_do (wants0 rfl) (fun K5 hK5 => ?_)
  refine d_box (vs := ([(.int .i64 (d.r)), (.int .i64 (d.i)), (.int .i64 (d.sb)), (.int .i64 (d.sm))] : List Value)) rfl H4 rfl rfl ?_
  intro b6 w7 (H8 : Sat w [restC w (fun _ => False), cellC b2 57 ([(.int .i64 (F)), (.int .i64 (C))] : List Value), cellC b6 79 ([(.int .i64 (d.r)), (.int .i64 (d.i)), (.int .i64 (d.sb)), (.int .i64 (d.sm))] : List Value)] w7)
  refine hK5 _ _ ?_
  clear hK5 K5
  refine wl_pure (wants0 rfl) (d := 6) (v := (.bool false)) rfl (by kernel_rfl) ?_
  refine w_nil ?_
  refine then_normal ?_
  refine w_seq ?_
  refine h_start H8 [restC w (fun _ => False), cellC b2 57 ([(.int .i64 (F)), (.int .i64 (C))] : List Value), cellC b6 79 ([(.int .i64 (d.r)), (.int .i64 (d.i)), (.int .i64 (d.sb)), (.int .i64 (d.sm))] : List Value)] 26 rfl (by kernel_rfl) (fun Hx => (Hx.pick [0, 1, 2] (by decide))) ?_
  intro w9 H10 S11
  refine h_val 0 rfl (by kernel_rfl) (by kernel_rfl) (by kernel_rfl) (fun _ _ _ h => h) S11 (wants0 rfl) (d := 7) (v := (.agg ⟨([(.int .i64 (F)), (.int .i64 (C))] : List Value)⟩)) rfl (fun _ H' => (e_loadN (vs := ([(.int .i64 (F)), (.int .i64 (C))] : List Value)) rfl (by kernel_rfl) (by kernel_rfl) (by exact Nat.le_of_ble_eq_true (by kernel_rfl)) (H'.at 1 rfl) (by kernel_rfl))) ?_
  refine h_val 1 rfl (by kernel_rfl) (by kernel_rfl) (by kernel_rfl) (fun _ _ _ h => h) S11 (wants0 rfl) (d := 8) (v := (.pointer (some ⟨b6, 0, none⟩))) rfl (fun _ H' => (by kernel_rfl)) ?_
  refine h_val 2 rfl (by kernel_rfl) (by kernel_rfl) (by kernel_rfl) (fun _ _ _ h => h) S11 (wants0 rfl) (d := 9) (v := (.int .i64 (d.r))) rfl (fun _ H' => (e_load1 rfl (by kernel_rfl) (H'.cell 2 rfl rfl))) ?_
  refine h_do 3 rfl (by kernel_rfl) (wants0 rfl) (fun K12 hK12 => ?_)
  refine d_call (d := 10) rfl (by kernel_rfl) (wIn_any w9 F C d.r (by omega)) ?_
  rintro _ w13 ⟨rfl, u15⟩
  have H14 := H10.keepU u15
  refine ⟨_, rfl, ?_⟩
  have S16 := H14.pick [0, 1, 2] (by decide)
  refine hK12 _ _ S16 ?_
  clear hK12 K12
  refine h_val 4 rfl (by kernel_rfl) (by kernel_rfl) (by kernel_rfl) (fun _ _ _ h => h) S16 (wants0 rfl) (d := 11) (v := (.bool (inB F d.r))) rfl (fun _ H' => (by kernel_rfl)) ?_
  refine (bsplit (inB F d.r)).elim (fun b17 => ?_) (fun b17 => ?_)
  · refine h_know 11 (.bool true) (congrArg Value.bool b17) ?_
    refine h_val 5 rfl (by kernel_rfl) (by kernel_rfl) (by kernel_rfl) (fun _ _ _ h => h) S16 (wantsY 4 11 true rfl (by kernel_rfl) rfl (by kernel_rfl)) (d := 12) (v := (.pointer (some ⟨b6, 1, none⟩))) rfl (fun _ H' => (by kernel_rfl)) ?_
    refine h_val 6 rfl (by kernel_rfl) (by kernel_rfl) (by kernel_rfl) (fun _ _ _ h => h) S16 (wantsY 4 11 true rfl (by kernel_rfl) rfl (by kernel_rfl)) (d := 13) (v := (.int .i64 (d.i))) rfl (fun _ H' => (e_load1 rfl (by kernel_rfl) (H'.cell 2 rfl rfl))) ?_
    refine h_val 7 rfl (by kernel_rfl) (by kernel_rfl) (by kernel_rfl) (fun _ _ _ h => h) S16 (wantsY 4 11 true rfl (by kernel_rfl) rfl (by kernel_rfl)) (d := 14) (v := (.bool (decide (d.i ≥ 0)))) rfl (fun _ H' => (by kernel_rfl)) ?_
    refine h_val 8 rfl (by kernel_rfl) (by kernel_rfl) (by kernel_rfl) (fun _ _ _ h => h) S16 (wants0 rfl) (d := 15) (v := (.bool (decide (d.i ≥ 0)))) rfl (fun _ H' => (by kernel_rfl)) ?_
    refine h_val 9 rfl (by kernel_rfl) (by kernel_rfl) (by kernel_rfl) (fun _ _ _ h => h) S16 (wants0 rfl) (d := 16) (v := (.bool (decide (d.i ≥ 0)))) rfl (fun _ H' => (by kernel_rfl)) ?_
    refine (bsplit (decide (d.i ≥ 0))).elim (fun b18 => ?_) (fun b18 => ?_)
    · have g19 := of_decide_eq_true b18
      refine h_know 16 (.bool true) (congrArg Value.bool b18) ?_
      have g20 := of_decide_eq_true b18
      refine h_val 10 rfl (by kernel_rfl) (by kernel_rfl) (by kernel_rfl) (fun _ _ _ h => h) S16 (wantsY 9 16 true rfl (by kernel_rfl) rfl (by kernel_rfl)) (d := 17) (v := (.pointer (some ⟨b6, 2, none⟩))) rfl (fun _ H' => (by kernel_rfl)) ?_
      refine h_val 11 rfl (by kernel_rfl) (by kernel_rfl) (by kernel_rfl) (fun _ _ _ h => h) S16 (wantsY 9 16 true rfl (by kernel_rfl) rfl (by kernel_rfl)) (d := 18) (v := (.pointer (some ⟨b6, 2, none⟩))) rfl (fun _ H' => (by kernel_rfl)) ?_
      refine h_val 12 rfl (by kernel_rfl) (by kernel_rfl) (by kernel_rfl) (fun _ _ _ h => h) S16 (wantsY 9 16 true rfl (by kernel_rfl) rfl (by kernel_rfl)) (d := 19) (v := (.int .i64 (d.sb))) rfl (fun _ H' => (e_load1 rfl (by kernel_rfl) (H'.cell 2 rfl rfl))) ?_
      refine h_val 13 rfl (by kernel_rfl) (by kernel_rfl) (by kernel_rfl) (fun _ _ _ h => h) S16 (wantsY 9 16 true rfl (by kernel_rfl) rfl (by kernel_rfl)) (d := 20) (v := (.pointer (some ⟨b6, 0, none⟩))) rfl (fun _ H' => (by kernel_rfl)) ?_
      refine h_val 14 rfl (by kernel_rfl) (by kernel_rfl) (by kernel_rfl) (fun _ _ _ h => h) S16 (wantsY 9 16 true rfl (by kernel_rfl) rfl (by kernel_rfl)) (d := 21) (v := (.int .i64 (d.r))) rfl (fun _ H' => (e_load1 rfl (by kernel_rfl) (H'.cell 2 rfl rfl))) ?_
      refine h_val 15 rfl (by kernel_rfl) (by kernel_rfl) (by kernel_rfl) (fun _ _ _ h => h) S16 (wantsY 9 16 true rfl (by kernel_rfl) rfl (by kernel_rfl)) (d := 22) (v := (.bool (decide (d.sb = d.r)))) rfl (fun _ H' => (by kernel_rfl)) ?_
      refine h_val 16 rfl (by kernel_rfl) (by kernel_rfl) (by kernel_rfl) (fun _ _ _ h => h) S16 (wants0 rfl) (d := 23) (v := (.bool (decide (d.sb = d.r)))) rfl (fun _ H' => (by kernel_rfl)) ?_
      refine h_val 17 rfl (by kernel_rfl) (by kernel_rfl) (by kernel_rfl) (fun _ _ _ h => h) S16 (wants0 rfl) (d := 24) (v := (.bool (decide (d.sb = d.r)))) rfl (fun _ H' => (by kernel_rfl)) ?_
      refine (bsplit (decide (d.sb = d.r))).elim (fun b21 => ?_) (fun b21 => ?_)
      · have g22 := of_decide_eq_true b21
        refine h_know 24 (.bool true) (congrArg Value.bool b21) ?_
        have g23 := of_decide_eq_true b21
        refine h_val 18 rfl (by kernel_rfl) (by kernel_rfl) (by kernel_rfl) (fun _ _ _ h => h) S16 (wantsY 17 24 true rfl (by kernel_rfl) rfl (by kernel_rfl)) (d := 25) (v := (.pointer (some ⟨b, 0, none⟩))) rfl (fun _ H' => (by kernel_rfl)) ?_
        refine h_val 19 rfl (by kernel_rfl) (by kernel_rfl) (by kernel_rfl) (fun _ _ _ h => h) S16 (wantsY 17 24 true rfl (by kernel_rfl) rfl (by kernel_rfl)) (d := 26) (v := (.pointer (some ⟨b6, 2, none⟩))) rfl (fun _ H' => (by kernel_rfl)) ?_
        refine h_val 20 rfl (by kernel_rfl) (by kernel_rfl) (by kernel_rfl) (fun _ _ _ h => h) S16 (wantsY 17 24 true rfl (by kernel_rfl) rfl (by kernel_rfl)) (d := 27) (v := (.agg ⟨([(.int .i64 (d.sb)), (.int .i64 (d.sm))] : List Value)⟩)) rfl (fun _ H' => (e_loadN (vs := ([(.int .i64 (d.sb)), (.int .i64 (d.sm))] : List Value)) rfl (by kernel_rfl) (by kernel_rfl) (by exact Nat.le_of_ble_eq_true (by kernel_rfl)) (H'.at 2 rfl) (by kernel_rfl))) ?_
        refine h_val 21 rfl (by kernel_rfl) (by kernel_rfl) (by kernel_rfl) (fun _ _ _ h => h) S16 (wantsY 17 24 true rfl (by kernel_rfl) rfl (by kernel_rfl)) (d := 28) (v := (.agg ⟨([(.int .i64 (d.r)), (.int .i64 (d.i)), (.int .i64 (d.sb)), (.int .i64 (d.sm))] : List Value)⟩)) rfl (fun _ H' => (e_loadN (vs := ([(.int .i64 (d.r)), (.int .i64 (d.i)), (.int .i64 (d.sb)), (.int .i64 (d.sm))] : List Value)) rfl (by kernel_rfl) (by kernel_rfl) (by exact Nat.le_of_ble_eq_true (by kernel_rfl)) (H'.at 2 rfl) (by kernel_rfl))) ?_
        refine h_do 22 rfl (by kernel_rfl) (wantsY 17 24 true rfl (by kernel_rfl) rfl (by kernel_rfl)) (fun K24 hK24 => ?_)
        refine d_call (d := 29) rfl (by kernel_rfl) (wDenyText_any w13 d ⟨by show d.r ≤ _; omega, by show d.i ≤ _; omega⟩) ?_
        rintro _ w25 ⟨u26, rfl, k27, p28, q29⟩
        have hdl := denyB_len d.r d.i
        have H30 : Sat w [restC w (fun _ => False), cellC b2 57 ([(.int .i64 (F)), (.int .i64 (C))] : List Value), cellC b6 79 ([(.int .i64 (d.r)), (.int .i64 (d.i)), (.int .i64 (d.sb)), (.int .i64 (d.sm))] : List Value), rowC 5 1 u26 ((denyB d.r d.i).length) ((denyB d.r d.i).flatMap encB)] w25 := H14.addU p28 k27 q29
        obtain ⟨a31, c32, rfl⟩ := ownsRow_shape (H30.at 3 rfl)
        refine ⟨_, rfl, ?_⟩
        have S33 := H30.pick [0, 1, 2] (by decide)
        refine hK24 _ _ S33 ?_
        clear hK24 K24
        refine h_do 23 rfl (by kernel_rfl) (wantsY 17 24 true rfl (by kernel_rfl) rfl (by kernel_rfl)) (fun K34 hK34 => ?_)
        refine d_call (d := 30) rfl (by kernel_rfl) (pRightQ_any w25 b bm B (H30.roCk 0 rfl hbk (fun _ _ h => h)) (H30.roMap 0 rfl hbm (fun h => h)) a31 c32 (denyB d.r d.i) (ListAt.row (enc := encB) (sz := 1) encB_len (by decide) (H30.at 3 rfl)) d.sb d.sm) ?_
        rintro _ w35 ⟨rfl, u37⟩
        have H36 := H30.keepU u37
        refine ⟨_, rfl, ?_⟩
        have S38 := H36.pick [0, 1, 2] (by decide)
        refine hK34 _ _ S38 ?_
        clear hK34 K34
        refine h_val 24 rfl (by kernel_rfl) (by kernel_rfl) (by kernel_rfl) (fun _ _ _ h => h) S38 (wants0 rfl) (d := 31) (v := (.bool (rightB B d.sb d.sm (denyB d.r d.i)))) rfl (fun _ H' => (by kernel_rfl)) ?_
        refine h_val 25 rfl (by kernel_rfl) (by kernel_rfl) (by kernel_rfl) (fun _ _ _ h => h) S38 (wants0 rfl) (d := 6) (v := (.bool (rightB B d.sb d.sm (denyB d.r d.i)))) rfl (fun _ H' => (by kernel_rfl)) ?_
        refine h_fin (by kernel_rfl) ?_
        refine then_normal ?_
        refine w_ret ?_
        refine end1 rfl (res_tmp (v := (.bool (rightB B d.sb d.sm (denyB d.r d.i)))) rfl) ?_
        exact ⟨by unfold rightDn; simp [b17, b18, b21], H36.upd 0 rfl [] (fun _ h => h.elim)⟩
      · have g39 := of_decide_eq_false b21
        refine h_know 24 (.bool false) (congrArg Value.bool b21) ?_
        have g40 := of_decide_eq_false b21
        refine h_pass 18 rfl (by kernel_rfl) (by kernel_rfl) (by kernel_rfl) (fun _ _ _ h => h) S16 (wantsN 17 24 true rfl (by kernel_rfl) rfl (by kernel_rfl)) rfl ?_
        refine h_pass 19 rfl (by kernel_rfl) (by kernel_rfl) (by kernel_rfl) (fun _ _ _ h => h) S16 (wantsN 17 24 true rfl (by kernel_rfl) rfl (by kernel_rfl)) rfl ?_
        refine h_pass 20 rfl (by kernel_rfl) (by kernel_rfl) (by kernel_rfl) (fun _ _ _ h => h) S16 (wantsN 17 24 true rfl (by kernel_rfl) rfl (by kernel_rfl)) rfl ?_
        refine h_pass 21 rfl (by kernel_rfl) (by kernel_rfl) (by kernel_rfl) (fun _ _ _ h => h) S16 (wantsN 17 24 true rfl (by kernel_rfl) rfl (by kernel_rfl)) rfl ?_
        refine h_pass 22 rfl (by kernel_rfl) (by kernel_rfl) (by kernel_rfl) (fun _ _ _ h => h) S16 (wantsN 17 24 true rfl (by kernel_rfl) rfl (by kernel_rfl)) rfl ?_
        refine h_pass 23 rfl (by kernel_rfl) (by kernel_rfl) (by kernel_rfl) (fun _ _ _ h => h) S16 (wantsN 17 24 true rfl (by kernel_rfl) rfl (by kernel_rfl)) rfl ?_
        refine h_val 24 rfl (by kernel_rfl) (by kernel_rfl) (by kernel_rfl) (fun _ _ _ h => h) S16 (wants0 rfl) (d := 31) (v := (.bool false)) rfl (fun _ H' => (by kernel_rfl)) ?_
        refine h_val 25 rfl (by kernel_rfl) (by kernel_rfl) (by kernel_rfl) (fun _ _ _ h => h) S16 (wants0 rfl) (d := 6) (v := (.bool false)) rfl (fun _ H' => (by kernel_rfl)) ?_
        refine h_fin (by kernel_rfl) ?_
        refine then_normal ?_
        refine w_ret ?_
        refine end1 rfl (res_tmp (v := (.bool false)) rfl) ?_
        exact ⟨by unfold rightDn; simp [b17, b18, b21], H14.upd 0 rfl [] (fun _ h => h.elim)⟩
    · have g41 := of_decide_eq_false b18
      refine h_know 16 (.bool false) (congrArg Value.bool b18) ?_
      have g42 := of_decide_eq_false b18
      refine h_pass 10 rfl (by kernel_rfl) (by kernel_rfl) (by kernel_rfl) (fun _ _ _ h => h) S16 (wantsN 9 16 true rfl (by kernel_rfl) rfl (by kernel_rfl)) rfl ?_
      refine h_pass 11 rfl (by kernel_rfl) (by kernel_rfl) (by kernel_rfl) (fun _ _ _ h => h) S16 (wantsN 9 16 true rfl (by kernel_rfl) rfl (by kernel_rfl)) rfl ?_
      refine h_pass 12 rfl (by kernel_rfl) (by kernel_rfl) (by kernel_rfl) (fun _ _ _ h => h) S16 (wantsN 9 16 true rfl (by kernel_rfl) rfl (by kernel_rfl)) rfl ?_
      refine h_pass 13 rfl (by kernel_rfl) (by kernel_rfl) (by kernel_rfl) (fun _ _ _ h => h) S16 (wantsN 9 16 true rfl (by kernel_rfl) rfl (by kernel_rfl)) rfl ?_
      refine h_pass 14 rfl (by kernel_rfl) (by kernel_rfl) (by kernel_rfl) (fun _ _ _ h => h) S16 (wantsN 9 16 true rfl (by kernel_rfl) rfl (by kernel_rfl)) rfl ?_
      refine h_pass 15 rfl (by kernel_rfl) (by kernel_rfl) (by kernel_rfl) (fun _ _ _ h => h) S16 (wantsN 9 16 true rfl (by kernel_rfl) rfl (by kernel_rfl)) rfl ?_
      refine h_val 16 rfl (by kernel_rfl) (by kernel_rfl) (by kernel_rfl) (fun _ _ _ h => h) S16 (wants0 rfl) (d := 23) (v := (.bool false)) rfl (fun _ H' => (by kernel_rfl)) ?_
      refine h_val 17 rfl (by kernel_rfl) (by kernel_rfl) (by kernel_rfl) (fun _ _ _ h => h) S16 (wants0 rfl) (d := 24) (v := (.bool false)) rfl (fun _ H' => (by kernel_rfl)) ?_
      refine h_pass 18 rfl (by kernel_rfl) (by kernel_rfl) (by kernel_rfl) (fun _ _ _ h => h) S16 (wantsN 17 24 true rfl (by kernel_rfl) rfl (by kernel_rfl)) rfl ?_
      refine h_pass 19 rfl (by kernel_rfl) (by kernel_rfl) (by kernel_rfl) (fun _ _ _ h => h) S16 (wantsN 17 24 true rfl (by kernel_rfl) rfl (by kernel_rfl)) rfl ?_
      refine h_pass 20 rfl (by kernel_rfl) (by kernel_rfl) (by kernel_rfl) (fun _ _ _ h => h) S16 (wantsN 17 24 true rfl (by kernel_rfl) rfl (by kernel_rfl)) rfl ?_
      refine h_pass 21 rfl (by kernel_rfl) (by kernel_rfl) (by kernel_rfl) (fun _ _ _ h => h) S16 (wantsN 17 24 true rfl (by kernel_rfl) rfl (by kernel_rfl)) rfl ?_
      refine h_pass 22 rfl (by kernel_rfl) (by kernel_rfl) (by kernel_rfl) (fun _ _ _ h => h) S16 (wantsN 17 24 true rfl (by kernel_rfl) rfl (by kernel_rfl)) rfl ?_
      refine h_pass 23 rfl (by kernel_rfl) (by kernel_rfl) (by kernel_rfl) (fun _ _ _ h => h) S16 (wantsN 17 24 true rfl (by kernel_rfl) rfl (by kernel_rfl)) rfl ?_
      refine h_val 24 rfl (by kernel_rfl) (by kernel_rfl) (by kernel_rfl) (fun _ _ _ h => h) S16 (wants0 rfl) (d := 31) (v := (.bool false)) rfl (fun _ H' => (by kernel_rfl)) ?_
      refine h_val 25 rfl (by kernel_rfl) (by kernel_rfl) (by kernel_rfl) (fun _ _ _ h => h) S16 (wants0 rfl) (d := 6) (v := (.bool false)) rfl (fun _ H' => (by kernel_rfl)) ?_
      refine h_fin (by kernel_rfl) ?_
      refine then_normal ?_
      refine w_ret ?_
      refine end1 rfl (res_tmp (v := (.bool false)) rfl) ?_
      exact ⟨by unfold rightDn; simp [b17, b18], H14.upd 0 rfl [] (fun _ h => h.elim)⟩
  · refine h_know 11 (.bool false) (congrArg Value.bool b17) ?_
    refine h_pass 5 rfl (by kernel_rfl) (by kernel_rfl) (by kernel_rfl) (fun _ _ _ h => h) S16 (wantsN 4 11 true rfl (by kernel_rfl) rfl (by kernel_rfl)) rfl ?_
    refine h_pass 6 rfl (by kernel_rfl) (by kernel_rfl) (by kernel_rfl) (fun _ _ _ h => h) S16 (wantsN 4 11 true rfl (by kernel_rfl) rfl (by kernel_rfl)) rfl ?_
    refine h_pass 7 rfl (by kernel_rfl) (by kernel_rfl) (by kernel_rfl) (fun _ _ _ h => h) S16 (wantsN 4 11 true rfl (by kernel_rfl) rfl (by kernel_rfl)) rfl ?_
    refine h_val 8 rfl (by kernel_rfl) (by kernel_rfl) (by kernel_rfl) (fun _ _ _ h => h) S16 (wants0 rfl) (d := 15) (v := (.bool false)) rfl (fun _ H' => (by kernel_rfl)) ?_
    refine h_val 9 rfl (by kernel_rfl) (by kernel_rfl) (by kernel_rfl) (fun _ _ _ h => h) S16 (wants0 rfl) (d := 16) (v := (.bool false)) rfl (fun _ H' => (by kernel_rfl)) ?_
    refine h_pass 10 rfl (by kernel_rfl) (by kernel_rfl) (by kernel_rfl) (fun _ _ _ h => h) S16 (wantsN 9 16 true rfl (by kernel_rfl) rfl (by kernel_rfl)) rfl ?_
    refine h_pass 11 rfl (by kernel_rfl) (by kernel_rfl) (by kernel_rfl) (fun _ _ _ h => h) S16 (wantsN 9 16 true rfl (by kernel_rfl) rfl (by kernel_rfl)) rfl ?_
    refine h_pass 12 rfl (by kernel_rfl) (by kernel_rfl) (by kernel_rfl) (fun _ _ _ h => h) S16 (wantsN 9 16 true rfl (by kernel_rfl) rfl (by kernel_rfl)) rfl ?_
    refine h_pass 13 rfl (by kernel_rfl) (by kernel_rfl) (by kernel_rfl) (fun _ _ _ h => h) S16 (wantsN 9 16 true rfl (by kernel_rfl) rfl (by kernel_rfl)) rfl ?_
    refine h_pass 14 rfl (by kernel_rfl) (by kernel_rfl) (by kernel_rfl) (fun _ _ _ h => h) S16 (wantsN 9 16 true rfl (by kernel_rfl) rfl (by kernel_rfl)) rfl ?_
    refine h_pass 15 rfl (by kernel_rfl) (by kernel_rfl) (by kernel_rfl) (fun _ _ _ h => h) S16 (wantsN 9 16 true rfl (by kernel_rfl) rfl (by kernel_rfl)) rfl ?_
    refine h_val 16 rfl (by kernel_rfl) (by kernel_rfl) (by kernel_rfl) (fun _ _ _ h => h) S16 (wants0 rfl) (d := 23) (v := (.bool false)) rfl (fun _ H' => (by kernel_rfl)) ?_
    refine h_val 17 rfl (by kernel_rfl) (by kernel_rfl) (by kernel_rfl) (fun _ _ _ h => h) S16 (wants0 rfl) (d := 24) (v := (.bool false)) rfl (fun _ H' => (by kernel_rfl)) ?_
    refine h_pass 18 rfl (by kernel_rfl) (by kernel_rfl) (by kernel_rfl) (fun _ _ _ h => h) S16 (wantsN 17 24 true rfl (by kernel_rfl) rfl (by kernel_rfl)) rfl ?_
    refine h_pass 19 rfl (by kernel_rfl) (by kernel_rfl) (by kernel_rfl) (fun _ _ _ h => h) S16 (wantsN 17 24 true rfl (by kernel_rfl) rfl (by kernel_rfl)) rfl ?_
    refine h_pass 20 rfl (by kernel_rfl) (by kernel_rfl) (by kernel_rfl) (fun _ _ _ h => h) S16 (wantsN 17 24 true rfl (by kernel_rfl) rfl (by kernel_rfl)) rfl ?_
    refine h_pass 21 rfl (by kernel_rfl) (by kernel_rfl) (by kernel_rfl) (fun _ _ _ h => h) S16 (wantsN 17 24 true rfl (by kernel_rfl) rfl (by kernel_rfl)) rfl ?_
    refine h_pass 22 rfl (by kernel_rfl) (by kernel_rfl) (by kernel_rfl) (fun _ _ _ h => h) S16 (wantsN 17 24 true rfl (by kernel_rfl) rfl (by kernel_rfl)) rfl ?_
    refine h_pass 23 rfl (by kernel_rfl) (by kernel_rfl) (by kernel_rfl) (fun _ _ _ h => h) S16 (wantsN 17 24 true rfl (by kernel_rfl) rfl (by kernel_rfl)) rfl ?_
    refine h_val 24 rfl (by kernel_rfl) (by kernel_rfl) (by kernel_rfl) (fun _ _ _ h => h) S16 (wants0 rfl) (d := 31) (v := (.bool false)) rfl (fun _ H' => (by kernel_rfl)) ?_
    refine h_val 25 rfl (by kernel_rfl) (by kernel_rfl) (by kernel_rfl) (fun _ _ _ h => h) S16 (wants0 rfl) (d := 6) (v := (.bool false)) rfl (fun _ H' => (by kernel_rfl)) ?_
    refine h_fin (by kernel_rfl) ?_
    refine then_normal ?_
    refine w_ret ?_
    refine end1 rfl (res_tmp (v := (.bool false)) rfl) ?_
    exact ⟨by unfold rightDn; simp [b17], H14.upd 0 rfl [] (fun _ h => h.elim)⟩

set_option maxRecDepth 100000 in
set_option maxHeartbeats 2000000 in
theorem wRightTomb_any (w : World) (F C : Int) (hF : -1099511627776 ≤ F ∧ F ≤ 1099511627776) (b bm : Nat) (B : List Signed) (hbk : (cellC b 109 [.map (some bm)]).ok w) (hbm : MapAt w bm signedV (Value.int .i64) (marks B)) (ix : Int) (da : Option Addr) (dc : Nat) (D : List DenyD) (hD : ListAt encDn 4 w (.slice da D.length dc) D) (hok : ∀ i, i < D.length → DnOk (D.getD i deny0)) (hlD : D.length ≤ 1000000) :
    Calls Try.prog 18 #[(.agg ⟨([(.int .i64 (F)), (.int .i64 (C))] : List Value)⟩), (.pointer (some ⟨b, 0, none⟩)), (.agg ⟨([(.int .i64 (ix)), (.slice da D.length dc)] : List Value)⟩)] w fun e w' => e = .returned (.bool (rightTb F B ix D)) ∧ Upd [] w w' := by
  have H := Sat.start0 w
  refine calls_fr Try.func18 rfl 52 rfl (Nat.le_of_ble_eq_true rfl) ?_
  refine w_seq ?_
  refine w_lit ?_
  refine wl_do (wants0 rfl) (fun K1 hK1 => ?_)
  refine d_box (vs := ([(.int .i64 (F)), (.int .i64 (C))] : List Value)) rfl H rfl rfl ?_
  intro b2 w3 (H4 : Sat w [restC w (fun _ => False), cellC b2 57 ([(.int .i64 (F)), (.int .i64 (C))] : List Value)] w3)
  refine hK1 _ _ ?_
  clear hK1 K1
  refine wl_do (wants0 rfl) (fun K5 hK5 => ?_)
  refine d_box (vs := ([(.int .i64 (ix)), (.slice da D.length dc)] : List Value)) rfl H4 rfl rfl ?_
  intro b6 w7 (H8 : Sat w [restC w (fun _ => False), cellC b2 57 ([(.int .i64 (F)), (.int .i64 (C))] : List Value), cellC b6 77 ([(.int .i64 (ix)), (.slice da D.length dc)] : List Value)] w7)
  refine hK5 _ _ ?_
  clear hK5 K5
  refine wl_pure (wants0 rfl) (d := 6) (v := (.bool false)) rfl (by kernel_rfl) ?_
  refine w_nil ?_
  refine then_normal ?_
  refine w_seq ?_
  refine w_seq ?_
  refine w_lit ?_
  refine wl_pure (wants0 rfl) (d := 9) (v := (.pointer (some ⟨b6, 1, none⟩))) rfl (by kernel_rfl) ?_
  refine wl_pure (wants0 rfl) (d := 10) (v := (.slice da D.length dc)) rfl (e_load1 rfl (by kernel_rfl) (H8.cell 2 rfl rfl)) ?_
  refine wl_pure (wants0 rfl) (d := 11) (v := (.int .i64 ((D.length : Int)))) rfl (by kernel_rfl) ?_
  refine wl_pure (wants0 rfl) (d := 12) (v := (.int .i64 (0))) rfl (by kernel_rfl) ?_
  refine w_nil ?_
  refine then_normal ?_
  refine w_block ?_
  refine wp_round [6, 7, 8, 12, 13, 14, 15, 16, 17, 18, 19, 20, 21, 22, 23, 24, 25, 26, 27, 28, 29, 30, 31, 32, 33, 34, 35, 36, 37, 38, 39, 40, 41, 42, 43, 44, 45] (fun F_ W_ m_ => ∃ (i : Nat), F_ 12 = (.int .i64 ((i : Int))) ∧ (i ≤ D.length) ∧ (∀ j, j < i → tombAt F B ix D j = true) ∧ Sat w [restC w (fun _ => False), cellC b2 57 ([(.int .i64 (F)), (.int .i64 (C))] : List Value), cellC b6 77 ([(.int .i64 (ix)), (.slice da D.length dc)] : List Value)] W_ ∧ m_ = D.length - i) _ ⟨0, (show ((.int .i64 (0)) : Value) = _ by first | rfl | go_num), (Nat.zero_le _), (fun _ h => absurd h (Nat.not_lt_zero _)), H8, rfl⟩ ?_
  rintro g9 w10 _ ⟨i, v12, hi, hall, H11, rfl⟩
  refine wp_know 12 _ v12 ?_
  refine w_seq ?_
  refine w_lit ?_
  refine wl_pure (wants0 rfl) (d := 13) (v := (.bool (decide ((i : Int) < (D.length : Int))))) rfl (by kernel_rfl) ?_
  refine w_nil ?_
  refine then_normal ?_
  refine w_seq ?_
  refine (bsplit (decide ((i : Int) < (D.length : Int)))).elim (fun b14 => ?_) (fun b14 => ?_)
  · have g15 := of_decide_eq_true b14
    refine wp_know 13 (.bool true) (congrArg Value.bool b14) ?_
    have g16 := of_decide_eq_true b14
    refine wp_ift rfl ?_
    refine w_skip ?_
    refine then_normal ?_
    refine w_seq ?_
    refine w_block ?_
    refine w_seq ?_
    refine w_lit ?_
    refine wl_pure (wants0 rfl) (d := 14) (v := (.int .i64 ((i : Int)))) rfl (by kernel_rfl) ?_
    obtain ⟨g17, o18, c19, e20, R21⟩ := SliceOf.atD hD deny0 (show i < D.length by omega)
    refine wl_pure (wants0 rfl) (d := 15) (v := (.pointer (some ⟨g17, o18 + ((i : Int)).toNat * 4, none⟩))) rfl (e_indexAddrW (E := 79) (by kernel_rfl) (by kernel_rfl) (Nat.le_of_ble_eq_true rfl) rfl e20 rfl (by omega) (by omega)) ?_
    refine wl_pure (wants0 rfl) (d := 16) (v := (.agg ⟨([(.int .i64 ((D.getD i deny0).r)), (.int .i64 ((D.getD i deny0).i)), (.int .i64 ((D.getD i deny0).sb)), (.int .i64 ((D.getD i deny0).sm))] : List Value)⟩)) rfl (e_loadRun (vs := ([(.int .i64 ((D.getD i deny0).r)), (.int .i64 ((D.getD i deny0).i)), (.int .i64 ((D.getD i deny0).sb)), (.int .i64 ((D.getD i deny0).sm))] : List Value)) rfl (by kernel_rfl) (by kernel_rfl) (Nat.le_of_ble_eq_true (by kernel_rfl)) (H11.runR 0 rfl (cells_run R21 0 (by kernel_rfl) (show o18 + ((i : Int)).toNat * 4 = o18 + i * 4 + 0 by omega)) (fun h => h))) ?_
    refine wl_do (wants0 rfl) (fun K22 hK22 => ?_)
    refine d_alloc (zs := ([(.int .i64 (0)), (.int .i64 (0)), (.int .i64 (0)), (.int .i64 (0))] : List Value)) (z := (.agg ⟨([(.int .i64 (0)), (.int .i64 (0)), (.int .i64 (0)), (.int .i64 (0))] : List Value)⟩)) rfl H11 (by kernel_rfl) (by kernel_rfl) ?_
    intro b23 w24 (H25 : Sat w [restC w (fun _ => False), cellC b2 57 ([(.int .i64 (F)), (.int .i64 (C))] : List Value), cellC b6 77 ([(.int .i64 (ix)), (.slice da D.length dc)] : List Value), cellC b23 79 ([(.int .i64 (0)), (.int .i64 (0)), (.int .i64 (0)), (.int .i64 (0))] : List Value)] w24)
    refine hK22 _ _ ?_
    clear hK22 K22
    refine wl_pure (wants0 rfl) (d := 7) (v := (.int .i64 ((i : Int)))) rfl (by kernel_rfl) ?_
    refine wl_do (wants0 rfl) (fun K26 hK26 => ?_)
    refine d_storeX (vs := ([(.int .i64 ((D.getD i deny0).r)), (.int .i64 ((D.getD i deny0).i)), (.int .i64 ((D.getD i deny0).sb)), (.int .i64 ((D.getD i deny0).sm))] : List Value)) (cs' := ([(.int .i64 ((D.getD i deny0).r)), (.int .i64 ((D.getD i deny0).i)), (.int .i64 ((D.getD i deny0).sb)), (.int .i64 ((D.getD i deny0).sm))] : List Value)) rfl H25 3 rfl rfl rfl rfl (by kernel_rfl) (Nat.le_of_ble_eq_true (by kernel_rfl)) (Nat.le_of_ble_eq_true (by kernel_rfl)) (by kernel_rfl) (by kernel_rfl) ?_
    intro w27 (H28 : Sat w [restC w (fun _ => False), cellC b2 57 ([(.int .i64 (F)), (.int .i64 (C))] : List Value), cellC b6 77 ([(.int .i64 (ix)), (.slice da D.length dc)] : List Value), cellC b23 79 ([(.int .i64 ((D.getD i deny0).r)), (.int .i64 ((D.getD i deny0).i)), (.int .i64 ((D.getD i deny0).sb)), (.int .i64 ((D.getD i deny0).sm))] : List Value)] w27)
    refine hK26 _ _ ?_
    clear hK26 K26
    refine w_nil ?_
    refine then_normal ?_
    refine w_seq ?_
    refine q_start H28 (by kernel_rfl) (by kernel_rfl) ?_
    refine q_val (wants0 rfl) (d := 17) (v := (.int .i64 ((i : Int)))) rfl (fun _ H' => (by kernel_rfl)) ?_
    refine q_val (wants0 rfl) (d := 18) (v := (.bool (decide ((i : Int) > 0)))) rfl (fun _ H' => (by kernel_rfl)) ?_
    refine q_val (wants0 rfl) (d := 19) (v := (.bool (decide ((i : Int) > 0)))) rfl (fun _ H' => (by kernel_rfl)) ?_
    refine (bsplit (decide ((i : Int) > 0))).elim (fun b30 => ?_) (fun b30 => ?_)
    · have g31 := of_decide_eq_true b30
      refine q_know 19 (.bool true) (congrArg Value.bool b30) ?_
      have g32 := of_decide_eq_true b30
      refine q_val (wantsY 2 19 true rfl (by kernel_rfl) rfl (by kernel_rfl)) (d := 20) (v := (.pointer (some ⟨b23, 0, none⟩))) rfl (fun _ H' => (by kernel_rfl)) ?_
      refine q_val (wantsY 2 19 true rfl (by kernel_rfl) rfl (by kernel_rfl)) (d := 21) (v := (.int .i64 ((D.getD i deny0).r))) rfl (fun _ H' => (e_load1 rfl (by kernel_rfl) (H'.cell 3 rfl rfl))) ?_
      refine q_val (wantsY 2 19 true rfl (by kernel_rfl) rfl (by kernel_rfl)) (d := 22) (v := (.pointer (some ⟨b6, 1, none⟩))) rfl (fun _ H' => (by kernel_rfl)) ?_
      refine q_val (wantsY 2 19 true rfl (by kernel_rfl) rfl (by kernel_rfl)) (d := 23) (v := (.slice da D.length dc)) rfl (fun _ H' => (e_load1 rfl (by kernel_rfl) (H'.cell 2 rfl rfl))) ?_
      refine q_val (wantsY 2 19 true rfl (by kernel_rfl) rfl (by kernel_rfl)) (d := 24) (v := (.int .i64 ((i : Int)))) rfl (fun _ H' => (by kernel_rfl)) ?_
      refine q_val (wantsY 2 19 true rfl (by kernel_rfl) rfl (by kernel_rfl)) (d := 25) (v := (.int .i64 ((i : Int) - 1))) rfl (fun _ H' => (e_int (z := (i : Int) - 1) (by kernel_rfl) (IntWalk.i64_in _ (by omega)))) ?_
      obtain ⟨g33, o34, c35, e36, R37⟩ := SliceOf.atD hD deny0 (show ((i : Int) - 1).toNat < D.length by omega)
      refine q_val (wantsY 2 19 true rfl (by kernel_rfl) rfl (by kernel_rfl)) (d := 26) (v := (.pointer (some ⟨g33, o34 + ((i : Int) - 1).toNat * 4, none⟩))) rfl (fun _ H' => (e_indexAddrW (E := 79) (by kernel_rfl) (by kernel_rfl) (Nat.le_of_ble_eq_true rfl) rfl e36 rfl (by omega) (by omega))) ?_
      refine q_val (wantsY 2 19 true rfl (by kernel_rfl) rfl (by kernel_rfl)) (d := 27) (v := (.pointer (some ⟨g33, o34 + ((i : Int) - 1).toNat * 4, none⟩))) rfl (fun _ H' => (by kernel_rfl)) ?_
      refine q_val (wantsY 2 19 true rfl (by kernel_rfl) rfl (by kernel_rfl)) (d := 28) (v := (.int .i64 ((D.getD ((i : Int) - 1).toNat deny0).r))) rfl (fun _ H' => (e_load1 rfl (by kernel_rfl) (H'.cellR 0 rfl (cells_at R37 0 (by kernel_rfl) (show o34 + ((i : Int) - 1).toNat * 4 = o34 + ((i : Int) - 1).toNat * 4 + 0 by omega)) (fun h => h)))) ?_
      refine q_val (wantsY 2 19 true rfl (by kernel_rfl) rfl (by kernel_rfl)) (d := 29) (v := (.bool (decide (((D.getD i deny0).r) ≤ ((D.getD ((i : Int) - 1).toNat deny0).r))))) rfl (fun _ H' => (by kernel_rfl)) ?_
      refine q_val (wants0 rfl) (d := 30) (v := (.bool (decide (((D.getD i deny0).r) ≤ ((D.getD ((i : Int) - 1).toNat deny0).r))))) rfl (fun _ H' => (by kernel_rfl)) ?_
      refine q_val (wants0 rfl) (d := 31) (v := (.bool (decide (((D.getD i deny0).r) ≤ ((D.getD ((i : Int) - 1).toNat deny0).r))))) rfl (fun _ H' => (by kernel_rfl)) ?_
      refine (bsplit (decide (((D.getD i deny0).r) ≤ ((D.getD ((i : Int) - 1).toNat deny0).r)))).elim (fun b38 => ?_) (fun b38 => ?_)
      · have g39 := of_decide_eq_true b38
        refine q_know 31 (.bool true) (congrArg Value.bool b38) ?_
        have g40 := of_decide_eq_true b38
        refine q_pass (wantsN 14 31 false rfl (by kernel_rfl) rfl (by kernel_rfl)) rfl ?_
        refine q_pass (wantsN 14 31 false rfl (by kernel_rfl) rfl (by kernel_rfl)) rfl ?_
        refine q_pass (wantsN 14 31 false rfl (by kernel_rfl) rfl (by kernel_rfl)) rfl ?_
        refine q_pass (wantsN 14 31 false rfl (by kernel_rfl) rfl (by kernel_rfl)) rfl ?_
        refine q_pass (wantsN 14 31 false rfl (by kernel_rfl) rfl (by kernel_rfl)) rfl ?_
        refine q_val (wants0 rfl) (d := 37) (v := (.bool true)) rfl (fun _ H' => (by kernel_rfl)) ?_
        refine q_val (wants0 rfl) (d := 38) (v := (.bool true)) rfl (fun _ H' => (by kernel_rfl)) ?_
        refine q_pass (wantsN 21 38 false rfl (by kernel_rfl) rfl (by kernel_rfl)) rfl ?_
        refine q_pass (wantsN 21 38 false rfl (by kernel_rfl) rfl (by kernel_rfl)) rfl ?_
        refine q_pass (wantsN 21 38 false rfl (by kernel_rfl) rfl (by kernel_rfl)) rfl ?_
        refine q_pass (wantsN 21 38 false rfl (by kernel_rfl) rfl (by kernel_rfl)) rfl ?_
        refine q_pass (wantsN 21 38 false rfl (by kernel_rfl) rfl (by kernel_rfl)) rfl ?_
        refine q_val (wants0 rfl) (d := 44) (v := (.bool true)) rfl (fun _ H' => (by kernel_rfl)) ?_
        refine q_end ?_
        intro w41 H42
        refine then_normal ?_
        refine wp_ift rfl ?_
        refine w_seq ?_
        refine w_lit ?_
        refine wl_pure (wants0 rfl) (d := 6) (v := (.bool false)) rfl (by kernel_rfl) ?_
        refine w_nil ?_
        refine then_normal ?_
        refine w_ret ?_
        refine blk_ret ?_
        refine then_ret ?_
        refine back_ret ?_
        refine blk_ret ?_
        refine then_ret ?_
        refine end1 rfl (res_tmp (v := (.bool false)) rfl) ?_
        have e1 : ((i : Int) - 1).toNat = i - 1 := by omega
        have ho : tombAt F B ix D i = false := by unfold tombAt; rw [← e1]; simp only [b14, b30, b38, Bool.not_true, Bool.not_false, Bool.true_or, Bool.false_or, Bool.or_true, Bool.or_false, Bool.and_true, Bool.true_and, Bool.and_false, Bool.false_and]
        exact ⟨by simp only [rightTb, all_not (show i < D.length by omega) ho, Bool.false_and], H42.upd 0 rfl [] (fun _ h => h.elim)⟩
      · have g43 := of_decide_eq_false b38
        refine q_know 31 (.bool false) (congrArg Value.bool b38) ?_
        have g44 := of_decide_eq_false b38
        refine q_val (wantsY 14 31 false rfl (by kernel_rfl) rfl (by kernel_rfl)) (d := 32) (v := (.pointer (some ⟨b23, 1, none⟩))) rfl (fun _ H' => (by kernel_rfl)) ?_
        refine q_val (wantsY 14 31 false rfl (by kernel_rfl) rfl (by kernel_rfl)) (d := 33) (v := (.int .i64 ((D.getD i deny0).i))) rfl (fun _ H' => (e_load1 rfl (by kernel_rfl) (H'.cell 3 rfl rfl))) ?_
        refine q_val (wantsY 14 31 false rfl (by kernel_rfl) rfl (by kernel_rfl)) (d := 34) (v := (.pointer (some ⟨b6, 0, none⟩))) rfl (fun _ H' => (by kernel_rfl)) ?_
        refine q_val (wantsY 14 31 false rfl (by kernel_rfl) rfl (by kernel_rfl)) (d := 35) (v := (.int .i64 (ix))) rfl (fun _ H' => (e_load1 rfl (by kernel_rfl) (H'.cell 2 rfl rfl))) ?_
        refine q_val (wantsY 14 31 false rfl (by kernel_rfl) rfl (by kernel_rfl)) (d := 36) (v := (.bool (!(decide (((D.getD i deny0).i) = ix))))) rfl (fun _ H' => (by kernel_rfl)) ?_
        refine q_val (wants0 rfl) (d := 37) (v := (.bool (!(decide (((D.getD i deny0).i) = ix))))) rfl (fun _ H' => (by kernel_rfl)) ?_
        refine q_val (wants0 rfl) (d := 38) (v := (.bool (!(decide (((D.getD i deny0).i) = ix))))) rfl (fun _ H' => (by kernel_rfl)) ?_
        refine (bsplit (!(decide (((D.getD i deny0).i) = ix)))).elim (fun b45 => ?_) (fun b45 => ?_)
        · have g46 := bnot_true b45
          have g47 := of_decide_eq_false g46
          refine q_know 38 (.bool true) (congrArg Value.bool b45) ?_
          have g48 := bnot_true b45
          have g49 := of_decide_eq_false g48
          refine q_pass (wantsN 21 38 false rfl (by kernel_rfl) rfl (by kernel_rfl)) rfl ?_
          refine q_pass (wantsN 21 38 false rfl (by kernel_rfl) rfl (by kernel_rfl)) rfl ?_
          refine q_pass (wantsN 21 38 false rfl (by kernel_rfl) rfl (by kernel_rfl)) rfl ?_
          refine q_pass (wantsN 21 38 false rfl (by kernel_rfl) rfl (by kernel_rfl)) rfl ?_
          refine q_pass (wantsN 21 38 false rfl (by kernel_rfl) rfl (by kernel_rfl)) rfl ?_
          refine q_val (wants0 rfl) (d := 44) (v := (.bool true)) rfl (fun _ H' => (by kernel_rfl)) ?_
          refine q_end ?_
          intro w50 H51
          refine then_normal ?_
          refine wp_ift rfl ?_
          refine w_seq ?_
          refine w_lit ?_
          refine wl_pure (wants0 rfl) (d := 6) (v := (.bool false)) rfl (by kernel_rfl) ?_
          refine w_nil ?_
          refine then_normal ?_
          refine w_ret ?_
          refine blk_ret ?_
          refine then_ret ?_
          refine back_ret ?_
          refine blk_ret ?_
          refine then_ret ?_
          refine end1 rfl (res_tmp (v := (.bool false)) rfl) ?_
          have n52 := bnot_true b45
          have e1 : ((i : Int) - 1).toNat = i - 1 := by omega
          have ho : tombAt F B ix D i = false := by unfold tombAt; rw [← e1]; simp only [b14, b30, b38, n52, Bool.not_true, Bool.not_false, Bool.true_or, Bool.false_or, Bool.or_true, Bool.or_false, Bool.and_true, Bool.true_and, Bool.and_false, Bool.false_and]
          exact ⟨by simp only [rightTb, all_not (show i < D.length by omega) ho, Bool.false_and], H51.upd 0 rfl [] (fun _ h => h.elim)⟩
        · have g53 := bnot_false b45
          have g54 := of_decide_eq_true g53
          refine q_know 38 (.bool false) (congrArg Value.bool b45) ?_
          have g55 := bnot_false b45
          have g56 := of_decide_eq_true g55
          refine q_val (wantsY 21 38 false rfl (by kernel_rfl) rfl (by kernel_rfl)) (d := 39) (v := (.agg ⟨([(.int .i64 (F)), (.int .i64 (C))] : List Value)⟩)) rfl (fun _ H' => (e_loadN (vs := ([(.int .i64 (F)), (.int .i64 (C))] : List Value)) rfl (by kernel_rfl) (by kernel_rfl) (by exact Nat.le_of_ble_eq_true (by kernel_rfl)) (H'.at 1 rfl) (by kernel_rfl))) ?_
          refine q_val (wantsY 21 38 false rfl (by kernel_rfl) rfl (by kernel_rfl)) (d := 40) (v := (.pointer (some ⟨b, 0, none⟩))) rfl (fun _ H' => (by kernel_rfl)) ?_
          refine q_val (wantsY 21 38 false rfl (by kernel_rfl) rfl (by kernel_rfl)) (d := 41) (v := (.agg ⟨([(.int .i64 ((D.getD i deny0).r)), (.int .i64 ((D.getD i deny0).i)), (.int .i64 ((D.getD i deny0).sb)), (.int .i64 ((D.getD i deny0).sm))] : List Value)⟩)) rfl (fun _ H' => (e_loadN (vs := ([(.int .i64 ((D.getD i deny0).r)), (.int .i64 ((D.getD i deny0).i)), (.int .i64 ((D.getD i deny0).sb)), (.int .i64 ((D.getD i deny0).sm))] : List Value)) rfl (by kernel_rfl) (by kernel_rfl) (by exact Nat.le_of_ble_eq_true (by kernel_rfl)) (H'.at 3 rfl) (by kernel_rfl))) ?_
          refine q_call (wantsY 21 38 false rfl (by kernel_rfl) rfl (by kernel_rfl)) (d := 42) (v := (.bool (rightDn F B (D.getD i deny0)))) rfl (fun _ _ => by kernel_rfl) (fun w' H' => (wRightDeny_any w' F C (by omega) b bm B (H'.roCk 0 rfl hbk (fun _ _ h => h)) (H'.roMap 0 rfl hbm (fun h => h)) (D.getD i deny0) (hok _ (by omega))).mono fun _ _ h => ⟨h.1, H'.keepU h.2⟩) ?_
          refine q_val (wantsY 21 38 false rfl (by kernel_rfl) rfl (by kernel_rfl)) (d := 43) (v := (.bool (!(rightDn F B (D.getD i deny0))))) rfl (fun _ H' => (by kernel_rfl)) ?_
          refine q_val (wants0 rfl) (d := 44) (v := (.bool (!(rightDn F B (D.getD i deny0))))) rfl (fun _ H' => (by kernel_rfl)) ?_
          refine q_end ?_
          intro w57 H58
          refine then_normal ?_
          refine (bsplit (!(rightDn F B (D.getD i deny0)))).elim (fun b59 => ?_) (fun b59 => ?_)
          · have g60 := bnot_true b59
            refine wp_know 44 (.bool true) (congrArg Value.bool b59) ?_
            have g61 := bnot_true b59
            refine wp_ift rfl ?_
            refine w_seq ?_
            refine w_lit ?_
            refine wl_pure (wants0 rfl) (d := 6) (v := (.bool false)) rfl (by kernel_rfl) ?_
            refine w_nil ?_
            refine then_normal ?_
            refine w_ret ?_
            refine blk_ret ?_
            refine then_ret ?_
            refine back_ret ?_
            refine blk_ret ?_
            refine then_ret ?_
            refine end1 rfl (res_tmp (v := (.bool false)) rfl) ?_
            have n62 := bnot_false b45
            have n63 := bnot_true b59
            have e1 : ((i : Int) - 1).toNat = i - 1 := by omega
            have ho : tombAt F B ix D i = false := by unfold tombAt; rw [← e1]; simp only [b14, b30, b38, n62, n63, Bool.not_true, Bool.not_false, Bool.true_or, Bool.false_or, Bool.or_true, Bool.or_false, Bool.and_true, Bool.true_and, Bool.and_false, Bool.false_and]
            exact ⟨by simp only [rightTb, all_not (show i < D.length by omega) ho, Bool.false_and], H58.upd 0 rfl [] (fun _ h => h.elim)⟩
          · have g64 := bnot_false b59
            refine wp_know 44 (.bool false) (congrArg Value.bool b59) ?_
            have g65 := bnot_false b59
            refine wp_iff rfl ?_
            refine w_skip ?_
            refine blk_normal ?_
            refine then_normal ?_
            refine w_lit ?_
            refine wl_pure (wants0 rfl) (d := 45) (v := (.int .i64 ((i : Int) + 1))) rfl (e_int (z := (i : Int) + 1) (by kernel_rfl) (IntWalk.i64_in _ (by omega))) ?_
            refine wl_pure (wants0 rfl) (d := 12) (v := (.int .i64 ((i : Int) + 1))) rfl (by kernel_rfl) ?_
            refine w_nil ?_
            have n66 := bnot_false b45
            have n67 := bnot_false b59
            have e1 : ((i : Int) - 1).toNat = i - 1 := by omega
            have ho : tombAt F B ix D i = true := by unfold tombAt; rw [← e1]; simp only [b14, b30, b38, n66, n67, Bool.not_true, Bool.not_false, Bool.true_or, Bool.false_or, Bool.or_true, Bool.or_false, Bool.and_true, Bool.true_and, Bool.and_false, Bool.false_and]
            have H68 : Sat w [restC w (fun _ => False), cellC b2 57 ([(.int .i64 (F)), (.int .i64 (C))] : List Value), cellC b6 77 ([(.int .i64 (ix)), (.slice da D.length dc)] : List Value)] w57 := H58.pick [0, 1, 2] (by decide)
            refine round_back ?_ _ ⟨(i + 1), (show ((.int .i64 ((i : Int) + 1)) : Value) = _ by first | rfl | go_num), (by omega), (fun j hj => by rcases Nat.lt_or_ge j i with h | h; exact hall j h; rw [show j = i by omega]; exact ho), H68, rfl⟩ (by omega)
            exact (same_upd rfl (same_upd rfl (same_upd rfl (same_upd rfl (same_upd rfl (same_upd rfl (same_upd rfl (same_upd rfl (same_upd rfl (same_upd rfl (same_upd rfl (same_upd rfl (same_upd rfl (same_upd rfl (same_upd rfl (same_upd rfl (same_upd rfl (same_upd rfl (same_upd rfl (same_upd rfl (same_upd rfl (same_upd rfl (same_upd rfl (same_upd rfl (same_upd rfl (same_upd rfl (same_upd rfl (same_upd rfl (same_upd rfl (same_upd rfl (same_upd rfl (same_upd rfl (same_upd rfl (same_upd rfl (same_upd rfl (same_upd rfl (same_upd rfl (same_upd rfl (same_upd rfl (same_upd rfl (same_upd rfl (same_upd rfl (same_ovr)))))))))))))))))))))))))))))))))))))))))))
    · have g69 := of_decide_eq_false b30
      refine q_know 19 (.bool false) (congrArg Value.bool b30) ?_
      have g70 := of_decide_eq_false b30
      refine q_pass (wantsN 2 19 true rfl (by kernel_rfl) rfl (by kernel_rfl)) rfl ?_
      refine q_pass (wantsN 2 19 true rfl (by kernel_rfl) rfl (by kernel_rfl)) rfl ?_
      refine q_pass (wantsN 2 19 true rfl (by kernel_rfl) rfl (by kernel_rfl)) rfl ?_
      refine q_pass (wantsN 2 19 true rfl (by kernel_rfl) rfl (by kernel_rfl)) rfl ?_
      refine q_pass (wantsN 2 19 true rfl (by kernel_rfl) rfl (by kernel_rfl)) rfl ?_
      refine q_pass (wantsN 2 19 true rfl (by kernel_rfl) rfl (by kernel_rfl)) rfl ?_
      refine q_pass (wantsN 2 19 true rfl (by kernel_rfl) rfl (by kernel_rfl)) rfl ?_
      refine q_pass (wantsN 2 19 true rfl (by kernel_rfl) rfl (by kernel_rfl)) rfl ?_
      refine q_pass (wantsN 2 19 true rfl (by kernel_rfl) rfl (by kernel_rfl)) rfl ?_
      refine q_pass (wantsN 2 19 true rfl (by kernel_rfl) rfl (by kernel_rfl)) rfl ?_
      refine q_val (wants0 rfl) (d := 30) (v := (.bool false)) rfl (fun _ H' => (by kernel_rfl)) ?_
      refine q_val (wants0 rfl) (d := 31) (v := (.bool false)) rfl (fun _ H' => (by kernel_rfl)) ?_
      refine q_val (wantsY 14 31 false rfl (by kernel_rfl) rfl (by kernel_rfl)) (d := 32) (v := (.pointer (some ⟨b23, 1, none⟩))) rfl (fun _ H' => (by kernel_rfl)) ?_
      refine q_val (wantsY 14 31 false rfl (by kernel_rfl) rfl (by kernel_rfl)) (d := 33) (v := (.int .i64 ((D.getD i deny0).i))) rfl (fun _ H' => (e_load1 rfl (by kernel_rfl) (H'.cell 3 rfl rfl))) ?_
      refine q_val (wantsY 14 31 false rfl (by kernel_rfl) rfl (by kernel_rfl)) (d := 34) (v := (.pointer (some ⟨b6, 0, none⟩))) rfl (fun _ H' => (by kernel_rfl)) ?_
      refine q_val (wantsY 14 31 false rfl (by kernel_rfl) rfl (by kernel_rfl)) (d := 35) (v := (.int .i64 (ix))) rfl (fun _ H' => (e_load1 rfl (by kernel_rfl) (H'.cell 2 rfl rfl))) ?_
      refine q_val (wantsY 14 31 false rfl (by kernel_rfl) rfl (by kernel_rfl)) (d := 36) (v := (.bool (!(decide (((D.getD i deny0).i) = ix))))) rfl (fun _ H' => (by kernel_rfl)) ?_
      refine q_val (wants0 rfl) (d := 37) (v := (.bool (!(decide (((D.getD i deny0).i) = ix))))) rfl (fun _ H' => (by kernel_rfl)) ?_
      refine q_val (wants0 rfl) (d := 38) (v := (.bool (!(decide (((D.getD i deny0).i) = ix))))) rfl (fun _ H' => (by kernel_rfl)) ?_
      refine (bsplit (!(decide (((D.getD i deny0).i) = ix)))).elim (fun b71 => ?_) (fun b71 => ?_)
      · have g72 := bnot_true b71
        have g73 := of_decide_eq_false g72
        refine q_know 38 (.bool true) (congrArg Value.bool b71) ?_
        have g74 := bnot_true b71
        have g75 := of_decide_eq_false g74
        refine q_pass (wantsN 21 38 false rfl (by kernel_rfl) rfl (by kernel_rfl)) rfl ?_
        refine q_pass (wantsN 21 38 false rfl (by kernel_rfl) rfl (by kernel_rfl)) rfl ?_
        refine q_pass (wantsN 21 38 false rfl (by kernel_rfl) rfl (by kernel_rfl)) rfl ?_
        refine q_pass (wantsN 21 38 false rfl (by kernel_rfl) rfl (by kernel_rfl)) rfl ?_
        refine q_pass (wantsN 21 38 false rfl (by kernel_rfl) rfl (by kernel_rfl)) rfl ?_
        refine q_val (wants0 rfl) (d := 44) (v := (.bool true)) rfl (fun _ H' => (by kernel_rfl)) ?_
        refine q_end ?_
        intro w76 H77
        refine then_normal ?_
        refine wp_ift rfl ?_
        refine w_seq ?_
        refine w_lit ?_
        refine wl_pure (wants0 rfl) (d := 6) (v := (.bool false)) rfl (by kernel_rfl) ?_
        refine w_nil ?_
        refine then_normal ?_
        refine w_ret ?_
        refine blk_ret ?_
        refine then_ret ?_
        refine back_ret ?_
        refine blk_ret ?_
        refine then_ret ?_
        refine end1 rfl (res_tmp (v := (.bool false)) rfl) ?_
        have n78 := bnot_true b71
        have e1 : ((i : Int) - 1).toNat = i - 1 := by omega
        have ho : tombAt F B ix D i = false := by unfold tombAt; rw [← e1]; simp only [b14, b30, n78, Bool.not_true, Bool.not_false, Bool.true_or, Bool.false_or, Bool.or_true, Bool.or_false, Bool.and_true, Bool.true_and, Bool.and_false, Bool.false_and]
        exact ⟨by simp only [rightTb, all_not (show i < D.length by omega) ho, Bool.false_and], H77.upd 0 rfl [] (fun _ h => h.elim)⟩
      · have g79 := bnot_false b71
        have g80 := of_decide_eq_true g79
        refine q_know 38 (.bool false) (congrArg Value.bool b71) ?_
        have g81 := bnot_false b71
        have g82 := of_decide_eq_true g81
        refine q_val (wantsY 21 38 false rfl (by kernel_rfl) rfl (by kernel_rfl)) (d := 39) (v := (.agg ⟨([(.int .i64 (F)), (.int .i64 (C))] : List Value)⟩)) rfl (fun _ H' => (e_loadN (vs := ([(.int .i64 (F)), (.int .i64 (C))] : List Value)) rfl (by kernel_rfl) (by kernel_rfl) (by exact Nat.le_of_ble_eq_true (by kernel_rfl)) (H'.at 1 rfl) (by kernel_rfl))) ?_
        refine q_val (wantsY 21 38 false rfl (by kernel_rfl) rfl (by kernel_rfl)) (d := 40) (v := (.pointer (some ⟨b, 0, none⟩))) rfl (fun _ H' => (by kernel_rfl)) ?_
        refine q_val (wantsY 21 38 false rfl (by kernel_rfl) rfl (by kernel_rfl)) (d := 41) (v := (.agg ⟨([(.int .i64 ((D.getD i deny0).r)), (.int .i64 ((D.getD i deny0).i)), (.int .i64 ((D.getD i deny0).sb)), (.int .i64 ((D.getD i deny0).sm))] : List Value)⟩)) rfl (fun _ H' => (e_loadN (vs := ([(.int .i64 ((D.getD i deny0).r)), (.int .i64 ((D.getD i deny0).i)), (.int .i64 ((D.getD i deny0).sb)), (.int .i64 ((D.getD i deny0).sm))] : List Value)) rfl (by kernel_rfl) (by kernel_rfl) (by exact Nat.le_of_ble_eq_true (by kernel_rfl)) (H'.at 3 rfl) (by kernel_rfl))) ?_
        refine q_call (wantsY 21 38 false rfl (by kernel_rfl) rfl (by kernel_rfl)) (d := 42) (v := (.bool (rightDn F B (D.getD i deny0)))) rfl (fun _ _ => by kernel_rfl) (fun w' H' => (wRightDeny_any w' F C (by omega) b bm B (H'.roCk 0 rfl hbk (fun _ _ h => h)) (H'.roMap 0 rfl hbm (fun h => h)) (D.getD i deny0) (hok _ (by omega))).mono fun _ _ h => ⟨h.1, H'.keepU h.2⟩) ?_
        refine q_val (wantsY 21 38 false rfl (by kernel_rfl) rfl (by kernel_rfl)) (d := 43) (v := (.bool (!(rightDn F B (D.getD i deny0))))) rfl (fun _ H' => (by kernel_rfl)) ?_
        refine q_val (wants0 rfl) (d := 44) (v := (.bool (!(rightDn F B (D.getD i deny0))))) rfl (fun _ H' => (by kernel_rfl)) ?_
        refine q_end ?_
        intro w83 H84
        refine then_normal ?_
        refine (bsplit (!(rightDn F B (D.getD i deny0)))).elim (fun b85 => ?_) (fun b85 => ?_)
        · have g86 := bnot_true b85
          refine wp_know 44 (.bool true) (congrArg Value.bool b85) ?_
          have g87 := bnot_true b85
          refine wp_ift rfl ?_
          refine w_seq ?_
          refine w_lit ?_
          refine wl_pure (wants0 rfl) (d := 6) (v := (.bool false)) rfl (by kernel_rfl) ?_
          refine w_nil ?_
          refine then_normal ?_
          refine w_ret ?_
          refine blk_ret ?_
          refine then_ret ?_
          refine back_ret ?_
          refine blk_ret ?_
          refine then_ret ?_
          refine end1 rfl (res_tmp (v := (.bool false)) rfl) ?_
          have n88 := bnot_false b71
          have n89 := bnot_true b85
          have e1 : ((i : Int) - 1).toNat = i - 1 := by omega
          have ho : tombAt F B ix D i = false := by unfold tombAt; rw [← e1]; simp only [b14, b30, n88, n89, Bool.not_true, Bool.not_false, Bool.true_or, Bool.false_or, Bool.or_true, Bool.or_false, Bool.and_true, Bool.true_and, Bool.and_false, Bool.false_and]
          exact ⟨by simp only [rightTb, all_not (show i < D.length by omega) ho, Bool.false_and], H84.upd 0 rfl [] (fun _ h => h.elim)⟩
        · have g90 := bnot_false b85
          refine wp_know 44 (.bool false) (congrArg Value.bool b85) ?_
          have g91 := bnot_false b85
          refine wp_iff rfl ?_
          refine w_skip ?_
          refine blk_normal ?_
          refine then_normal ?_
          refine w_lit ?_
          refine wl_pure (wants0 rfl) (d := 45) (v := (.int .i64 ((i : Int) + 1))) rfl (e_int (z := (i : Int) + 1) (by kernel_rfl) (IntWalk.i64_in _ (by omega))) ?_
          refine wl_pure (wants0 rfl) (d := 12) (v := (.int .i64 ((i : Int) + 1))) rfl (by kernel_rfl) ?_
          refine w_nil ?_
          have n92 := bnot_false b71
          have n93 := bnot_false b85
          have e1 : ((i : Int) - 1).toNat = i - 1 := by omega
          have ho : tombAt F B ix D i = true := by unfold tombAt; rw [← e1]; simp only [b14, b30, n92, n93, Bool.not_true, Bool.not_false, Bool.true_or, Bool.false_or, Bool.or_true, Bool.or_false, Bool.and_true, Bool.true_and, Bool.and_false, Bool.false_and]
          have H94 : Sat w [restC w (fun _ => False), cellC b2 57 ([(.int .i64 (F)), (.int .i64 (C))] : List Value), cellC b6 77 ([(.int .i64 (ix)), (.slice da D.length dc)] : List Value)] w83 := H84.pick [0, 1, 2] (by decide)
          refine round_back ?_ _ ⟨(i + 1), (show ((.int .i64 ((i : Int) + 1)) : Value) = _ by first | rfl | go_num), (by omega), (fun j hj => by rcases Nat.lt_or_ge j i with h | h; exact hall j h; rw [show j = i by omega]; exact ho), H94, rfl⟩ (by omega)
          exact (same_upd rfl (same_upd rfl (same_upd rfl (same_upd rfl (same_upd rfl (same_upd rfl (same_upd rfl (same_upd rfl (same_upd rfl (same_upd rfl (same_upd rfl (same_upd rfl (same_upd rfl (same_upd rfl (same_upd rfl (same_upd rfl (same_upd rfl (same_upd rfl (same_upd rfl (same_upd rfl (same_upd rfl (same_upd rfl (same_upd rfl (same_upd rfl (same_upd rfl (same_upd rfl (same_upd rfl (same_upd rfl (same_upd rfl (same_upd rfl (same_upd rfl (same_upd rfl (same_upd rfl (same_upd rfl (same_upd rfl (same_upd rfl (same_upd rfl (same_upd rfl (same_upd rfl (same_upd rfl (same_upd rfl (same_ovr))))))))))))))))))))))))))))))))))))))))))
  · have g95 := of_decide_eq_false b14
    refine wp_know 13 (.bool false) (congrArg Value.bool b14) ?_
    have g96 := of_decide_eq_false b14
    refine wp_iff rfl ?_
    refine w_exit ?_
    refine then_exit ?_
    refine back_exit ?_
    refine blk_hit ?_
    refine then_normal ?_
    refine w_seq ?_
    refine q_start H11 (by kernel_rfl) (by kernel_rfl) ?_
    refine q_val (wants0 rfl) (d := 46) (v := (.pointer (some ⟨b6, 1, none⟩))) rfl (fun _ H' => (by kernel_rfl)) ?_
    refine q_val (wants0 rfl) (d := 47) (v := (.slice da D.length dc)) rfl (fun _ H' => (e_load1 rfl (by kernel_rfl) (H'.cell 2 rfl rfl))) ?_
    refine q_val (wants0 rfl) (d := 48) (v := (.int .i64 ((D.length : Int)))) rfl (fun _ H' => (by kernel_rfl)) ?_
    refine q_val (wants0 rfl) (d := 49) (v := (.agg ⟨([(.int .i64 (F)), (.int .i64 (C))] : List Value)⟩)) rfl (fun _ H' => (e_loadN (vs := ([(.int .i64 (F)), (.int .i64 (C))] : List Value)) rfl (by kernel_rfl) (by kernel_rfl) (by exact Nat.le_of_ble_eq_true (by kernel_rfl)) (H'.at 1 rfl) (by kernel_rfl))) ?_
    refine q_call (wants0 rfl) (d := 50) (v := (.int .i64 (2 * F + 1))) rfl (fun _ _ => by kernel_rfl) (fun w' H' => (wQ_any w' F C (by omega)).mono fun _ _ h => ⟨h.1, H'.keepU h.2⟩) ?_
    refine q_val (wants0 rfl) (d := 51) (v := (.bool (decide ((D.length : Int) = (2 * F + 1))))) rfl (fun _ H' => (by kernel_rfl)) ?_
    refine q_val (wants0 rfl) (d := 6) (v := (.bool (decide ((D.length : Int) = (2 * F + 1))))) rfl (fun _ H' => (by kernel_rfl)) ?_
    refine q_end ?_
    intro w97 H98
    refine then_normal ?_
    refine w_ret ?_
    refine end1 rfl (res_tmp (v := (.bool (decide ((D.length : Int) = (2 * F + 1))))) rfl) ?_
    have hn0 : i = D.length := by omega
    subst hn0
    exact ⟨by simp only [rightTb, all_upto hall, Bool.true_and], H98.upd 0 rfl [] (fun _ h => h.elim)⟩

theorem wRightTomb_at (w : World) (F C : Int) (hF : -1099511627776 ≤ F ∧ F ≤ 1099511627776) (b bm : Nat) (B : List Signed) (hbk : (cellC b 109 [.map (some bm)]).ok w) (hbm : MapAt w bm signedV (Value.int .i64) (marks B)) (ix : Int) (v : Value) (D : List DenyD) (hD : ListAt encDn 4 w v D) (hok : ∀ i, i < D.length → DnOk (D.getD i deny0)) (hlD : D.length ≤ 1000000) :
    Calls Try.prog 18 #[.agg ⟨[.int .i64 F, .int .i64 C]⟩, .pointer (some ⟨b, 0, none⟩), .agg ⟨[.int .i64 ix, v]⟩] w fun e w' => e = .returned (.bool (rightTb F B ix D)) ∧ Upd [] w w' := by
  obtain ⟨a, c, rfl⟩ := ListAt.len hD
  exact wRightTomb_any w F C hF b bm B hbk hbm ix a c D hD hok hlD

set_option maxRecDepth 100000 in
set_option maxHeartbeats 400000 in
theorem pNew_any (w : World) :
    Calls Try.prog 48 #[] w fun e w' => ∃ b mb, e = .returned (.pointer (some ⟨b, 0, none⟩)) ∧ (sepC [cellC b 109 [.map (some mb)], mapC mb signedV (Value.int .i64) (marks [])]).ok w' ∧ Upd [] w w' ∧ ∀ q_, (sepC [cellC b 109 [.map (some mb)], mapC mb signedV (Value.int .i64) (marks [])]).fp q_ → w.heap.size ≤ q_ := by
  have H := Sat.start0 w
  refine calls_fr Try.func48 rfl 4 rfl (Nat.le_of_ble_eq_true rfl) ?_
  refine w_seq ?_
  refine w_lit ?_
  refine wl_pure (wants0 rfl) (d := 0) (v := (.pointer none)) rfl (by kernel_rfl) ?_
  refine w_nil ?_
  refine then_normal ?_
  refine w_seq ?_
  refine w_lit ?_
  refine wl_do (wants0 rfl) (fun K1 hK1 => ?_)
  refine d_makeMap signedV (Value.int .i64) rfl H ?_
  intro b2 w3 (H4 : Sat w [restC w (fun _ => False), mapC b2 signedV (Value.int .i64) []] w3)
  refine hK1 _ _ ?_
  clear hK1 K1
  refine wl_pure (wants0 rfl) (d := 2) (v := (.agg ⟨([(.map (some b2))] : List Value)⟩)) rfl (by kernel_rfl) ?_
  refine wl_do (wants0 rfl) (fun K5 hK5 => ?_)
  refine d_box (vs := ([(.map (some b2))] : List Value)) rfl H4 rfl rfl ?_
  intro b6 w7 (H8 : Sat w [restC w (fun _ => False), mapC b2 signedV (Value.int .i64) [], cellC b6 109 ([(.map (some b2))] : List Value)] w7)
  refine hK5 _ _ ?_
  clear hK5 K5
  refine wl_pure (wants0 rfl) (d := 0) (v := (.pointer (some ⟨b6, 0, none⟩))) rfl (by kernel_rfl) ?_
  refine w_nil ?_
  refine then_normal ?_
  refine w_ret ?_
  refine end1 rfl (res_tmp (v := (.pointer (some ⟨b6, 0, none⟩))) rfl) ?_
  exact ⟨b6, b2, rfl, H8.fin [2, 1] (by decide) rfl, H8.upd 0 rfl [] (fun _ h => h.elim), H8.freshS 0 rfl (fun _ h => h) [2, 1] rfl rfl⟩

set_option maxRecDepth 100000 in
set_option maxHeartbeats 400000 in
theorem new10_any (w : World) :
    Calls Try.prog 32 #[] w fun e w' => ∃ b mb r, e = .returned (.tuple #[.agg #[.pointer (some ⟨b, 0, none⟩), .pointer (some ⟨r, 0, none⟩)], .bool true]) ∧ (sepC [cellC b 109 [.map (some mb)], mapC mb signedV (Value.int .i64) (marks []), cellC r 126 [.slice none 0 0]]).ok w' ∧ Upd [] w w' ∧ ∀ q_, (sepC [cellC b 109 [.map (some mb)], mapC mb signedV (Value.int .i64) (marks []), cellC r 126 [.slice none 0 0]]).fp q_ → w.heap.size ≤ q_ := by
  have H := Sat.start0 w
  refine calls_fr Try.func32 rfl 10 rfl (Nat.le_of_ble_eq_true rfl) ?_
  refine w_seq ?_
  refine w_lit ?_
  refine wl_do (wants0 rfl) (fun K1 hK1 => ?_)
  refine d_alloc (zs := ([(.pointer none), (.pointer none)] : List Value)) (z := (.agg ⟨([(.pointer none), (.pointer none)] : List Value)⟩)) rfl H (by kernel_rfl) (by kernel_rfl) ?_
  intro b2 w3 (H4 : Sat w [restC w (fun _ => False), cellC b2 61 ([(.pointer none), (.pointer none)] : List Value)] w3)
  refine hK1 _ _ ?_
  clear hK1 K1
  refine wl_pure (wants0 rfl) (d := 1) (v := (.bool false)) rfl (by kernel_rfl) ?_
  refine w_nil ?_
  refine then_normal ?_
  refine w_seq ?_
  refine w_lit ?_
  refine wl_do (wants0 rfl) (fun K5 hK5 => ?_)
  refine d_call (d := 3) rfl (by kernel_rfl) (pNew_any w3) ?_
  rintro _ w6 ⟨b7, m8, rfl, k9, p10, q11⟩
  have H12 : Sat w [restC w (fun _ => False), cellC b2 61 ([(.pointer none), (.pointer none)] : List Value), sepC [cellC b7 109 [.map (some m8)], mapC m8 signedV (Value.int .i64) (marks [])]] w6 := H4.addU p10 k9 q11
  have H13 : Sat w [restC w (fun _ => False), cellC b2 61 ([(.pointer none), (.pointer none)] : List Value), cellC b7 109 ([(.map (some m8))] : List Value), mapC m8 signedV (Value.int .i64) (marks [])] w6 := H12.open 2 rfl
  refine ⟨_, rfl, ?_⟩
  refine hK5 _ _ ?_
  clear hK5 K5
  refine wl_pure (wants0 rfl) (d := 2) (v := (.pointer (some ⟨b7, 0, none⟩))) rfl (by kernel_rfl) ?_
  refine w_nil ?_
  refine then_normal ?_
  refine w_seq ?_
  refine w_lit ?_
  refine wl_pure (wants0 rfl) (d := 4) (v := (.pointer (some ⟨b7, 0, none⟩))) rfl (by kernel_rfl) ?_
  refine wl_pure (wants0 rfl) (d := 5) (v := (.agg ⟨([(.slice none 0 0)] : List Value)⟩)) rfl (by kernel_rfl) ?_
  refine wl_do (wants0 rfl) (fun K14 hK14 => ?_)
  refine d_box (vs := ([(.slice none 0 0)] : List Value)) rfl H13 rfl rfl ?_
  intro b15 w16 (H17 : Sat w [restC w (fun _ => False), cellC b2 61 ([(.pointer none), (.pointer none)] : List Value), cellC b7 109 ([(.map (some m8))] : List Value), mapC m8 signedV (Value.int .i64) (marks []), cellC b15 126 ([(.slice none 0 0)] : List Value)] w16)
  refine hK14 _ _ ?_
  clear hK14 K14
  refine wl_pure (wants0 rfl) (d := 7) (v := (.agg ⟨([(.pointer (some ⟨b7, 0, none⟩)), (.pointer (some ⟨b15, 0, none⟩))] : List Value)⟩)) rfl (by kernel_rfl) ?_
  refine wl_pure (wants0 rfl) (d := 8) (v := (.pointer (some ⟨b7, 0, none⟩))) rfl (by kernel_rfl) ?_
  refine wl_pure (wants0 rfl) (d := 9) (v := (.bool true)) rfl (by kernel_rfl) ?_
  refine wl_do (wants0 rfl) (fun K18 hK18 => ?_)
  refine d_store (vs := ([(.pointer (some ⟨b7, 0, none⟩)), (.pointer (some ⟨b15, 0, none⟩))] : List Value)) rfl H17 1 rfl rfl rfl rfl (by kernel_rfl) (Nat.le_of_ble_eq_true (by kernel_rfl)) (Nat.le_of_ble_eq_true (by kernel_rfl)) (by kernel_rfl) ?_
  intro w19 (H20 : Sat w [restC w (fun _ => False), cellC b2 61 ([(.pointer (some ⟨b7, 0, none⟩)), (.pointer (some ⟨b15, 0, none⟩))] : List Value), cellC b7 109 ([(.map (some m8))] : List Value), mapC m8 signedV (Value.int .i64) (marks []), cellC b15 126 ([(.slice none 0 0)] : List Value)] w19)
  refine hK18 _ _ ?_
  clear hK18 K18
  refine wl_pure (wants0 rfl) (d := 1) (v := (.bool true)) rfl (by kernel_rfl) ?_
  refine w_nil ?_
  refine then_normal ?_
  refine w_ret ?_
  refine end2 rfl (res_cellN (vs := ([(.pointer (some ⟨b7, 0, none⟩)), (.pointer (some ⟨b15, 0, none⟩))] : List Value)) rfl (by kernel_rfl) (by kernel_rfl) (by exact Nat.le_of_ble_eq_true (by kernel_rfl)) (H20.at 1 rfl) (by kernel_rfl)) (res_tmp (v := (.bool true)) rfl) ?_
  exact ⟨b7, m8, b15, rfl, H20.fin [2, 3, 4] (by decide) rfl, H20.upd 0 rfl [] (fun _ h => h.elim), H20.freshS 0 rfl (fun _ h => h) [2, 3, 4] rfl rfl⟩

set_option maxRecDepth 100000 in
set_option maxHeartbeats 400000 in
theorem small_any (w : World) (a b : Int) :
    Calls Try.prog 5 #[(.agg ⟨([(.int .i64 (a)), (.int .i64 (b))] : List Value)⟩)] w fun e w' => e = .returned (.agg ⟨[.int .i64 (withinV a 3), .int .i64 (1 + withinV b 4)]⟩) ∧ Upd [] w w' := by
  have H := Sat.start0 w
  have q1 := within_lim a 3 (by omega)
  have q2 := within_lim b 4 (by omega)
  refine calls_fr Try.func5 rfl 11 rfl (Nat.le_of_ble_eq_true rfl) ?_
  refine w_seq ?_
  refine w_lit ?_
  refine wl_do (wants0 rfl) (fun K1 hK1 => ?_)
  refine d_box (vs := ([(.int .i64 (a)), (.int .i64 (b))] : List Value)) rfl H rfl rfl ?_
  intro b2 w3 (H4 : Sat w [restC w (fun _ => False), cellC b2 35 ([(.int .i64 (a)), (.int .i64 (b))] : List Value)] w3)
  refine hK1 _ _ ?_
  clear hK1 K1
  refine wl_do (wants0 rfl) (fun K5 hK5 => ?_)
  refine d_alloc (zs := ([(.int .i64 (0)), (.int .i64 (0))] : List Value)) (z := (.agg ⟨([(.int .i64 (0)), (.int .i64 (0))] : List Value)⟩)) rfl H4 (by kernel_rfl) (by kernel_rfl) ?_
  intro b6 w7 (H8 : Sat w [restC w (fun _ => False), cellC b2 35 ([(.int .i64 (a)), (.int .i64 (b))] : List Value), cellC b6 35 ([(.int .i64 (0)), (.int .i64 (0))] : List Value)] w7)
  refine hK5 _ _ ?_
  clear hK5 K5
  refine w_nil ?_
  refine then_normal ?_
  refine w_seq ?_
  refine h_start H8 [restC w (fun _ => False), cellC b2 35 ([(.int .i64 (a)), (.int .i64 (b))] : List Value)] 9 rfl (by kernel_rfl) (fun Hx => (Hx.pick [0, 1] (by decide))) ?_
  intro w9 H10 S11
  refine h_val 0 rfl (by kernel_rfl) (by kernel_rfl) (by kernel_rfl) (fun _ _ _ h => h) S11 (wants0 rfl) (d := 3) (v := (.pointer (some ⟨b2, 0, none⟩))) rfl (fun _ H' => (by kernel_rfl)) ?_
  refine h_val 1 rfl (by kernel_rfl) (by kernel_rfl) (by kernel_rfl) (fun _ _ _ h => h) S11 (wants0 rfl) (d := 4) (v := (.int .i64 (a))) rfl (fun _ H' => (e_load1 rfl (by kernel_rfl) (H'.cell 1 rfl rfl))) ?_
  refine h_val 3 rfl (by kernel_rfl) (by kernel_rfl) (by kernel_rfl) (fun _ _ _ h => h) S11 (wants0 rfl) (d := 6) (v := (.pointer (some ⟨b2, 1, none⟩))) rfl (fun _ H' => (by kernel_rfl)) ?_
  refine h_val 4 rfl (by kernel_rfl) (by kernel_rfl) (by kernel_rfl) (fun _ _ _ h => h) S11 (wants0 rfl) (d := 7) (v := (.int .i64 (b))) rfl (fun _ H' => (e_load1 rfl (by kernel_rfl) (H'.cell 1 rfl rfl))) ?_
  refine h_do 2 rfl (by kernel_rfl) (wants0 rfl) (fun K12 hK12 => ?_)
  refine d_call (d := 5) rfl (by kernel_rfl) (within_any w9 a 3 (by omega)) ?_
  rintro _ w13 ⟨rfl, u15⟩
  have H14 := H10.keepU u15
  refine ⟨_, rfl, ?_⟩
  have S16 := H14.pick [0, 1] (by decide)
  refine hK12 _ _ S16 ?_
  clear hK12 K12
  refine h_do 5 rfl (by kernel_rfl) (wants0 rfl) (fun K17 hK17 => ?_)
  refine d_call (d := 8) rfl (by kernel_rfl) (within_any w13 b 4 (by omega)) ?_
  rintro _ w18 ⟨rfl, u20⟩
  have H19 := H14.keepU u20
  refine ⟨_, rfl, ?_⟩
  have S21 := H19.pick [0, 1] (by decide)
  refine hK17 _ _ S21 ?_
  clear hK17 K17
  refine h_val 6 rfl (by kernel_rfl) (by kernel_rfl) (by kernel_rfl) (fun _ _ _ h => h) S21 (wants0 rfl) (d := 9) (v := (.int .i64 (1 + (withinV b 4)))) rfl (fun _ H' => (e_int (z := 1 + (withinV b 4)) (by kernel_rfl) (IntWalk.i64_in _ (by omega)))) ?_
  refine h_val 7 rfl (by kernel_rfl) (by kernel_rfl) (by kernel_rfl) (fun _ _ _ h => h) S21 (wants0 rfl) (d := 10) (v := (.agg ⟨([(.int .i64 (withinV a 3)), (.int .i64 (1 + (withinV b 4)))] : List Value)⟩)) rfl (fun _ H' => (by kernel_rfl)) ?_
  refine h_do 8 rfl (by kernel_rfl) (wants0 rfl) (fun K22 hK22 => ?_)
  refine d_storeX (vs := ([(.int .i64 (withinV a 3)), (.int .i64 (1 + (withinV b 4)))] : List Value)) (cs' := ([(.int .i64 (withinV a 3)), (.int .i64 (1 + (withinV b 4)))] : List Value)) rfl H19 2 rfl rfl rfl rfl (by kernel_rfl) (Nat.le_of_ble_eq_true (by kernel_rfl)) (Nat.le_of_ble_eq_true (by kernel_rfl)) (by kernel_rfl) (by kernel_rfl) ?_
  intro w23 (H24 : Sat w [restC w (fun _ => False), cellC b2 35 ([(.int .i64 (a)), (.int .i64 (b))] : List Value), cellC b6 35 ([(.int .i64 (withinV a 3)), (.int .i64 (1 + (withinV b 4)))] : List Value)] w23)
  have S26 := H24.pick [0, 1] (by decide)
  refine hK22 _ _ S26 ?_
  clear hK22 K22
  refine h_fin (by kernel_rfl) ?_
  refine then_normal ?_
  refine w_ret ?_
  refine end1 rfl (res_cellN (vs := ([(.int .i64 (withinV a 3)), (.int .i64 (1 + (withinV b 4)))] : List Value)) rfl (by kernel_rfl) (by kernel_rfl) (by exact Nat.le_of_ble_eq_true (by kernel_rfl)) (H24.at 2 rfl) (by kernel_rfl)) ?_
  exact ⟨rfl, H24.upd 0 rfl [] (fun _ h => h.elim)⟩

end Go.Proofs.Ytenihpghfdcpkaa
