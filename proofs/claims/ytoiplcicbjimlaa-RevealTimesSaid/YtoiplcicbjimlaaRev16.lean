/- WHAT IS PROVED: places that are waited for: contracts. Conditions: stated with each. -/
import Derived.Test.YtoiplcicbjimlaaRevD
namespace Go.Proofs.Ytoiplcicbjimlaa
open Go.RowKit
def inB (f r : Int) : Bool := decide (0 ≤ r) && decide (r < 3 * f + 1)
def confB (f c : Int) : Bool := decide (1 ≤ f) && decide (f ≤ 21) && decide (1 ≤ c) && decide (c ≤ 100)
def revL (r mb : Nat) (F C rep : Int) (l : List (Int × PlaceD)) : List Ck := [cellC r 86 [.int .i64 F, .int .i64 C, .int .i64 rep, .map (some mb)], mapC mb (Value.int .i64) encP l]
def revB (r mb : Nat) (F C rep : Int) (l : List (Int × PlaceD)) (pa : Option Addr) (pc : Nat) (p : List UInt8) : List Ck := [cellC r 86 [.int .i64 F, .int .i64 C, .int .i64 rep, .map (some mb)], mapC mb (Value.int .i64) encP l, rowC 5 1 (.slice pa p.length pc) p.length (p.flatMap encB)]

set_option maxRecDepth 100000 in
set_option maxHeartbeats 400000 in
theorem wConf_any (w : World) (f c : Int) :
    Calls Try.prog 30 #[(.agg ⟨([(.int .i64 (f)), (.int .i64 (c))] : List Value)⟩)] w fun e w' => e = .returned (.bool (confB f c)) ∧ Upd [] w w' := by
  have H := Sat.start0 w
  refine calls_fr Try.func30 rfl 21 rfl (Nat.le_of_ble_eq_true rfl) ?_
  refine w_seq ?_
  refine w_lit ?_
  refine wl_do (wants0 rfl) (fun K1 hK1 => ?_)
  refine d_box (vs := ([(.int .i64 (f)), (.int .i64 (c))] : List Value)) rfl H rfl rfl ?_
  intro b2 w3 (H4 : Sat w [restC w (fun _ => False), cellC b2 31 ([(.int .i64 (f)), (.int .i64 (c))] : List Value)] w3)
  refine hK1 _ _ ?_
  clear hK1 K1
  refine wl_pure (wants0 rfl) (d := 2) (v := (.bool false)) rfl (by kernel_rfl) ?_
  refine w_nil ?_
  refine then_normal ?_
  refine wp_meetR [2, 3, 4, 5, 6, 7, 8, 9, 10, 11, 12, 13, 14, 15, 16, 17, 18, 19, 20] (fun G_ W_ => G_ 2 = (.bool (confB f c)) ∧ Sat w [restC w (fun _ => False), cellC b2 31 ([(.int .i64 (f)), (.int .i64 (c))] : List Value)] W_) ?_ ?_
  · refine w_lit ?_
    refine wl_pure (wants0 rfl) (d := 3) (v := (.pointer (some ⟨b2, 0, none⟩))) rfl (by kernel_rfl) ?_
    refine wl_pure (wants0 rfl) (d := 4) (v := (.int .i64 (f))) rfl (e_load1 rfl (by kernel_rfl) (H4.cell 1 rfl rfl)) ?_
    refine wl_pure (wants0 rfl) (d := 5) (v := (.bool (decide (f ≥ 1)))) rfl (by kernel_rfl) ?_
    refine wl_pure (wants0 rfl) (d := 6) (v := (.bool (decide (f ≥ 1)))) rfl (by kernel_rfl) ?_
    refine (bsplit (decide (f ≥ 1))).elim (fun b6 => ?_) (fun b6 => ?_)
    · have g7 := of_decide_eq_true b6
      refine wl_know 6 (.bool true) (congrArg Value.bool b6) ?_
      refine wl_pure (wantsY 3 6 true rfl (by kernel_rfl) rfl (by kernel_rfl)) (d := 7) (v := (.pointer (some ⟨b2, 0, none⟩))) rfl (by kernel_rfl) ?_
      refine wl_pure (wantsY 3 6 true rfl (by kernel_rfl) rfl (by kernel_rfl)) (d := 8) (v := (.int .i64 (f))) rfl (e_load1 rfl (by kernel_rfl) (H4.cell 1 rfl rfl)) ?_
      refine wl_pure (wantsY 3 6 true rfl (by kernel_rfl) rfl (by kernel_rfl)) (d := 9) (v := (.bool (decide (f ≤ 21)))) rfl (by kernel_rfl) ?_
      refine wl_pure (wants0 rfl) (d := 10) (v := (.bool (decide (f ≤ 21)))) rfl (by kernel_rfl) ?_
      refine wl_pure (wants0 rfl) (d := 11) (v := (.bool (decide (f ≤ 21)))) rfl (by kernel_rfl) ?_
      refine (bsplit (decide (f ≤ 21))).elim (fun b8 => ?_) (fun b8 => ?_)
      · have g9 := of_decide_eq_true b8
        refine wl_know 11 (.bool true) (congrArg Value.bool b8) ?_
        refine wl_pure (wantsY 8 11 true rfl (by kernel_rfl) rfl (by kernel_rfl)) (d := 12) (v := (.pointer (some ⟨b2, 1, none⟩))) rfl (by kernel_rfl) ?_
        refine wl_pure (wantsY 8 11 true rfl (by kernel_rfl) rfl (by kernel_rfl)) (d := 13) (v := (.int .i64 (c))) rfl (e_load1 rfl (by kernel_rfl) (H4.cell 1 rfl rfl)) ?_
        refine wl_pure (wantsY 8 11 true rfl (by kernel_rfl) rfl (by kernel_rfl)) (d := 14) (v := (.bool (decide (c ≥ 1)))) rfl (by kernel_rfl) ?_
        refine wl_pure (wants0 rfl) (d := 15) (v := (.bool (decide (c ≥ 1)))) rfl (by kernel_rfl) ?_
        refine wl_pure (wants0 rfl) (d := 16) (v := (.bool (decide (c ≥ 1)))) rfl (by kernel_rfl) ?_
        refine (bsplit (decide (c ≥ 1))).elim (fun b10 => ?_) (fun b10 => ?_)
        · have g11 := of_decide_eq_true b10
          refine wl_know 16 (.bool true) (congrArg Value.bool b10) ?_
          refine wl_pure (wantsY 13 16 true rfl (by kernel_rfl) rfl (by kernel_rfl)) (d := 17) (v := (.pointer (some ⟨b2, 1, none⟩))) rfl (by kernel_rfl) ?_
          refine wl_pure (wantsY 13 16 true rfl (by kernel_rfl) rfl (by kernel_rfl)) (d := 18) (v := (.int .i64 (c))) rfl (e_load1 rfl (by kernel_rfl) (H4.cell 1 rfl rfl)) ?_
          refine wl_pure (wantsY 13 16 true rfl (by kernel_rfl) rfl (by kernel_rfl)) (d := 19) (v := (.bool (decide (c ≤ 100)))) rfl (by kernel_rfl) ?_
          refine wl_pure (wants0 rfl) (d := 20) (v := (.bool (decide (c ≤ 100)))) rfl (by kernel_rfl) ?_
          refine wl_pure (wants0 rfl) (d := 2) (v := (.bool (decide (c ≤ 100)))) rfl (by kernel_rfl) ?_
          refine w_nil ?_
          refine meetR_at ?_ ⟨(congrArg Value.bool (show (decide (c ≤ 100)) = (confB f c) by simp [confB, b6, b8, b10])), H4⟩
          exact (same_upd rfl (same_upd rfl (same_upd rfl (same_upd rfl (same_upd rfl (same_upd rfl (same_upd rfl (same_upd rfl (same_upd rfl (same_upd rfl (same_upd rfl (same_upd rfl (same_upd rfl (same_upd rfl (same_upd rfl (same_upd rfl (same_upd rfl (same_upd rfl (same_upd rfl (same_upd rfl (same_upd rfl (same_upd rfl (same_refl)))))))))))))))))))))))
        · have g12 := of_decide_eq_false b10
          refine wl_know 16 (.bool false) (congrArg Value.bool b10) ?_
          refine wl_pass (wantsN 13 16 true rfl (by kernel_rfl) rfl (by kernel_rfl)) rfl ?_
          refine wl_pass (wantsN 13 16 true rfl (by kernel_rfl) rfl (by kernel_rfl)) rfl ?_
          refine wl_pass (wantsN 13 16 true rfl (by kernel_rfl) rfl (by kernel_rfl)) rfl ?_
          refine wl_pure (wants0 rfl) (d := 20) (v := (.bool false)) rfl (by kernel_rfl) ?_
          refine wl_pure (wants0 rfl) (d := 2) (v := (.bool false)) rfl (by kernel_rfl) ?_
          refine w_nil ?_
          refine meetR_at ?_ ⟨(congrArg Value.bool (show false = (confB f c) by simp [confB, b6, b8, b10])), H4⟩
          exact (same_upd rfl (same_upd rfl (same_upd rfl (same_upd rfl (same_upd rfl (same_upd rfl (same_upd rfl (same_upd rfl (same_upd rfl (same_upd rfl (same_upd rfl (same_upd rfl (same_upd rfl (same_upd rfl (same_upd rfl (same_upd rfl (same_upd rfl (same_upd rfl (same_upd rfl (same_upd rfl (same_upd rfl (same_upd rfl (same_refl)))))))))))))))))))))))
      · have g13 := of_decide_eq_false b8
        refine wl_know 11 (.bool false) (congrArg Value.bool b8) ?_
        refine wl_pass (wantsN 8 11 true rfl (by kernel_rfl) rfl (by kernel_rfl)) rfl ?_
        refine wl_pass (wantsN 8 11 true rfl (by kernel_rfl) rfl (by kernel_rfl)) rfl ?_
        refine wl_pass (wantsN 8 11 true rfl (by kernel_rfl) rfl (by kernel_rfl)) rfl ?_
        refine wl_pure (wants0 rfl) (d := 15) (v := (.bool false)) rfl (by kernel_rfl) ?_
        refine wl_pure (wants0 rfl) (d := 16) (v := (.bool false)) rfl (by kernel_rfl) ?_
        refine wl_pass (wantsN 13 16 true rfl (by kernel_rfl) rfl (by kernel_rfl)) rfl ?_
        refine wl_pass (wantsN 13 16 true rfl (by kernel_rfl) rfl (by kernel_rfl)) rfl ?_
        refine wl_pass (wantsN 13 16 true rfl (by kernel_rfl) rfl (by kernel_rfl)) rfl ?_
        refine wl_pure (wants0 rfl) (d := 20) (v := (.bool false)) rfl (by kernel_rfl) ?_
        refine wl_pure (wants0 rfl) (d := 2) (v := (.bool false)) rfl (by kernel_rfl) ?_
        refine w_nil ?_
        refine meetR_at ?_ ⟨(congrArg Value.bool (show false = (confB f c) by simp [confB, b6, b8])), H4⟩
        exact (same_upd rfl (same_upd rfl (same_upd rfl (same_upd rfl (same_upd rfl (same_upd rfl (same_upd rfl (same_upd rfl (same_upd rfl (same_upd rfl (same_upd rfl (same_upd rfl (same_upd rfl (same_upd rfl (same_upd rfl (same_upd rfl (same_upd rfl (same_upd rfl (same_upd rfl (same_upd rfl (same_upd rfl (same_refl))))))))))))))))))))))
    · have g14 := of_decide_eq_false b6
      refine wl_know 6 (.bool false) (congrArg Value.bool b6) ?_
      refine wl_pass (wantsN 3 6 true rfl (by kernel_rfl) rfl (by kernel_rfl)) rfl ?_
      refine wl_pass (wantsN 3 6 true rfl (by kernel_rfl) rfl (by kernel_rfl)) rfl ?_
      refine wl_pass (wantsN 3 6 true rfl (by kernel_rfl) rfl (by kernel_rfl)) rfl ?_
      refine wl_pure (wants0 rfl) (d := 10) (v := (.bool false)) rfl (by kernel_rfl) ?_
      refine wl_pure (wants0 rfl) (d := 11) (v := (.bool false)) rfl (by kernel_rfl) ?_
      refine wl_pass (wantsN 8 11 true rfl (by kernel_rfl) rfl (by kernel_rfl)) rfl ?_
      refine wl_pass (wantsN 8 11 true rfl (by kernel_rfl) rfl (by kernel_rfl)) rfl ?_
      refine wl_pass (wantsN 8 11 true rfl (by kernel_rfl) rfl (by kernel_rfl)) rfl ?_
      refine wl_pure (wants0 rfl) (d := 15) (v := (.bool false)) rfl (by kernel_rfl) ?_
      refine wl_pure (wants0 rfl) (d := 16) (v := (.bool false)) rfl (by kernel_rfl) ?_
      refine wl_pass (wantsN 13 16 true rfl (by kernel_rfl) rfl (by kernel_rfl)) rfl ?_
      refine wl_pass (wantsN 13 16 true rfl (by kernel_rfl) rfl (by kernel_rfl)) rfl ?_
      refine wl_pass (wantsN 13 16 true rfl (by kernel_rfl) rfl (by kernel_rfl)) rfl ?_
      refine wl_pure (wants0 rfl) (d := 20) (v := (.bool false)) rfl (by kernel_rfl) ?_
      refine wl_pure (wants0 rfl) (d := 2) (v := (.bool false)) rfl (by kernel_rfl) ?_
      refine w_nil ?_
      refine meetR_at ?_ ⟨(congrArg Value.bool (show false = (confB f c) by simp [confB, b6])), H4⟩
      exact (same_upd rfl (same_upd rfl (same_upd rfl (same_upd rfl (same_upd rfl (same_upd rfl (same_upd rfl (same_upd rfl (same_upd rfl (same_upd rfl (same_upd rfl (same_upd rfl (same_upd rfl (same_upd rfl (same_upd rfl (same_upd rfl (same_upd rfl (same_upd rfl (same_upd rfl (same_upd rfl (same_refl)))))))))))))))))))))
  · rintro f15 w16 ⟨v18, H17⟩
    refine wp_know 2 _ v18 ?_
    refine w_ret ?_
    refine end1 rfl (res_tmp (v := (.bool (confB f c))) rfl) ?_
    exact ⟨rfl, H17.upd 0 rfl [] (fun _ h => h.elim)⟩

set_option maxRecDepth 100000 in
set_option maxHeartbeats 400000 in
theorem wN_any (w : World) (f c : Int) (hf : -1000000 ≤ f ∧ f ≤ 1000000) :
    Calls Try.prog 46 #[(.agg ⟨([(.int .i64 (f)), (.int .i64 (c))] : List Value)⟩)] w fun e w' => e = .returned (.int .i64 (3 * f + 1)) ∧ Upd [] w w' := by
  have H := Sat.start0 w
  refine calls_fr Try.func46 rfl 7 rfl (Nat.le_of_ble_eq_true rfl) ?_
  refine w_seq ?_
  refine w_lit ?_
  refine wl_do (wants0 rfl) (fun K1 hK1 => ?_)
  refine d_box (vs := ([(.int .i64 (f)), (.int .i64 (c))] : List Value)) rfl H rfl rfl ?_
  intro b2 w3 (H4 : Sat w [restC w (fun _ => False), cellC b2 31 ([(.int .i64 (f)), (.int .i64 (c))] : List Value)] w3)
  refine hK1 _ _ ?_
  clear hK1 K1
  refine wl_pure (wants0 rfl) (d := 2) (v := (.int .i64 (0))) rfl (by kernel_rfl) ?_
  refine w_nil ?_
  refine then_normal ?_
  refine w_seq ?_
  refine w_lit ?_
  refine wl_pure (wants0 rfl) (d := 3) (v := (.pointer (some ⟨b2, 0, none⟩))) rfl (by kernel_rfl) ?_
  refine wl_pure (wants0 rfl) (d := 4) (v := (.int .i64 (f))) rfl (e_load1 rfl (by kernel_rfl) (H4.cell 1 rfl rfl)) ?_
  refine wl_pure (wants0 rfl) (d := 5) (v := (.int .i64 (3 * f))) rfl (e_int (z := 3 * f) (by kernel_rfl) (IntWalk.i64_in _ (by omega))) ?_
  refine wl_pure (wants0 rfl) (d := 6) (v := (.int .i64 ((3 * f) + 1))) rfl (e_int (z := (3 * f) + 1) (by kernel_rfl) (IntWalk.i64_in _ (by omega))) ?_
  refine wl_pure (wants0 rfl) (d := 2) (v := (.int .i64 ((3 * f) + 1))) rfl (by kernel_rfl) ?_
  refine w_nil ?_
  refine then_normal ?_
  refine w_ret ?_
  refine end1 rfl (res_tmp (v := (.int .i64 ((3 * f) + 1))) rfl) ?_
  exact ⟨rfl, H4.upd 0 rfl [] (fun _ h => h.elim)⟩

set_option maxRecDepth 100000 in
set_option maxHeartbeats 400000 in
theorem wireIn_any (w : World) (f c r : Int) (hf : -1000000 ≤ f ∧ f ≤ 1000000) :
    Calls Try.prog 31 #[(.agg ⟨([(.int .i64 (f)), (.int .i64 (c))] : List Value)⟩), (.int .i64 (r))] w fun e w' => e = .returned (.bool (inB f r)) ∧ Upd [] w w' := by
  have H := Sat.start0 w
  refine calls_fr Try.func31 rfl 13 rfl (Nat.le_of_ble_eq_true rfl) ?_
  refine w_seq ?_
  refine w_lit ?_
  refine wl_do (wants0 rfl) (fun K1 hK1 => ?_)
  refine d_box (vs := ([(.int .i64 (f)), (.int .i64 (c))] : List Value)) rfl H rfl rfl ?_
  intro b2 w3 (H4 : Sat w [restC w (fun _ => False), cellC b2 31 ([(.int .i64 (f)), (.int .i64 (c))] : List Value)] w3)
  refine hK1 _ _ ?_
  clear hK1 K1
  refine wl_pure (wants0 rfl) (d := 4) (v := (.bool false)) rfl (by kernel_rfl) ?_
  refine w_nil ?_
  refine then_normal ?_
  refine wp_meetR [4, 5, 6, 7, 8, 9, 10, 11, 12] (fun G_ W_ => G_ 4 = (.bool (inB f r)) ∧ Sat w [restC w (fun _ => False), cellC b2 31 ([(.int .i64 (f)), (.int .i64 (c))] : List Value)] W_) ?_ ?_
  · refine w_lit ?_
    refine wl_pure (wants0 rfl) (d := 5) (v := (.int .i64 (r))) rfl (by kernel_rfl) ?_
    refine wl_pure (wants0 rfl) (d := 6) (v := (.bool (decide (r ≥ 0)))) rfl (by kernel_rfl) ?_
    refine wl_pure (wants0 rfl) (d := 7) (v := (.bool (decide (r ≥ 0)))) rfl (by kernel_rfl) ?_
    refine (bsplit (decide (r ≥ 0))).elim (fun b6 => ?_) (fun b6 => ?_)
    · have g7 := of_decide_eq_true b6
      refine wl_know 7 (.bool true) (congrArg Value.bool b6) ?_
      refine wl_pure (wantsY 2 7 true rfl (by kernel_rfl) rfl (by kernel_rfl)) (d := 8) (v := (.int .i64 (r))) rfl (by kernel_rfl) ?_
      refine wl_pure (wantsY 2 7 true rfl (by kernel_rfl) rfl (by kernel_rfl)) (d := 9) (v := (.agg ⟨([(.int .i64 (f)), (.int .i64 (c))] : List Value)⟩)) rfl (e_loadN (vs := ([(.int .i64 (f)), (.int .i64 (c))] : List Value)) rfl (by kernel_rfl) (by kernel_rfl) (by exact Nat.le_of_ble_eq_true (by kernel_rfl)) (H4.at 1 rfl) (by kernel_rfl)) ?_
      refine wl_do (wantsY 2 7 true rfl (by kernel_rfl) rfl (by kernel_rfl)) (fun K8 hK8 => ?_)
      refine d_call (d := 10) rfl (by kernel_rfl) (wN_any w3 f c (by omega)) ?_
      rintro _ w9 ⟨rfl, u11⟩
      have H10 := H4.keepU u11
      refine ⟨_, rfl, ?_⟩
      refine hK8 _ _ ?_
      clear hK8 K8
      refine wl_pure (wantsY 2 7 true rfl (by kernel_rfl) rfl (by kernel_rfl)) (d := 11) (v := (.bool (decide (r < (3 * f + 1))))) rfl (by kernel_rfl) ?_
      refine wl_pure (wants0 rfl) (d := 12) (v := (.bool (decide (r < (3 * f + 1))))) rfl (by kernel_rfl) ?_
      refine wl_pure (wants0 rfl) (d := 4) (v := (.bool (decide (r < (3 * f + 1))))) rfl (by kernel_rfl) ?_
      refine w_nil ?_
      refine meetR_at ?_ ⟨(congrArg Value.bool (show (decide (r < (3 * f + 1))) = (inB f r) by simp [inB, b6])), H10⟩
      exact (same_upd rfl (same_upd rfl (same_upd rfl (same_upd rfl (same_upd rfl (same_upd rfl (same_upd rfl (same_upd rfl (same_upd rfl (same_upd rfl (same_refl)))))))))))
    · have g12 := of_decide_eq_false b6
      refine wl_know 7 (.bool false) (congrArg Value.bool b6) ?_
      refine wl_pass (wantsN 2 7 true rfl (by kernel_rfl) rfl (by kernel_rfl)) rfl ?_
      refine wl_pass (wantsN 2 7 true rfl (by kernel_rfl) rfl (by kernel_rfl)) rfl ?_
      refine wl_pass (wantsN 2 7 true rfl (by kernel_rfl) rfl (by kernel_rfl)) rfl ?_
      refine wl_pass (wantsN 2 7 true rfl (by kernel_rfl) rfl (by kernel_rfl)) rfl ?_
      refine wl_pure (wants0 rfl) (d := 12) (v := (.bool false)) rfl (by kernel_rfl) ?_
      refine wl_pure (wants0 rfl) (d := 4) (v := (.bool false)) rfl (by kernel_rfl) ?_
      refine w_nil ?_
      refine meetR_at ?_ ⟨(congrArg Value.bool (show false = (inB f r) by simp [inB, b6])), H4⟩
      exact (same_upd rfl (same_upd rfl (same_upd rfl (same_upd rfl (same_upd rfl (same_upd rfl (same_upd rfl (same_upd rfl (same_upd rfl (same_upd rfl (same_refl)))))))))))
  · rintro f13 w14 ⟨v16, H15⟩
    refine wp_know 4 _ v16 ?_
    refine w_ret ?_
    refine end1 rfl (res_tmp (v := (.bool (inB f r))) rfl) ?_
    exact ⟨rfl, H15.upd 0 rfl [] (fun _ h => h.elim)⟩

set_option maxRecDepth 100000 in
set_option maxHeartbeats 400000 in
theorem revNew_any (w : World) (F C rep : Int) (hc : confB F C = true) (hi : inB F rep = true) :
    Calls Try.prog 9 #[(.agg ⟨([(.int .i64 (F)), (.int .i64 (C))] : List Value)⟩), (.int .i64 (rep))] w fun e w' => ∃ r mb, e = .returned (.tuple #[.pointer (some ⟨r, 0, none⟩), .int .i64 0]) ∧ (sepC [cellC r 86 [.int .i64 F, .int .i64 C, .int .i64 rep, .map (some mb)], mapC mb (Value.int .i64) encP ([] : List (Int × PlaceD))]).ok w' ∧ Upd [] w w' ∧ ∀ q_, (sepC [cellC r 86 [.int .i64 F, .int .i64 C, .int .i64 rep, .map (some mb)], mapC mb (Value.int .i64) encP ([] : List (Int × PlaceD))]).fp q_ → w.heap.size ≤ q_ := by
  have H := Sat.start0 w
  have hF : -1000000 ≤ F ∧ F ≤ 1000000 := by unfold confB at hc; simp at hc; omega
  refine calls_fr Try.func9 rfl 20 rfl (Nat.le_of_ble_eq_true rfl) ?_
  refine w_seq ?_
  refine w_lit ?_
  refine wl_do (wants0 rfl) (fun K1 hK1 => ?_)
  refine d_box (vs := ([(.int .i64 (F)), (.int .i64 (C))] : List Value)) rfl H rfl rfl ?_
  intro b2 w3 (H4 : Sat w [restC w (fun _ => False), cellC b2 31 ([(.int .i64 (F)), (.int .i64 (C))] : List Value)] w3)
  refine hK1 _ _ ?_
  clear hK1 K1
  refine wl_pure (wants0 rfl) (d := 4) (v := (.pointer none)) rfl (by kernel_rfl) ?_
  refine wl_pure (wants0 rfl) (d := 5) (v := (.int .i64 (0))) rfl (by kernel_rfl) ?_
  refine w_nil ?_
  refine then_normal ?_
  refine w_seq ?_
  refine w_seq ?_
  refine w_lit ?_
  refine wl_pure (wants0 rfl) (d := 6) (v := (.agg ⟨([(.int .i64 (F)), (.int .i64 (C))] : List Value)⟩)) rfl (e_loadN (vs := ([(.int .i64 (F)), (.int .i64 (C))] : List Value)) rfl (by kernel_rfl) (by kernel_rfl) (by exact Nat.le_of_ble_eq_true (by kernel_rfl)) (H4.at 1 rfl) (by kernel_rfl)) ?_
  refine wl_do (wants0 rfl) (fun K5 hK5 => ?_)
  refine d_call (d := 7) rfl (by kernel_rfl) (wConf_any w3 F C) ?_
  rintro _ w6 ⟨rfl, u8⟩
  have H7 := H4.keepU u8
  refine ⟨_, rfl, ?_⟩
  refine hK5 _ _ ?_
  clear hK5 K5
  refine wl_pure (wants0 rfl) (d := 8) (v := (.bool (!(confB F C)))) rfl (by kernel_rfl) ?_
  refine wl_pure (wants0 rfl) (d := 9) (v := (.bool (!(confB F C)))) rfl (by kernel_rfl) ?_
  have b9 : (!(confB F C)) = false := by rw [hc]; rfl
  refine wl_know 9 (.bool false) (congrArg Value.bool b9) ?_
  refine wl_pure (wantsY 3 9 false rfl (by kernel_rfl) rfl (by kernel_rfl)) (d := 10) (v := (.agg ⟨([(.int .i64 (F)), (.int .i64 (C))] : List Value)⟩)) rfl (e_loadN (vs := ([(.int .i64 (F)), (.int .i64 (C))] : List Value)) rfl (by kernel_rfl) (by kernel_rfl) (by exact Nat.le_of_ble_eq_true (by kernel_rfl)) (H7.at 1 rfl) (by kernel_rfl)) ?_
  refine wl_pure (wantsY 3 9 false rfl (by kernel_rfl) rfl (by kernel_rfl)) (d := 11) (v := (.int .i64 (rep))) rfl (by kernel_rfl) ?_
  refine wl_do (wantsY 3 9 false rfl (by kernel_rfl) rfl (by kernel_rfl)) (fun K10 hK10 => ?_)
  refine d_call (d := 12) rfl (by kernel_rfl) (wireIn_any w6 F C rep (by omega)) ?_
  rintro _ w11 ⟨rfl, u13⟩
  have H12 := H7.keepU u13
  refine ⟨_, rfl, ?_⟩
  refine hK10 _ _ ?_
  clear hK10 K10
  refine wl_pure (wantsY 3 9 false rfl (by kernel_rfl) rfl (by kernel_rfl)) (d := 13) (v := (.bool (!(inB F rep)))) rfl (by kernel_rfl) ?_
  refine wl_pure (wants0 rfl) (d := 14) (v := (.bool (!(inB F rep)))) rfl (by kernel_rfl) ?_
  refine w_nil ?_
  refine then_normal ?_
  have b14 : (!(inB F rep)) = false := by rw [hi]; rfl
  refine wp_know 14 (.bool false) (congrArg Value.bool b14) ?_
  refine wp_iff rfl ?_
  refine w_skip ?_
  refine then_normal ?_
  refine w_seq ?_
  refine w_lit ?_
  refine wl_pure (wants0 rfl) (d := 15) (v := (.agg ⟨([(.int .i64 (F)), (.int .i64 (C))] : List Value)⟩)) rfl (e_loadN (vs := ([(.int .i64 (F)), (.int .i64 (C))] : List Value)) rfl (by kernel_rfl) (by kernel_rfl) (by exact Nat.le_of_ble_eq_true (by kernel_rfl)) (H12.at 1 rfl) (by kernel_rfl)) ?_
  refine wl_pure (wants0 rfl) (d := 16) (v := (.int .i64 (rep))) rfl (by kernel_rfl) ?_
  refine wl_do (wants0 rfl) (fun K15 hK15 => ?_)
  refine d_makeMap (Value.int .i64) encP rfl H12 ?_
  intro b16 w17 (H18 : Sat w [restC w (fun _ => False), cellC b2 31 ([(.int .i64 (F)), (.int .i64 (C))] : List Value), mapC b16 (Value.int .i64) encP []] w17)
  refine hK15 _ _ ?_
  clear hK15 K15
  refine wl_pure (wants0 rfl) (d := 18) (v := (.agg ⟨([(.int .i64 (F)), (.int .i64 (C)), (.int .i64 (rep)), (.map (some b16))] : List Value)⟩)) rfl (by kernel_rfl) ?_
  refine wl_do (wants0 rfl) (fun K19 hK19 => ?_)
  refine d_box (vs := ([(.int .i64 (F)), (.int .i64 (C)), (.int .i64 (rep)), (.map (some b16))] : List Value)) rfl H18 rfl rfl ?_
  intro b20 w21 (H22 : Sat w [restC w (fun _ => False), cellC b2 31 ([(.int .i64 (F)), (.int .i64 (C))] : List Value), mapC b16 (Value.int .i64) encP [], cellC b20 86 ([(.int .i64 (F)), (.int .i64 (C)), (.int .i64 (rep)), (.map (some b16))] : List Value)] w21)
  refine hK19 _ _ ?_
  clear hK19 K19
  refine wl_pure (wants0 rfl) (d := 4) (v := (.pointer (some ⟨b20, 0, none⟩))) rfl (by kernel_rfl) ?_
  refine wl_pure (wants0 rfl) (d := 5) (v := (.int .i64 (0))) rfl (by kernel_rfl) ?_
  refine w_nil ?_
  refine then_normal ?_
  refine w_ret ?_
  refine end2 rfl (res_tmp (v := (.pointer (some ⟨b20, 0, none⟩))) rfl) (res_tmp (v := (.int .i64 (0))) rfl) ?_
  exact ⟨b20, b16, rfl, H22.fin [3, 2] (by decide) rfl, H22.upd 0 rfl [] (fun _ h => h.elim), H22.freshS 0 rfl (fun _ h => h) [3, 2] rfl rfl⟩

set_option maxRecDepth 100000 in
set_option maxHeartbeats 1000000 in
theorem revPlace_any (w : World) (r mb : Nat) (F C rep : Int) (hB : (sepC (revL r mb F C rep ([] : List (Int × PlaceD)))).ok w) (i a b : Int) (h : Hash) (t now : Int) (hi : 0 ≤ i) :
    Calls Try.prog 11 #[(.pointer (some ⟨r, 0, none⟩)), (.int .i64 (i)), (.agg ⟨(([(.int .i64 (a)), (.int .i64 (b))] : List Value) ++ hc h ++ ([(.int .u64 (t))] : List Value))⟩), (.int .u64 (now))] w fun e w' => ∃ P : PlaceD, e = .returned (.bool true) ∧ P.n1 = a ∧ P.n2 = b ∧ P.h = h ∧ P.acked = false ∧ P.denied = false ∧ Sat w [cellC r 86 [.int .i64 F, .int .i64 C, .int .i64 rep, .map (some mb)], mapC mb (Value.int .i64) encP [(i, P)], restC w (sepC (revL r mb F C rep ([] : List (Int × PlaceD)))).fp] w' := by
  have H : Sat w [cellC r 86 ([(.int .i64 (F)), (.int .i64 (C)), (.int .i64 (rep)), (.map (some mb))] : List Value), mapC mb (Value.int .i64) encP ([] : List (Int × PlaceD)), restC w (sepC (revL r mb F C rep ([] : List (Int × PlaceD)))).fp] w := Sat.start (revL r mb F C rep ([] : List (Int × PlaceD))) hB
  refine calls_fr Try.func11 rfl 34 rfl (Nat.le_of_ble_eq_true rfl) ?_
  refine w_seq ?_
  refine w_lit ?_
  refine wl_do (wants0 rfl) (fun K1 hK1 => ?_)
  refine d_box (vs := (([(.int .i64 (a)), (.int .i64 (b))] : List Value) ++ hc h ++ ([(.int .u64 (t))] : List Value))) rfl H rfl rfl ?_
  intro b2 w3 (H4 : Sat w [cellC r 86 ([(.int .i64 (F)), (.int .i64 (C)), (.int .i64 (rep)), (.map (some mb))] : List Value), mapC mb (Value.int .i64) encP ([] : List (Int × PlaceD)), restC w (sepC (revL r mb F C rep ([] : List (Int × PlaceD)))).fp, cellC b2 38 (([(.int .i64 (a)), (.int .i64 (b))] : List Value) ++ hc h ++ ([(.int .u64 (t))] : List Value))] w3)
  refine hK1 _ _ ?_
  clear hK1 K1
  refine wl_pure (wants0 rfl) (d := 8) (v := (.bool false)) rfl (by kernel_rfl) ?_
  refine w_nil ?_
  refine then_normal ?_
  refine w_seq ?_
  refine w_seq ?_
  refine w_lit ?_
  refine wl_pure (wants0 rfl) (d := 12) (v := (.pointer (some ⟨r, 0, none⟩))) rfl (by kernel_rfl) ?_
  refine wl_pure (wants0 rfl) (d := 13) (v := (.pointer (some ⟨r, 0, none⟩))) rfl (by kernel_rfl) ?_
  refine wl_pure (wants0 rfl) (d := 14) (v := (.pointer (some ⟨r, 3, none⟩))) rfl (by kernel_rfl) ?_
  refine wl_pure (wants0 rfl) (d := 15) (v := (.map (some mb))) rfl (e_load1 rfl (by kernel_rfl) (H4.cell 0 rfl rfl)) ?_
  refine wl_pure (wants0 rfl) (d := 16) (v := (.int .i64 (i))) rfl (by kernel_rfl) ?_
  refine wl_pure (wants0 rfl) (d := 17) (v := (.tuple #[(.agg ⟨(([(.int .i64 (0)), (.int .i64 (0))] : List Value) ++ hc hash0 ++ ([(.int .u64 (0)), (.int .u64 (0)), (.int .i64 (0)), (.slice none 0 0)] : List Value) ++ hc hash0 ++ ([(.bool false), (.bool false), (.map none)] : List Value))⟩), (.bool false)])) rfl (e_lookup2 (kt := 3) (et := 89) (KeyTy.int (by kernel_rfl)) (by kernel_rfl) zeroP rfl (i : Int) rfl (H4.at 1 rfl) rfl rfl) ?_
  refine wl_pure (wants0 rfl) (d := 11) (v := (.tuple #[(.agg ⟨(([(.int .i64 (0)), (.int .i64 (0))] : List Value) ++ hc hash0 ++ ([(.int .u64 (0)), (.int .u64 (0)), (.int .i64 (0)), (.slice none 0 0)] : List Value) ++ hc hash0 ++ ([(.bool false), (.bool false), (.map none)] : List Value))⟩), (.bool false)])) rfl (by kernel_rfl) ?_
  refine wl_pure (wants0 rfl) (d := 18) (v := (.agg ⟨(([(.int .i64 (0)), (.int .i64 (0))] : List Value) ++ hc hash0 ++ ([(.int .u64 (0)), (.int .u64 (0)), (.int .i64 (0)), (.slice none 0 0)] : List Value) ++ hc hash0 ++ ([(.bool false), (.bool false), (.map none)] : List Value))⟩)) rfl (by kernel_rfl) ?_
  refine wl_pure (wants0 rfl) (d := 19) (v := (.bool false)) rfl (by kernel_rfl) ?_
  refine wl_do (wants0 rfl) (fun K5 hK5 => ?_)
  refine d_alloc (zs := (([(.int .i64 (0)), (.int .i64 (0))] : List Value) ++ hc hash0 ++ ([(.int .u64 (0)), (.int .u64 (0)), (.int .i64 (0)), (.slice none 0 0)] : List Value) ++ hc hash0 ++ ([(.bool false), (.bool false), ((Go.Value.map none))] : List Value))) (z := (.agg ⟨(([(.int .i64 (0)), (.int .i64 (0))] : List Value) ++ hc hash0 ++ ([(.int .u64 (0)), (.int .u64 (0)), (.int .i64 (0)), (.slice none 0 0)] : List Value) ++ hc hash0 ++ ([(.bool false), (.bool false), ((Go.Value.map none))] : List Value))⟩)) rfl H4 (by kernel_rfl) (by kernel_rfl) ?_
  intro b6 w7 (H8 : Sat w [cellC r 86 ([(.int .i64 (F)), (.int .i64 (C)), (.int .i64 (rep)), (.map (some mb))] : List Value), mapC mb (Value.int .i64) encP ([] : List (Int × PlaceD)), restC w (sepC (revL r mb F C rep ([] : List (Int × PlaceD)))).fp, cellC b2 38 (([(.int .i64 (a)), (.int .i64 (b))] : List Value) ++ hc h ++ ([(.int .u64 (t))] : List Value)), cellC b6 89 (([(.int .i64 (0)), (.int .i64 (0))] : List Value) ++ hc hash0 ++ ([(.int .u64 (0)), (.int .u64 (0)), (.int .i64 (0)), (.slice none 0 0)] : List Value) ++ hc hash0 ++ ([(.bool false), (.bool false), ((Go.Value.map none))] : List Value))] w7)
  refine hK5 _ _ ?_
  clear hK5 K5
  refine wl_do (wants0 rfl) (fun K9 hK9 => ?_)
  refine d_storeX (vs := (([(.int .i64 (0)), (.int .i64 (0))] : List Value) ++ hc hash0 ++ ([(.int .u64 (0)), (.int .u64 (0)), (.int .i64 (0)), (.slice none 0 0)] : List Value) ++ hc hash0 ++ ([(.bool false), (.bool false), (.map none)] : List Value))) (cs' := (([(.int .i64 (0)), (.int .i64 (0))] : List Value) ++ hc hash0 ++ ([(.int .u64 (0)), (.int .u64 (0)), (.int .i64 (0)), (.slice none 0 0)] : List Value) ++ hc hash0 ++ ([(.bool false), (.bool false), (.map none)] : List Value))) rfl H8 4 rfl rfl rfl rfl (by kernel_rfl) (Nat.le_of_ble_eq_true (by kernel_rfl)) (Nat.le_of_ble_eq_true (by kernel_rfl)) (by kernel_rfl) (by kernel_rfl) ?_
  intro w10 (H11 : Sat w [cellC r 86 ([(.int .i64 (F)), (.int .i64 (C)), (.int .i64 (rep)), (.map (some mb))] : List Value), mapC mb (Value.int .i64) encP ([] : List (Int × PlaceD)), restC w (sepC (revL r mb F C rep ([] : List (Int × PlaceD)))).fp, cellC b2 38 (([(.int .i64 (a)), (.int .i64 (b))] : List Value) ++ hc h ++ ([(.int .u64 (t))] : List Value)), cellC b6 89 (([(.int .i64 (0)), (.int .i64 (0))] : List Value) ++ hc hash0 ++ ([(.int .u64 (0)), (.int .u64 (0)), (.int .i64 (0)), (.slice none 0 0)] : List Value) ++ hc hash0 ++ ([(.bool false), (.bool false), (.map none)] : List Value))] w10)
  refine hK9 _ _ ?_
  clear hK9 K9
  refine wl_pure (wants0 rfl) (d := 10) (v := (.bool false)) rfl (by kernel_rfl) ?_
  refine w_nil ?_
  refine then_normal ?_
  refine w_seq ?_
  refine w_lit ?_
  refine wl_pure (wants0 rfl) (d := 20) (v := (.bool false)) rfl (by kernel_rfl) ?_
  refine wl_pure (wants0 rfl) (d := 21) (v := (.bool false)) rfl (by kernel_rfl) ?_
  refine wl_pure (wantsY 1 21 false rfl (by kernel_rfl) rfl (by kernel_rfl)) (d := 22) (v := (.int .i64 (i))) rfl (by kernel_rfl) ?_
  refine wl_pure (wantsY 1 21 false rfl (by kernel_rfl) rfl (by kernel_rfl)) (d := 23) (v := (.bool (decide (i < 0)))) rfl (by kernel_rfl) ?_
  refine wl_pure (wants0 rfl) (d := 24) (v := (.bool (decide (i < 0)))) rfl (by kernel_rfl) ?_
  refine w_nil ?_
  refine then_normal ?_
  have b13 : (decide (i < 0)) = false := by exact decide_eq_false (by omega)
  refine wp_know 24 (.bool false) (congrArg Value.bool b13) ?_
  have g14 := of_decide_eq_false b13
  refine wp_iff rfl ?_
  refine w_skip ?_
  refine then_normal ?_
  refine w_seq ?_
  refine h_start H11 [cellC r 86 ([(.int .i64 (F)), (.int .i64 (C)), (.int .i64 (rep)), (.map (some mb))] : List Value), restC w (sepC (revL r mb F C rep ([] : List (Int × PlaceD)))).fp, cellC b2 38 (([(.int .i64 (a)), (.int .i64 (b))] : List Value) ++ hc h ++ ([(.int .u64 (t))] : List Value)), cellC b6 89 (([(.int .i64 (0)), (.int .i64 (0))] : List Value) ++ hc hash0 ++ ([(.int .u64 (0)), (.int .u64 (0)), (.int .i64 (0)), (.slice none 0 0)] : List Value) ++ hc hash0 ++ ([(.bool false), (.bool false), (.map none)] : List Value))] 10 rfl (by kernel_rfl) (fun Hx => (Hx.pick [0, 2, 3, 4] (by decide))) ?_
  intro w15 H16 S17
  refine h_val 0 rfl (by kernel_rfl) (by kernel_rfl) (by kernel_rfl) (fun _ _ _ h => h) S17 (wants0 rfl) (d := 25) (v := (.pointer (some ⟨r, 0, none⟩))) rfl (fun _ H' => (by kernel_rfl)) ?_
  refine h_val 1 rfl (by kernel_rfl) (by kernel_rfl) (by kernel_rfl) (fun _ _ _ h => h) S17 (wants0 rfl) (d := 26) (v := (.pointer (some ⟨r, 0, none⟩))) rfl (fun _ H' => (by kernel_rfl)) ?_
  refine h_val 2 rfl (by kernel_rfl) (by kernel_rfl) (by kernel_rfl) (fun _ _ _ h => h) S17 (wants0 rfl) (d := 27) (v := (.pointer (some ⟨r, 3, none⟩))) rfl (fun _ H' => (by kernel_rfl)) ?_
  refine h_val 3 rfl (by kernel_rfl) (by kernel_rfl) (by kernel_rfl) (fun _ _ _ h => h) S17 (wants0 rfl) (d := 28) (v := (.map (some mb))) rfl (fun _ H' => (e_load1 rfl (by kernel_rfl) (H'.cell 0 rfl rfl))) ?_
  refine h_val 4 rfl (by kernel_rfl) (by kernel_rfl) (by kernel_rfl) (fun _ _ _ h => h) S17 (wants0 rfl) (d := 29) (v := (.int .i64 (i))) rfl (fun _ H' => (by kernel_rfl)) ?_
  refine h_val 5 rfl (by kernel_rfl) (by kernel_rfl) (by kernel_rfl) (fun _ _ _ h => h) S17 (wants0 rfl) (d := 30) (v := (.agg ⟨(([(.int .i64 (a)), (.int .i64 (b))] : List Value) ++ hc h ++ ([(.int .u64 (t))] : List Value))⟩)) rfl (fun _ H' => (e_loadN (vs := (([(.int .i64 (a)), (.int .i64 (b))] : List Value) ++ hc h ++ ([(.int .u64 (t))] : List Value))) rfl (by kernel_rfl) (by kernel_rfl) (by exact Nat.le_of_ble_eq_true (by kernel_rfl)) (H'.at 2 rfl) (by kernel_rfl))) ?_
  refine h_val 6 rfl (by kernel_rfl) (by kernel_rfl) (by kernel_rfl) (fun _ _ _ h => h) S17 (wants0 rfl) (d := 31) (v := (.int .u64 (now))) rfl (fun _ H' => (by kernel_rfl)) ?_
  refine h_do 7 rfl (by kernel_rfl) (wants0 rfl) (fun K18 hK18 => ?_)
  refine d_makeMap (Value.int .i64) (Value.int .i64) rfl H16 ?_
  intro b19 w20 (H21 : Sat w [cellC r 86 ([(.int .i64 (F)), (.int .i64 (C)), (.int .i64 (rep)), (.map (some mb))] : List Value), mapC mb (Value.int .i64) encP ([] : List (Int × PlaceD)), restC w (sepC (revL r mb F C rep ([] : List (Int × PlaceD)))).fp, cellC b2 38 (([(.int .i64 (a)), (.int .i64 (b))] : List Value) ++ hc h ++ ([(.int .u64 (t))] : List Value)), cellC b6 89 (([(.int .i64 (0)), (.int .i64 (0))] : List Value) ++ hc hash0 ++ ([(.int .u64 (0)), (.int .u64 (0)), (.int .i64 (0)), (.slice none 0 0)] : List Value) ++ hc hash0 ++ ([(.bool false), (.bool false), (.map none)] : List Value)), mapC b19 (Value.int .i64) (Value.int .i64) []] w20)
  have S22 := H21.pick [0, 2, 3, 4] (by decide)
  refine hK18 _ _ S22 ?_
  clear hK18 K18
  refine h_val 8 rfl (by kernel_rfl) (by kernel_rfl) (by kernel_rfl) (fun _ _ _ h => h) S22 (wants0 rfl) (d := 33) (v := (.agg ⟨(([(.int .i64 (a)), (.int .i64 (b))] : List Value) ++ hc h ++ ([(.int .u64 (t)), (.int .u64 (now)), (.int .i64 (0)), (.slice none 0 0)] : List Value) ++ hc hash0 ++ ([(.bool false), (.bool false), (.map (some b19))] : List Value))⟩)) rfl (fun _ H' => (by kernel_rfl)) ?_
  refine h_do 9 rfl (by kernel_rfl) (wants0 rfl) (fun K23 hK23 => ?_)
  refine d_mapUpdate (kt := 3) (et := 89) rfl H21 1 rfl (KeyTy.int (by kernel_rfl)) (by kernel_rfl) rfl (i : Int) rfl (⟨a, b, h, t, now, 0, none, 0, 0, hash0, false, false, some b19⟩ : PlaceD) rfl ?_
  intro w24 (H25 : Sat w [cellC r 86 ([(.int .i64 (F)), (.int .i64 (C)), (.int .i64 (rep)), (.map (some mb))] : List Value), mapC mb (Value.int .i64) encP (putM ([] : List (Int × PlaceD)) (i : Int) (⟨a, b, h, t, now, 0, none, 0, 0, hash0, false, false, some b19⟩ : PlaceD)), restC w (sepC (revL r mb F C rep ([] : List (Int × PlaceD)))).fp, cellC b2 38 (([(.int .i64 (a)), (.int .i64 (b))] : List Value) ++ hc h ++ ([(.int .u64 (t))] : List Value)), cellC b6 89 (([(.int .i64 (0)), (.int .i64 (0))] : List Value) ++ hc hash0 ++ ([(.int .u64 (0)), (.int .u64 (0)), (.int .i64 (0)), (.slice none 0 0)] : List Value) ++ hc hash0 ++ ([(.bool false), (.bool false), (.map none)] : List Value)), mapC b19 (Value.int .i64) (Value.int .i64) []] w24)
  have S26 := H25.pick [0, 2, 3, 4] (by decide)
  refine hK23 _ _ S26 ?_
  clear hK23 K23
  refine h_fin (by kernel_rfl) ?_
  refine then_normal ?_
  refine w_seq ?_
  refine w_lit ?_
  refine wl_pure (wants0 rfl) (d := 8) (v := (.bool true)) rfl (by kernel_rfl) ?_
  refine w_nil ?_
  refine then_normal ?_
  refine w_ret ?_
  refine end1 rfl (res_tmp (v := (.bool true)) rfl) ?_
  exact ⟨(⟨a, b, h, t, now, 0, none, 0, 0, hash0, false, false, some b19⟩ : PlaceD), rfl, rfl, rfl, rfl, rfl, rfl, (by have q := H25.pick [0, 1, 2] (by decide); rw [put_none] at q; exact q)⟩

set_option maxRecDepth 100000 in
set_option maxHeartbeats 2000000 in
theorem revOpen_any (w : World) (r mb : Nat) (F C rep : Int) (i : Int) (P : PlaceD) (pa : Option Addr) (pc : Nat) (p : List UInt8) (hB : (sepC (revB r mb F C rep [(i, P)] pa pc p)).ok w) (x : Hash) (hlp : p.length ≤ 256) (hden : P.denied = false) (hack : P.acked = false) (hcl : P.n1 ≤ 9223372036854775807) (hsq : P.n2 ≤ 9223372036854775807) :
    Calls Try.prog 14 #[(.pointer (some ⟨r, 0, none⟩)), (.agg ⟨(([(.int .i64 (i)), (.slice pa p.length pc)] : List Value) ++ hc x)⟩)] w fun e w' => (P.h = shaR (ofT P.n1 P.n2 x p) ∧ e = .returned (.int .i64 0) ∧ ∃ P' : PlaceD, P'.acked = true ∧ Sat w [cellC r 86 [.int .i64 F, .int .i64 C, .int .i64 rep, .map (some mb)], mapC mb (Value.int .i64) encP [(i, P')], rowC 5 1 (.slice pa p.length pc) p.length (p.flatMap encB), restC w (sepC (revB r mb F C rep [(i, P)] pa pc p)).fp] w') ∨ (¬ P.h = shaR (ofT P.n1 P.n2 x p) ∧ e = .returned (.int .i64 10) ∧ Sat w [cellC r 86 [.int .i64 F, .int .i64 C, .int .i64 rep, .map (some mb)], mapC mb (Value.int .i64) encP [(i, P)], rowC 5 1 (.slice pa p.length pc) p.length (p.flatMap encB), restC w (sepC (revB r mb F C rep [(i, P)] pa pc p)).fp] w') := by
  have H : Sat w [cellC r 86 ([(.int .i64 (F)), (.int .i64 (C)), (.int .i64 (rep)), (.map (some mb))] : List Value), mapC mb (Value.int .i64) encP [(i, P)], rowC 5 1 (.slice pa p.length pc) p.length (p.flatMap encB), restC w (sepC (revB r mb F C rep [(i, P)] pa pc p)).fp] w := Sat.start (revB r mb F C rep [(i, P)] pa pc p) hB
  refine calls_fr Try.func14 rfl 56 rfl (Nat.le_of_ble_eq_true rfl) ?_
  refine w_seq ?_
  refine w_lit ?_
  refine wl_do (wants0 rfl) (fun K1 hK1 => ?_)
  refine d_box (vs := (([(.int .i64 (i)), (.slice pa p.length pc)] : List Value) ++ hc x)) rfl H rfl rfl ?_
  intro b2 w3 (H4 : Sat w [cellC r 86 ([(.int .i64 (F)), (.int .i64 (C)), (.int .i64 (rep)), (.map (some mb))] : List Value), mapC mb (Value.int .i64) encP [(i, P)], rowC 5 1 (.slice pa p.length pc) p.length (p.flatMap encB), restC w (sepC (revB r mb F C rep [(i, P)] pa pc p)).fp, cellC b2 43 (([(.int .i64 (i)), (.slice pa p.length pc)] : List Value) ++ hc x)] w3)
  refine hK1 _ _ ?_
  clear hK1 K1
  refine wl_pure (wants0 rfl) (d := 4) (v := (.int .i64 (0))) rfl (by kernel_rfl) ?_
  refine w_nil ?_
  refine then_normal ?_
  refine w_seq ?_
  refine h_start H4 [cellC r 86 ([(.int .i64 (F)), (.int .i64 (C)), (.int .i64 (rep)), (.map (some mb))] : List Value), mapC mb (Value.int .i64) encP [(i, P)], rowC 5 1 (.slice pa p.length pc) p.length (p.flatMap encB), restC w (sepC (revB r mb F C rep [(i, P)] pa pc p)).fp, cellC b2 43 (([(.int .i64 (i)), (.slice pa p.length pc)] : List Value) ++ hc x)] 13 rfl (by kernel_rfl) (fun Hx => (Hx.pick [0, 1, 2, 3, 4] (by decide))) ?_
  intro w5 H6 S7
  refine h_val 0 rfl (by kernel_rfl) (by kernel_rfl) (by kernel_rfl) (fun _ _ _ h => h) S7 (wants0 rfl) (d := 8) (v := (.pointer (some ⟨r, 0, none⟩))) rfl (fun _ H' => (by kernel_rfl)) ?_
  refine h_val 1 rfl (by kernel_rfl) (by kernel_rfl) (by kernel_rfl) (fun _ _ _ h => h) S7 (wants0 rfl) (d := 9) (v := (.pointer (some ⟨r, 0, none⟩))) rfl (fun _ H' => (by kernel_rfl)) ?_
  refine h_val 2 rfl (by kernel_rfl) (by kernel_rfl) (by kernel_rfl) (fun _ _ _ h => h) S7 (wants0 rfl) (d := 10) (v := (.pointer (some ⟨r, 3, none⟩))) rfl (fun _ H' => (by kernel_rfl)) ?_
  refine h_val 3 rfl (by kernel_rfl) (by kernel_rfl) (by kernel_rfl) (fun _ _ _ h => h) S7 (wants0 rfl) (d := 11) (v := (.map (some mb))) rfl (fun _ H' => (e_load1 rfl (by kernel_rfl) (H'.cell 0 rfl rfl))) ?_
  refine h_val 4 rfl (by kernel_rfl) (by kernel_rfl) (by kernel_rfl) (fun _ _ _ h => h) S7 (wants0 rfl) (d := 12) (v := (.pointer (some ⟨b2, 0, none⟩))) rfl (fun _ H' => (by kernel_rfl)) ?_
  refine h_val 5 rfl (by kernel_rfl) (by kernel_rfl) (by kernel_rfl) (fun _ _ _ h => h) S7 (wants0 rfl) (d := 13) (v := (.int .i64 (i))) rfl (fun _ H' => (e_load1 rfl (by kernel_rfl) (H'.cell 4 rfl (by kernel_rfl)))) ?_
  refine h_val 6 rfl (by kernel_rfl) (by kernel_rfl) (by kernel_rfl) (fun _ _ _ h => h) S7 (wants0 rfl) (d := 14) (v := (.tuple #[(.agg ⟨(([(.int .i64 (P.n1)), (.int .i64 (P.n2))] : List Value) ++ hc P.h ++ ([(.int .u64 (P.t)), (.int .u64 (P.since)), (.int .i64 (P.oi)), (.slice P.oa P.ol P.oc)] : List Value) ++ hc P.on ++ ([(.bool (P.acked)), (.bool (P.denied)), (.map P.dm)] : List Value))⟩), (.bool true)])) rfl (fun _ H' => (e_lookup2 (kt := 3) (et := 89) (KeyTy.int (by kernel_rfl)) (by kernel_rfl) zeroP rfl (i : Int) rfl (H'.at 1 rfl) (by rw [look_one]; rfl) (by rw [look_one]; rfl))) ?_
  refine h_val 7 rfl (by kernel_rfl) (by kernel_rfl) (by kernel_rfl) (fun _ _ _ h => h) S7 (wants0 rfl) (d := 7) (v := (.tuple #[(.agg ⟨(([(.int .i64 (P.n1)), (.int .i64 (P.n2))] : List Value) ++ hc P.h ++ ([(.int .u64 (P.t)), (.int .u64 (P.since)), (.int .i64 (P.oi)), (.slice P.oa P.ol P.oc)] : List Value) ++ hc P.on ++ ([(.bool (P.acked)), (.bool (P.denied)), (.map P.dm)] : List Value))⟩), (.bool true)])) rfl (fun _ H' => (by kernel_rfl)) ?_
  refine h_val 8 rfl (by kernel_rfl) (by kernel_rfl) (by kernel_rfl) (fun _ _ _ h => h) S7 (wants0 rfl) (d := 15) (v := (.agg ⟨(([(.int .i64 (P.n1)), (.int .i64 (P.n2))] : List Value) ++ hc P.h ++ ([(.int .u64 (P.t)), (.int .u64 (P.since)), (.int .i64 (P.oi)), (.slice P.oa P.ol P.oc)] : List Value) ++ hc P.on ++ ([(.bool (P.acked)), (.bool (P.denied)), (.map P.dm)] : List Value))⟩)) rfl (fun _ H' => (by kernel_rfl)) ?_
  refine h_val 9 rfl (by kernel_rfl) (by kernel_rfl) (by kernel_rfl) (fun _ _ _ h => h) S7 (wants0 rfl) (d := 16) (v := (.bool true)) rfl (fun _ H' => (by kernel_rfl)) ?_
  refine h_do 10 rfl (by kernel_rfl) (wants0 rfl) (fun K8 hK8 => ?_)
  refine d_alloc (zs := (([(.int .i64 (0)), (.int .i64 (0))] : List Value) ++ hc hash0 ++ ([(.int .u64 (0)), (.int .u64 (0)), (.int .i64 (0)), (.slice none 0 0)] : List Value) ++ hc hash0 ++ ([(.bool false), (.bool false), ((Go.Value.map none))] : List Value))) (z := (.agg ⟨(([(.int .i64 (0)), (.int .i64 (0))] : List Value) ++ hc hash0 ++ ([(.int .u64 (0)), (.int .u64 (0)), (.int .i64 (0)), (.slice none 0 0)] : List Value) ++ hc hash0 ++ ([(.bool false), (.bool false), ((Go.Value.map none))] : List Value))⟩)) rfl H6 (by kernel_rfl) (by kernel_rfl) ?_
  intro b9 w10 (H11 : Sat w [cellC r 86 ([(.int .i64 (F)), (.int .i64 (C)), (.int .i64 (rep)), (.map (some mb))] : List Value), mapC mb (Value.int .i64) encP [(i, P)], rowC 5 1 (.slice pa p.length pc) p.length (p.flatMap encB), restC w (sepC (revB r mb F C rep [(i, P)] pa pc p)).fp, cellC b2 43 (([(.int .i64 (i)), (.slice pa p.length pc)] : List Value) ++ hc x), cellC b9 89 (([(.int .i64 (0)), (.int .i64 (0))] : List Value) ++ hc hash0 ++ ([(.int .u64 (0)), (.int .u64 (0)), (.int .i64 (0)), (.slice none 0 0)] : List Value) ++ hc hash0 ++ ([(.bool false), (.bool false), ((Go.Value.map none))] : List Value))] w10)
  have S12 := H11.pick [0, 1, 2, 3, 4] (by decide)
  refine hK8 _ _ S12 ?_
  clear hK8 K8
  refine h_do 11 rfl (by kernel_rfl) (wants0 rfl) (fun K13 hK13 => ?_)
  refine d_storeX (vs := (([(.int .i64 (P.n1)), (.int .i64 (P.n2))] : List Value) ++ hc P.h ++ ([(.int .u64 (P.t)), (.int .u64 (P.since)), (.int .i64 (P.oi)), (.slice P.oa P.ol P.oc)] : List Value) ++ hc P.on ++ ([(.bool (P.acked)), (.bool (P.denied)), (.map P.dm)] : List Value))) (cs' := (([(.int .i64 (P.n1)), (.int .i64 (P.n2))] : List Value) ++ hc P.h ++ ([(.int .u64 (P.t)), (.int .u64 (P.since)), (.int .i64 (P.oi)), (.slice P.oa P.ol P.oc)] : List Value) ++ hc P.on ++ ([(.bool (P.acked)), (.bool (P.denied)), (.map P.dm)] : List Value))) rfl H11 5 rfl rfl rfl rfl (by kernel_rfl) (Nat.le_of_ble_eq_true (by kernel_rfl)) (Nat.le_of_ble_eq_true (by kernel_rfl)) (by kernel_rfl) (by kernel_rfl) ?_
  intro w14 (H15 : Sat w [cellC r 86 ([(.int .i64 (F)), (.int .i64 (C)), (.int .i64 (rep)), (.map (some mb))] : List Value), mapC mb (Value.int .i64) encP [(i, P)], rowC 5 1 (.slice pa p.length pc) p.length (p.flatMap encB), restC w (sepC (revB r mb F C rep [(i, P)] pa pc p)).fp, cellC b2 43 (([(.int .i64 (i)), (.slice pa p.length pc)] : List Value) ++ hc x), cellC b9 89 (([(.int .i64 (P.n1)), (.int .i64 (P.n2))] : List Value) ++ hc P.h ++ ([(.int .u64 (P.t)), (.int .u64 (P.since)), (.int .i64 (P.oi)), (.slice P.oa P.ol P.oc)] : List Value) ++ hc P.on ++ ([(.bool (P.acked)), (.bool (P.denied)), (.map P.dm)] : List Value))] w14)
  have S17 := H15.pick [0, 1, 2, 3, 4] (by decide)
  refine hK13 _ _ S17 ?_
  clear hK13 K13
  refine h_val 12 rfl (by kernel_rfl) (by kernel_rfl) (by kernel_rfl) (fun _ _ _ h => h) S17 (wants0 rfl) (d := 6) (v := (.bool true)) rfl (fun _ H' => (by kernel_rfl)) ?_
  refine h_fin (by kernel_rfl) ?_
  refine then_normal ?_
  refine w_seq ?_
  refine w_block ?_
  refine w_seq ?_
  refine w_lit ?_
  refine wl_pure (wants0 rfl) (d := 18) (v := (.bool true)) rfl (by kernel_rfl) ?_
  refine wl_pure (wants0 rfl) (d := 19) (v := (.bool false)) rfl (by kernel_rfl) ?_
  refine wl_pure (wants0 rfl) (d := 17) (v := (.bool false)) rfl (by kernel_rfl) ?_
  refine w_nil ?_
  refine then_normal ?_
  refine wp_iff rfl ?_
  refine w_seq ?_
  refine w_lit ?_
  refine wl_pure (wants0 rfl) (d := 21) (v := (.pointer (some ⟨b2, 1, none⟩))) rfl (by kernel_rfl) ?_
  refine wl_pure (wants0 rfl) (d := 22) (v := (.slice pa p.length pc)) rfl (e_load1 rfl (by kernel_rfl) (H15.cell 4 rfl (by kernel_rfl))) ?_
  refine wl_pure (wants0 rfl) (d := 23) (v := (.int .i64 ((p.length : Int)))) rfl (by kernel_rfl) ?_
  refine wl_pure (wants0 rfl) (d := 24) (v := (.bool (decide ((p.length : Int) > 256)))) rfl (by kernel_rfl) ?_
  refine wl_pure (wants0 rfl) (d := 25) (v := (.bool (decide ((p.length : Int) > 256)))) rfl (by kernel_rfl) ?_
  have b18 : (decide ((p.length : Int) > 256)) = false := by exact decide_eq_false (by omega)
  refine wl_know 25 (.bool false) (congrArg Value.bool b18) ?_
  have g19 := of_decide_eq_false b18
  refine wl_pure (wantsY 4 25 false rfl (by kernel_rfl) rfl (by kernel_rfl)) (d := 26) (v := (.pointer (some ⟨b9, 0, none⟩))) rfl (by kernel_rfl) ?_
  refine wl_pure (wantsY 4 25 false rfl (by kernel_rfl) rfl (by kernel_rfl)) (d := 27) (v := (.pointer (some ⟨b9, 2, none⟩))) rfl (by kernel_rfl) ?_
  refine wl_pure (wantsY 4 25 false rfl (by kernel_rfl) rfl (by kernel_rfl)) (d := 28) (v := (.agg ⟨(hc P.h)⟩)) rfl (e_loadN (vs := (hc P.h)) rfl (by kernel_rfl) (by kernel_rfl) (by exact Nat.le_of_ble_eq_true (by kernel_rfl)) (H15.at 5 rfl) (by kernel_rfl)) ?_
  refine wl_pure (wantsY 4 25 false rfl (by kernel_rfl) rfl (by kernel_rfl)) (d := 29) (v := (.pointer (some ⟨b9, 0, none⟩))) rfl (by kernel_rfl) ?_
  refine wl_pure (wantsY 4 25 false rfl (by kernel_rfl) rfl (by kernel_rfl)) (d := 30) (v := (.pointer (some ⟨b9, 0, none⟩))) rfl (by kernel_rfl) ?_
  refine wl_pure (wantsY 4 25 false rfl (by kernel_rfl) rfl (by kernel_rfl)) (d := 31) (v := (.agg ⟨([(.int .i64 (P.n1)), (.int .i64 (P.n2))] : List Value)⟩)) rfl (e_loadN (vs := ([(.int .i64 (P.n1)), (.int .i64 (P.n2))] : List Value)) rfl (by kernel_rfl) (by kernel_rfl) (by exact Nat.le_of_ble_eq_true (by kernel_rfl)) (H15.at 5 rfl) (by kernel_rfl)) ?_
  refine wl_pure (wantsY 4 25 false rfl (by kernel_rfl) rfl (by kernel_rfl)) (d := 32) (v := (.agg ⟨(([(.int .i64 (i)), (.slice pa p.length pc)] : List Value) ++ hc x)⟩)) rfl (e_loadN (vs := (([(.int .i64 (i)), (.slice pa p.length pc)] : List Value) ++ hc x)) rfl (by kernel_rfl) (by kernel_rfl) (by exact Nat.le_of_ble_eq_true (by kernel_rfl)) (H15.at 4 rfl) (by kernel_rfl)) ?_
  refine wl_do (wantsY 4 25 false rfl (by kernel_rfl) rfl (by kernel_rfl)) (fun K20 hK20 => ?_)
  refine d_call (d := 33) rfl (by kernel_rfl) (pMatches_any w14 P.h i P.n1 P.n2 x pa pc p (ListAt.row (enc := encB) (sz := 1) encB_len (by decide) (H15.at 2 rfl)) hcl hsq (by omega)) ?_
  rintro _ w21 ⟨rfl, u23⟩
  have H22 := H15.keepU u23
  refine ⟨_, rfl, ?_⟩
  refine hK20 _ _ ?_
  clear hK20 K20
  refine wl_pure (wantsY 4 25 false rfl (by kernel_rfl) rfl (by kernel_rfl)) (d := 34) (v := (.bool (!(decide (P.h = shaR (ofT P.n1 P.n2 x p)))))) rfl (by kernel_rfl) ?_
  refine wl_pure (wants0 rfl) (d := 35) (v := (.bool (!(decide (P.h = shaR (ofT P.n1 P.n2 x p)))))) rfl (by kernel_rfl) ?_
  refine wl_pure (wants0 rfl) (d := 20) (v := (.bool (!(decide (P.h = shaR (ofT P.n1 P.n2 x p)))))) rfl (by kernel_rfl) ?_
  refine w_nil ?_
  refine then_normal ?_
  refine (bsplit (!(decide (P.h = shaR (ofT P.n1 P.n2 x p))))).elim (fun b24 => ?_) (fun b24 => ?_)
  · have g25 := bnot_true b24
    refine wp_know 20 (.bool true) (congrArg Value.bool b24) ?_
    have g26 := bnot_true b24
    refine wp_ift rfl ?_
    refine w_seq ?_
    refine w_lit ?_
    refine wl_pure (wants0 rfl) (d := 4) (v := (.int .i64 (10))) rfl (by kernel_rfl) ?_
    refine w_nil ?_
    refine then_normal ?_
    refine w_ret ?_
    refine blk_ret ?_
    refine then_ret ?_
    refine end1 rfl (res_tmp (v := (.int .i64 (10))) rfl) ?_
    exact .inr ⟨by simpa using b24, rfl, H22.pick [0, 1, 2, 3] (by decide)⟩
  · have g27 := bnot_false b24
    refine wp_know 20 (.bool false) (congrArg Value.bool b24) ?_
    have g28 := bnot_false b24
    refine wp_iff rfl ?_
    refine w_seq ?_
    refine w_lit ?_
    refine wl_pure (wants0 rfl) (d := 37) (v := (.pointer (some ⟨b9, 71, none⟩))) rfl (by kernel_rfl) ?_
    refine wl_pure (wants0 rfl) (d := 38) (v := (.bool (P.denied))) rfl (e_load1 rfl (by kernel_rfl) (H22.cell 5 rfl (by kernel_rfl))) ?_
    refine wl_pure (wants0 rfl) (d := 36) (v := (.bool (P.denied))) rfl (by kernel_rfl) ?_
    refine w_nil ?_
    refine then_normal ?_
    have b29 : (P.denied) = false := by exact hden
    refine wp_know 36 (.bool false) (congrArg Value.bool b29) ?_
    refine wp_iff rfl ?_
    refine w_seq ?_
    refine w_lit ?_
    refine wl_pure (wants0 rfl) (d := 40) (v := (.pointer (some ⟨b9, 70, none⟩))) rfl (by kernel_rfl) ?_
    refine wl_pure (wants0 rfl) (d := 41) (v := (.bool (P.acked))) rfl (e_load1 rfl (by kernel_rfl) (H22.cell 5 rfl (by kernel_rfl))) ?_
    refine wl_pure (wants0 rfl) (d := 39) (v := (.bool (P.acked))) rfl (by kernel_rfl) ?_
    refine w_nil ?_
    refine then_normal ?_
    have b30 : (P.acked) = false := by exact hack
    refine wp_know 39 (.bool false) (congrArg Value.bool b30) ?_
    refine wp_iff rfl ?_
    refine w_skip ?_
    refine blk_normal ?_
    refine then_normal ?_
    refine w_seq ?_
    refine w_lit ?_
    refine wl_pure (wants0 rfl) (d := 42) (v := (.pointer (some ⟨b2, 1, none⟩))) rfl (by kernel_rfl) ?_
    refine wl_pure (wants0 rfl) (d := 43) (v := (.slice pa p.length pc)) rfl (e_load1 rfl (by kernel_rfl) (H22.cell 4 rfl (by kernel_rfl))) ?_
    refine wl_do (wants0 rfl) (fun K31 hK31 => ?_)
    refine d_call (d := 44) rfl (by kernel_rfl) (cloneB_any w21 (.slice pa p.length pc) p (H22.at 2 rfl) (by omega)) ?_
    rintro _ w32 ⟨u33, rfl, k34, p35, q36⟩
    have H37 : Sat w [cellC r 86 ([(.int .i64 (F)), (.int .i64 (C)), (.int .i64 (rep)), (.map (some mb))] : List Value), mapC mb (Value.int .i64) encP [(i, P)], rowC 5 1 (.slice pa p.length pc) p.length (p.flatMap encB), restC w (sepC (revB r mb F C rep [(i, P)] pa pc p)).fp, cellC b2 43 (([(.int .i64 (i)), (.slice pa p.length pc)] : List Value) ++ hc x), cellC b9 89 (([(.int .i64 (P.n1)), (.int .i64 (P.n2))] : List Value) ++ hc P.h ++ ([(.int .u64 (P.t)), (.int .u64 (P.since)), (.int .i64 (P.oi)), (.slice P.oa P.ol P.oc)] : List Value) ++ hc P.on ++ ([(.bool (P.acked)), (.bool (P.denied)), (.map P.dm)] : List Value)), rowC 5 1 u33 p.length (p.flatMap encB)] w32 := H22.addU p35 k34 q36
    obtain ⟨a38, c39, rfl⟩ := ownsRow_shape (H37.at 6 rfl)
    refine ⟨_, rfl, ?_⟩
    refine hK31 _ _ ?_
    clear hK31 K31
    refine wl_pure (wants0 rfl) (d := 45) (v := (.pointer (some ⟨b2, 1, none⟩))) rfl (by kernel_rfl) ?_
    refine wl_do (wants0 rfl) (fun K40 hK40 => ?_)
    refine d_storeX (vs := ([(.slice a38 p.length c39)] : List Value)) (cs' := (([(.int .i64 (i)), (.slice a38 p.length c39)] : List Value) ++ hc x)) rfl H37 4 rfl rfl rfl rfl (by kernel_rfl) (Nat.le_of_ble_eq_true (by kernel_rfl)) (Nat.le_of_ble_eq_true (by kernel_rfl)) (by kernel_rfl) (by kernel_rfl) ?_
    intro w41 (H42 : Sat w [cellC r 86 ([(.int .i64 (F)), (.int .i64 (C)), (.int .i64 (rep)), (.map (some mb))] : List Value), mapC mb (Value.int .i64) encP [(i, P)], rowC 5 1 (.slice pa p.length pc) p.length (p.flatMap encB), restC w (sepC (revB r mb F C rep [(i, P)] pa pc p)).fp, cellC b2 43 (([(.int .i64 (i)), (.slice a38 p.length c39)] : List Value) ++ hc x), cellC b9 89 (([(.int .i64 (P.n1)), (.int .i64 (P.n2))] : List Value) ++ hc P.h ++ ([(.int .u64 (P.t)), (.int .u64 (P.since)), (.int .i64 (P.oi)), (.slice P.oa P.ol P.oc)] : List Value) ++ hc P.on ++ ([(.bool (P.acked)), (.bool (P.denied)), (.map P.dm)] : List Value)), rowC 5 1 (.slice a38 p.length c39) p.length (p.flatMap encB)] w41)
    refine hK40 _ _ ?_
    clear hK40 K40
    refine w_nil ?_
    refine then_normal ?_
    refine w_seq ?_
    refine h_start H42 [cellC r 86 ([(.int .i64 (F)), (.int .i64 (C)), (.int .i64 (rep)), (.map (some mb))] : List Value), mapC mb (Value.int .i64) encP [(i, P)], rowC 5 1 (.slice pa p.length pc) p.length (p.flatMap encB), restC w (sepC (revB r mb F C rep [(i, P)] pa pc p)).fp, cellC b2 43 (([(.int .i64 (i)), (.slice a38 p.length c39)] : List Value) ++ hc x), rowC 5 1 (.slice a38 p.length c39) p.length (p.flatMap encB)] 5 rfl (by kernel_rfl) (fun Hx => (Hx.pick [0, 1, 2, 3, 4, 6] (by decide))) ?_
    intro w44 H45 S46
    refine h_val 0 rfl (by kernel_rfl) (by kernel_rfl) (by kernel_rfl) (fun _ _ _ h => h) S46 (wants0 rfl) (d := 46) (v := (.agg ⟨(([(.int .i64 (i)), (.slice a38 p.length c39)] : List Value) ++ hc x)⟩)) rfl (fun _ H' => (e_loadN (vs := (([(.int .i64 (i)), (.slice a38 p.length c39)] : List Value) ++ hc x)) rfl (by kernel_rfl) (by kernel_rfl) (by exact Nat.le_of_ble_eq_true (by kernel_rfl)) (H'.at 4 rfl) (by kernel_rfl))) ?_
    refine h_val 1 rfl (by kernel_rfl) (by kernel_rfl) (by kernel_rfl) (fun _ _ _ h => h) S46 (wants0 rfl) (d := 47) (v := (.pointer (some ⟨b9, 70, none⟩))) rfl (fun _ H' => (by kernel_rfl)) ?_
    refine h_do 2 rfl (by kernel_rfl) (wants0 rfl) (fun K47 hK47 => ?_)
    refine d_storeX (vs := ([(.bool true)] : List Value)) (cs' := (([(.int .i64 (P.n1)), (.int .i64 (P.n2))] : List Value) ++ hc P.h ++ ([(.int .u64 (P.t)), (.int .u64 (P.since)), (.int .i64 (P.oi)), (.slice P.oa P.ol P.oc)] : List Value) ++ hc P.on ++ ([(.bool true), (.bool (P.denied)), (.map P.dm)] : List Value))) rfl H45 5 rfl rfl rfl rfl (by kernel_rfl) (Nat.le_of_ble_eq_true (by kernel_rfl)) (Nat.le_of_ble_eq_true (by kernel_rfl)) (by kernel_rfl) (by kernel_rfl) ?_
    intro w48 (H49 : Sat w [cellC r 86 ([(.int .i64 (F)), (.int .i64 (C)), (.int .i64 (rep)), (.map (some mb))] : List Value), mapC mb (Value.int .i64) encP [(i, P)], rowC 5 1 (.slice pa p.length pc) p.length (p.flatMap encB), restC w (sepC (revB r mb F C rep [(i, P)] pa pc p)).fp, cellC b2 43 (([(.int .i64 (i)), (.slice a38 p.length c39)] : List Value) ++ hc x), cellC b9 89 (([(.int .i64 (P.n1)), (.int .i64 (P.n2))] : List Value) ++ hc P.h ++ ([(.int .u64 (P.t)), (.int .u64 (P.since)), (.int .i64 (P.oi)), (.slice P.oa P.ol P.oc)] : List Value) ++ hc P.on ++ ([(.bool true), (.bool (P.denied)), (.map P.dm)] : List Value)), rowC 5 1 (.slice a38 p.length c39) p.length (p.flatMap encB)] w48)
    have S51 := H49.pick [0, 1, 2, 3, 4, 6] (by decide)
    refine hK47 _ _ S51 ?_
    clear hK47 K47
    refine h_val 3 rfl (by kernel_rfl) (by kernel_rfl) (by kernel_rfl) (fun _ _ _ h => h) S51 (wants0 rfl) (d := 48) (v := (.pointer (some ⟨b9, 36, none⟩))) rfl (fun _ H' => (by kernel_rfl)) ?_
    refine h_do 4 rfl (by kernel_rfl) (wants0 rfl) (fun K52 hK52 => ?_)
    refine d_storeX (vs := (([(.int .i64 (i)), (.slice a38 p.length c39)] : List Value) ++ hc x)) (cs' := (([(.int .i64 (P.n1)), (.int .i64 (P.n2))] : List Value) ++ hc P.h ++ ([(.int .u64 (P.t)), (.int .u64 (P.since)), (.int .i64 (i)), (.slice a38 p.length c39)] : List Value) ++ hc x ++ ([(.bool true), (.bool (P.denied)), (.map P.dm)] : List Value))) rfl H49 5 rfl rfl rfl rfl (by kernel_rfl) (Nat.le_of_ble_eq_true (by kernel_rfl)) (Nat.le_of_ble_eq_true (by kernel_rfl)) (by kernel_rfl) (by kernel_rfl) ?_
    intro w53 (H54 : Sat w [cellC r 86 ([(.int .i64 (F)), (.int .i64 (C)), (.int .i64 (rep)), (.map (some mb))] : List Value), mapC mb (Value.int .i64) encP [(i, P)], rowC 5 1 (.slice pa p.length pc) p.length (p.flatMap encB), restC w (sepC (revB r mb F C rep [(i, P)] pa pc p)).fp, cellC b2 43 (([(.int .i64 (i)), (.slice a38 p.length c39)] : List Value) ++ hc x), cellC b9 89 (([(.int .i64 (P.n1)), (.int .i64 (P.n2))] : List Value) ++ hc P.h ++ ([(.int .u64 (P.t)), (.int .u64 (P.since)), (.int .i64 (i)), (.slice a38 p.length c39)] : List Value) ++ hc x ++ ([(.bool true), (.bool (P.denied)), (.map P.dm)] : List Value)), rowC 5 1 (.slice a38 p.length c39) p.length (p.flatMap encB)] w53)
    have S56 := H54.pick [0, 1, 2, 3, 4, 6] (by decide)
    refine hK52 _ _ S56 ?_
    clear hK52 K52
    refine h_fin (by kernel_rfl) ?_
    refine then_normal ?_
    refine w_seq ?_
    refine h_start H54 [cellC r 86 ([(.int .i64 (F)), (.int .i64 (C)), (.int .i64 (rep)), (.map (some mb))] : List Value), rowC 5 1 (.slice pa p.length pc) p.length (p.flatMap encB), restC w (sepC (revB r mb F C rep [(i, P)] pa pc p)).fp, cellC b2 43 (([(.int .i64 (i)), (.slice a38 p.length c39)] : List Value) ++ hc x), cellC b9 89 (([(.int .i64 (P.n1)), (.int .i64 (P.n2))] : List Value) ++ hc P.h ++ ([(.int .u64 (P.t)), (.int .u64 (P.since)), (.int .i64 (i)), (.slice a38 p.length c39)] : List Value) ++ hc x ++ ([(.bool true), (.bool (P.denied)), (.map P.dm)] : List Value)), rowC 5 1 (.slice a38 p.length c39) p.length (p.flatMap encB)] 8 rfl (by kernel_rfl) (fun Hx => (Hx.pick [0, 2, 3, 4, 5, 6] (by decide))) ?_
    intro w57 H58 S59
    refine h_val 0 rfl (by kernel_rfl) (by kernel_rfl) (by kernel_rfl) (fun _ _ _ h => h) S59 (wants0 rfl) (d := 49) (v := (.pointer (some ⟨r, 0, none⟩))) rfl (fun _ H' => (by kernel_rfl)) ?_
    refine h_val 1 rfl (by kernel_rfl) (by kernel_rfl) (by kernel_rfl) (fun _ _ _ h => h) S59 (wants0 rfl) (d := 50) (v := (.pointer (some ⟨r, 0, none⟩))) rfl (fun _ H' => (by kernel_rfl)) ?_
    refine h_val 2 rfl (by kernel_rfl) (by kernel_rfl) (by kernel_rfl) (fun _ _ _ h => h) S59 (wants0 rfl) (d := 51) (v := (.pointer (some ⟨r, 3, none⟩))) rfl (fun _ H' => (by kernel_rfl)) ?_
    refine h_val 3 rfl (by kernel_rfl) (by kernel_rfl) (by kernel_rfl) (fun _ _ _ h => h) S59 (wants0 rfl) (d := 52) (v := (.map (some mb))) rfl (fun _ H' => (e_load1 rfl (by kernel_rfl) (H'.cell 0 rfl rfl))) ?_
    refine h_val 4 rfl (by kernel_rfl) (by kernel_rfl) (by kernel_rfl) (fun _ _ _ h => h) S59 (wants0 rfl) (d := 53) (v := (.pointer (some ⟨b2, 0, none⟩))) rfl (fun _ H' => (by kernel_rfl)) ?_
    refine h_val 5 rfl (by kernel_rfl) (by kernel_rfl) (by kernel_rfl) (fun _ _ _ h => h) S59 (wants0 rfl) (d := 54) (v := (.int .i64 (i))) rfl (fun _ H' => (e_load1 rfl (by kernel_rfl) (H'.cell 3 rfl (by kernel_rfl)))) ?_
    refine h_val 6 rfl (by kernel_rfl) (by kernel_rfl) (by kernel_rfl) (fun _ _ _ h => h) S59 (wants0 rfl) (d := 55) (v := (.agg ⟨(([(.int .i64 (P.n1)), (.int .i64 (P.n2))] : List Value) ++ hc P.h ++ ([(.int .u64 (P.t)), (.int .u64 (P.since)), (.int .i64 (i)), (.slice a38 p.length c39)] : List Value) ++ hc x ++ ([(.bool true), (.bool (P.denied)), (.map P.dm)] : List Value))⟩)) rfl (fun _ H' => (e_loadN (vs := (([(.int .i64 (P.n1)), (.int .i64 (P.n2))] : List Value) ++ hc P.h ++ ([(.int .u64 (P.t)), (.int .u64 (P.since)), (.int .i64 (i)), (.slice a38 p.length c39)] : List Value) ++ hc x ++ ([(.bool true), (.bool (P.denied)), (.map P.dm)] : List Value))) rfl (by kernel_rfl) (by kernel_rfl) (by exact Nat.le_of_ble_eq_true (by kernel_rfl)) (H'.at 4 rfl) (by kernel_rfl))) ?_
    refine h_do 7 rfl (by kernel_rfl) (wants0 rfl) (fun K60 hK60 => ?_)
    refine d_mapUpdate (kt := 3) (et := 89) rfl H58 1 rfl (KeyTy.int (by kernel_rfl)) (by kernel_rfl) rfl (i : Int) rfl (⟨P.n1, P.n2, P.h, P.t, P.since, i, a38, p.length, c39, x, true, (P.denied), P.dm⟩ : PlaceD) rfl ?_
    intro w61 (H62 : Sat w [cellC r 86 ([(.int .i64 (F)), (.int .i64 (C)), (.int .i64 (rep)), (.map (some mb))] : List Value), mapC mb (Value.int .i64) encP (putM [(i, P)] (i : Int) (⟨P.n1, P.n2, P.h, P.t, P.since, i, a38, p.length, c39, x, true, (P.denied), P.dm⟩ : PlaceD)), rowC 5 1 (.slice pa p.length pc) p.length (p.flatMap encB), restC w (sepC (revB r mb F C rep [(i, P)] pa pc p)).fp, cellC b2 43 (([(.int .i64 (i)), (.slice a38 p.length c39)] : List Value) ++ hc x), cellC b9 89 (([(.int .i64 (P.n1)), (.int .i64 (P.n2))] : List Value) ++ hc P.h ++ ([(.int .u64 (P.t)), (.int .u64 (P.since)), (.int .i64 (i)), (.slice a38 p.length c39)] : List Value) ++ hc x ++ ([(.bool true), (.bool (P.denied)), (.map P.dm)] : List Value)), rowC 5 1 (.slice a38 p.length c39) p.length (p.flatMap encB)] w61)
    have S63 := H62.pick [0, 2, 3, 4, 5, 6] (by decide)
    refine hK60 _ _ S63 ?_
    clear hK60 K60
    refine h_fin (by kernel_rfl) ?_
    refine then_normal ?_
    refine w_seq ?_
    refine w_lit ?_
    refine wl_pure (wants0 rfl) (d := 4) (v := (.int .i64 (0))) rfl (by kernel_rfl) ?_
    refine w_nil ?_
    refine then_normal ?_
    refine w_ret ?_
    refine end1 rfl (res_tmp (v := (.int .i64 (0))) rfl) ?_
    exact .inl ⟨by simpa using b24, rfl, (⟨P.n1, P.n2, P.h, P.t, P.since, i, a38, p.length, c39, x, true, (P.denied), P.dm⟩ : PlaceD), rfl, (by have q := H62.pick [0, 1, 2, 3] (by decide); rw [put_one] at q; exact q)⟩

set_option maxRecDepth 100000 in
set_option maxHeartbeats 400000 in
theorem revOpenZ_any (w : World) (r mb : Nat) (F C rep : Int) (hb : (cellC r 86 [.int .i64 F, .int .i64 C, .int .i64 rep, .map (some mb)]).ok w) (hm : MapAt w mb (Value.int .i64) encP ([] : List (Int × PlaceD))) (j : Int) (v : Value) (x : Hash) :
    Calls Try.prog 14 #[(.pointer (some ⟨r, 0, none⟩)), (.agg ⟨(([(.int .i64 (j)), (v)] : List Value) ++ hc x)⟩)] w fun e w' => e = .returned (.int .i64 6) ∧ Upd [] w w' := by
  have H := Sat.start0 w
  refine calls_fr Try.func14 rfl 56 rfl (Nat.le_of_ble_eq_true rfl) ?_
  refine w_seq ?_
  refine w_lit ?_
  refine wl_do (wants0 rfl) (fun K1 hK1 => ?_)
  refine d_box (vs := (([(.int .i64 (j)), (v)] : List Value) ++ hc x)) rfl H rfl rfl ?_
  intro b2 w3 (H4 : Sat w [restC w (fun _ => False), cellC b2 43 (([(.int .i64 (j)), (v)] : List Value) ++ hc x)] w3)
  refine hK1 _ _ ?_
  clear hK1 K1
  refine wl_pure (wants0 rfl) (d := 4) (v := (.int .i64 (0))) rfl (by kernel_rfl) ?_
  refine w_nil ?_
  refine then_normal ?_
  refine w_seq ?_
  refine h_start H4 [restC w (fun _ => False), cellC b2 43 (([(.int .i64 (j)), (v)] : List Value) ++ hc x)] 13 rfl (by kernel_rfl) (fun Hx => (Hx.pick [0, 1] (by decide))) ?_
  intro w5 H6 S7
  refine h_val 0 rfl (by kernel_rfl) (by kernel_rfl) (by kernel_rfl) (fun _ _ _ h => h) S7 (wants0 rfl) (d := 8) (v := (.pointer (some ⟨r, 0, none⟩))) rfl (fun _ H' => (by kernel_rfl)) ?_
  refine h_val 1 rfl (by kernel_rfl) (by kernel_rfl) (by kernel_rfl) (fun _ _ _ h => h) S7 (wants0 rfl) (d := 9) (v := (.pointer (some ⟨r, 0, none⟩))) rfl (fun _ H' => (by kernel_rfl)) ?_
  refine h_val 2 rfl (by kernel_rfl) (by kernel_rfl) (by kernel_rfl) (fun _ _ _ h => h) S7 (wants0 rfl) (d := 10) (v := (.pointer (some ⟨r, 3, none⟩))) rfl (fun _ H' => (by kernel_rfl)) ?_
  refine h_val 3 rfl (by kernel_rfl) (by kernel_rfl) (by kernel_rfl) (fun _ _ _ h => h) S7 (wants0 rfl) (d := 11) (v := (.map (some mb))) rfl (fun _ H' => (e_load1 rfl (by kernel_rfl) (H'.roCell 0 rfl hb (fun h => h) rfl))) ?_
  refine h_val 4 rfl (by kernel_rfl) (by kernel_rfl) (by kernel_rfl) (fun _ _ _ h => h) S7 (wants0 rfl) (d := 12) (v := (.pointer (some ⟨b2, 0, none⟩))) rfl (fun _ H' => (by kernel_rfl)) ?_
  refine h_val 5 rfl (by kernel_rfl) (by kernel_rfl) (by kernel_rfl) (fun _ _ _ h => h) S7 (wants0 rfl) (d := 13) (v := (.int .i64 (j))) rfl (fun _ H' => (e_load1 rfl (by kernel_rfl) (H'.cell 1 rfl (by kernel_rfl)))) ?_
  refine h_val 6 rfl (by kernel_rfl) (by kernel_rfl) (by kernel_rfl) (fun _ _ _ h => h) S7 (wants0 rfl) (d := 14) (v := (.tuple #[(.agg ⟨(([(.int .i64 (0)), (.int .i64 (0))] : List Value) ++ hc hash0 ++ ([(.int .u64 (0)), (.int .u64 (0)), (.int .i64 (0)), (.slice none 0 0)] : List Value) ++ hc hash0 ++ ([(.bool false), (.bool false), (.map none)] : List Value))⟩), (.bool false)])) rfl (fun _ H' => (e_lookup2 (kt := 3) (et := 89) (KeyTy.int (by kernel_rfl)) (by kernel_rfl) zeroP rfl (j : Int) rfl (H'.roMap 0 rfl hm (fun h => h)) rfl rfl)) ?_
  refine h_val 7 rfl (by kernel_rfl) (by kernel_rfl) (by kernel_rfl) (fun _ _ _ h => h) S7 (wants0 rfl) (d := 7) (v := (.tuple #[(.agg ⟨(([(.int .i64 (0)), (.int .i64 (0))] : List Value) ++ hc hash0 ++ ([(.int .u64 (0)), (.int .u64 (0)), (.int .i64 (0)), (.slice none 0 0)] : List Value) ++ hc hash0 ++ ([(.bool false), (.bool false), (.map none)] : List Value))⟩), (.bool false)])) rfl (fun _ H' => (by kernel_rfl)) ?_
  refine h_val 8 rfl (by kernel_rfl) (by kernel_rfl) (by kernel_rfl) (fun _ _ _ h => h) S7 (wants0 rfl) (d := 15) (v := (.agg ⟨(([(.int .i64 (0)), (.int .i64 (0))] : List Value) ++ hc hash0 ++ ([(.int .u64 (0)), (.int .u64 (0)), (.int .i64 (0)), (.slice none 0 0)] : List Value) ++ hc hash0 ++ ([(.bool false), (.bool false), (.map none)] : List Value))⟩)) rfl (fun _ H' => (by kernel_rfl)) ?_
  refine h_val 9 rfl (by kernel_rfl) (by kernel_rfl) (by kernel_rfl) (fun _ _ _ h => h) S7 (wants0 rfl) (d := 16) (v := (.bool false)) rfl (fun _ H' => (by kernel_rfl)) ?_
  refine h_do 10 rfl (by kernel_rfl) (wants0 rfl) (fun K8 hK8 => ?_)
  refine d_alloc (zs := (([(.int .i64 (0)), (.int .i64 (0))] : List Value) ++ hc hash0 ++ ([(.int .u64 (0)), (.int .u64 (0)), (.int .i64 (0)), (.slice none 0 0)] : List Value) ++ hc hash0 ++ ([(.bool false), (.bool false), ((Go.Value.map none))] : List Value))) (z := (.agg ⟨(([(.int .i64 (0)), (.int .i64 (0))] : List Value) ++ hc hash0 ++ ([(.int .u64 (0)), (.int .u64 (0)), (.int .i64 (0)), (.slice none 0 0)] : List Value) ++ hc hash0 ++ ([(.bool false), (.bool false), ((Go.Value.map none))] : List Value))⟩)) rfl H6 (by kernel_rfl) (by kernel_rfl) ?_
  intro b9 w10 (H11 : Sat w [restC w (fun _ => False), cellC b2 43 (([(.int .i64 (j)), (v)] : List Value) ++ hc x), cellC b9 89 (([(.int .i64 (0)), (.int .i64 (0))] : List Value) ++ hc hash0 ++ ([(.int .u64 (0)), (.int .u64 (0)), (.int .i64 (0)), (.slice none 0 0)] : List Value) ++ hc hash0 ++ ([(.bool false), (.bool false), ((Go.Value.map none))] : List Value))] w10)
  have S12 := H11.pick [0, 1] (by decide)
  refine hK8 _ _ S12 ?_
  clear hK8 K8
  refine h_do 11 rfl (by kernel_rfl) (wants0 rfl) (fun K13 hK13 => ?_)
  refine d_storeX (vs := (([(.int .i64 (0)), (.int .i64 (0))] : List Value) ++ hc hash0 ++ ([(.int .u64 (0)), (.int .u64 (0)), (.int .i64 (0)), (.slice none 0 0)] : List Value) ++ hc hash0 ++ ([(.bool false), (.bool false), (.map none)] : List Value))) (cs' := (([(.int .i64 (0)), (.int .i64 (0))] : List Value) ++ hc hash0 ++ ([(.int .u64 (0)), (.int .u64 (0)), (.int .i64 (0)), (.slice none 0 0)] : List Value) ++ hc hash0 ++ ([(.bool false), (.bool false), (.map none)] : List Value))) rfl H11 2 rfl rfl rfl rfl (by kernel_rfl) (Nat.le_of_ble_eq_true (by kernel_rfl)) (Nat.le_of_ble_eq_true (by kernel_rfl)) (by kernel_rfl) (by kernel_rfl) ?_
  intro w14 (H15 : Sat w [restC w (fun _ => False), cellC b2 43 (([(.int .i64 (j)), (v)] : List Value) ++ hc x), cellC b9 89 (([(.int .i64 (0)), (.int .i64 (0))] : List Value) ++ hc hash0 ++ ([(.int .u64 (0)), (.int .u64 (0)), (.int .i64 (0)), (.slice none 0 0)] : List Value) ++ hc hash0 ++ ([(.bool false), (.bool false), (.map none)] : List Value))] w14)
  have S17 := H15.pick [0, 1] (by decide)
  refine hK13 _ _ S17 ?_
  clear hK13 K13
  refine h_val 12 rfl (by kernel_rfl) (by kernel_rfl) (by kernel_rfl) (fun _ _ _ h => h) S17 (wants0 rfl) (d := 6) (v := (.bool false)) rfl (fun _ H' => (by kernel_rfl)) ?_
  refine h_fin (by kernel_rfl) ?_
  refine then_normal ?_
  refine w_seq ?_
  refine w_block ?_
  refine w_seq ?_
  refine w_lit ?_
  refine wl_pure (wants0 rfl) (d := 18) (v := (.bool false)) rfl (by kernel_rfl) ?_
  refine wl_pure (wants0 rfl) (d := 19) (v := (.bool true)) rfl (by kernel_rfl) ?_
  refine wl_pure (wants0 rfl) (d := 17) (v := (.bool true)) rfl (by kernel_rfl) ?_
  refine w_nil ?_
  refine then_normal ?_
  refine wp_ift rfl ?_
  refine w_seq ?_
  refine w_lit ?_
  refine wl_pure (wants0 rfl) (d := 4) (v := (.int .i64 (6))) rfl (by kernel_rfl) ?_
  refine w_nil ?_
  refine then_normal ?_
  refine w_ret ?_
  refine blk_ret ?_
  refine then_ret ?_
  refine end1 rfl (res_tmp (v := (.int .i64 (6))) rfl) ?_
  exact ⟨rfl, H15.upd 0 rfl [] (fun _ h => h.elim)⟩

set_option maxRecDepth 100000 in
set_option maxHeartbeats 400000 in
theorem revOpenO_any (w : World) (r mb : Nat) (F C rep : Int) (i : Int) (P : PlaceD) (hb : (cellC r 86 [.int .i64 F, .int .i64 C, .int .i64 rep, .map (some mb)]).ok w) (hm : MapAt w mb (Value.int .i64) encP [(i, P)]) (j : Int) (v : Value) (x : Hash) (hj : j ≠ i) :
    Calls Try.prog 14 #[(.pointer (some ⟨r, 0, none⟩)), (.agg ⟨(([(.int .i64 (j)), (v)] : List Value) ++ hc x)⟩)] w fun e w' => e = .returned (.int .i64 6) ∧ Upd [] w w' := by
  have H := Sat.start0 w
  refine calls_fr Try.func14 rfl 56 rfl (Nat.le_of_ble_eq_true rfl) ?_
  refine w_seq ?_
  refine w_lit ?_
  refine wl_do (wants0 rfl) (fun K1 hK1 => ?_)
  refine d_box (vs := (([(.int .i64 (j)), (v)] : List Value) ++ hc x)) rfl H rfl rfl ?_
  intro b2 w3 (H4 : Sat w [restC w (fun _ => False), cellC b2 43 (([(.int .i64 (j)), (v)] : List Value) ++ hc x)] w3)
  refine hK1 _ _ ?_
  clear hK1 K1
  refine wl_pure (wants0 rfl) (d := 4) (v := (.int .i64 (0))) rfl (by kernel_rfl) ?_
  refine w_nil ?_
  refine then_normal ?_
  refine w_seq ?_
  refine h_start H4 [restC w (fun _ => False), cellC b2 43 (([(.int .i64 (j)), (v)] : List Value) ++ hc x)] 13 rfl (by kernel_rfl) (fun Hx => (Hx.pick [0, 1] (by decide))) ?_
  intro w5 H6 S7
  refine h_val 0 rfl (by kernel_rfl) (by kernel_rfl) (by kernel_rfl) (fun _ _ _ h => h) S7 (wants0 rfl) (d := 8) (v := (.pointer (some ⟨r, 0, none⟩))) rfl (fun _ H' => (by kernel_rfl)) ?_
  refine h_val 1 rfl (by kernel_rfl) (by kernel_rfl) (by kernel_rfl) (fun _ _ _ h => h) S7 (wants0 rfl) (d := 9) (v := (.pointer (some ⟨r, 0, none⟩))) rfl (fun _ H' => (by kernel_rfl)) ?_
  refine h_val 2 rfl (by kernel_rfl) (by kernel_rfl) (by kernel_rfl) (fun _ _ _ h => h) S7 (wants0 rfl) (d := 10) (v := (.pointer (some ⟨r, 3, none⟩))) rfl (fun _ H' => (by kernel_rfl)) ?_
  refine h_val 3 rfl (by kernel_rfl) (by kernel_rfl) (by kernel_rfl) (fun _ _ _ h => h) S7 (wants0 rfl) (d := 11) (v := (.map (some mb))) rfl (fun _ H' => (e_load1 rfl (by kernel_rfl) (H'.roCell 0 rfl hb (fun h => h) rfl))) ?_
  refine h_val 4 rfl (by kernel_rfl) (by kernel_rfl) (by kernel_rfl) (fun _ _ _ h => h) S7 (wants0 rfl) (d := 12) (v := (.pointer (some ⟨b2, 0, none⟩))) rfl (fun _ H' => (by kernel_rfl)) ?_
  refine h_val 5 rfl (by kernel_rfl) (by kernel_rfl) (by kernel_rfl) (fun _ _ _ h => h) S7 (wants0 rfl) (d := 13) (v := (.int .i64 (j))) rfl (fun _ H' => (e_load1 rfl (by kernel_rfl) (H'.cell 1 rfl (by kernel_rfl)))) ?_
  refine h_val 6 rfl (by kernel_rfl) (by kernel_rfl) (by kernel_rfl) (fun _ _ _ h => h) S7 (wants0 rfl) (d := 14) (v := (.tuple #[(.agg ⟨(([(.int .i64 (0)), (.int .i64 (0))] : List Value) ++ hc hash0 ++ ([(.int .u64 (0)), (.int .u64 (0)), (.int .i64 (0)), (.slice none 0 0)] : List Value) ++ hc hash0 ++ ([(.bool false), (.bool false), (.map none)] : List Value))⟩), (.bool false)])) rfl (fun _ H' => (e_lookup2 (kt := 3) (et := 89) (KeyTy.int (by kernel_rfl)) (by kernel_rfl) zeroP rfl (j : Int) rfl (H'.roMap 0 rfl hm (fun h => h)) (by rw [look_other _ (by omega)]; rfl) (by rw [look_other _ (by omega)]; rfl))) ?_
  refine h_val 7 rfl (by kernel_rfl) (by kernel_rfl) (by kernel_rfl) (fun _ _ _ h => h) S7 (wants0 rfl) (d := 7) (v := (.tuple #[(.agg ⟨(([(.int .i64 (0)), (.int .i64 (0))] : List Value) ++ hc hash0 ++ ([(.int .u64 (0)), (.int .u64 (0)), (.int .i64 (0)), (.slice none 0 0)] : List Value) ++ hc hash0 ++ ([(.bool false), (.bool false), (.map none)] : List Value))⟩), (.bool false)])) rfl (fun _ H' => (by kernel_rfl)) ?_
  refine h_val 8 rfl (by kernel_rfl) (by kernel_rfl) (by kernel_rfl) (fun _ _ _ h => h) S7 (wants0 rfl) (d := 15) (v := (.agg ⟨(([(.int .i64 (0)), (.int .i64 (0))] : List Value) ++ hc hash0 ++ ([(.int .u64 (0)), (.int .u64 (0)), (.int .i64 (0)), (.slice none 0 0)] : List Value) ++ hc hash0 ++ ([(.bool false), (.bool false), (.map none)] : List Value))⟩)) rfl (fun _ H' => (by kernel_rfl)) ?_
  refine h_val 9 rfl (by kernel_rfl) (by kernel_rfl) (by kernel_rfl) (fun _ _ _ h => h) S7 (wants0 rfl) (d := 16) (v := (.bool false)) rfl (fun _ H' => (by kernel_rfl)) ?_
  refine h_do 10 rfl (by kernel_rfl) (wants0 rfl) (fun K8 hK8 => ?_)
  refine d_alloc (zs := (([(.int .i64 (0)), (.int .i64 (0))] : List Value) ++ hc hash0 ++ ([(.int .u64 (0)), (.int .u64 (0)), (.int .i64 (0)), (.slice none 0 0)] : List Value) ++ hc hash0 ++ ([(.bool false), (.bool false), ((Go.Value.map none))] : List Value))) (z := (.agg ⟨(([(.int .i64 (0)), (.int .i64 (0))] : List Value) ++ hc hash0 ++ ([(.int .u64 (0)), (.int .u64 (0)), (.int .i64 (0)), (.slice none 0 0)] : List Value) ++ hc hash0 ++ ([(.bool false), (.bool false), ((Go.Value.map none))] : List Value))⟩)) rfl H6 (by kernel_rfl) (by kernel_rfl) ?_
  intro b9 w10 (H11 : Sat w [restC w (fun _ => False), cellC b2 43 (([(.int .i64 (j)), (v)] : List Value) ++ hc x), cellC b9 89 (([(.int .i64 (0)), (.int .i64 (0))] : List Value) ++ hc hash0 ++ ([(.int .u64 (0)), (.int .u64 (0)), (.int .i64 (0)), (.slice none 0 0)] : List Value) ++ hc hash0 ++ ([(.bool false), (.bool false), ((Go.Value.map none))] : List Value))] w10)
  have S12 := H11.pick [0, 1] (by decide)
  refine hK8 _ _ S12 ?_
  clear hK8 K8
  refine h_do 11 rfl (by kernel_rfl) (wants0 rfl) (fun K13 hK13 => ?_)
  refine d_storeX (vs := (([(.int .i64 (0)), (.int .i64 (0))] : List Value) ++ hc hash0 ++ ([(.int .u64 (0)), (.int .u64 (0)), (.int .i64 (0)), (.slice none 0 0)] : List Value) ++ hc hash0 ++ ([(.bool false), (.bool false), (.map none)] : List Value))) (cs' := (([(.int .i64 (0)), (.int .i64 (0))] : List Value) ++ hc hash0 ++ ([(.int .u64 (0)), (.int .u64 (0)), (.int .i64 (0)), (.slice none 0 0)] : List Value) ++ hc hash0 ++ ([(.bool false), (.bool false), (.map none)] : List Value))) rfl H11 2 rfl rfl rfl rfl (by kernel_rfl) (Nat.le_of_ble_eq_true (by kernel_rfl)) (Nat.le_of_ble_eq_true (by kernel_rfl)) (by kernel_rfl) (by kernel_rfl) ?_
  intro w14 (H15 : Sat w [restC w (fun _ => False), cellC b2 43 (([(.int .i64 (j)), (v)] : List Value) ++ hc x), cellC b9 89 (([(.int .i64 (0)), (.int .i64 (0))] : List Value) ++ hc hash0 ++ ([(.int .u64 (0)), (.int .u64 (0)), (.int .i64 (0)), (.slice none 0 0)] : List Value) ++ hc hash0 ++ ([(.bool false), (.bool false), (.map none)] : List Value))] w14)
  have S17 := H15.pick [0, 1] (by decide)
  refine hK13 _ _ S17 ?_
  clear hK13 K13
  refine h_val 12 rfl (by kernel_rfl) (by kernel_rfl) (by kernel_rfl) (fun _ _ _ h => h) S17 (wants0 rfl) (d := 6) (v := (.bool false)) rfl (fun _ H' => (by kernel_rfl)) ?_
  refine h_fin (by kernel_rfl) ?_
  refine then_normal ?_
  refine w_seq ?_
  refine w_block ?_
  refine w_seq ?_
  refine w_lit ?_
  refine wl_pure (wants0 rfl) (d := 18) (v := (.bool false)) rfl (by kernel_rfl) ?_
  refine wl_pure (wants0 rfl) (d := 19) (v := (.bool true)) rfl (by kernel_rfl) ?_
  refine wl_pure (wants0 rfl) (d := 17) (v := (.bool true)) rfl (by kernel_rfl) ?_
  refine w_nil ?_
  refine then_normal ?_
  refine wp_ift rfl ?_
  refine w_seq ?_
  refine w_lit ?_
  refine wl_pure (wants0 rfl) (d := 4) (v := (.int .i64 (6))) rfl (by kernel_rfl) ?_
  refine w_nil ?_
  refine then_normal ?_
  refine w_ret ?_
  refine blk_ret ?_
  refine then_ret ?_
  refine end1 rfl (res_tmp (v := (.int .i64 (6))) rfl) ?_
  exact ⟨rfl, H15.upd 0 rfl [] (fun _ h => h.elim)⟩

set_option maxRecDepth 100000 in
set_option maxHeartbeats 400000 in
theorem revAcked_any (w : World) (r mb : Nat) (F C rep : Int) (i : Int) (P : PlaceD) (hb : (cellC r 86 [.int .i64 F, .int .i64 C, .int .i64 rep, .map (some mb)]).ok w) (hm : MapAt w mb (Value.int .i64) encP [(i, P)]) :
    Calls Try.prog 15 #[(.pointer (some ⟨r, 0, none⟩)), (.int .i64 (i))] w fun e w' => e = .returned (.bool P.acked) ∧ Upd [] w w' := by
  have H := Sat.start0 w
  refine calls_fr Try.func15 rfl 12 rfl (Nat.le_of_ble_eq_true rfl) ?_
  refine w_seq ?_
  refine w_lit ?_
  refine wl_pure (wants0 rfl) (d := 4) (v := (.bool false)) rfl (by kernel_rfl) ?_
  refine w_nil ?_
  refine then_normal ?_
  refine w_seq ?_
  refine w_lit ?_
  refine wl_pure (wants0 rfl) (d := 5) (v := (.pointer (some ⟨r, 0, none⟩))) rfl (by kernel_rfl) ?_
  refine wl_pure (wants0 rfl) (d := 6) (v := (.pointer (some ⟨r, 0, none⟩))) rfl (by kernel_rfl) ?_
  refine wl_pure (wants0 rfl) (d := 7) (v := (.pointer (some ⟨r, 3, none⟩))) rfl (by kernel_rfl) ?_
  refine wl_pure (wants0 rfl) (d := 8) (v := (.map (some mb))) rfl (e_load1 rfl (by kernel_rfl) (H.roCell 0 rfl hb (fun h => h) rfl)) ?_
  refine wl_pure (wants0 rfl) (d := 9) (v := (.int .i64 (i))) rfl (by kernel_rfl) ?_
  refine wl_pure (wants0 rfl) (d := 10) (v := (.agg ⟨(([(.int .i64 (P.n1)), (.int .i64 (P.n2))] : List Value) ++ hc P.h ++ ([(.int .u64 (P.t)), (.int .u64 (P.since)), (.int .i64 (P.oi)), (.slice P.oa P.ol P.oc)] : List Value) ++ hc P.on ++ ([(.bool (P.acked)), (.bool (P.denied)), (.map P.dm)] : List Value))⟩)) rfl (e_lookup (kt := 3) (et := 89) (KeyTy.int (by kernel_rfl)) (by kernel_rfl) zeroP rfl (i : Int) rfl (H.roMap 0 rfl hm (fun h => h)) (by rw [look_one]; rfl)) ?_
  refine wl_pure (wants0 rfl) (d := 11) (v := (.bool (P.acked))) rfl (by kernel_rfl) ?_
  refine wl_pure (wants0 rfl) (d := 4) (v := (.bool (P.acked))) rfl (by kernel_rfl) ?_
  refine w_nil ?_
  refine then_normal ?_
  refine w_ret ?_
  refine end1 rfl (res_tmp (v := (.bool (P.acked))) rfl) ?_
  exact ⟨rfl, H.upd 0 rfl [] (fun _ h => h.elim)⟩

end Go.Proofs.Ytoiplcicbjimlaa
