/- WHAT IS PROVED: the contracts of small functions. Conditions: stated with each. -/
import Derived.Test.YthjmbhneifjeeaaShort
import Derived.Test.YthjmbhneifjeeaaSep
import Derived.Test.YthjmbhneifjeeaaHash
namespace Go.Proofs.Ythjmbhneifjeeaa
open Go.RowKit
def withinV (v n : Int) : Int := if n < 1 then 0 else v % n
theorem within_lim (v n : Int) (h : 1 ≤ n) : 0 ≤ withinV v n ∧ withinV v n < n := by
 unfold withinV; rw [if_neg (by omega)]
 exact ⟨Int.emod_nonneg _ (by omega), Int.emod_lt_of_pos _ (by omega)⟩
def inB (f r : Int) : Bool := decide (0 ≤ r) && decide (r < 3 * f + 1)
def confB (f c : Int) : Bool := decide (1 ≤ f) && decide (f ≤ 21) && decide (1 ≤ c) && decide (c ≤ 100)
theorem optD {α : Type} (enc : α → Value) (o : Option α) (z : α) : (o.map enc).getD (enc z) = enc (o.getD z) := by cases o <;> rfl

set_option maxRecDepth 100000 in
set_option maxHeartbeats 400000 in
theorem wireN_any (w : World) (f c : Int) (hf : -1000000 ≤ f ∧ f ≤ 1000000) :
  Calls Try.prog 38 #[(.agg ⟨([(.int .i64 (f)), (.int .i64 (c))] : List Value)⟩)] w fun e w' => e = .returned (.int .i64 (3 * f + 1)) ∧ Upd [] w w' := by
 have H := Sat.start0 w
 refine calls_fr Try.func38 rfl 7 rfl (Nat.le_of_ble_eq_true rfl) ?_
 refine w_seq ?_
 refine w_lit ?_
 refine wl_do (wants0 rfl) (fun K1 hK1 => ?_)
 refine d_box (vs := ([(.int .i64 (f)), (.int .i64 (c))] : List Value)) rfl H rfl rfl ?_
 intro b2 w3 (H4 : Sat w [restC w (fun _ => False), cellC b2 25 ([(.int .i64 (f)), (.int .i64 (c))] : List Value)] w3)
 refine hK1 _ _ ?_
 clear hK1 K1
 refine wv 2 (.int .i64 (0)) ?_
 refine w_nil ?_
 refine then_normal ?_
 refine w_seq ?_
 refine w_lit ?_
 refine wv 3 (pt b2 0) ?_
 refine wv 4 (.int .i64 (f)) ?_ (hr := e_load1 rfl (by kernel_rfl) (H4.cell 1 rfl rfl))
 refine wv 5 (.int .i64 (3 * f)) ?_ (hr := e_int (z := 3 * f) (by kernel_rfl) (IntWalk.i64_in _ (by omega)))
 refine wv 6 (.int .i64 ((3 * f) + 1)) ?_ (hr := e_int (z := (3 * f) + 1) (by kernel_rfl) (IntWalk.i64_in _ (by omega)))
 refine wv 2 (.int .i64 ((3 * f) + 1)) ?_
 refine w_nil ?_
 refine then_normal ?_
 refine w_ret ?_
 refine end1 rfl (res_tmp (v := (.int .i64 ((3 * f) + 1))) rfl) ?_
 exact ⟨rfl, H4.upd 0 rfl [] (fun _ h => h.elim)⟩

set_option maxRecDepth 100000 in
set_option maxHeartbeats 400000 in
theorem refN_any (w : World) (f c : Int) (hf : -1000000 ≤ f ∧ f ≤ 1000000) :
  Calls Try.prog 14 #[(.agg ⟨([(.int .i64 (f)), (.int .i64 (c))] : List Value)⟩)] w fun e w' => e = .returned (.int .i64 (3 * f + 1)) ∧ Upd [] w w' := by
 have H := Sat.start0 w
 refine calls_fr Try.func14 rfl 7 rfl (Nat.le_of_ble_eq_true rfl) ?_
 refine w_seq ?_
 refine w_lit ?_
 refine wl_do (wants0 rfl) (fun K1 hK1 => ?_)
 refine d_box (vs := ([(.int .i64 (f)), (.int .i64 (c))] : List Value)) rfl H rfl rfl ?_
 intro b2 w3 (H4 : Sat w [restC w (fun _ => False), cellC b2 25 ([(.int .i64 (f)), (.int .i64 (c))] : List Value)] w3)
 refine hK1 _ _ ?_
 clear hK1 K1
 refine wv 2 (.int .i64 (0)) ?_
 refine w_nil ?_
 refine then_normal ?_
 refine w_seq ?_
 refine w_lit ?_
 refine wv 3 (pt b2 0) ?_
 refine wv 4 (.int .i64 (f)) ?_ (hr := e_load1 rfl (by kernel_rfl) (H4.cell 1 rfl rfl))
 refine wv 5 (.int .i64 (3 * f)) ?_ (hr := e_int (z := 3 * f) (by kernel_rfl) (IntWalk.i64_in _ (by omega)))
 refine wv 6 (.int .i64 ((3 * f) + 1)) ?_ (hr := e_int (z := (3 * f) + 1) (by kernel_rfl) (IntWalk.i64_in _ (by omega)))
 refine wv 2 (.int .i64 ((3 * f) + 1)) ?_
 refine w_nil ?_
 refine then_normal ?_
 refine w_ret ?_
 refine end1 rfl (res_tmp (v := (.int .i64 ((3 * f) + 1))) rfl) ?_
 exact ⟨rfl, H4.upd 0 rfl [] (fun _ h => h.elim)⟩

set_option maxRecDepth 100000 in
set_option maxHeartbeats 400000 in
theorem refQuorum_any (w : World) (f c : Int) (hf : -1000000 ≤ f ∧ f ≤ 1000000) :
  Calls Try.prog 20 #[(.agg ⟨([(.int .i64 (f)), (.int .i64 (c))] : List Value)⟩)] w fun e w' => e = .returned (.int .i64 (2 * f + 1)) ∧ Upd [] w w' := by
 have H := Sat.start0 w
 refine calls_fr Try.func20 rfl 7 rfl (Nat.le_of_ble_eq_true rfl) ?_
 refine w_seq ?_
 refine w_lit ?_
 refine wl_do (wants0 rfl) (fun K1 hK1 => ?_)
 refine d_box (vs := ([(.int .i64 (f)), (.int .i64 (c))] : List Value)) rfl H rfl rfl ?_
 intro b2 w3 (H4 : Sat w [restC w (fun _ => False), cellC b2 25 ([(.int .i64 (f)), (.int .i64 (c))] : List Value)] w3)
 refine hK1 _ _ ?_
 clear hK1 K1
 refine wv 2 (.int .i64 (0)) ?_
 refine w_nil ?_
 refine then_normal ?_
 refine w_seq ?_
 refine w_lit ?_
 refine wv 3 (pt b2 0) ?_
 refine wv 4 (.int .i64 (f)) ?_ (hr := e_load1 rfl (by kernel_rfl) (H4.cell 1 rfl rfl))
 refine wv 5 (.int .i64 (2 * f)) ?_ (hr := e_int (z := 2 * f) (by kernel_rfl) (IntWalk.i64_in _ (by omega)))
 refine wv 6 (.int .i64 ((2 * f) + 1)) ?_ (hr := e_int (z := (2 * f) + 1) (by kernel_rfl) (IntWalk.i64_in _ (by omega)))
 refine wv 2 (.int .i64 ((2 * f) + 1)) ?_
 refine w_nil ?_
 refine then_normal ?_
 refine w_ret ?_
 refine end1 rfl (res_tmp (v := (.int .i64 ((2 * f) + 1))) rfl) ?_
 exact ⟨rfl, H4.upd 0 rfl [] (fun _ h => h.elim)⟩

set_option maxRecDepth 100000 in
set_option maxHeartbeats 400000 in
theorem within_any (w : World) (v n : Int) (hn : n ≤ 4611686018427387904) :
  Calls Try.prog 13 #[(.int .i64 (v)), (.int .i64 (n))] w fun e w' => e = .returned (.int .i64 (withinV v n)) ∧ Upd [] w w' := by
 have H := Sat.start0 w
 refine calls_fr Try.func13 rfl 17 rfl (Nat.le_of_ble_eq_true rfl) ?_
 refine w_seq ?_
 refine w_lit ?_
 refine wv 4 (.int .i64 (0)) ?_
 refine w_nil ?_
 refine then_normal ?_
 iterate 2 refine w_seq ?_
 refine w_lit ?_
 refine wv 6 (.int .i64 (n)) ?_
 refine wv 7 (.bool (decide (n < 1))) ?_
 refine w_nil ?_
 refine then_normal ?_
 refine (bsplit (decide (n < 1))).elim (fun b1 => ?_) (fun b1 => ?_)
 ·have g2 := of_decide_eq_true b1
  refine wp_know 7 (.bool true) (congrArg Value.bool b1) ?_
  refine wp_ift rfl ?_
  refine w_seq ?_
  refine w_lit ?_
  refine wv 4 (.int .i64 (0)) ?_
  refine w_nil ?_
  refine then_normal ?_
  refine w_ret ?_
  refine then_ret ?_
  refine end1 rfl (res_tmp (v := (.int .i64 (0))) rfl) ?_
  exact ⟨by unfold withinV; rw [if_pos (of_decide_eq_true b1)], H.upd 0 rfl [] (fun _ h => h.elim)⟩
 ·have g3 := of_decide_eq_false b1
  refine wp_know 7 (.bool false) (congrArg Value.bool b1) ?_
  refine wp_iff rfl ?_
  refine w_skip ?_
  refine then_normal ?_
  refine w_seq ?_
  refine w_lit ?_
  refine wv 8 (.int .i64 (v)) ?_
  refine wv 9 (.int .i64 (n)) ?_
  refine wv 10 (.int .i64 (Int.tmod v n)) ?_ (hr := e_tmod (by kernel_rfl) (by omega))
  refine wv 5 (.int .i64 (Int.tmod v n)) ?_
  refine w_nil ?_
  refine then_normal ?_
  iterate 2 refine w_seq ?_
  refine w_lit ?_
  refine wv 11 (.int .i64 (Int.tmod v n)) ?_
  refine wv 12 (.bool (decide ((Int.tmod v n) < 0))) ?_
  refine w_nil ?_
  refine then_normal ?_
  refine (bsplit (decide ((Int.tmod v n) < 0))).elim (fun b4 => ?_) (fun b4 => ?_)
  ·have g5 := of_decide_eq_true b4
   refine wp_know 12 (.bool true) (congrArg Value.bool b4) ?_
   refine wp_ift rfl ?_
   refine w_lit ?_
   refine wv 13 (.int .i64 (Int.tmod v n)) ?_
   refine wv 14 (.int .i64 (n)) ?_
   refine wv 15 (.int .i64 ((Int.tmod v n) + n)) ?_ (hr := e_int (z := (Int.tmod v n) + n) (by kernel_rfl) (IntWalk.i64_in _ (by have := tmod_lim v n (by omega); omega)))
   refine wv 5 (.int .i64 ((Int.tmod v n) + n)) ?_
   refine w_nil ?_
   refine then_normal ?_
   refine w_seq ?_
   refine w_lit ?_
   refine wv 16 (.int .i64 ((Int.tmod v n) + n)) ?_
   refine wv 4 (.int .i64 ((Int.tmod v n) + n)) ?_
   refine w_nil ?_
   refine then_normal ?_
   refine w_ret ?_
   refine end1 rfl (res_tmp (v := (.int .i64 ((Int.tmod v n) + n))) rfl) ?_
   exact ⟨by unfold withinV; rw [if_neg (of_decide_eq_false b1), tmod_emod v n (by have := of_decide_eq_false b1; omega), if_pos (of_decide_eq_true b4)], H.upd 0 rfl [] (fun _ h => h.elim)⟩
  ·have g6 := of_decide_eq_false b4
   refine wp_know 12 (.bool false) (congrArg Value.bool b4) ?_
   refine wp_iff rfl ?_
   refine w_skip ?_
   refine then_normal ?_
   refine w_seq ?_
   refine w_lit ?_
   refine wv 16 (.int .i64 (Int.tmod v n)) ?_
   refine wv 4 (.int .i64 (Int.tmod v n)) ?_
   refine w_nil ?_
   refine then_normal ?_
   refine w_ret ?_
   refine end1 rfl (res_tmp (v := (.int .i64 (Int.tmod v n))) rfl) ?_
   exact ⟨by unfold withinV; rw [if_neg (of_decide_eq_false b1), tmod_emod v n (by have := of_decide_eq_false b1; omega), if_neg (of_decide_eq_false b4)], H.upd 0 rfl [] (fun _ h => h.elim)⟩

set_option maxRecDepth 100000 in
set_option maxHeartbeats 400000 in
theorem wireIn_any (w : World) (f c r : Int) (hf : -1000000 ≤ f ∧ f ≤ 1000000) :
  Calls Try.prog 33 #[(.agg ⟨([(.int .i64 (f)), (.int .i64 (c))] : List Value)⟩), (.int .i64 (r))] w fun e w' => e = .returned (.bool (inB f r)) ∧ Upd [] w w' := by
 have H := Sat.start0 w
 refine calls_fr Try.func33 rfl 13 rfl (Nat.le_of_ble_eq_true rfl) ?_
 refine w_seq ?_
 refine w_lit ?_
 refine wl_do (wants0 rfl) (fun K1 hK1 => ?_)
 refine d_box (vs := ([(.int .i64 (f)), (.int .i64 (c))] : List Value)) rfl H rfl rfl ?_
 intro b2 w3 (H4 : Sat w [restC w (fun _ => False), cellC b2 25 ([(.int .i64 (f)), (.int .i64 (c))] : List Value)] w3)
 refine hK1 _ _ ?_
 clear hK1 K1
 refine wv 4 (.bool false) ?_
 refine w_nil ?_
 refine then_normal ?_
 refine wp_meetR [4, 5, 6, 7, 8, 9, 10, 11, 12] (fun G_ W_ => G_ 4 = (.bool (inB f r)) ∧ Sat w [restC w (fun _ => False), cellC b2 25 ([(.int .i64 (f)), (.int .i64 (c))] : List Value)] W_) ?_ ?_
 ·refine w_lit ?_
  refine wv 5 (.int .i64 (r)) ?_
  refine wv 6 (.bool (decide (r ≥ 0))) ?_
  refine wv 7 (.bool (decide (r ≥ 0))) ?_
  refine (bsplit (decide (r ≥ 0))).elim (fun b6 => ?_) (fun b6 => ?_)
  ·have g7 := of_decide_eq_true b6
   refine wl_know 7 (.bool true) (congrArg Value.bool b6) ?_
   refine wy 2 7 true 8 (.int .i64 (r)) ?_
   refine wy 2 7 true 9 (.agg ⟨([(.int .i64 (f)), (.int .i64 (c))] : List Value)⟩) ?_ (hr := e_loadN (vs := ([(.int .i64 (f)), (.int .i64 (c))] : List Value)) rfl (by kernel_rfl) (by kernel_rfl) (by exact Nat.le_of_ble_eq_true (by kernel_rfl)) (H4.at 1 rfl) (by kernel_rfl))
   refine wl_do (wantsY 2 7 true rfl (by kernel_rfl) rfl (by kernel_rfl)) (fun K8 hK8 => ?_)
   refine d_call (d := 10) rfl (by kernel_rfl) (wireN_any w3 f c (by omega)) ?_
   rintro _ w9 ⟨rfl, u11⟩
   have H10 := H4.keepU u11
   refine ⟨_, rfl, ?_⟩
   refine hK8 _ _ ?_
   clear hK8 K8
   refine wy 2 7 true 11 (.bool (decide (r < (3 * f + 1)))) ?_
   refine wv 12 (.bool (decide (r < (3 * f + 1)))) ?_
   refine wv 4 (.bool (decide (r < (3 * f + 1)))) ?_
   refine w_nil ?_
   refine meetR_at ?_ ⟨(congrArg Value.bool (show (decide (r < (3 * f + 1))) = (inB f r) by simp [inB, b6])), H10⟩
   exact (same_upd rfl (same_upd rfl (same_upd rfl (same_upd rfl (same_upd rfl (same_upd rfl (same_upd rfl (same_upd rfl (same_upd rfl (same_upd rfl (same_refl)))))))))))
  ·have g12 := of_decide_eq_false b6
   refine wl_know 7 (.bool false) (congrArg Value.bool b6) ?_
   iterate 4 refine wn 2 7 true ?_
   refine wv 12 (.bool false) ?_
   refine wv 4 (.bool false) ?_
   refine w_nil ?_
   refine meetR_at ?_ ⟨(congrArg Value.bool (show false = (inB f r) by simp [inB, b6])), H4⟩
   exact (same_upd rfl (same_upd rfl (same_upd rfl (same_upd rfl (same_upd rfl (same_upd rfl (same_upd rfl (same_upd rfl (same_upd rfl (same_upd rfl (same_refl)))))))))))
 ·rintro f13 w14 ⟨v16, H15⟩
  refine wp_know 4 _ v16 ?_
  refine w_ret ?_
  refine end1 rfl (res_tmp (v := (.bool (inB f r))) rfl) ?_
  exact ⟨rfl, H15.upd 0 rfl [] (fun _ h => h.elim)⟩

set_option maxRecDepth 100000 in
set_option maxHeartbeats 400000 in
theorem validConf_any (w : World) (f c : Int) :
  Calls Try.prog 32 #[(.agg ⟨([(.int .i64 (f)), (.int .i64 (c))] : List Value)⟩)] w fun e w' => e = .returned (.bool (confB f c)) ∧ Upd [] w w' := by
 have H := Sat.start0 w
 refine calls_fr Try.func32 rfl 21 rfl (Nat.le_of_ble_eq_true rfl) ?_
 refine w_seq ?_
 refine w_lit ?_
 refine wl_do (wants0 rfl) (fun K1 hK1 => ?_)
 refine d_box (vs := ([(.int .i64 (f)), (.int .i64 (c))] : List Value)) rfl H rfl rfl ?_
 intro b2 w3 (H4 : Sat w [restC w (fun _ => False), cellC b2 25 ([(.int .i64 (f)), (.int .i64 (c))] : List Value)] w3)
 refine hK1 _ _ ?_
 clear hK1 K1
 refine wv 2 (.bool false) ?_
 refine w_nil ?_
 refine then_normal ?_
 refine wp_meetR [2, 3, 4, 5, 6, 7, 8, 9, 10, 11, 12, 13, 14, 15, 16, 17, 18, 19, 20] (fun G_ W_ => G_ 2 = (.bool (confB f c)) ∧ Sat w [restC w (fun _ => False), cellC b2 25 ([(.int .i64 (f)), (.int .i64 (c))] : List Value)] W_) ?_ ?_
 ·refine w_lit ?_
  refine wv 3 (pt b2 0) ?_
  refine wv 4 (.int .i64 (f)) ?_ (hr := e_load1 rfl (by kernel_rfl) (H4.cell 1 rfl rfl))
  refine wv 5 (.bool (decide (f ≥ 1))) ?_
  refine wv 6 (.bool (decide (f ≥ 1))) ?_
  refine (bsplit (decide (f ≥ 1))).elim (fun b6 => ?_) (fun b6 => ?_)
  ·have g7 := of_decide_eq_true b6
   refine wl_know 6 (.bool true) (congrArg Value.bool b6) ?_
   refine wy 3 6 true 7 (pt b2 0) ?_
   refine wy 3 6 true 8 (.int .i64 (f)) ?_ (hr := e_load1 rfl (by kernel_rfl) (H4.cell 1 rfl rfl))
   refine wy 3 6 true 9 (.bool (decide (f ≤ 21))) ?_
   refine wv 10 (.bool (decide (f ≤ 21))) ?_
   refine wv 11 (.bool (decide (f ≤ 21))) ?_
   refine (bsplit (decide (f ≤ 21))).elim (fun b8 => ?_) (fun b8 => ?_)
   ·have g9 := of_decide_eq_true b8
    refine wl_know 11 (.bool true) (congrArg Value.bool b8) ?_
    refine wy 8 11 true 12 (pt b2 1) ?_
    refine wy 8 11 true 13 (.int .i64 (c)) ?_ (hr := e_load1 rfl (by kernel_rfl) (H4.cell 1 rfl rfl))
    refine wy 8 11 true 14 (.bool (decide (c ≥ 1))) ?_
    refine wv 15 (.bool (decide (c ≥ 1))) ?_
    refine wv 16 (.bool (decide (c ≥ 1))) ?_
    refine (bsplit (decide (c ≥ 1))).elim (fun b10 => ?_) (fun b10 => ?_)
    ·have g11 := of_decide_eq_true b10
     refine wl_know 16 (.bool true) (congrArg Value.bool b10) ?_
     refine wy 13 16 true 17 (pt b2 1) ?_
     refine wy 13 16 true 18 (.int .i64 (c)) ?_ (hr := e_load1 rfl (by kernel_rfl) (H4.cell 1 rfl rfl))
     refine wy 13 16 true 19 (.bool (decide (c ≤ 100))) ?_
     refine wv 20 (.bool (decide (c ≤ 100))) ?_
     refine wv 2 (.bool (decide (c ≤ 100))) ?_
     refine w_nil ?_
     refine meetR_at ?_ ⟨(congrArg Value.bool (show (decide (c ≤ 100)) = (confB f c) by simp [confB, b6, b8, b10])), H4⟩
     exact (same_upd rfl (same_upd rfl (same_upd rfl (same_upd rfl (same_upd rfl (same_upd rfl (same_upd rfl (same_upd rfl (same_upd rfl (same_upd rfl (same_upd rfl (same_upd rfl (same_upd rfl (same_upd rfl (same_upd rfl (same_upd rfl (same_upd rfl (same_upd rfl (same_upd rfl (same_upd rfl (same_upd rfl (same_upd rfl (same_refl)))))))))))))))))))))))
    ·have g12 := of_decide_eq_false b10
     refine wl_know 16 (.bool false) (congrArg Value.bool b10) ?_
     iterate 3 refine wn 13 16 true ?_
     refine wv 20 (.bool false) ?_
     refine wv 2 (.bool false) ?_
     refine w_nil ?_
     refine meetR_at ?_ ⟨(congrArg Value.bool (show false = (confB f c) by simp [confB, b6, b8, b10])), H4⟩
     exact (same_upd rfl (same_upd rfl (same_upd rfl (same_upd rfl (same_upd rfl (same_upd rfl (same_upd rfl (same_upd rfl (same_upd rfl (same_upd rfl (same_upd rfl (same_upd rfl (same_upd rfl (same_upd rfl (same_upd rfl (same_upd rfl (same_upd rfl (same_upd rfl (same_upd rfl (same_upd rfl (same_upd rfl (same_upd rfl (same_refl)))))))))))))))))))))))
   ·have g13 := of_decide_eq_false b8
    refine wl_know 11 (.bool false) (congrArg Value.bool b8) ?_
    iterate 3 refine wn 8 11 true ?_
    refine wv 15 (.bool false) ?_
    refine wv 16 (.bool false) ?_
    iterate 3 refine wn 13 16 true ?_
    refine wv 20 (.bool false) ?_
    refine wv 2 (.bool false) ?_
    refine w_nil ?_
    refine meetR_at ?_ ⟨(congrArg Value.bool (show false = (confB f c) by simp [confB, b6, b8])), H4⟩
    exact (same_upd rfl (same_upd rfl (same_upd rfl (same_upd rfl (same_upd rfl (same_upd rfl (same_upd rfl (same_upd rfl (same_upd rfl (same_upd rfl (same_upd rfl (same_upd rfl (same_upd rfl (same_upd rfl (same_upd rfl (same_upd rfl (same_upd rfl (same_upd rfl (same_upd rfl (same_upd rfl (same_upd rfl (same_refl))))))))))))))))))))))
  ·have g14 := of_decide_eq_false b6
   refine wl_know 6 (.bool false) (congrArg Value.bool b6) ?_
   iterate 3 refine wn 3 6 true ?_
   refine wv 10 (.bool false) ?_
   refine wv 11 (.bool false) ?_
   iterate 3 refine wn 8 11 true ?_
   refine wv 15 (.bool false) ?_
   refine wv 16 (.bool false) ?_
   iterate 3 refine wn 13 16 true ?_
   refine wv 20 (.bool false) ?_
   refine wv 2 (.bool false) ?_
   refine w_nil ?_
   refine meetR_at ?_ ⟨(congrArg Value.bool (show false = (confB f c) by simp [confB, b6])), H4⟩
   exact (same_upd rfl (same_upd rfl (same_upd rfl (same_upd rfl (same_upd rfl (same_upd rfl (same_upd rfl (same_upd rfl (same_upd rfl (same_upd rfl (same_upd rfl (same_upd rfl (same_upd rfl (same_upd rfl (same_upd rfl (same_upd rfl (same_upd rfl (same_upd rfl (same_upd rfl (same_upd rfl (same_refl)))))))))))))))))))))
 ·rintro f15 w16 ⟨v18, H17⟩
  refine wp_know 2 _ v18 ?_
  refine w_ret ?_
  refine end1 rfl (res_tmp (v := (.bool (confB f c))) rfl) ?_
  exact ⟨rfl, H17.upd 0 rfl [] (fun _ h => h.elim)⟩

set_option maxRecDepth 100000 in
set_option maxHeartbeats 400000 in
theorem refValidConf_any (w : World) (f c : Int) :
  Calls Try.prog 41 #[(.agg ⟨([(.int .i64 (f)), (.int .i64 (c))] : List Value)⟩)] w fun e w' => e = .returned (.bool (confB f c)) ∧ Upd [] w w' := by
 have H := Sat.start0 w
 refine calls_fr Try.func41 rfl 21 rfl (Nat.le_of_ble_eq_true rfl) ?_
 refine w_seq ?_
 refine w_lit ?_
 refine wl_do (wants0 rfl) (fun K1 hK1 => ?_)
 refine d_box (vs := ([(.int .i64 (f)), (.int .i64 (c))] : List Value)) rfl H rfl rfl ?_
 intro b2 w3 (H4 : Sat w [restC w (fun _ => False), cellC b2 25 ([(.int .i64 (f)), (.int .i64 (c))] : List Value)] w3)
 refine hK1 _ _ ?_
 clear hK1 K1
 refine wv 2 (.bool false) ?_
 refine w_nil ?_
 refine then_normal ?_
 refine wp_meetR [2, 3, 4, 5, 6, 7, 8, 9, 10, 11, 12, 13, 14, 15, 16, 17, 18, 19, 20] (fun G_ W_ => G_ 2 = (.bool (confB f c)) ∧ Sat w [restC w (fun _ => False), cellC b2 25 ([(.int .i64 (f)), (.int .i64 (c))] : List Value)] W_) ?_ ?_
 ·refine w_lit ?_
  refine wv 3 (pt b2 0) ?_
  refine wv 4 (.int .i64 (f)) ?_ (hr := e_load1 rfl (by kernel_rfl) (H4.cell 1 rfl rfl))
  refine wv 5 (.bool (decide (f ≥ 1))) ?_
  refine wv 6 (.bool (decide (f ≥ 1))) ?_
  refine (bsplit (decide (f ≥ 1))).elim (fun b6 => ?_) (fun b6 => ?_)
  ·have g7 := of_decide_eq_true b6
   refine wl_know 6 (.bool true) (congrArg Value.bool b6) ?_
   refine wy 3 6 true 7 (pt b2 0) ?_
   refine wy 3 6 true 8 (.int .i64 (f)) ?_ (hr := e_load1 rfl (by kernel_rfl) (H4.cell 1 rfl rfl))
   refine wy 3 6 true 9 (.bool (decide (f ≤ 21))) ?_
   refine wv 10 (.bool (decide (f ≤ 21))) ?_
   refine wv 11 (.bool (decide (f ≤ 21))) ?_
   refine (bsplit (decide (f ≤ 21))).elim (fun b8 => ?_) (fun b8 => ?_)
   ·have g9 := of_decide_eq_true b8
    refine wl_know 11 (.bool true) (congrArg Value.bool b8) ?_
    refine wy 8 11 true 12 (pt b2 1) ?_
    refine wy 8 11 true 13 (.int .i64 (c)) ?_ (hr := e_load1 rfl (by kernel_rfl) (H4.cell 1 rfl rfl))
    refine wy 8 11 true 14 (.bool (decide (c ≥ 1))) ?_
    refine wv 15 (.bool (decide (c ≥ 1))) ?_
    refine wv 16 (.bool (decide (c ≥ 1))) ?_
    refine (bsplit (decide (c ≥ 1))).elim (fun b10 => ?_) (fun b10 => ?_)
    ·have g11 := of_decide_eq_true b10
     refine wl_know 16 (.bool true) (congrArg Value.bool b10) ?_
     refine wy 13 16 true 17 (pt b2 1) ?_
     refine wy 13 16 true 18 (.int .i64 (c)) ?_ (hr := e_load1 rfl (by kernel_rfl) (H4.cell 1 rfl rfl))
     refine wy 13 16 true 19 (.bool (decide (c ≤ 100))) ?_
     refine wv 20 (.bool (decide (c ≤ 100))) ?_
     refine wv 2 (.bool (decide (c ≤ 100))) ?_
     refine w_nil ?_
     refine meetR_at ?_ ⟨(congrArg Value.bool (show (decide (c ≤ 100)) = (confB f c) by simp [confB, b6, b8, b10])), H4⟩
     exact (same_upd rfl (same_upd rfl (same_upd rfl (same_upd rfl (same_upd rfl (same_upd rfl (same_upd rfl (same_upd rfl (same_upd rfl (same_upd rfl (same_upd rfl (same_upd rfl (same_upd rfl (same_upd rfl (same_upd rfl (same_upd rfl (same_upd rfl (same_upd rfl (same_upd rfl (same_upd rfl (same_upd rfl (same_upd rfl (same_refl)))))))))))))))))))))))
    ·have g12 := of_decide_eq_false b10
     refine wl_know 16 (.bool false) (congrArg Value.bool b10) ?_
     iterate 3 refine wn 13 16 true ?_
     refine wv 20 (.bool false) ?_
     refine wv 2 (.bool false) ?_
     refine w_nil ?_
     refine meetR_at ?_ ⟨(congrArg Value.bool (show false = (confB f c) by simp [confB, b6, b8, b10])), H4⟩
     exact (same_upd rfl (same_upd rfl (same_upd rfl (same_upd rfl (same_upd rfl (same_upd rfl (same_upd rfl (same_upd rfl (same_upd rfl (same_upd rfl (same_upd rfl (same_upd rfl (same_upd rfl (same_upd rfl (same_upd rfl (same_upd rfl (same_upd rfl (same_upd rfl (same_upd rfl (same_upd rfl (same_upd rfl (same_upd rfl (same_refl)))))))))))))))))))))))
   ·have g13 := of_decide_eq_false b8
    refine wl_know 11 (.bool false) (congrArg Value.bool b8) ?_
    iterate 3 refine wn 8 11 true ?_
    refine wv 15 (.bool false) ?_
    refine wv 16 (.bool false) ?_
    iterate 3 refine wn 13 16 true ?_
    refine wv 20 (.bool false) ?_
    refine wv 2 (.bool false) ?_
    refine w_nil ?_
    refine meetR_at ?_ ⟨(congrArg Value.bool (show false = (confB f c) by simp [confB, b6, b8])), H4⟩
    exact (same_upd rfl (same_upd rfl (same_upd rfl (same_upd rfl (same_upd rfl (same_upd rfl (same_upd rfl (same_upd rfl (same_upd rfl (same_upd rfl (same_upd rfl (same_upd rfl (same_upd rfl (same_upd rfl (same_upd rfl (same_upd rfl (same_upd rfl (same_upd rfl (same_upd rfl (same_upd rfl (same_upd rfl (same_refl))))))))))))))))))))))
  ·have g14 := of_decide_eq_false b6
   refine wl_know 6 (.bool false) (congrArg Value.bool b6) ?_
   iterate 3 refine wn 3 6 true ?_
   refine wv 10 (.bool false) ?_
   refine wv 11 (.bool false) ?_
   iterate 3 refine wn 8 11 true ?_
   refine wv 15 (.bool false) ?_
   refine wv 16 (.bool false) ?_
   iterate 3 refine wn 13 16 true ?_
   refine wv 20 (.bool false) ?_
   refine wv 2 (.bool false) ?_
   refine w_nil ?_
   refine meetR_at ?_ ⟨(congrArg Value.bool (show false = (confB f c) by simp [confB, b6])), H4⟩
   exact (same_upd rfl (same_upd rfl (same_upd rfl (same_upd rfl (same_upd rfl (same_upd rfl (same_upd rfl (same_upd rfl (same_upd rfl (same_upd rfl (same_upd rfl (same_upd rfl (same_upd rfl (same_upd rfl (same_upd rfl (same_upd rfl (same_upd rfl (same_upd rfl (same_upd rfl (same_upd rfl (same_refl)))))))))))))))))))))
 ·rintro f15 w16 ⟨v18, H17⟩
  refine wp_know 2 _ v18 ?_
  refine w_ret ?_
  refine end1 rfl (res_tmp (v := (.bool (confB f c))) rfl) ?_
  exact ⟨rfl, H17.upd 0 rfl [] (fun _ h => h.elim)⟩

end Go.Proofs.Ythjmbhneifjeeaa
