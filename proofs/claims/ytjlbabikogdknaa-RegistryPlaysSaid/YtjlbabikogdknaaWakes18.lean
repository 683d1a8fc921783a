/- WHAT IS PROVED: the example of the document. Conditions: stated with each. -/
import Derived.Test.YtjlbabikogdknaaReg18
import Derived.Test.YtjlbabikogdknaaSep
namespace Go.Proofs.Ytjlbabikogdknaa
open Go.RowKit
def withinV (v n : Int) : Int := if n < 1 then 0 else v % n
theorem within_lim (v n : Int) (h : 1 ≤ n) : 0 ≤ withinV v n ∧ withinV v n < n := by
  unfold withinV; rw [if_neg (by omega)]
  exact ⟨Int.emod_nonneg _ (by omega), Int.emod_lt_of_pos _ (by omega)⟩

set_option maxRecDepth 100000 in
set_option maxHeartbeats 400000 in
theorem within_any (w : World) (v n : Int) (hn : n ≤ 4611686018427387904) :
    Calls Try.prog 13 #[(.int .i64 (v)), (.int .i64 (n))] w fun e w' => e = .returned (.int .i64 (withinV v n)) ∧ Upd [] w w' := by
  have H := Sat.start0 w
  refine calls_fr Try.func13 rfl 17 rfl (Nat.le_of_ble_eq_true rfl) ?_
  refine w_seq ?_
  refine w_lit ?_
  refine wl_pure (wants0 rfl) (d := 4) (v := (.int .i64 (0))) rfl (by kernel_rfl) ?_
  refine w_nil ?_
  refine then_normal ?_
  refine w_seq ?_
  refine w_seq ?_
  refine w_lit ?_
  refine wl_pure (wants0 rfl) (d := 6) (v := (.int .i64 (n))) rfl (by kernel_rfl) ?_
  refine wl_pure (wants0 rfl) (d := 7) (v := (.bool (decide (n < 1)))) rfl (by kernel_rfl) ?_
  refine w_nil ?_
  refine then_normal ?_
  refine (bsplit (decide (n < 1))).elim (fun b1 => ?_) (fun b1 => ?_)
  · have g2 := of_decide_eq_true b1
    refine wp_know 7 (.bool true) (congrArg Value.bool b1) ?_
    refine wp_ift rfl ?_
    refine w_seq ?_
    refine w_lit ?_
    refine wl_pure (wants0 rfl) (d := 4) (v := (.int .i64 (0))) rfl (by kernel_rfl) ?_
    refine w_nil ?_
    refine then_normal ?_
    refine w_ret ?_
    refine then_ret ?_
    refine end1 rfl (res_tmp (v := (.int .i64 (0))) rfl) ?_
    exact ⟨by unfold withinV; rw [if_pos (of_decide_eq_true b1)], H.upd 0 rfl [] (fun _ h => h.elim)⟩
  · have g3 := of_decide_eq_false b1
    refine wp_know 7 (.bool false) (congrArg Value.bool b1) ?_
    refine wp_iff rfl ?_
    refine w_skip ?_
    refine then_normal ?_
    refine w_seq ?_
    refine w_lit ?_
    refine wl_pure (wants0 rfl) (d := 8) (v := (.int .i64 (v))) rfl (by kernel_rfl) ?_
    refine wl_pure (wants0 rfl) (d := 9) (v := (.int .i64 (n))) rfl (by kernel_rfl) ?_
    refine wl_pure (wants0 rfl) (d := 10) (v := (.int .i64 (Int.tmod v n))) rfl (e_tmod (by kernel_rfl) (by omega)) ?_
    refine wl_pure (wants0 rfl) (d := 5) (v := (.int .i64 (Int.tmod v n))) rfl (by kernel_rfl) ?_
    refine w_nil ?_
    refine then_normal ?_
    refine w_seq ?_
    refine w_seq ?_
    refine w_lit ?_
    refine wl_pure (wants0 rfl) (d := 11) (v := (.int .i64 (Int.tmod v n))) rfl (by kernel_rfl) ?_
    refine wl_pure (wants0 rfl) (d := 12) (v := (.bool (decide ((Int.tmod v n) < 0)))) rfl (by kernel_rfl) ?_
    refine w_nil ?_
    refine then_normal ?_
    refine (bsplit (decide ((Int.tmod v n) < 0))).elim (fun b4 => ?_) (fun b4 => ?_)
    · have g5 := of_decide_eq_true b4
      refine wp_know 12 (.bool true) (congrArg Value.bool b4) ?_
      refine wp_ift rfl ?_
      refine w_lit ?_
      refine wl_pure (wants0 rfl) (d := 13) (v := (.int .i64 (Int.tmod v n))) rfl (by kernel_rfl) ?_
      refine wl_pure (wants0 rfl) (d := 14) (v := (.int .i64 (n))) rfl (by kernel_rfl) ?_
      refine wl_pure (wants0 rfl) (d := 15) (v := (.int .i64 ((Int.tmod v n) + n))) rfl (e_int (z := (Int.tmod v n) + n) (by kernel_rfl) (IntWalk.i64_in _ (by have := tmod_lim v n (by omega); omega))) ?_
      refine wl_pure (wants0 rfl) (d := 5) (v := (.int .i64 ((Int.tmod v n) + n))) rfl (by kernel_rfl) ?_
      refine w_nil ?_
      refine then_normal ?_
      refine w_seq ?_
      refine w_lit ?_
      refine wl_pure (wants0 rfl) (d := 16) (v := (.int .i64 ((Int.tmod v n) + n))) rfl (by kernel_rfl) ?_
      refine wl_pure (wants0 rfl) (d := 4) (v := (.int .i64 ((Int.tmod v n) + n))) rfl (by kernel_rfl) ?_
      refine w_nil ?_
      refine then_normal ?_
      refine w_ret ?_
      refine end1 rfl (res_tmp (v := (.int .i64 ((Int.tmod v n) + n))) rfl) ?_
      exact ⟨by unfold withinV; rw [if_neg (of_decide_eq_false b1), tmod_emod v n (by have := of_decide_eq_false b1; omega), if_pos (of_decide_eq_true b4)], H.upd 0 rfl [] (fun _ h => h.elim)⟩
    · have g6 := of_decide_eq_false b4
      refine wp_know 12 (.bool false) (congrArg Value.bool b4) ?_
      refine wp_iff rfl ?_
      refine w_skip ?_
      refine then_normal ?_
      refine w_seq ?_
      refine w_lit ?_
      refine wl_pure (wants0 rfl) (d := 16) (v := (.int .i64 (Int.tmod v n))) rfl (by kernel_rfl) ?_
      refine wl_pure (wants0 rfl) (d := 4) (v := (.int .i64 (Int.tmod v n))) rfl (by kernel_rfl) ?_
      refine w_nil ?_
      refine then_normal ?_
      refine w_ret ?_
      refine end1 rfl (res_tmp (v := (.int .i64 (Int.tmod v n))) rfl) ?_
      exact ⟨by unfold withinV; rw [if_neg (of_decide_eq_false b1), tmod_emod v n (by have := of_decide_eq_false b1; omega), if_neg (of_decide_eq_false b4)], H.upd 0 rfl [] (fun _ h => h.elim)⟩

set_option maxRecDepth 100000 in
set_option maxHeartbeats 400000 in
theorem wakes_any (w : World) :
    Calls Try.prog 11 #[] w fun e w' => e = .returned (.bool true) ∧ Upd [] w w' := by
  have H := Sat.start0 w
  refine calls_fr Try.func11 rfl 20 rfl (Nat.le_of_ble_eq_true rfl) ?_
  refine w_seq ?_
  refine w_lit ?_
  refine wl_pure (wants0 rfl) (d := 0) (v := (.bool false)) rfl (by kernel_rfl) ?_
  refine w_nil ?_
  refine then_normal ?_
  refine w_seq ?_
  refine w_lit ?_
  refine wl_do (wants0 rfl) (fun K1 hK1 => ?_)
  refine d_call (d := 2) rfl (by kernel_rfl) (new_any w) ?_
  rintro _ w4 ⟨r2, b3, rfl, k5, u6, p7, q8⟩
  have H9 : Sat w [restC w (fun _ => False), regC r2 b3 []] w4 := H.addU u6 k5 (fun x hx => by simp [regC, regL, sepC, cellC, mapC] at hx; omega)
  have H10 : Sat w [restC w (fun _ => False), cellC r2 52 ([(.map (some b3))] : List Value), mapC b3 strV (Value.int .i64) []] w4 := H9.open 1 rfl
  refine ⟨_, rfl, ?_⟩
  refine hK1 _ _ ?_
  clear hK1 K1
  refine wl_pure (wants0 rfl) (d := 1) (v := (.pointer (some ⟨r2, 0, none⟩))) rfl (by kernel_rfl) ?_
  refine w_nil ?_
  refine then_normal ?_
  refine w_seq ?_
  refine w_lit ?_
  refine wl_pure (wants0 rfl) (d := 3) (v := (.pointer (some ⟨r2, 0, none⟩))) rfl (by kernel_rfl) ?_
  refine wl_pure (wants0 rfl) (d := 4) (v := (.bool true)) rfl (by kernel_rfl) ?_
  refine wl_pure (wants0 rfl) (d := 5) (v := (.bool true)) rfl (by kernel_rfl) ?_
  refine wl_pure (wantsY 2 5 true rfl (by kernel_rfl) rfl (by kernel_rfl)) (d := 6) (v := (.pointer (some ⟨r2, 0, none⟩))) rfl (by kernel_rfl) ?_
  refine wl_do (wantsY 2 5 true rfl (by kernel_rfl) rfl (by kernel_rfl)) (fun K11 hK11 => ?_)
  refine d_call (d := 7) rfl (by kernel_rfl) (reserve_any w4 r2 b3 ([]) (H10.fin [1, 2] (by decide) rfl) Short.nil ([97]) (by first | decide | (simp only [List.length_take]; omega) | omega) 1) ?_
  rintro _ w12 ⟨rfl, T13⟩
  have H14 : Sat w [restC w (fun _ => False), cellC r2 52 ([(.map (some b3))] : List Value), mapC b3 strV (Value.int .i64) (resL ([]) ([97]) 1)] w12 := (Sat.turnL (L' := [cellC r2 52 ([(.map (some b3))] : List Value), mapC b3 strV (Value.int .i64) (resL ([]) ([97]) 1)]) (R := [restC w (fun _ => False)]) H10 [1, 2] [0] (by decide) (by kernel_rfl) rfl T13).pick [2, 0, 1] (by decide)
  refine ⟨_, rfl, ?_⟩
  refine hK11 _ _ ?_
  clear hK11 K11
  refine wl_pure (wantsY 2 5 true rfl (by kernel_rfl) rfl (by kernel_rfl)) (d := 8) (v := (.bool (decide ((resE ([]) ([97]) 1) = 0)))) rfl (by kernel_rfl) ?_
  refine wl_pure (wants0 rfl) (d := 9) (v := (.bool (decide ((resE ([]) ([97]) 1) = 0)))) rfl (by kernel_rfl) ?_
  refine wl_pure (wants0 rfl) (d := 10) (v := (.bool (decide ((resE ([]) ([97]) 1) = 0)))) rfl (by kernel_rfl) ?_
  have b15 : (decide ((resE ([]) ([97]) 1) = 0)) = true := by decide
  refine wl_know 10 (.bool true) (congrArg Value.bool b15) ?_
  refine wl_pure (wantsY 7 10 true rfl (by kernel_rfl) rfl (by kernel_rfl)) (d := 11) (v := (.pointer (some ⟨r2, 0, none⟩))) rfl (by kernel_rfl) ?_
  refine wl_do (wantsY 7 10 true rfl (by kernel_rfl) rfl (by kernel_rfl)) (fun K16 hK16 => ?_)
  refine d_call (d := 12) rfl (by kernel_rfl) (reserve_any w12 r2 b3 (resL ([]) ([97]) 1) (H14.fin [1, 2] (by decide) rfl) (Short.res Short.nil ([97]) 1) ([97]) (by first | decide | (simp only [List.length_take]; omega) | omega) 1) ?_
  rintro _ w17 ⟨rfl, T18⟩
  have H19 : Sat w [restC w (fun _ => False), cellC r2 52 ([(.map (some b3))] : List Value), mapC b3 strV (Value.int .i64) (resL (resL ([]) ([97]) 1) ([97]) 1)] w17 := (Sat.turnL (L' := [cellC r2 52 ([(.map (some b3))] : List Value), mapC b3 strV (Value.int .i64) (resL (resL ([]) ([97]) 1) ([97]) 1)]) (R := [restC w (fun _ => False)]) H14 [1, 2] [0] (by decide) (by kernel_rfl) rfl T18).pick [2, 0, 1] (by decide)
  refine ⟨_, rfl, ?_⟩
  refine hK16 _ _ ?_
  clear hK16 K16
  refine wl_pure (wantsY 7 10 true rfl (by kernel_rfl) rfl (by kernel_rfl)) (d := 13) (v := (.bool (decide ((resE (resL ([]) ([97]) 1) ([97]) 1) = 5)))) rfl (by kernel_rfl) ?_
  refine wl_pure (wants0 rfl) (d := 14) (v := (.bool (decide ((resE (resL ([]) ([97]) 1) ([97]) 1) = 5)))) rfl (by kernel_rfl) ?_
  refine wl_pure (wants0 rfl) (d := 15) (v := (.bool (decide ((resE (resL ([]) ([97]) 1) ([97]) 1) = 5)))) rfl (by kernel_rfl) ?_
  have b20 : (decide ((resE (resL ([]) ([97]) 1) ([97]) 1) = 5)) = true := by decide
  refine wl_know 15 (.bool true) (congrArg Value.bool b20) ?_
  refine wl_pure (wantsY 12 15 true rfl (by kernel_rfl) rfl (by kernel_rfl)) (d := 16) (v := (.pointer (some ⟨r2, 0, none⟩))) rfl (by kernel_rfl) ?_
  refine wl_do (wantsY 12 15 true rfl (by kernel_rfl) rfl (by kernel_rfl)) (fun K21 hK21 => ?_)
  refine d_call (d := 17) rfl (by kernel_rfl) (count_any w17 r2 b3 (resL (resL ([]) ([97]) 1) ([97]) 1) (H19.fin [1, 2] (by decide) rfl) (Short.res (Short.res Short.nil ([97]) 1) ([97]) 1) 1) ?_
  rintro _ w22 ⟨rfl, u24⟩
  have H23 := H19.keepU u24
  refine ⟨_, rfl, ?_⟩
  refine hK21 _ _ ?_
  clear hK21 K21
  refine wl_pure (wantsY 12 15 true rfl (by kernel_rfl) rfl (by kernel_rfl)) (d := 18) (v := (.bool (decide ((cntL (resL (resL ([]) ([97]) 1) ([97]) 1) 1) = 1)))) rfl (by kernel_rfl) ?_
  refine wl_pure (wants0 rfl) (d := 19) (v := (.bool (decide ((cntL (resL (resL ([]) ([97]) 1) ([97]) 1) 1) = 1)))) rfl (by kernel_rfl) ?_
  refine wl_pure (wants0 rfl) (d := 0) (v := (.bool (decide ((cntL (resL (resL ([]) ([97]) 1) ([97]) 1) 1) = 1)))) rfl (by kernel_rfl) ?_
  refine w_nil ?_
  refine then_normal ?_
  refine w_ret ?_
  refine end1 rfl (res_tmp (v := (.bool (decide ((cntL (resL (resL ([]) ([97]) 1) ([97]) 1) 1) = 1)))) rfl) ?_
  exact ⟨by rw [show (decide ((cntL (resL (resL ([]) ([97]) 1) ([97]) 1) 1) = 1)) = true by decide], H23.upd 0 rfl [] (fun _ h => h.elim)⟩

end Go.Proofs.Ytjlbabikogdknaa
