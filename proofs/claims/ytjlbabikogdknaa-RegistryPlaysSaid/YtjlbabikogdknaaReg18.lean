/- WHAT IS PROVED: the registry: contracts. Conditions: stated with each. -/
import Derived.Test.YtjlbabikogdknaaRegDefs
namespace Go.Proofs.Ytjlbabikogdknaa
open Go.RowKit

set_option maxRecDepth 100000 in
set_option maxHeartbeats 400000 in
theorem name_any (w : World) (s : List UInt8) (hs : s.length ≤ 9223372036854775807) :
    Calls Try.prog 29 #[(strV s)] w fun e w' => e = .returned (.bool (nameB s)) ∧ Upd [] w w' := by
  have H := Sat.start0 w
  refine calls_fr Try.func29 rfl 28 rfl (Nat.le_of_ble_eq_true rfl) ?_
  refine w_seq ?_
  refine w_lit ?_
  refine wl_pure (wants0 rfl) (d := 2) (v := (.bool false)) rfl (by kernel_rfl) ?_
  refine w_nil ?_
  refine then_normal ?_
  refine w_seq ?_
  refine w_seq ?_
  refine w_lit ?_
  refine wl_pure (wants0 rfl) (d := 3) (v := (.int .i64 (0))) rfl (by kernel_rfl) ?_
  refine w_nil ?_
  refine then_normal ?_
  refine w_block ?_
  refine wp_round [2, 3, 4, 5, 6, 7, 8, 9, 10, 11, 12, 13, 14, 15, 16, 17, 18, 19] (fun F_ W_ m_ => ∃ (i : Nat), F_ 3 = (.int .i64 ((i : Int))) ∧ (i ≤ s.length) ∧ ((s.take i).all lcB = true) ∧ Sat w [restC w (fun _ => False)] W_ ∧ m_ = s.length + 1 - i) _ ⟨0, (show ((.int .i64 (0)) : Value) = _ by first | rfl | go_num), by omega, by simp, H, rfl⟩ ?_
  rintro g1 w2 _ ⟨i, v4, hi, hall, H3, rfl⟩
  refine wp_know 3 _ v4 ?_
  refine w_seq ?_
  refine w_seq ?_
  refine w_lit ?_
  refine wl_pure (wants0 rfl) (d := 4) (v := (.int .i64 ((i : Int)))) rfl (by kernel_rfl) ?_
  refine wl_pure (wants0 rfl) (d := 5) (v := (strV s)) rfl (by kernel_rfl) ?_
  refine wl_pure (wants0 rfl) (d := 6) (v := (.int .i64 ((s.length : Int)))) rfl (e_lenStr (by kernel_rfl) rfl) ?_
  refine wl_pure (wants0 rfl) (d := 7) (v := (.bool (decide ((i : Int) < (s.length : Int))))) rfl (by kernel_rfl) ?_
  refine w_nil ?_
  refine then_normal ?_
  refine (bsplit (decide ((i : Int) < (s.length : Int)))).elim (fun b6 => ?_) (fun b6 => ?_)
  · have g7 := of_decide_eq_true b6
    refine wp_know 7 (.bool true) (congrArg Value.bool b6) ?_
    have g8 := of_decide_eq_true b6
    refine wp_ift rfl ?_
    refine w_skip ?_
    refine then_normal ?_
    refine w_seq ?_
    refine w_block ?_
    refine w_seq ?_
    refine w_lit ?_
    refine wl_pure (wants0 rfl) (d := 10) (v := (strV s)) rfl (by kernel_rfl) ?_
    refine wl_pure (wants0 rfl) (d := 11) (v := (.int .i64 ((i : Int)))) rfl (by kernel_rfl) ?_
    refine wl_pure (wants0 rfl) (d := 12) (v := (.int .u8 (((s.getD i 0).toNat : Int)))) rfl (e_indexStr (q := i) (by kernel_rfl) rfl rfl (by omega) (by omega)) ?_
    refine wl_pure (wants0 rfl) (d := 13) (v := (.bool (decide (((s.getD i 0).toNat : Int) < 97)))) rfl (by kernel_rfl) ?_
    refine wl_pure (wants0 rfl) (d := 14) (v := (.bool (decide (((s.getD i 0).toNat : Int) < 97)))) rfl (by kernel_rfl) ?_
    refine (bsplit (decide (((s.getD i 0).toNat : Int) < 97))).elim (fun b9 => ?_) (fun b9 => ?_)
    · have g10 := of_decide_eq_true b9
      refine wl_know 14 (.bool true) (congrArg Value.bool b9) ?_
      have g11 := of_decide_eq_true b9
      refine wl_pass (wantsN 4 14 false rfl (by kernel_rfl) rfl (by kernel_rfl)) rfl ?_
      refine wl_pass (wantsN 4 14 false rfl (by kernel_rfl) rfl (by kernel_rfl)) rfl ?_
      refine wl_pass (wantsN 4 14 false rfl (by kernel_rfl) rfl (by kernel_rfl)) rfl ?_
      refine wl_pass (wantsN 4 14 false rfl (by kernel_rfl) rfl (by kernel_rfl)) rfl ?_
      refine wl_pure (wants0 rfl) (d := 19) (v := (.bool true)) rfl (by kernel_rfl) ?_
      refine w_nil ?_
      refine then_normal ?_
      refine wp_ift rfl ?_
      refine w_seq ?_
      refine w_lit ?_
      refine wl_pure (wants0 rfl) (d := 2) (v := (.bool false)) rfl (by kernel_rfl) ?_
      refine w_nil ?_
      refine then_normal ?_
      refine w_ret ?_
      refine blk_ret ?_
      refine then_ret ?_
      refine back_ret ?_
      refine blk_ret ?_
      refine then_ret ?_
      refine end1 rfl (res_tmp (v := (.bool false)) rfl) ?_
      exact ⟨by rw [show nameB s = false by unfold nameB; rw [all_not (i := i) (by omega) (by unfold lcB; first | (rw [decide_eq_false (by omega)]; rfl) | (rw [decide_eq_false (show ¬ (s.getD i 0).toNat ≤ 122 by omega), Bool.and_false]))]; rfl], H3.upd 0 rfl [] (fun _ h => h.elim)⟩
    · have g12 := of_decide_eq_false b9
      refine wl_know 14 (.bool false) (congrArg Value.bool b9) ?_
      have g13 := of_decide_eq_false b9
      refine wl_pure (wantsY 4 14 false rfl (by kernel_rfl) rfl (by kernel_rfl)) (d := 15) (v := (strV s)) rfl (by kernel_rfl) ?_
      refine wl_pure (wantsY 4 14 false rfl (by kernel_rfl) rfl (by kernel_rfl)) (d := 16) (v := (.int .i64 ((i : Int)))) rfl (by kernel_rfl) ?_
      refine wl_pure (wantsY 4 14 false rfl (by kernel_rfl) rfl (by kernel_rfl)) (d := 17) (v := (.int .u8 (((s.getD i 0).toNat : Int)))) rfl (e_indexStr (q := i) (by kernel_rfl) rfl rfl (by omega) (by omega)) ?_
      refine wl_pure (wantsY 4 14 false rfl (by kernel_rfl) rfl (by kernel_rfl)) (d := 18) (v := (.bool (decide (((s.getD i 0).toNat : Int) > 122)))) rfl (by kernel_rfl) ?_
      refine wl_pure (wants0 rfl) (d := 19) (v := (.bool (decide (((s.getD i 0).toNat : Int) > 122)))) rfl (by kernel_rfl) ?_
      refine w_nil ?_
      refine then_normal ?_
      refine (bsplit (decide (((s.getD i 0).toNat : Int) > 122))).elim (fun b14 => ?_) (fun b14 => ?_)
      · have g15 := of_decide_eq_true b14
        refine wp_know 19 (.bool true) (congrArg Value.bool b14) ?_
        have g16 := of_decide_eq_true b14
        refine wp_ift rfl ?_
        refine w_seq ?_
        refine w_lit ?_
        refine wl_pure (wants0 rfl) (d := 2) (v := (.bool false)) rfl (by kernel_rfl) ?_
        refine w_nil ?_
        refine then_normal ?_
        refine w_ret ?_
        refine blk_ret ?_
        refine then_ret ?_
        refine back_ret ?_
        refine blk_ret ?_
        refine then_ret ?_
        refine end1 rfl (res_tmp (v := (.bool false)) rfl) ?_
        exact ⟨by rw [show nameB s = false by unfold nameB; rw [all_not (i := i) (by omega) (by unfold lcB; first | (rw [decide_eq_false (by omega)]; rfl) | (rw [decide_eq_false (show ¬ (s.getD i 0).toNat ≤ 122 by omega), Bool.and_false]))]; rfl], H3.upd 0 rfl [] (fun _ h => h.elim)⟩
      · have g17 := of_decide_eq_false b14
        refine wp_know 19 (.bool false) (congrArg Value.bool b14) ?_
        have g18 := of_decide_eq_false b14
        refine wp_iff rfl ?_
        refine w_skip ?_
        refine blk_normal ?_
        refine then_normal ?_
        refine w_lit ?_
        refine wl_pure (wants0 rfl) (d := 8) (v := (.int .i64 ((i : Int)))) rfl (by kernel_rfl) ?_
        refine wl_pure (wants0 rfl) (d := 9) (v := (.int .i64 ((i : Int) + 1))) rfl (e_int (z := (i : Int) + 1) (by kernel_rfl) (IntWalk.i64_in _ (by omega))) ?_
        refine wl_pure (wants0 rfl) (d := 3) (v := (.int .i64 ((i : Int) + 1))) rfl (by kernel_rfl) ?_
        refine w_nil ?_
        refine round_back ?_ _ ⟨(i + 1), (show ((.int .i64 ((i : Int) + 1)) : Value) = _ by first | rfl | go_num), by omega, all_step hall (by omega) (by unfold lcB; rw [decide_eq_true (by omega), decide_eq_true (by omega)]; rfl), H3, rfl⟩ (by omega)
        exact (same_upd rfl (same_upd rfl (same_upd rfl (same_upd rfl (same_upd rfl (same_upd rfl (same_upd rfl (same_upd rfl (same_upd rfl (same_upd rfl (same_upd rfl (same_upd rfl (same_upd rfl (same_upd rfl (same_upd rfl (same_upd rfl (same_upd rfl (same_upd rfl (same_upd rfl (same_upd rfl (same_upd rfl (same_ovr))))))))))))))))))))))
  · have g19 := of_decide_eq_false b6
    refine wp_know 7 (.bool false) (congrArg Value.bool b6) ?_
    have g20 := of_decide_eq_false b6
    refine wp_iff rfl ?_
    refine w_exit ?_
    refine then_exit ?_
    refine back_exit ?_
    refine blk_hit ?_
    refine then_normal ?_
    refine w_seq ?_
    refine w_lit ?_
    refine wl_pure (wants0 rfl) (d := 20) (v := (strV s)) rfl (by kernel_rfl) ?_
    refine wl_pure (wants0 rfl) (d := 21) (v := (.int .i64 ((s.length : Int)))) rfl (e_lenStr (by kernel_rfl) rfl) ?_
    refine wl_pure (wants0 rfl) (d := 22) (v := (.bool (decide ((s.length : Int) ≥ 1)))) rfl (by kernel_rfl) ?_
    refine wl_pure (wants0 rfl) (d := 23) (v := (.bool (decide ((s.length : Int) ≥ 1)))) rfl (by kernel_rfl) ?_
    refine (bsplit (decide ((s.length : Int) ≥ 1))).elim (fun b21 => ?_) (fun b21 => ?_)
    · have g22 := of_decide_eq_true b21
      refine wl_know 23 (.bool true) (congrArg Value.bool b21) ?_
      have g23 := of_decide_eq_true b21
      refine wl_pure (wantsY 3 23 true rfl (by kernel_rfl) rfl (by kernel_rfl)) (d := 24) (v := (strV s)) rfl (by kernel_rfl) ?_
      refine wl_pure (wantsY 3 23 true rfl (by kernel_rfl) rfl (by kernel_rfl)) (d := 25) (v := (.int .i64 ((s.length : Int)))) rfl (e_lenStr (by kernel_rfl) rfl) ?_
      refine wl_pure (wantsY 3 23 true rfl (by kernel_rfl) rfl (by kernel_rfl)) (d := 26) (v := (.bool (decide ((s.length : Int) ≤ 16)))) rfl (by kernel_rfl) ?_
      refine wl_pure (wants0 rfl) (d := 27) (v := (.bool (decide ((s.length : Int) ≤ 16)))) rfl (by kernel_rfl) ?_
      refine wl_pure (wants0 rfl) (d := 2) (v := (.bool (decide ((s.length : Int) ≤ 16)))) rfl (by kernel_rfl) ?_
      refine w_nil ?_
      refine then_normal ?_
      refine w_ret ?_
      refine end1 rfl (res_tmp (v := (.bool (decide ((s.length : Int) ≤ 16)))) rfl) ?_
      rw [List.take_of_length_le (by omega)] at hall
      exact ⟨by rw [nameB, hall, Bool.true_and]; congr 3; rw [Bool.eq_iff_iff]; simp only [Bool.and_eq_true, decide_eq_true_eq]; omega, H3.upd 0 rfl [] (fun _ h => h.elim)⟩
    · have g24 := of_decide_eq_false b21
      refine wl_know 23 (.bool false) (congrArg Value.bool b21) ?_
      have g25 := of_decide_eq_false b21
      refine wl_pass (wantsN 3 23 true rfl (by kernel_rfl) rfl (by kernel_rfl)) rfl ?_
      refine wl_pass (wantsN 3 23 true rfl (by kernel_rfl) rfl (by kernel_rfl)) rfl ?_
      refine wl_pass (wantsN 3 23 true rfl (by kernel_rfl) rfl (by kernel_rfl)) rfl ?_
      refine wl_pure (wants0 rfl) (d := 27) (v := (.bool false)) rfl (by kernel_rfl) ?_
      refine wl_pure (wants0 rfl) (d := 2) (v := (.bool false)) rfl (by kernel_rfl) ?_
      refine w_nil ?_
      refine then_normal ?_
      refine w_ret ?_
      refine end1 rfl (res_tmp (v := (.bool false)) rfl) ?_
      rw [List.take_of_length_le (by omega)] at hall
      exact ⟨by rw [nameB, hall, Bool.true_and]; congr 3; rw [Bool.eq_iff_iff]; simp only [Bool.and_eq_true, decide_eq_true_eq, Bool.false_eq_true, false_iff, not_and]; omega, H3.upd 0 rfl [] (fun _ h => h.elim)⟩

set_option maxRecDepth 100000 in
set_option maxHeartbeats 400000 in
theorem may_any (w : World) (s : List UInt8) (c : Int) (hs : s.length ≤ 9223372036854775807) :
    Calls Try.prog 20 #[(strV s), (.int .i64 (c))] w fun e w' => e = .returned (.bool (mayB s c)) ∧ Upd [] w w' := by
  have H := Sat.start0 w
  refine calls_fr Try.func20 rfl 15 rfl (Nat.le_of_ble_eq_true rfl) ?_
  refine w_seq ?_
  refine w_lit ?_
  refine wl_pure (wants0 rfl) (d := 4) (v := (.bool false)) rfl (by kernel_rfl) ?_
  refine w_nil ?_
  refine then_normal ?_
  refine w_seq ?_
  refine w_lit ?_
  refine wl_pure (wants0 rfl) (d := 5) (v := (strV s)) rfl (by kernel_rfl) ?_
  refine wl_do (wants0 rfl) (fun K1 hK1 => ?_)
  refine d_call (d := 6) rfl (by kernel_rfl) (name_any w s hs) ?_
  rintro _ w2 ⟨rfl, u4⟩
  have H3 := H.keepU u4
  refine ⟨_, rfl, ?_⟩
  refine hK1 _ _ ?_
  clear hK1 K1
  refine wl_pure (wants0 rfl) (d := 7) (v := (.bool (nameB s))) rfl (by kernel_rfl) ?_
  refine (bsplit (nameB s)).elim (fun b5 => ?_) (fun b5 => ?_)
  · refine wl_know 7 (.bool true) (congrArg Value.bool b5) ?_
    refine wl_pure (wantsY 2 7 true rfl (by kernel_rfl) rfl (by kernel_rfl)) (d := 8) (v := (.int .i64 (c))) rfl (by kernel_rfl) ?_
    refine wl_pure (wantsY 2 7 true rfl (by kernel_rfl) rfl (by kernel_rfl)) (d := 9) (v := (.bool (decide (c ≥ 0)))) rfl (by kernel_rfl) ?_
    refine wl_pure (wants0 rfl) (d := 10) (v := (.bool (decide (c ≥ 0)))) rfl (by kernel_rfl) ?_
    refine wl_pure (wants0 rfl) (d := 11) (v := (.bool (decide (c ≥ 0)))) rfl (by kernel_rfl) ?_
    refine (bsplit (decide (c ≥ 0))).elim (fun b6 => ?_) (fun b6 => ?_)
    · have g7 := of_decide_eq_true b6
      refine wl_know 11 (.bool true) (congrArg Value.bool b6) ?_
      refine wl_pure (wantsY 6 11 true rfl (by kernel_rfl) rfl (by kernel_rfl)) (d := 12) (v := (.int .i64 (c))) rfl (by kernel_rfl) ?_
      refine wl_pure (wantsY 6 11 true rfl (by kernel_rfl) rfl (by kernel_rfl)) (d := 13) (v := (.bool (decide (c < 100)))) rfl (by kernel_rfl) ?_
      refine wl_pure (wants0 rfl) (d := 14) (v := (.bool (decide (c < 100)))) rfl (by kernel_rfl) ?_
      refine wl_pure (wants0 rfl) (d := 4) (v := (.bool (decide (c < 100)))) rfl (by kernel_rfl) ?_
      refine w_nil ?_
      refine then_normal ?_
      refine w_ret ?_
      refine end1 rfl (res_tmp (v := (.bool (decide (c < 100)))) rfl) ?_
      exact ⟨by simp [mayB, b5, b6], H3.upd 0 rfl [] (fun _ h => h.elim)⟩
    · have g8 := of_decide_eq_false b6
      refine wl_know 11 (.bool false) (congrArg Value.bool b6) ?_
      refine wl_pass (wantsN 6 11 true rfl (by kernel_rfl) rfl (by kernel_rfl)) rfl ?_
      refine wl_pass (wantsN 6 11 true rfl (by kernel_rfl) rfl (by kernel_rfl)) rfl ?_
      refine wl_pure (wants0 rfl) (d := 14) (v := (.bool false)) rfl (by kernel_rfl) ?_
      refine wl_pure (wants0 rfl) (d := 4) (v := (.bool false)) rfl (by kernel_rfl) ?_
      refine w_nil ?_
      refine then_normal ?_
      refine w_ret ?_
      refine end1 rfl (res_tmp (v := (.bool false)) rfl) ?_
      exact ⟨by simp [mayB, b5, b6], H3.upd 0 rfl [] (fun _ h => h.elim)⟩
  · refine wl_know 7 (.bool false) (congrArg Value.bool b5) ?_
    refine wl_pass (wantsN 2 7 true rfl (by kernel_rfl) rfl (by kernel_rfl)) rfl ?_
    refine wl_pass (wantsN 2 7 true rfl (by kernel_rfl) rfl (by kernel_rfl)) rfl ?_
    refine wl_pure (wants0 rfl) (d := 10) (v := (.bool false)) rfl (by kernel_rfl) ?_
    refine wl_pure (wants0 rfl) (d := 11) (v := (.bool false)) rfl (by kernel_rfl) ?_
    refine wl_pass (wantsN 6 11 true rfl (by kernel_rfl) rfl (by kernel_rfl)) rfl ?_
    refine wl_pass (wantsN 6 11 true rfl (by kernel_rfl) rfl (by kernel_rfl)) rfl ?_
    refine wl_pure (wants0 rfl) (d := 14) (v := (.bool false)) rfl (by kernel_rfl) ?_
    refine wl_pure (wants0 rfl) (d := 4) (v := (.bool false)) rfl (by kernel_rfl) ?_
    refine w_nil ?_
    refine then_normal ?_
    refine w_ret ?_
    refine end1 rfl (res_tmp (v := (.bool false)) rfl) ?_
    exact ⟨by simp [mayB, b5], H3.upd 0 rfl [] (fun _ h => h.elim)⟩

set_option maxRecDepth 100000 in
set_option maxHeartbeats 400000 in
theorem reserve_any (w : World) (r b : Nat) (l : RegL) (hR : (regC r b l).ok w) (hS : Short l) (s : List UInt8) (hs : s.length ≤ 9223372036854775807) (c : Int) :
    Calls Try.prog 8 #[(.pointer (some ⟨r, 0, none⟩)), (strV s), (.int .i64 (c))] w fun e w' => e = .returned (.int .i64 (resE l s c)) ∧ Sat w [cellC r 52 [.map (some b)], mapC b strV (Value.int .i64) (resL l s c), restC w (regC r b l).fp] w' := by
  have H : Sat w [cellC r 52 ([(.map (some b))] : List Value), mapC b strV (Value.int .i64) l, restC w (regC r b l).fp] w := Sat.start (regL r b l) hR
  have hsh := hS.1
  refine calls_fr Try.func8 rfl 38 rfl (Nat.le_of_ble_eq_true rfl) ?_
  refine w_seq ?_
  refine w_lit ?_
  refine wl_pure (wants0 rfl) (d := 6) (v := (.int .i64 (0))) rfl (by kernel_rfl) ?_
  refine w_nil ?_
  refine then_normal ?_
  refine w_seq ?_
  refine w_lit ?_
  refine wl_pure (wants0 rfl) (d := 10) (v := (.pointer (some ⟨r, 0, none⟩))) rfl (by kernel_rfl) ?_
  refine wl_pure (wants0 rfl) (d := 11) (v := (.pointer (some ⟨r, 0, none⟩))) rfl (by kernel_rfl) ?_
  refine wl_pure (wants0 rfl) (d := 12) (v := (.pointer (some ⟨r, 0, none⟩))) rfl (by kernel_rfl) ?_
  refine wl_pure (wants0 rfl) (d := 13) (v := (.map (some b))) rfl (e_load1 rfl (by kernel_rfl) (H.cell 0 rfl rfl)) ?_
  refine wl_pure (wants0 rfl) (d := 14) (v := (strV s)) rfl (by kernel_rfl) ?_
  refine wl_pure (wants0 rfl) (d := 15) (v := (.tuple #[(.int .i64 ((lookM l s).getD 0)), (.bool ((lookM l s).isSome))])) rfl (e_lookup2 (kt := 9) (et := 3) strK (by kernel_rfl) (fun w => by kernel_rfl) rfl s rfl (H.at 1 rfl) (optD (Value.int .i64) _ _) rfl) ?_
  refine wl_pure (wants0 rfl) (d := 9) (v := (.tuple #[(.int .i64 ((lookM l s).getD 0)), (.bool ((lookM l s).isSome))])) rfl (by kernel_rfl) ?_
  refine wl_pure (wants0 rfl) (d := 16) (v := (.int .i64 ((lookM l s).getD 0))) rfl (by kernel_rfl) ?_
  refine wl_pure (wants0 rfl) (d := 17) (v := (.bool ((lookM l s).isSome))) rfl (by kernel_rfl) ?_
  refine wl_pure (wants0 rfl) (d := 7) (v := (.int .i64 ((lookM l s).getD 0))) rfl (by kernel_rfl) ?_
  refine wl_pure (wants0 rfl) (d := 8) (v := (.bool ((lookM l s).isSome))) rfl (by kernel_rfl) ?_
  refine w_nil ?_
  refine then_normal ?_
  refine w_seq ?_
  refine w_block ?_
  refine w_seq ?_
  refine w_lit ?_
  refine wl_pure (wants0 rfl) (d := 19) (v := (strV s)) rfl (by kernel_rfl) ?_
  refine wl_pure (wants0 rfl) (d := 20) (v := (.int .i64 (c))) rfl (by kernel_rfl) ?_
  refine wl_do (wants0 rfl) (fun K1 hK1 => ?_)
  refine d_call (d := 21) rfl (by kernel_rfl) (may_any w s c hs) ?_
  rintro _ w2 ⟨rfl, u4⟩
  have H3 := H.keepU u4
  refine ⟨_, rfl, ?_⟩
  refine hK1 _ _ ?_
  clear hK1 K1
  refine wl_pure (wants0 rfl) (d := 22) (v := (.bool (!(mayB s c)))) rfl (by kernel_rfl) ?_
  refine wl_pure (wants0 rfl) (d := 18) (v := (.bool (!(mayB s c)))) rfl (by kernel_rfl) ?_
  refine w_nil ?_
  refine then_normal ?_
  refine (bsplit (!(mayB s c))).elim (fun b5 => ?_) (fun b5 => ?_)
  · have g6 := bnot_true b5
    refine wp_know 18 (.bool true) (congrArg Value.bool b5) ?_
    refine wp_ift rfl ?_
    refine w_seq ?_
    refine w_lit ?_
    refine wl_pure (wants0 rfl) (d := 6) (v := (.int .i64 (1))) rfl (by kernel_rfl) ?_
    refine w_nil ?_
    refine then_normal ?_
    refine w_ret ?_
    refine blk_ret ?_
    refine then_ret ?_
    refine end1 rfl (res_tmp (v := (.int .i64 (1))) rfl) ?_
    have hE : resE l s c = 1 := by
      have q0 := b5
      simp only [Bool.not_eq_true'] at q0
      unfold resE
      repeat' split
      all_goals first | rfl | omega | simp_all
    exact ⟨by rw [hE], by rw [show resL l s c = l by unfold resL; rw [hE]; rfl]; exact H3⟩
  · have g7 := bnot_false b5
    refine wp_know 18 (.bool false) (congrArg Value.bool b5) ?_
    refine wp_iff rfl ?_
    refine w_seq ?_
    refine w_lit ?_
    refine wl_pure (wants0 rfl) (d := 24) (v := (.bool ((lookM l s).isSome))) rfl (by kernel_rfl) ?_
    refine wl_pure (wants0 rfl) (d := 23) (v := (.bool ((lookM l s).isSome))) rfl (by kernel_rfl) ?_
    refine w_nil ?_
    refine then_normal ?_
    refine (bsplit ((lookM l s).isSome)).elim (fun b8 => ?_) (fun b8 => ?_)
    · refine wp_know 23 (.bool true) (congrArg Value.bool b8) ?_
      refine wp_ift rfl ?_
      refine w_seq ?_
      refine w_lit ?_
      refine wl_pure (wants0 rfl) (d := 6) (v := (.int .i64 (5))) rfl (by kernel_rfl) ?_
      refine w_nil ?_
      refine then_normal ?_
      refine w_ret ?_
      refine blk_ret ?_
      refine then_ret ?_
      refine end1 rfl (res_tmp (v := (.int .i64 (5))) rfl) ?_
      have hE : resE l s c = 5 := by
        have q0 := b5
        have q1 := b8
        simp only [Bool.not_eq_false'] at q0 q1
        unfold resE
        repeat' split
        all_goals first | rfl | omega | simp_all
      exact ⟨by rw [hE], by rw [show resL l s c = l by unfold resL; rw [hE]; rfl]; exact H3⟩
    · refine wp_know 23 (.bool false) (congrArg Value.bool b8) ?_
      refine wp_iff rfl ?_
      refine w_seq ?_
      refine w_lit ?_
      refine wl_pure (wants0 rfl) (d := 26) (v := (.pointer (some ⟨r, 0, none⟩))) rfl (by kernel_rfl) ?_
      refine wl_pure (wants0 rfl) (d := 27) (v := (.pointer (some ⟨r, 0, none⟩))) rfl (by kernel_rfl) ?_
      refine wl_pure (wants0 rfl) (d := 28) (v := (.pointer (some ⟨r, 0, none⟩))) rfl (by kernel_rfl) ?_
      refine wl_pure (wants0 rfl) (d := 29) (v := (.map (some b))) rfl (e_load1 rfl (by kernel_rfl) (H3.cell 0 rfl rfl)) ?_
      refine wl_pure (wants0 rfl) (d := 30) (v := (.int .i64 (((l).length : Int)))) rfl (e_len (kt := 9) (et := 3) (by kernel_rfl) (H3.at 1 rfl) rfl) ?_
      refine wl_pure (wants0 rfl) (d := 31) (v := (.bool (decide (((l).length : Int) ≥ 64)))) rfl (by kernel_rfl) ?_
      refine wl_pure (wants0 rfl) (d := 25) (v := (.bool (decide (((l).length : Int) ≥ 64)))) rfl (by kernel_rfl) ?_
      refine w_nil ?_
      refine then_normal ?_
      refine (bsplit (decide (((l).length : Int) ≥ 64))).elim (fun b9 => ?_) (fun b9 => ?_)
      · have g10 := of_decide_eq_true b9
        refine wp_know 25 (.bool true) (congrArg Value.bool b9) ?_
        refine wp_ift rfl ?_
        refine w_seq ?_
        refine w_lit ?_
        refine wl_pure (wants0 rfl) (d := 6) (v := (.int .i64 (7))) rfl (by kernel_rfl) ?_
        refine w_nil ?_
        refine then_normal ?_
        refine w_ret ?_
        refine blk_ret ?_
        refine then_ret ?_
        refine end1 rfl (res_tmp (v := (.int .i64 (7))) rfl) ?_
        have hE : resE l s c = 7 := by
          have q0 := b5
          have q1 := b8
          have q2 := b9
          simp only [Bool.not_eq_false', decide_eq_true_eq, ge_iff_le] at q0 q1 q2
          unfold resE
          repeat' split
          all_goals first | rfl | omega | simp_all
        exact ⟨by rw [hE], by rw [show resL l s c = l by unfold resL; rw [hE]; rfl]; exact H3⟩
      · have g11 := of_decide_eq_false b9
        refine wp_know 25 (.bool false) (congrArg Value.bool b9) ?_
        refine wp_iff rfl ?_
        refine w_skip ?_
        refine blk_normal ?_
        refine then_normal ?_
        refine w_seq ?_
        refine w_lit ?_
        refine wl_pure (wants0 rfl) (d := 32) (v := (.pointer (some ⟨r, 0, none⟩))) rfl (by kernel_rfl) ?_
        refine wl_pure (wants0 rfl) (d := 33) (v := (.pointer (some ⟨r, 0, none⟩))) rfl (by kernel_rfl) ?_
        refine wl_pure (wants0 rfl) (d := 34) (v := (.pointer (some ⟨r, 0, none⟩))) rfl (by kernel_rfl) ?_
        refine wl_pure (wants0 rfl) (d := 35) (v := (.map (some b))) rfl (e_load1 rfl (by kernel_rfl) (H3.cell 0 rfl rfl)) ?_
        refine wl_pure (wants0 rfl) (d := 36) (v := (strV s)) rfl (by kernel_rfl) ?_
        refine wl_pure (wants0 rfl) (d := 37) (v := (.int .i64 (c))) rfl (by kernel_rfl) ?_
        refine wl_do (wants0 rfl) (fun K12 hK12 => ?_)
        refine d_mapUpdate (kt := 9) (et := 3) rfl H3 1 rfl strK (by kernel_rfl) rfl s rfl (c) rfl ?_
        intro w13 (H14 : Sat w [cellC r 52 ([(.map (some b))] : List Value), mapC b strV (Value.int .i64) (putM l s (c)), restC w (regC r b l).fp] w13)
        refine hK12 _ _ ?_
        clear hK12 K12
        refine w_nil ?_
        refine then_normal ?_
        refine w_seq ?_
        refine w_lit ?_
        refine wl_pure (wants0 rfl) (d := 6) (v := (.int .i64 (0))) rfl (by kernel_rfl) ?_
        refine w_nil ?_
        refine then_normal ?_
        refine w_ret ?_
        refine end1 rfl (res_tmp (v := (.int .i64 (0))) rfl) ?_
        have hE : resE l s c = 0 := by
          have q0 := b5
          have q1 := b8
          have q2 := b9
          simp only [Bool.not_eq_false', decide_eq_false_iff_not, ge_iff_le] at q0 q1 q2
          unfold resE
          repeat' split
          all_goals first | rfl | omega | simp_all
        exact ⟨by rw [hE], by rw [show resL l s c = (putM l s (c)) by unfold resL; rw [hE]; rfl]; exact H14⟩

set_option maxRecDepth 100000 in
set_option maxHeartbeats 400000 in
theorem release_any (w : World) (r b : Nat) (l : RegL) (hR : (regC r b l).ok w) (hS : Short l) (s : List UInt8) (hs : s.length ≤ 9223372036854775807) (c : Int) :
    Calls Try.prog 9 #[(.pointer (some ⟨r, 0, none⟩)), (strV s), (.int .i64 (c))] w fun e w' => e = .returned (.int .i64 (relE l s c)) ∧ Sat w [cellC r 52 [.map (some b)], mapC b strV (Value.int .i64) (relL l s c), restC w (regC r b l).fp] w' := by
  have H : Sat w [cellC r 52 ([(.map (some b))] : List Value), mapC b strV (Value.int .i64) l, restC w (regC r b l).fp] w := Sat.start (regL r b l) hR
  have hsh := hS.1
  refine calls_fr Try.func9 rfl 35 rfl (Nat.le_of_ble_eq_true rfl) ?_
  refine w_seq ?_
  refine w_lit ?_
  refine wl_pure (wants0 rfl) (d := 6) (v := (.int .i64 (0))) rfl (by kernel_rfl) ?_
  refine w_nil ?_
  refine then_normal ?_
  refine w_seq ?_
  refine w_lit ?_
  refine wl_pure (wants0 rfl) (d := 10) (v := (.pointer (some ⟨r, 0, none⟩))) rfl (by kernel_rfl) ?_
  refine wl_pure (wants0 rfl) (d := 11) (v := (.pointer (some ⟨r, 0, none⟩))) rfl (by kernel_rfl) ?_
  refine wl_pure (wants0 rfl) (d := 12) (v := (.pointer (some ⟨r, 0, none⟩))) rfl (by kernel_rfl) ?_
  refine wl_pure (wants0 rfl) (d := 13) (v := (.map (some b))) rfl (e_load1 rfl (by kernel_rfl) (H.cell 0 rfl rfl)) ?_
  refine wl_pure (wants0 rfl) (d := 14) (v := (strV s)) rfl (by kernel_rfl) ?_
  refine wl_pure (wants0 rfl) (d := 15) (v := (.tuple #[(.int .i64 ((lookM l s).getD 0)), (.bool ((lookM l s).isSome))])) rfl (e_lookup2 (kt := 9) (et := 3) strK (by kernel_rfl) (fun w => by kernel_rfl) rfl s rfl (H.at 1 rfl) (optD (Value.int .i64) _ _) rfl) ?_
  refine wl_pure (wants0 rfl) (d := 9) (v := (.tuple #[(.int .i64 ((lookM l s).getD 0)), (.bool ((lookM l s).isSome))])) rfl (by kernel_rfl) ?_
  refine wl_pure (wants0 rfl) (d := 16) (v := (.int .i64 ((lookM l s).getD 0))) rfl (by kernel_rfl) ?_
  refine wl_pure (wants0 rfl) (d := 17) (v := (.bool ((lookM l s).isSome))) rfl (by kernel_rfl) ?_
  refine wl_pure (wants0 rfl) (d := 7) (v := (.int .i64 ((lookM l s).getD 0))) rfl (by kernel_rfl) ?_
  refine wl_pure (wants0 rfl) (d := 8) (v := (.bool ((lookM l s).isSome))) rfl (by kernel_rfl) ?_
  refine w_nil ?_
  refine then_normal ?_
  refine w_seq ?_
  refine w_block ?_
  refine w_seq ?_
  refine w_lit ?_
  refine wl_pure (wants0 rfl) (d := 19) (v := (strV s)) rfl (by kernel_rfl) ?_
  refine wl_pure (wants0 rfl) (d := 20) (v := (.int .i64 (c))) rfl (by kernel_rfl) ?_
  refine wl_do (wants0 rfl) (fun K1 hK1 => ?_)
  refine d_call (d := 21) rfl (by kernel_rfl) (may_any w s c hs) ?_
  rintro _ w2 ⟨rfl, u4⟩
  have H3 := H.keepU u4
  refine ⟨_, rfl, ?_⟩
  refine hK1 _ _ ?_
  clear hK1 K1
  refine wl_pure (wants0 rfl) (d := 22) (v := (.bool (!(mayB s c)))) rfl (by kernel_rfl) ?_
  refine wl_pure (wants0 rfl) (d := 18) (v := (.bool (!(mayB s c)))) rfl (by kernel_rfl) ?_
  refine w_nil ?_
  refine then_normal ?_
  refine (bsplit (!(mayB s c))).elim (fun b5 => ?_) (fun b5 => ?_)
  · have g6 := bnot_true b5
    refine wp_know 18 (.bool true) (congrArg Value.bool b5) ?_
    refine wp_ift rfl ?_
    refine w_seq ?_
    refine w_lit ?_
    refine wl_pure (wants0 rfl) (d := 6) (v := (.int .i64 (1))) rfl (by kernel_rfl) ?_
    refine w_nil ?_
    refine then_normal ?_
    refine w_ret ?_
    refine blk_ret ?_
    refine then_ret ?_
    refine end1 rfl (res_tmp (v := (.int .i64 (1))) rfl) ?_
    have hE : relE l s c = 1 := by
      have q0 := b5
      simp only [Bool.not_eq_true'] at q0
      unfold relE
      repeat' split
      all_goals first | rfl | omega | simp_all
    exact ⟨by rw [hE], by rw [show relL l s c = l by unfold relL; rw [hE]; rfl]; exact H3⟩
  · have g7 := bnot_false b5
    refine wp_know 18 (.bool false) (congrArg Value.bool b5) ?_
    refine wp_iff rfl ?_
    refine w_seq ?_
    refine w_lit ?_
    refine wl_pure (wants0 rfl) (d := 24) (v := (.bool ((lookM l s).isSome))) rfl (by kernel_rfl) ?_
    refine wl_pure (wants0 rfl) (d := 25) (v := (.bool (!((lookM l s).isSome)))) rfl (by kernel_rfl) ?_
    refine wl_pure (wants0 rfl) (d := 23) (v := (.bool (!((lookM l s).isSome)))) rfl (by kernel_rfl) ?_
    refine w_nil ?_
    refine then_normal ?_
    refine (bsplit (!((lookM l s).isSome))).elim (fun b8 => ?_) (fun b8 => ?_)
    · have g9 := bnot_true b8
      refine wp_know 23 (.bool true) (congrArg Value.bool b8) ?_
      refine wp_ift rfl ?_
      refine w_seq ?_
      refine w_lit ?_
      refine wl_pure (wants0 rfl) (d := 6) (v := (.int .i64 (6))) rfl (by kernel_rfl) ?_
      refine w_nil ?_
      refine then_normal ?_
      refine w_ret ?_
      refine blk_ret ?_
      refine then_ret ?_
      refine end1 rfl (res_tmp (v := (.int .i64 (6))) rfl) ?_
      have hE : relE l s c = 6 := by
        have q0 := b5
        have q1 := b8
        simp only [Bool.not_eq_true', Bool.not_eq_false'] at q0 q1
        unfold relE
        repeat' split
        all_goals first | rfl | omega | simp_all
      exact ⟨by rw [hE], by rw [show relL l s c = l by unfold relL; rw [hE]; rfl]; exact H3⟩
    · have g10 := bnot_false b8
      refine wp_know 23 (.bool false) (congrArg Value.bool b8) ?_
      refine wp_iff rfl ?_
      refine w_seq ?_
      refine w_lit ?_
      refine wl_pure (wants0 rfl) (d := 27) (v := (.int .i64 ((lookM l s).getD 0))) rfl (by kernel_rfl) ?_
      refine wl_pure (wants0 rfl) (d := 28) (v := (.int .i64 (c))) rfl (by kernel_rfl) ?_
      refine wl_pure (wants0 rfl) (d := 29) (v := (.bool (!(decide (((lookM l s).getD 0) = c))))) rfl (by kernel_rfl) ?_
      refine wl_pure (wants0 rfl) (d := 26) (v := (.bool (!(decide (((lookM l s).getD 0) = c))))) rfl (by kernel_rfl) ?_
      refine w_nil ?_
      refine then_normal ?_
      refine (bsplit (!(decide (((lookM l s).getD 0) = c)))).elim (fun b11 => ?_) (fun b11 => ?_)
      · have g12 := bnot_true b11
        have g13 := of_decide_eq_false g12
        refine wp_know 26 (.bool true) (congrArg Value.bool b11) ?_
        refine wp_ift rfl ?_
        refine w_seq ?_
        refine w_lit ?_
        refine wl_pure (wants0 rfl) (d := 6) (v := (.int .i64 (12))) rfl (by kernel_rfl) ?_
        refine w_nil ?_
        refine then_normal ?_
        refine w_ret ?_
        refine blk_ret ?_
        refine then_ret ?_
        refine end1 rfl (res_tmp (v := (.int .i64 (12))) rfl) ?_
        have hE : relE l s c = 12 := by
          have q0 := b5
          have q1 := b8
          have q2 := b11
          simp only [Bool.not_eq_true', Bool.not_eq_false', decide_eq_false_iff_not] at q0 q1 q2
          unfold relE
          repeat' split
          all_goals first | rfl | omega | simp_all
        exact ⟨by rw [hE], by rw [show relL l s c = l by unfold relL; rw [hE]; rfl]; exact H3⟩
      · have g14 := bnot_false b11
        have g15 := of_decide_eq_true g14
        refine wp_know 26 (.bool false) (congrArg Value.bool b11) ?_
        refine wp_iff rfl ?_
        refine w_skip ?_
        refine blk_normal ?_
        refine then_normal ?_
        refine w_seq ?_
        refine w_lit ?_
        refine wl_pure (wants0 rfl) (d := 30) (v := (.pointer (some ⟨r, 0, none⟩))) rfl (by kernel_rfl) ?_
        refine wl_pure (wants0 rfl) (d := 31) (v := (.pointer (some ⟨r, 0, none⟩))) rfl (by kernel_rfl) ?_
        refine wl_pure (wants0 rfl) (d := 32) (v := (.pointer (some ⟨r, 0, none⟩))) rfl (by kernel_rfl) ?_
        refine wl_pure (wants0 rfl) (d := 33) (v := (.map (some b))) rfl (e_load1 rfl (by kernel_rfl) (H3.cell 0 rfl rfl)) ?_
        refine wl_pure (wants0 rfl) (d := 34) (v := (strV s)) rfl (by kernel_rfl) ?_
        refine wl_do (wants0 rfl) (fun K16 hK16 => ?_)
        refine d_delete0 (kt := 9) (et := 3) rfl H3 1 rfl strK (by kernel_rfl) rfl s rfl ?_
        intro w17 (H18 : Sat w [cellC r 52 ([(.map (some b))] : List Value), mapC b strV (Value.int .i64) (delM l s), restC w (regC r b l).fp] w17)
        refine hK16 _ _ ?_
        clear hK16 K16
        refine w_nil ?_
        refine then_normal ?_
        refine w_seq ?_
        refine w_lit ?_
        refine wl_pure (wants0 rfl) (d := 6) (v := (.int .i64 (0))) rfl (by kernel_rfl) ?_
        refine w_nil ?_
        refine then_normal ?_
        refine w_ret ?_
        refine end1 rfl (res_tmp (v := (.int .i64 (0))) rfl) ?_
        have hE : relE l s c = 0 := by
          have q0 := b5
          have q1 := b8
          have q2 := b11
          simp only [Bool.not_eq_false', decide_eq_true_eq] at q0 q1 q2
          unfold relE
          repeat' split
          all_goals first | rfl | omega | simp_all
        exact ⟨by rw [hE], by rw [show relL l s c = (delM l s) by unfold relL; rw [hE]; rfl]; exact H18⟩

set_option maxRecDepth 100000 in
set_option maxHeartbeats 400000 in
theorem owner_any (w : World) (r b : Nat) (l : RegL) (hR : (regC r b l).ok w) (s : List UInt8) :
    Calls Try.prog 14 #[(.pointer (some ⟨r, 0, none⟩)), (strV s)] w fun e w' => e = .returned (.tuple #[.int .i64 ((lookM l s).getD 0), .bool (lookM l s).isSome]) ∧ Upd [] w w' := by
  obtain ⟨hcell, hmap⟩ := regC_parts hR
  have H := Sat.start0 w
  refine calls_fr Try.func14 rfl 19 rfl (Nat.le_of_ble_eq_true rfl) ?_
  refine w_seq ?_
  refine w_lit ?_
  refine wl_pure (wants0 rfl) (d := 4) (v := (.int .i64 (0))) rfl (by kernel_rfl) ?_
  refine wl_pure (wants0 rfl) (d := 5) (v := (.bool false)) rfl (by kernel_rfl) ?_
  refine w_nil ?_
  refine then_normal ?_
  refine w_seq ?_
  refine w_lit ?_
  refine wl_pure (wants0 rfl) (d := 9) (v := (.pointer (some ⟨r, 0, none⟩))) rfl (by kernel_rfl) ?_
  refine wl_pure (wants0 rfl) (d := 10) (v := (.pointer (some ⟨r, 0, none⟩))) rfl (by kernel_rfl) ?_
  refine wl_pure (wants0 rfl) (d := 11) (v := (.pointer (some ⟨r, 0, none⟩))) rfl (by kernel_rfl) ?_
  refine wl_pure (wants0 rfl) (d := 12) (v := (.map (some b))) rfl (e_load1 rfl (by kernel_rfl) (H.roCell 0 rfl hcell (fun h => h) rfl)) ?_
  refine wl_pure (wants0 rfl) (d := 13) (v := (strV s)) rfl (by kernel_rfl) ?_
  refine wl_pure (wants0 rfl) (d := 14) (v := (.tuple #[(.int .i64 ((lookM l s).getD 0)), (.bool ((lookM l s).isSome))])) rfl (e_lookup2 (kt := 9) (et := 3) strK (by kernel_rfl) (fun w => by kernel_rfl) rfl s rfl (H.roMap 0 rfl hmap (fun h => h)) (optD (Value.int .i64) _ _) rfl) ?_
  refine wl_pure (wants0 rfl) (d := 8) (v := (.tuple #[(.int .i64 ((lookM l s).getD 0)), (.bool ((lookM l s).isSome))])) rfl (by kernel_rfl) ?_
  refine wl_pure (wants0 rfl) (d := 15) (v := (.int .i64 ((lookM l s).getD 0))) rfl (by kernel_rfl) ?_
  refine wl_pure (wants0 rfl) (d := 16) (v := (.bool ((lookM l s).isSome))) rfl (by kernel_rfl) ?_
  refine wl_pure (wants0 rfl) (d := 6) (v := (.int .i64 ((lookM l s).getD 0))) rfl (by kernel_rfl) ?_
  refine wl_pure (wants0 rfl) (d := 7) (v := (.bool ((lookM l s).isSome))) rfl (by kernel_rfl) ?_
  refine w_nil ?_
  refine then_normal ?_
  refine w_seq ?_
  refine w_lit ?_
  refine wl_pure (wants0 rfl) (d := 17) (v := (.int .i64 ((lookM l s).getD 0))) rfl (by kernel_rfl) ?_
  refine wl_pure (wants0 rfl) (d := 18) (v := (.bool ((lookM l s).isSome))) rfl (by kernel_rfl) ?_
  refine wl_pure (wants0 rfl) (d := 4) (v := (.int .i64 ((lookM l s).getD 0))) rfl (by kernel_rfl) ?_
  refine wl_pure (wants0 rfl) (d := 5) (v := (.bool ((lookM l s).isSome))) rfl (by kernel_rfl) ?_
  refine w_nil ?_
  refine then_normal ?_
  refine w_ret ?_
  refine end2 rfl (res_tmp (v := (.int .i64 ((lookM l s).getD 0))) rfl) (res_tmp (v := (.bool ((lookM l s).isSome))) rfl) ?_
  exact ⟨rfl, H.upd 0 rfl [] (fun _ h => h.elim)⟩

set_option maxRecDepth 100000 in
set_option maxHeartbeats 400000 in
theorem count_any (w : World) (r b : Nat) (l : RegL) (hR : (regC r b l).ok w) (hS : Short l) (c : Int) :
    Calls Try.prog 12 #[(.pointer (some ⟨r, 0, none⟩)), (.int .i64 (c))] w fun e w' => e = .returned (.int .i64 (cntL l c)) ∧ Upd [] w w' := by
  obtain ⟨hcell, hmap⟩ := regC_parts hR
  have H := Sat.start0 w
  have hlen := hS.1
  refine calls_fr Try.func12 rfl 23 rfl (Nat.le_of_ble_eq_true rfl) ?_
  refine w_seq ?_
  refine w_lit ?_
  refine wl_pure (wants0 rfl) (d := 4) (v := (.int .i64 (0))) rfl (by kernel_rfl) ?_
  refine w_nil ?_
  refine then_normal ?_
  refine w_seq ?_
  refine w_lit ?_
  refine wl_pure (wants0 rfl) (d := 5) (v := (.int .i64 (0))) rfl (by kernel_rfl) ?_
  refine w_nil ?_
  refine then_normal ?_
  refine w_seq ?_
  refine w_seq ?_
  refine w_lit ?_
  refine wl_pure (wants0 rfl) (d := 8) (v := (.pointer (some ⟨r, 0, none⟩))) rfl (by kernel_rfl) ?_
  refine wl_pure (wants0 rfl) (d := 9) (v := (.pointer (some ⟨r, 0, none⟩))) rfl (by kernel_rfl) ?_
  refine wl_pure (wants0 rfl) (d := 10) (v := (.pointer (some ⟨r, 0, none⟩))) rfl (by kernel_rfl) ?_
  refine wl_pure (wants0 rfl) (d := 11) (v := (.map (some b))) rfl (e_load1 rfl (by kernel_rfl) (H.roCell 0 rfl hcell (fun h => h) rfl)) ?_
  refine wl_do (wants0 rfl) (fun K1 hK1 => ?_)
  refine d_rangeR (kt := 9) (et := 3) rfl H 0 rfl hmap (fun h => h) (by kernel_rfl) rfl ?_
  intro r2 w3 (H4 : Sat w [restC w (fun _ => False), iterR w r2 b strV (Value.int .i64) l []] w3)
  refine hK1 _ _ ?_
  clear hK1 K1
  refine w_nil ?_
  refine then_normal ?_
  refine w_block ?_
  refine wp_round [5, 7, 13, 14, 15, 16, 17, 18, 19, 20, 21] (fun F_ W_ m_ => ∃ (seen rest : List (List UInt8 × Int)), F_ 5 = (.int .i64 (cntL seen c)) ∧ ((l).Perm (seen ++ rest)) ∧ Sat w [restC w (fun _ => False), iterR w r2 b strV (Value.int .i64) l seen] W_ ∧ m_ = rest.length) _ ⟨[], l, (show ((.int .i64 (0)) : Value) = _ by first | rfl | go_num), (List.Perm.refl _), H4, rfl⟩ ?_
  rintro g5 w6 _ ⟨seen, rest, v8, hperm, H7, rfl⟩
  refine wp_know 5 _ v8 ?_
  refine w_seq ?_
  refine w_lit ?_
  refine wl_do (wants0 rfl) (fun K10 hK10 => ?_)
  refine d_nextR rfl H7 1 rfl 0 rfl (fun h => h) rfl ?_ ?_
  · intro p11
    refine hK10 _ _ ?_
    clear hK10 K10
    refine wl_pure (wants0 rfl) (d := 14) (v := (.bool false)) rfl (by kernel_rfl) ?_
    refine w_nil ?_
    refine then_normal ?_
    refine w_seq ?_
    refine wp_iff rfl ?_
    refine w_exit ?_
    refine then_exit ?_
    refine back_exit ?_
    refine blk_hit ?_
    refine then_normal ?_
    refine w_seq ?_
    refine w_lit ?_
    refine wl_pure (wants0 rfl) (d := 22) (v := (.int .i64 (cntL seen c))) rfl (by kernel_rfl) ?_
    refine wl_pure (wants0 rfl) (d := 4) (v := (.int .i64 (cntL seen c))) rfl (by kernel_rfl) ?_
    refine w_nil ?_
    refine then_normal ?_
    refine w_ret ?_
    refine end1 rfl (res_tmp (v := (.int .i64 (cntL seen c))) rfl) ?_
    exact ⟨by unfold cntL; rw [(p11).countP_eq], H7.upd 0 rfl [] (fun _ h => h.elim)⟩
  · intro y12 t13 w14 p15 (H16 : Sat w [restC w (fun _ => False), iterR w r2 b strV (Value.int .i64) l (seen ++ [y12])] w14)
    refine hK10 _ _ ?_
    clear hK10 K10
    refine wl_pure (wants0 rfl) (d := 14) (v := (.bool true)) rfl (by kernel_rfl) ?_
    refine w_nil ?_
    refine then_normal ?_
    refine w_seq ?_
    refine wp_ift rfl ?_
    refine w_skip ?_
    refine then_normal ?_
    refine w_block ?_
    refine w_seq ?_
    refine w_lit ?_
    refine wl_pure (wants0 rfl) (d := 15) (v := (.tuple #[(strV y12.1), (.int .i64 (y12.2))])) rfl (H16.entryR 1 rfl 0 rfl (fun h => h) rfl) ?_
    refine wl_pure (wants0 rfl) (d := 16) (v := (.int .i64 (y12.2))) rfl (by kernel_rfl) ?_
    refine wl_pure (wants0 rfl) (d := 7) (v := (.int .i64 (y12.2))) rfl (by kernel_rfl) ?_
    refine w_nil ?_
    refine then_normal ?_
    refine w_seq ?_
    refine w_lit ?_
    refine wl_pure (wants0 rfl) (d := 17) (v := (.int .i64 (y12.2))) rfl (by kernel_rfl) ?_
    refine wl_pure (wants0 rfl) (d := 18) (v := (.int .i64 (c))) rfl (by kernel_rfl) ?_
    refine wl_pure (wants0 rfl) (d := 19) (v := (.bool (decide (y12.2 = c)))) rfl (by kernel_rfl) ?_
    refine w_nil ?_
    refine then_normal ?_
    refine (bsplit (decide (y12.2 = c))).elim (fun b17 => ?_) (fun b17 => ?_)
    · have g18 := of_decide_eq_true b17
      refine wp_know 19 (.bool true) (congrArg Value.bool b17) ?_
      refine wp_ift rfl ?_
      refine w_lit ?_
      refine wl_pure (wants0 rfl) (d := 20) (v := (.int .i64 (cntL seen c))) rfl (by kernel_rfl) ?_
      refine wl_pure (wants0 rfl) (d := 21) (v := (.int .i64 ((cntL seen c) + 1))) rfl (e_int (z := (cntL seen c) + 1) (by kernel_rfl) (IntWalk.i64_in _ (by have h1 := hperm.length_eq; have h2 := List.countP_le_length (l := seen) (p := fun x => decide (x.2 = c)); unfold cntL; simp only [List.length_append] at h1; omega))) ?_
      refine wl_pure (wants0 rfl) (d := 5) (v := (.int .i64 ((cntL seen c) + 1))) rfl (by kernel_rfl) ?_
      refine w_nil ?_
      refine blk_normal ?_
      refine round_back ?_ _ ⟨(seen ++ [y12]), t13, (show ((.int .i64 ((cntL seen c) + 1)) : Value) = _ by unfold cntL; rw [List.countP_append]; simp [b17]), p15, H16, rfl⟩ (by have h1 := hperm.length_eq; have h2 := p15.length_eq; simp only [List.length_append, List.length_cons, List.length_nil] at h1 h2; omega)
      exact (same_upd rfl (same_upd rfl (same_upd rfl (same_upd rfl (same_upd rfl (same_upd rfl (same_upd rfl (same_upd rfl (same_upd rfl (same_upd rfl (same_upd rfl (same_upd rfl (same_upd rfl (same_ovr))))))))))))))
    · have g19 := of_decide_eq_false b17
      refine wp_know 19 (.bool false) (congrArg Value.bool b17) ?_
      refine wp_iff rfl ?_
      refine w_skip ?_
      refine blk_normal ?_
      refine round_back ?_ _ ⟨(seen ++ [y12]), t13, (show ((.int .i64 (cntL seen c)) : Value) = _ by unfold cntL; rw [List.countP_append]; simp [b17]), p15, H16, rfl⟩ (by have h1 := hperm.length_eq; have h2 := p15.length_eq; simp only [List.length_append, List.length_cons, List.length_nil] at h1 h2; omega)
      exact (same_upd rfl (same_upd rfl (same_upd rfl (same_upd rfl (same_upd rfl (same_upd rfl (same_upd rfl (same_upd rfl (same_upd rfl (same_upd rfl (same_ovr)))))))))))

set_option maxRecDepth 100000 in
set_option maxHeartbeats 400000 in
theorem items_any (w : World) (r b : Nat) (l : RegL) (hR : (regC r b l).ok w) (hS : Short l) :
    Calls Try.prog 10 #[(.pointer (some ⟨r, 0, none⟩))] w fun e w' => ∃ u, e = .returned u ∧ (rowC 9 1 u (sortK l).length ((sortK l).flatMap encS)).ok w' ∧ Upd [] w w' ∧ ∀ k, u.ownBlock = some k → w.heap.size ≤ k := by
  obtain ⟨hcell, hmap⟩ := regC_parts hR
  have H := Sat.start0 w
  refine calls_fr Try.func10 rfl 9 rfl (Nat.le_of_ble_eq_true rfl) ?_
  refine w_seq ?_
  refine w_lit ?_
  refine wl_pure (wants0 rfl) (d := 2) (v := (.slice none 0 0)) rfl (by kernel_rfl) ?_
  refine w_nil ?_
  refine then_normal ?_
  refine w_seq ?_
  refine w_lit ?_
  refine wl_pure (wants0 rfl) (d := 3) (v := (.pointer (some ⟨r, 0, none⟩))) rfl (by kernel_rfl) ?_
  refine wl_pure (wants0 rfl) (d := 4) (v := (.pointer (some ⟨r, 0, none⟩))) rfl (by kernel_rfl) ?_
  refine wl_pure (wants0 rfl) (d := 5) (v := (.pointer (some ⟨r, 0, none⟩))) rfl (by kernel_rfl) ?_
  refine wl_pure (wants0 rfl) (d := 6) (v := (.map (some b))) rfl (e_load1 rfl (by kernel_rfl) (H.roCell 0 rfl hcell (fun h => h) rfl)) ?_
  refine wl_do (wants0 rfl) (fun K1 hK1 => ?_)
  refine d_call (d := 7) rfl (by kernel_rfl) (keysB_any w b) ?_
  rintro _ w3 ⟨b2, rfl, k4, p5, q6⟩
  have H7 : Sat w [restC w (fun _ => False), cellC b2 50 ([(.map (some b))] : List Value)] w3 := H.addU p5 k4 (fun _ h => h ▸ q6)
  refine ⟨_, rfl, ?_⟩
  refine hK1 _ _ ?_
  clear hK1 K1
  refine wl_do (wants0 rfl) (fun K8 hK8 => ?_)
  refine d_call (d := 8) rfl (by kernel_rfl) (sortedB_any w3 b b2 l (H7.cell 1 rfl rfl) (H7.roMap 0 rfl hmap (fun h => h)) (by have := hS.1; omega) (fun x hx => by have := hS.2 x hx; omega)) ?_
  rintro _ w9 ⟨u10, rfl, k11, p12, q13⟩
  have H14 : Sat w [restC w (fun _ => False), cellC b2 50 ([(.map (some b))] : List Value), rowC 9 1 u10 ((sortK l).length) ((sortK l).flatMap encS)] w9 := H7.addU p12 k11 q13
  obtain ⟨a15, c16, rfl⟩ := ownsRow_shape (H14.at 2 rfl)
  refine ⟨_, rfl, ?_⟩
  refine hK8 _ _ ?_
  clear hK8 K8
  refine wl_pure (wants0 rfl) (d := 2) (v := (.slice a15 ((sortK l).length) c16)) rfl (by kernel_rfl) ?_
  refine w_nil ?_
  refine then_normal ?_
  refine w_ret ?_
  refine end1 rfl (res_tmp (v := (.slice a15 ((sortK l).length) c16)) rfl) ?_
  exact ⟨_, rfl, H14.at 2 rfl, H14.upd 0 rfl [] (fun _ h => h.elim), H14.fresh 0 rfl (fun _ h => h) 2 rfl rfl⟩

set_option maxRecDepth 100000 in
set_option maxHeartbeats 400000 in
theorem new_any (w : World) :
    Calls Try.prog 7 #[] w fun e w' => ∃ r b, e = .returned (.pointer (some ⟨r, 0, none⟩)) ∧ (regC r b []).ok w' ∧ Upd [] w w' ∧ w.heap.size ≤ r ∧ w.heap.size ≤ b := by
  have H := Sat.start0 w
  refine calls_fr Try.func7 rfl 4 rfl (Nat.le_of_ble_eq_true rfl) ?_
  refine w_seq ?_
  refine w_lit ?_
  refine wl_pure (wants0 rfl) (d := 0) (v := (.pointer none)) rfl (by kernel_rfl) ?_
  refine w_nil ?_
  refine then_normal ?_
  refine w_seq ?_
  refine w_lit ?_
  refine wl_do (wants0 rfl) (fun K1 hK1 => ?_)
  refine d_makeMap strV (Value.int .i64) rfl H ?_
  intro b2 w3 (H4 : Sat w [restC w (fun _ => False), mapC b2 strV (Value.int .i64) []] w3)
  refine hK1 _ _ ?_
  clear hK1 K1
  refine wl_pure (wants0 rfl) (d := 2) (v := (.agg ⟨([(.map (some b2))] : List Value)⟩)) rfl (by kernel_rfl) ?_
  refine wl_do (wants0 rfl) (fun K5 hK5 => ?_)
  refine d_box (vs := ([(.map (some b2))] : List Value)) rfl H4 rfl rfl ?_
  intro b6 w7 (H8 : Sat w [restC w (fun _ => False), mapC b2 strV (Value.int .i64) [], cellC b6 52 ([(.map (some b2))] : List Value)] w7)
  refine hK5 _ _ ?_
  clear hK5 K5
  refine wl_pure (wants0 rfl) (d := 0) (v := (.pointer (some ⟨b6, 0, none⟩))) rfl (by kernel_rfl) ?_
  refine w_nil ?_
  refine then_normal ?_
  refine w_ret ?_
  refine end1 rfl (res_tmp (v := (.pointer (some ⟨b6, 0, none⟩))) rfl) ?_
  exact ⟨b6, b2, rfl, H8.fin [2, 1] (by decide) rfl, H8.upd 0 rfl [] (fun _ h => h.elim), H8.fresh 0 rfl (fun _ h => h) 2 rfl rfl b6 rfl, H8.fresh 0 rfl (fun _ h => h) 1 rfl rfl b2 rfl⟩

end Go.Proofs.Ytjlbabikogdknaa
