/- WHAT IS PROVED: RegistryLimits: its walk. Conditions: stated with each. -/
import Derived.Test.YtjlbabikogdknaaWakes18
namespace Go.Proofs.Ytjlbabikogdknaa
open Go.RowKit

theorem all_take_succ {s : List UInt8} {i : Nat} (hi : i < s.length) : (s.take (i + 1)).all lcB = ((s.take i).all lcB && lcB (s.getD i 0)) := by
  rw [List.getD_eq_getElem?_getD, List.take_add_one, List.getElem?_eq_getElem hi, List.all_append]
  simp
theorem back_nil (s : List UInt8) (c : Int) : relL (resL [] s c) s c = [] := by
  unfold resL resE relL relE delM putM lookM
  by_cases h : mayB s c = true <;> simp [h]
theorem relE_back (s : List UInt8) (c : Int) : relE (resL [] s c) s c = if mayB s c = true then 0 else 1 := by
  unfold resL resE relE putM lookM
  by_cases h : mayB s c = true <;> simp [h]
set_option maxRecDepth 100000 in
set_option maxHeartbeats 400000 in
theorem limits18_all (w : World) (item : List UInt8) (client : Int) (hl : item.length ≤ 9223372036854775807) :
    Calls Try.prog 3 #[(strV item), (.int .i64 (client))] w fun e w' => e = .returned (.bool true) ∧ Upd [] w w' := by
  have H := Sat.start0 w
  have hw := within_lim client 1 (by omega)
  refine calls_fr Try.func3 rfl 103 rfl (Nat.le_of_ble_eq_true rfl) ?_
  refine w_seq ?_
  refine w_lit ?_
  refine wl_pure (wants0 rfl) (d := 4) (v := (.bool false)) rfl (by kernel_rfl) ?_
  refine w_nil ?_
  refine then_normal ?_
  refine w_seq ?_
  refine w_lit ?_
  refine wl_do (wants0 rfl) (fun K1 hK1 => ?_)
  refine d_call (d := 10) rfl (by kernel_rfl) (new_any w) ?_
  rintro _ w4 ⟨r2, b3, rfl, k5, u6, p7, q8⟩
  have H9 : Sat w [restC w (fun _ => False), regC r2 b3 []] w4 := H.addU u6 k5 (fun x hx => by simp [regC, regL, sepC, cellC, mapC] at hx; omega)
  have H10 : Sat w [restC w (fun _ => False), cellC r2 52 ([(.map (some b3))] : List Value), mapC b3 strV (Value.int .i64) []] w4 := H9.open 1 rfl
  refine ⟨_, rfl, ?_⟩
  refine hK1 _ _ ?_
  clear hK1 K1
  refine wl_pure (wants0 rfl) (d := 5) (v := (.pointer (some ⟨r2, 0, none⟩))) rfl (by kernel_rfl) ?_
  refine w_nil ?_
  refine then_normal ?_
  refine w_seq ?_
  refine w_seq ?_
  refine w_lit ?_
  refine wl_pure (wants0 rfl) (d := 11) (v := (.pointer (some ⟨r2, 0, none⟩))) rfl (by kernel_rfl) ?_
  refine wl_pure (wants0 rfl) (d := 12) (v := (.bool false)) rfl (by kernel_rfl) ?_
  refine w_nil ?_
  refine then_normal ?_
  refine wp_iff rfl ?_
  refine w_skip ?_
  refine then_normal ?_
  refine w_seq ?_
  refine w_seq ?_
  refine w_lit ?_
  refine wl_pure (wants0 rfl) (d := 13) (v := (strV item)) rfl (by kernel_rfl) ?_
  refine wl_pure (wants0 rfl) (d := 14) (v := (.int .i64 ((item.length : Int)))) rfl (e_lenStr (by kernel_rfl) rfl) ?_
  refine wl_pure (wants0 rfl) (d := 15) (v := (.bool (decide ((item.length : Int) > 30)))) rfl (by kernel_rfl) ?_
  refine w_nil ?_
  refine then_normal ?_
  refine (bsplit (decide ((item.length : Int) > 30))).elim (fun b11 => ?_) (fun b11 => ?_)
  · have g12 := of_decide_eq_true b11
    refine wp_know 15 (.bool true) (congrArg Value.bool b11) ?_
    refine wp_ift rfl ?_
    refine w_lit ?_
    refine wl_pure (wants0 rfl) (d := 16) (v := (strV item)) rfl (by kernel_rfl) ?_
    refine wl_pure (wants0 rfl) (d := 17) (v := (strV (item.take 30))) rfl (e_sliceStrHi (q := 30) (by kernel_rfl) rfl rfl (by omega) (by omega)) ?_
    refine wl_pure (wants0 rfl) (d := 0) (v := (strV (item.take 30))) rfl (by kernel_rfl) ?_
    refine w_nil ?_
    refine then_normal ?_
    refine wp_meetR [6, 18, 19, 20, 21, 22, 23, 24, 25, 26, 27, 28, 29, 30, 31, 32, 33] (fun G_ W_ => G_ 6 = (.bool ((decide (((item.take 30).length : Int) ≥ 1) && decide (((item.take 30).length : Int) ≤ 16) && decide (client ≥ 0) && decide (client < 100)))) ∧ Sat w [restC w (fun _ => False), cellC r2 52 ([(.map (some b3))] : List Value), mapC b3 strV (Value.int .i64) []] W_) ?_ ?_
    · refine w_lit ?_
      refine wl_pure (wants0 rfl) (d := 18) (v := (strV (item.take 30))) rfl (by kernel_rfl) ?_
      refine wl_pure (wants0 rfl) (d := 19) (v := (.int .i64 (((item.take 30).length : Int)))) rfl (e_lenStr (by kernel_rfl) rfl) ?_
      refine wl_pure (wants0 rfl) (d := 20) (v := (.bool (decide (((item.take 30).length : Int) ≥ 1)))) rfl (by kernel_rfl) ?_
      refine wl_pure (wants0 rfl) (d := 21) (v := (.bool (decide (((item.take 30).length : Int) ≥ 1)))) rfl (by kernel_rfl) ?_
      refine (bsplit (decide (((item.take 30).length : Int) ≥ 1))).elim (fun b14 => ?_) (fun b14 => ?_)
      · have g15 := of_decide_eq_true b14
        refine wl_know 21 (.bool true) (congrArg Value.bool b14) ?_
        refine wl_pure (wantsY 3 21 true rfl (by kernel_rfl) rfl (by kernel_rfl)) (d := 22) (v := (strV (item.take 30))) rfl (by kernel_rfl) ?_
        refine wl_pure (wantsY 3 21 true rfl (by kernel_rfl) rfl (by kernel_rfl)) (d := 23) (v := (.int .i64 (((item.take 30).length : Int)))) rfl (e_lenStr (by kernel_rfl) rfl) ?_
        refine wl_pure (wantsY 3 21 true rfl (by kernel_rfl) rfl (by kernel_rfl)) (d := 24) (v := (.bool (decide (((item.take 30).length : Int) ≤ 16)))) rfl (by kernel_rfl) ?_
        refine wl_pure (wants0 rfl) (d := 25) (v := (.bool (decide (((item.take 30).length : Int) ≤ 16)))) rfl (by kernel_rfl) ?_
        refine wl_pure (wants0 rfl) (d := 26) (v := (.bool (decide (((item.take 30).length : Int) ≤ 16)))) rfl (by kernel_rfl) ?_
        refine (bsplit (decide (((item.take 30).length : Int) ≤ 16))).elim (fun b16 => ?_) (fun b16 => ?_)
        · have g17 := of_decide_eq_true b16
          refine wl_know 26 (.bool true) (congrArg Value.bool b16) ?_
          refine wl_pure (wantsY 8 26 true rfl (by kernel_rfl) rfl (by kernel_rfl)) (d := 27) (v := (.int .i64 (client))) rfl (by kernel_rfl) ?_
          refine wl_pure (wantsY 8 26 true rfl (by kernel_rfl) rfl (by kernel_rfl)) (d := 28) (v := (.bool (decide (client ≥ 0)))) rfl (by kernel_rfl) ?_
          refine wl_pure (wants0 rfl) (d := 29) (v := (.bool (decide (client ≥ 0)))) rfl (by kernel_rfl) ?_
          refine wl_pure (wants0 rfl) (d := 30) (v := (.bool (decide (client ≥ 0)))) rfl (by kernel_rfl) ?_
          refine (bsplit (decide (client ≥ 0))).elim (fun b18 => ?_) (fun b18 => ?_)
          · have g19 := of_decide_eq_true b18
            refine wl_know 30 (.bool true) (congrArg Value.bool b18) ?_
            refine wl_pure (wantsY 12 30 true rfl (by kernel_rfl) rfl (by kernel_rfl)) (d := 31) (v := (.int .i64 (client))) rfl (by kernel_rfl) ?_
            refine wl_pure (wantsY 12 30 true rfl (by kernel_rfl) rfl (by kernel_rfl)) (d := 32) (v := (.bool (decide (client < 100)))) rfl (by kernel_rfl) ?_
            refine wl_pure (wants0 rfl) (d := 33) (v := (.bool (decide (client < 100)))) rfl (by kernel_rfl) ?_
            refine wl_pure (wants0 rfl) (d := 6) (v := (.bool (decide (client < 100)))) rfl (by kernel_rfl) ?_
            refine w_nil ?_
            refine meetR_at ?_ ⟨(congrArg Value.bool (show (decide (client < 100)) = ((decide (((item.take 30).length : Int) ≥ 1) && decide (((item.take 30).length : Int) ≤ 16) && decide (client ≥ 0) && decide (client < 100))) by rw [b14, b16, b18]; first | rfl | simp only [Bool.false_and, Bool.and_false, Bool.true_and, Bool.and_self])), H10⟩
            exact (same_upd rfl (same_upd rfl (same_upd rfl (same_upd rfl (same_upd rfl (same_upd rfl (same_upd rfl (same_upd rfl (same_upd rfl (same_upd rfl (same_upd rfl (same_upd rfl (same_upd rfl (same_upd rfl (same_upd rfl (same_upd rfl (same_upd rfl (same_upd rfl (same_upd rfl (same_upd rfl (same_refl)))))))))))))))))))))
          · have g20 := of_decide_eq_false b18
            refine wl_know 30 (.bool false) (congrArg Value.bool b18) ?_
            refine wl_pass (wantsN 12 30 true rfl (by kernel_rfl) rfl (by kernel_rfl)) rfl ?_
            refine wl_pass (wantsN 12 30 true rfl (by kernel_rfl) rfl (by kernel_rfl)) rfl ?_
            refine wl_pure (wants0 rfl) (d := 33) (v := (.bool false)) rfl (by kernel_rfl) ?_
            refine wl_pure (wants0 rfl) (d := 6) (v := (.bool false)) rfl (by kernel_rfl) ?_
            refine w_nil ?_
            refine meetR_at ?_ ⟨(congrArg Value.bool (show false = ((decide (((item.take 30).length : Int) ≥ 1) && decide (((item.take 30).length : Int) ≤ 16) && decide (client ≥ 0) && decide (client < 100))) by rw [b14, b16, b18]; first | rfl | simp only [Bool.false_and, Bool.and_false, Bool.true_and, Bool.and_self])), H10⟩
            exact (same_upd rfl (same_upd rfl (same_upd rfl (same_upd rfl (same_upd rfl (same_upd rfl (same_upd rfl (same_upd rfl (same_upd rfl (same_upd rfl (same_upd rfl (same_upd rfl (same_upd rfl (same_upd rfl (same_upd rfl (same_upd rfl (same_upd rfl (same_upd rfl (same_upd rfl (same_upd rfl (same_refl)))))))))))))))))))))
        · have g21 := of_decide_eq_false b16
          refine wl_know 26 (.bool false) (congrArg Value.bool b16) ?_
          refine wl_pass (wantsN 8 26 true rfl (by kernel_rfl) rfl (by kernel_rfl)) rfl ?_
          refine wl_pass (wantsN 8 26 true rfl (by kernel_rfl) rfl (by kernel_rfl)) rfl ?_
          refine wl_pure (wants0 rfl) (d := 29) (v := (.bool false)) rfl (by kernel_rfl) ?_
          refine wl_pure (wants0 rfl) (d := 30) (v := (.bool false)) rfl (by kernel_rfl) ?_
          refine wl_pass (wantsN 12 30 true rfl (by kernel_rfl) rfl (by kernel_rfl)) rfl ?_
          refine wl_pass (wantsN 12 30 true rfl (by kernel_rfl) rfl (by kernel_rfl)) rfl ?_
          refine wl_pure (wants0 rfl) (d := 33) (v := (.bool false)) rfl (by kernel_rfl) ?_
          refine wl_pure (wants0 rfl) (d := 6) (v := (.bool false)) rfl (by kernel_rfl) ?_
          refine w_nil ?_
          refine meetR_at ?_ ⟨(congrArg Value.bool (show false = ((decide (((item.take 30).length : Int) ≥ 1) && decide (((item.take 30).length : Int) ≤ 16) && decide (client ≥ 0) && decide (client < 100))) by rw [b14, b16]; first | rfl | simp only [Bool.false_and, Bool.and_false, Bool.true_and, Bool.and_self])), H10⟩
          exact (same_upd rfl (same_upd rfl (same_upd rfl (same_upd rfl (same_upd rfl (same_upd rfl (same_upd rfl (same_upd rfl (same_upd rfl (same_upd rfl (same_upd rfl (same_upd rfl (same_upd rfl (same_upd rfl (same_upd rfl (same_upd rfl (same_upd rfl (same_upd rfl (same_upd rfl (same_refl))))))))))))))))))))
      · have g22 := of_decide_eq_false b14
        refine wl_know 21 (.bool false) (congrArg Value.bool b14) ?_
        refine wl_pass (wantsN 3 21 true rfl (by kernel_rfl) rfl (by kernel_rfl)) rfl ?_
        refine wl_pass (wantsN 3 21 true rfl (by kernel_rfl) rfl (by kernel_rfl)) rfl ?_
        refine wl_pass (wantsN 3 21 true rfl (by kernel_rfl) rfl (by kernel_rfl)) rfl ?_
        refine wl_pure (wants0 rfl) (d := 25) (v := (.bool false)) rfl (by kernel_rfl) ?_
        refine wl_pure (wants0 rfl) (d := 26) (v := (.bool false)) rfl (by kernel_rfl) ?_
        refine wl_pass (wantsN 8 26 true rfl (by kernel_rfl) rfl (by kernel_rfl)) rfl ?_
        refine wl_pass (wantsN 8 26 true rfl (by kernel_rfl) rfl (by kernel_rfl)) rfl ?_
        refine wl_pure (wants0 rfl) (d := 29) (v := (.bool false)) rfl (by kernel_rfl) ?_
        refine wl_pure (wants0 rfl) (d := 30) (v := (.bool false)) rfl (by kernel_rfl) ?_
        refine wl_pass (wantsN 12 30 true rfl (by kernel_rfl) rfl (by kernel_rfl)) rfl ?_
        refine wl_pass (wantsN 12 30 true rfl (by kernel_rfl) rfl (by kernel_rfl)) rfl ?_
        refine wl_pure (wants0 rfl) (d := 33) (v := (.bool false)) rfl (by kernel_rfl) ?_
        refine wl_pure (wants0 rfl) (d := 6) (v := (.bool false)) rfl (by kernel_rfl) ?_
        refine w_nil ?_
        refine meetR_at ?_ ⟨(congrArg Value.bool (show false = ((decide (((item.take 30).length : Int) ≥ 1) && decide (((item.take 30).length : Int) ≤ 16) && decide (client ≥ 0) && decide (client < 100))) by rw [b14]; first | rfl | simp only [Bool.false_and, Bool.and_false, Bool.true_and, Bool.and_self])), H10⟩
        exact (same_upd rfl (same_upd rfl (same_upd rfl (same_upd rfl (same_upd rfl (same_upd rfl (same_upd rfl (same_upd rfl (same_upd rfl (same_upd rfl (same_upd rfl (same_upd rfl (same_upd rfl (same_upd rfl (same_upd rfl (same_upd rfl (same_upd rfl (same_upd rfl (same_refl)))))))))))))))))))
    · rintro f23 w24 ⟨v26, H25⟩
      refine wp_know 6 _ v26 ?_
      refine w_seq ?_
      refine w_seq ?_
      refine w_lit ?_
      refine wl_pure (wants0 rfl) (d := 7) (v := (.int .i64 (0))) rfl (by kernel_rfl) ?_
      refine w_nil ?_
      refine then_normal ?_
      refine w_block ?_
      refine wp_round [6, 7, 34, 35, 36, 37, 38, 39, 40, 41, 42, 43, 44, 45, 46, 47, 48, 49, 50, 51, 52] (fun F_ W_ m_ => ∃ (i : Nat), F_ 7 = (.int .i64 ((i : Int))) ∧ F_ 6 = (.bool ((decide (((item.take 30).length : Int) ≥ 1) && decide (((item.take 30).length : Int) ≤ 16) && decide (client ≥ 0) && decide (client < 100)) && ((item.take 30).take i).all lcB)) ∧ (i ≤ (item.take 30).length) ∧ Sat w [restC w (fun _ => False), cellC r2 52 ([(.map (some b3))] : List Value), mapC b3 strV (Value.int .i64) []] W_ ∧ m_ = (item.take 30).length + 1 - i) _ ⟨0, (show ((.int .i64 (0)) : Value) = _ by first | rfl | go_num), (congrArg Value.bool (Bool.and_true (decide (((item.take 30).length : Int) ≥ 1) && decide (((item.take 30).length : Int) ≤ 16) && decide (client ≥ 0) && decide (client < 100))).symm), by omega, H25, rfl⟩ ?_
      rintro g27 w28 _ ⟨i, v30, v31, hi, H29, rfl⟩
      refine wp_know 7 _ v30 ?_
      refine wp_know 6 _ v31 ?_
      have hA : (item.take 30).length ≤ 9223372036854775807 := by first | omega | (simp only [List.length_take]; omega)
      refine w_seq ?_
      refine w_seq ?_
      refine w_lit ?_
      refine wl_pure (wants0 rfl) (d := 34) (v := (.int .i64 ((i : Int)))) rfl (by kernel_rfl) ?_
      refine wl_pure (wants0 rfl) (d := 35) (v := (strV (item.take 30))) rfl (by kernel_rfl) ?_
      refine wl_pure (wants0 rfl) (d := 36) (v := (.int .i64 (((item.take 30).length : Int)))) rfl (e_lenStr (by kernel_rfl) rfl) ?_
      refine wl_pure (wants0 rfl) (d := 37) (v := (.bool (decide ((i : Int) < ((item.take 30).length : Int))))) rfl (by kernel_rfl) ?_
      refine w_nil ?_
      refine then_normal ?_
      refine (bsplit (decide ((i : Int) < ((item.take 30).length : Int)))).elim (fun b33 => ?_) (fun b33 => ?_)
      · have g34 := of_decide_eq_true b33
        refine wp_know 37 (.bool true) (congrArg Value.bool b33) ?_
        refine wp_ift rfl ?_
        refine w_skip ?_
        refine then_normal ?_
        refine w_seq ?_
        refine w_block ?_
        refine w_lit ?_
        refine wl_pure (wants0 rfl) (d := 40) (v := (.bool ((decide (((item.take 30).length : Int) ≥ 1) && decide (((item.take 30).length : Int) ≤ 16) && decide (client ≥ 0) && decide (client < 100)) && ((item.take 30).take i).all lcB))) rfl (by kernel_rfl) ?_
        refine wl_pure (wants0 rfl) (d := 41) (v := (.bool ((decide (((item.take 30).length : Int) ≥ 1) && decide (((item.take 30).length : Int) ≤ 16) && decide (client ≥ 0) && decide (client < 100)) && ((item.take 30).take i).all lcB))) rfl (by kernel_rfl) ?_
        refine (bsplit ((decide (((item.take 30).length : Int) ≥ 1) && decide (((item.take 30).length : Int) ≤ 16) && decide (client ≥ 0) && decide (client < 100)) && ((item.take 30).take i).all lcB)).elim (fun b35 => ?_) (fun b35 => ?_)
        · refine wl_know 41 (.bool true) (congrArg Value.bool b35) ?_
          refine wl_pure (wantsY 1 41 true rfl (by kernel_rfl) rfl (by kernel_rfl)) (d := 42) (v := (strV (item.take 30))) rfl (by kernel_rfl) ?_
          refine wl_pure (wantsY 1 41 true rfl (by kernel_rfl) rfl (by kernel_rfl)) (d := 43) (v := (.int .i64 ((i : Int)))) rfl (by kernel_rfl) ?_
          refine wl_pure (wantsY 1 41 true rfl (by kernel_rfl) rfl (by kernel_rfl)) (d := 44) (v := (.int .u8 ((((item.take 30).getD i 0).toNat : Int)))) rfl (e_indexStr (q := i) (by kernel_rfl) rfl rfl (by omega) (by omega)) ?_
          refine wl_pure (wantsY 1 41 true rfl (by kernel_rfl) rfl (by kernel_rfl)) (d := 45) (v := (.bool (decide ((((item.take 30).getD i 0).toNat : Int) ≥ 97)))) rfl (by kernel_rfl) ?_
          refine wl_pure (wants0 rfl) (d := 46) (v := (.bool (decide ((((item.take 30).getD i 0).toNat : Int) ≥ 97)))) rfl (by kernel_rfl) ?_
          refine wl_pure (wants0 rfl) (d := 47) (v := (.bool (decide ((((item.take 30).getD i 0).toNat : Int) ≥ 97)))) rfl (by kernel_rfl) ?_
          refine (bsplit (decide ((((item.take 30).getD i 0).toNat : Int) ≥ 97))).elim (fun b36 => ?_) (fun b36 => ?_)
          · have g37 := of_decide_eq_true b36
            refine wl_know 47 (.bool true) (congrArg Value.bool b36) ?_
            refine wl_pure (wantsY 7 47 true rfl (by kernel_rfl) rfl (by kernel_rfl)) (d := 48) (v := (strV (item.take 30))) rfl (by kernel_rfl) ?_
            refine wl_pure (wantsY 7 47 true rfl (by kernel_rfl) rfl (by kernel_rfl)) (d := 49) (v := (.int .i64 ((i : Int)))) rfl (by kernel_rfl) ?_
            refine wl_pure (wantsY 7 47 true rfl (by kernel_rfl) rfl (by kernel_rfl)) (d := 50) (v := (.int .u8 ((((item.take 30).getD i 0).toNat : Int)))) rfl (e_indexStr (q := i) (by kernel_rfl) rfl rfl (by omega) (by omega)) ?_
            refine wl_pure (wantsY 7 47 true rfl (by kernel_rfl) rfl (by kernel_rfl)) (d := 51) (v := (.bool (decide ((((item.take 30).getD i 0).toNat : Int) ≤ 122)))) rfl (by kernel_rfl) ?_
            refine wl_pure (wants0 rfl) (d := 52) (v := (.bool (decide ((((item.take 30).getD i 0).toNat : Int) ≤ 122)))) rfl (by kernel_rfl) ?_
            refine wl_pure (wants0 rfl) (d := 6) (v := (.bool (decide ((((item.take 30).getD i 0).toNat : Int) ≤ 122)))) rfl (by kernel_rfl) ?_
            refine w_nil ?_
            refine blk_normal ?_
            refine then_normal ?_
            refine w_lit ?_
            refine wl_pure (wants0 rfl) (d := 38) (v := (.int .i64 ((i : Int)))) rfl (by kernel_rfl) ?_
            refine wl_pure (wants0 rfl) (d := 39) (v := (.int .i64 ((i : Int) + 1))) rfl (e_int (z := (i : Int) + 1) (by kernel_rfl) (IntWalk.i64_in _ (by omega))) ?_
            refine wl_pure (wants0 rfl) (d := 7) (v := (.int .i64 ((i : Int) + 1))) rfl (by kernel_rfl) ?_
            refine w_nil ?_
            refine round_back ?_ _ ⟨(i + 1), (show ((.int .i64 ((i : Int) + 1)) : Value) = _ by first | rfl | go_num), (show ((.bool (decide ((((item.take 30).getD i 0).toNat : Int) ≤ 122))) : Value) = _ by rw [all_take_succ (by omega), ← Bool.and_assoc, b35]; first | rfl | (congr 1; rw [Bool.eq_iff_iff]; simp only [lcB, Bool.and_eq_true, Bool.true_and, decide_eq_true_eq]; omega)), by omega, H29, rfl⟩ (by omega)
            exact (same_upd rfl (same_upd rfl (same_upd rfl (same_upd rfl (same_upd rfl (same_upd rfl (same_upd rfl (same_upd rfl (same_upd rfl (same_upd rfl (same_upd rfl (same_upd rfl (same_upd rfl (same_upd rfl (same_upd rfl (same_upd rfl (same_upd rfl (same_upd rfl (same_upd rfl (same_upd rfl (same_upd rfl (same_upd rfl (same_upd rfl (same_upd rfl (same_upd rfl (same_upd rfl (same_ovr)))))))))))))))))))))))))))
          · have g38 := of_decide_eq_false b36
            refine wl_know 47 (.bool false) (congrArg Value.bool b36) ?_
            refine wl_pass (wantsN 7 47 true rfl (by kernel_rfl) rfl (by kernel_rfl)) rfl ?_
            refine wl_pass (wantsN 7 47 true rfl (by kernel_rfl) rfl (by kernel_rfl)) rfl ?_
            refine wl_pass (wantsN 7 47 true rfl (by kernel_rfl) rfl (by kernel_rfl)) rfl ?_
            refine wl_pass (wantsN 7 47 true rfl (by kernel_rfl) rfl (by kernel_rfl)) rfl ?_
            refine wl_pure (wants0 rfl) (d := 52) (v := (.bool false)) rfl (by kernel_rfl) ?_
            refine wl_pure (wants0 rfl) (d := 6) (v := (.bool false)) rfl (by kernel_rfl) ?_
            refine w_nil ?_
            refine blk_normal ?_
            refine then_normal ?_
            refine w_lit ?_
            refine wl_pure (wants0 rfl) (d := 38) (v := (.int .i64 ((i : Int)))) rfl (by kernel_rfl) ?_
            refine wl_pure (wants0 rfl) (d := 39) (v := (.int .i64 ((i : Int) + 1))) rfl (e_int (z := (i : Int) + 1) (by kernel_rfl) (IntWalk.i64_in _ (by omega))) ?_
            refine wl_pure (wants0 rfl) (d := 7) (v := (.int .i64 ((i : Int) + 1))) rfl (by kernel_rfl) ?_
            refine w_nil ?_
            refine round_back ?_ _ ⟨(i + 1), (show ((.int .i64 ((i : Int) + 1)) : Value) = _ by first | rfl | go_num), (show ((.bool false) : Value) = _ by rw [all_take_succ (by omega), ← Bool.and_assoc, b35]; first | rfl | (congr 1; rw [Bool.eq_iff_iff]; simp only [lcB, Bool.and_eq_true, Bool.true_and, decide_eq_true_eq, Bool.false_eq_true, false_iff]; omega)), by omega, H29, rfl⟩ (by omega)
            exact (same_upd rfl (same_upd rfl (same_upd rfl (same_upd rfl (same_upd rfl (same_upd rfl (same_upd rfl (same_upd rfl (same_upd rfl (same_upd rfl (same_upd rfl (same_upd rfl (same_upd rfl (same_upd rfl (same_upd rfl (same_upd rfl (same_upd rfl (same_upd rfl (same_upd rfl (same_upd rfl (same_upd rfl (same_upd rfl (same_upd rfl (same_upd rfl (same_upd rfl (same_upd rfl (same_ovr)))))))))))))))))))))))))))
        · refine wl_know 41 (.bool false) (congrArg Value.bool b35) ?_
          refine wl_pass (wantsN 1 41 true rfl (by kernel_rfl) rfl (by kernel_rfl)) rfl ?_
          refine wl_pass (wantsN 1 41 true rfl (by kernel_rfl) rfl (by kernel_rfl)) rfl ?_
          refine wl_pass (wantsN 1 41 true rfl (by kernel_rfl) rfl (by kernel_rfl)) rfl ?_
          refine wl_pass (wantsN 1 41 true rfl (by kernel_rfl) rfl (by kernel_rfl)) rfl ?_
          refine wl_pure (wants0 rfl) (d := 46) (v := (.bool false)) rfl (by kernel_rfl) ?_
          refine wl_pure (wants0 rfl) (d := 47) (v := (.bool false)) rfl (by kernel_rfl) ?_
          refine wl_pass (wantsN 7 47 true rfl (by kernel_rfl) rfl (by kernel_rfl)) rfl ?_
          refine wl_pass (wantsN 7 47 true rfl (by kernel_rfl) rfl (by kernel_rfl)) rfl ?_
          refine wl_pass (wantsN 7 47 true rfl (by kernel_rfl) rfl (by kernel_rfl)) rfl ?_
          refine wl_pass (wantsN 7 47 true rfl (by kernel_rfl) rfl (by kernel_rfl)) rfl ?_
          refine wl_pure (wants0 rfl) (d := 52) (v := (.bool false)) rfl (by kernel_rfl) ?_
          refine wl_pure (wants0 rfl) (d := 6) (v := (.bool false)) rfl (by kernel_rfl) ?_
          refine w_nil ?_
          refine blk_normal ?_
          refine then_normal ?_
          refine w_lit ?_
          refine wl_pure (wants0 rfl) (d := 38) (v := (.int .i64 ((i : Int)))) rfl (by kernel_rfl) ?_
          refine wl_pure (wants0 rfl) (d := 39) (v := (.int .i64 ((i : Int) + 1))) rfl (e_int (z := (i : Int) + 1) (by kernel_rfl) (IntWalk.i64_in _ (by omega))) ?_
          refine wl_pure (wants0 rfl) (d := 7) (v := (.int .i64 ((i : Int) + 1))) rfl (by kernel_rfl) ?_
          refine w_nil ?_
          refine round_back ?_ _ ⟨(i + 1), (show ((.int .i64 ((i : Int) + 1)) : Value) = _ by first | rfl | go_num), (show ((.bool false) : Value) = _ by rw [all_take_succ (by omega), ← Bool.and_assoc, b35]; first | rfl | (congr 1; rw [Bool.eq_iff_iff]; simp only [lcB, Bool.and_eq_true, Bool.true_and, Bool.false_and, decide_eq_true_eq, Bool.false_eq_true, iff_false, false_iff, true_iff, iff_true]; omega)), by omega, H29, rfl⟩ (by omega)
          exact (same_upd rfl (same_upd rfl (same_upd rfl (same_upd rfl (same_upd rfl (same_upd rfl (same_upd rfl (same_upd rfl (same_upd rfl (same_upd rfl (same_upd rfl (same_upd rfl (same_upd rfl (same_upd rfl (same_upd rfl (same_upd rfl (same_upd rfl (same_upd rfl (same_upd rfl (same_upd rfl (same_upd rfl (same_upd rfl (same_upd rfl (same_upd rfl (same_upd rfl (same_ovr))))))))))))))))))))))))))
      · have g39 := of_decide_eq_false b33
        refine wp_know 37 (.bool false) (congrArg Value.bool b33) ?_
        refine wp_iff rfl ?_
        refine w_exit ?_
        refine then_exit ?_
        refine back_exit ?_
        refine blk_hit ?_
        refine then_normal ?_
        refine w_seq ?_
        have hmay : ((decide (((item.take 30).length : Int) ≥ 1) && decide (((item.take 30).length : Int) ≤ 16) && decide (client ≥ 0) && decide (client < 100)) && ((item.take 30).take i).all lcB) = mayB (item.take 30) client := by
          rw [List.take_of_length_le (show (item.take 30).length ≤ i by omega)]; unfold mayB nameB; rw [Bool.eq_iff_iff]; simp only [Bool.and_eq_true, decide_eq_true_eq]
          exact ⟨fun ⟨⟨⟨⟨q1, q2⟩, q3⟩, q4⟩, q5⟩ => ⟨⟨⟨⟨q5, by omega⟩, by omega⟩, by omega⟩, by omega⟩, fun ⟨⟨⟨⟨q5, q1⟩, q2⟩, q3⟩, q4⟩ => ⟨⟨⟨⟨by omega, by omega⟩, by omega⟩, by omega⟩, q5⟩⟩
        refine wp_know 6 (.bool (mayB (item.take 30) client)) (show ((.bool ((decide (((item.take 30).length : Int) ≥ 1) && decide (((item.take 30).length : Int) ≤ 16) && decide (client ≥ 0) && decide (client < 100)) && ((item.take 30).take i).all lcB)) : Value) = _ by rw [hmay]) ?_
        refine w_lit ?_
        refine wl_pure (wants0 rfl) (d := 53) (v := (.pointer (some ⟨r2, 0, none⟩))) rfl (by kernel_rfl) ?_
        refine wl_pure (wants0 rfl) (d := 54) (v := (strV (item.take 30))) rfl (by kernel_rfl) ?_
        refine wl_pure (wants0 rfl) (d := 55) (v := (.int .i64 (client))) rfl (by kernel_rfl) ?_
        refine wl_do (wants0 rfl) (fun K40 hK40 => ?_)
        refine d_call (d := 56) rfl (by kernel_rfl) (reserve_any w28 r2 b3 ([]) (H29.fin [1, 2] (by decide) rfl) Short.nil (item.take 30) (by first | decide | (simp only [List.length_take]; omega) | omega) client) ?_
        rintro _ w41 ⟨rfl, T42⟩
        have H43 : Sat w [restC w (fun _ => False), cellC r2 52 ([(.map (some b3))] : List Value), mapC b3 strV (Value.int .i64) (resL ([]) (item.take 30) client)] w41 := (Sat.turnL (L' := [cellC r2 52 ([(.map (some b3))] : List Value), mapC b3 strV (Value.int .i64) (resL ([]) (item.take 30) client)]) (R := [restC w (fun _ => False)]) H29 [1, 2] [0] (by decide) (by kernel_rfl) rfl T42).pick [2, 0, 1] (by decide)
        refine ⟨_, rfl, ?_⟩
        refine hK40 _ _ ?_
        clear hK40 K40
        refine wl_pure (wants0 rfl) (d := 57) (v := (.pointer (some ⟨r2, 0, none⟩))) rfl (by kernel_rfl) ?_
        refine wl_pure (wants0 rfl) (d := 58) (v := (strV (item.take 30))) rfl (by kernel_rfl) ?_
        refine wl_pure (wants0 rfl) (d := 59) (v := (.int .i64 (client))) rfl (by kernel_rfl) ?_
        refine wl_do (wants0 rfl) (fun K44 hK44 => ?_)
        refine d_call (d := 60) rfl (by kernel_rfl) (release_any w41 r2 b3 (resL ([]) (item.take 30) client) (H43.fin [1, 2] (by decide) rfl) (Short.res Short.nil (item.take 30) client) (item.take 30) (by first | decide | (simp only [List.length_take]; omega) | omega) client) ?_
        rintro _ w45 ⟨rfl, T46⟩
        have H47 : Sat w [restC w (fun _ => False), cellC r2 52 ([(.map (some b3))] : List Value), mapC b3 strV (Value.int .i64) (relL (resL ([]) (item.take 30) client) (item.take 30) client)] w45 := (Sat.turnL (L' := [cellC r2 52 ([(.map (some b3))] : List Value), mapC b3 strV (Value.int .i64) (relL (resL ([]) (item.take 30) client) (item.take 30) client)]) (R := [restC w (fun _ => False)]) H43 [1, 2] [0] (by decide) (by kernel_rfl) rfl T46).pick [2, 0, 1] (by decide)
        refine ⟨_, rfl, ?_⟩
        refine hK44 _ _ ?_
        clear hK44 K44
        refine wl_pure (wants0 rfl) (d := 8) (v := (.int .i64 (resE ([]) (item.take 30) client))) rfl (by kernel_rfl) ?_
        refine wl_pure (wants0 rfl) (d := 9) (v := (.int .i64 (relE (resL ([]) (item.take 30) client) (item.take 30) client))) rfl (by kernel_rfl) ?_
        refine w_nil ?_
        refine then_normal ?_
        refine w_seq ?_
        refine w_seq ?_
        have H48 : Sat w [restC w (fun _ => False), cellC r2 52 ([(.map (some b3))] : List Value), mapC b3 strV (Value.int .i64) []] w45 := H47.cast (by rw [back_nil])
        refine w_lit ?_
        refine wl_pure (wants0 rfl) (d := 61) (v := (.bool (mayB (item.take 30) client))) rfl (by kernel_rfl) ?_
        refine w_nil ?_
        refine then_normal ?_
        refine (bsplit (mayB (item.take 30) client)).elim (fun b49 => ?_) (fun b49 => ?_)
        · refine wp_know 61 (.bool true) (congrArg Value.bool b49) ?_
          refine wp_ift rfl ?_
          refine w_seq ?_
          refine w_lit ?_
          refine wl_pure (wants0 rfl) (d := 62) (v := (.int .i64 (resE ([]) (item.take 30) client))) rfl (by kernel_rfl) ?_
          refine wl_pure (wants0 rfl) (d := 63) (v := (.bool (decide ((resE ([]) (item.take 30) client) = 0)))) rfl (by kernel_rfl) ?_
          refine wl_pure (wants0 rfl) (d := 64) (v := (.bool (decide ((resE ([]) (item.take 30) client) = 0)))) rfl (by kernel_rfl) ?_
          have b50 : (decide ((resE ([]) (item.take 30) client) = 0)) = true := by simp [resE, lookM, *]
          refine wl_know 64 (.bool true) (congrArg Value.bool b50) ?_
          refine wl_pure (wantsY 2 64 true rfl (by kernel_rfl) rfl (by kernel_rfl)) (d := 65) (v := (.int .i64 (relE (resL ([]) (item.take 30) client) (item.take 30) client))) rfl (by kernel_rfl) ?_
          refine wl_pure (wantsY 2 64 true rfl (by kernel_rfl) rfl (by kernel_rfl)) (d := 66) (v := (.bool (decide ((relE (resL ([]) (item.take 30) client) (item.take 30) client) = 0)))) rfl (by kernel_rfl) ?_
          refine wl_pure (wants0 rfl) (d := 67) (v := (.bool (decide ((relE (resL ([]) (item.take 30) client) (item.take 30) client) = 0)))) rfl (by kernel_rfl) ?_
          refine wl_pure (wants0 rfl) (d := 68) (v := (.bool (decide ((relE (resL ([]) (item.take 30) client) (item.take 30) client) = 0)))) rfl (by kernel_rfl) ?_
          have b51 : (decide ((relE (resL ([]) (item.take 30) client) (item.take 30) client) = 0)) = true := by simp [relE_back, *]
          refine wl_know 68 (.bool true) (congrArg Value.bool b51) ?_
          refine wl_pure (wantsY 6 68 true rfl (by kernel_rfl) rfl (by kernel_rfl)) (d := 69) (v := (.pointer (some ⟨r2, 0, none⟩))) rfl (by kernel_rfl) ?_
          refine wl_do (wantsY 6 68 true rfl (by kernel_rfl) rfl (by kernel_rfl)) (fun K52 hK52 => ?_)
          refine d_call (d := 70) rfl (by kernel_rfl) (items_any w45 r2 b3 ([]) (H48.fin [1, 2] (by decide) rfl) Short.nil) ?_
          rintro _ w53 ⟨u54, rfl, k55, p56, q57⟩
          have H58 : Sat w [restC w (fun _ => False), cellC r2 52 ([(.map (some b3))] : List Value), mapC b3 strV (Value.int .i64) [], rowC 9 1 u54 ((sortK (([]) : RegL)).length) ((sortK (([]) : RegL)).flatMap encS)] w53 := H48.addU p56 k55 q57
          obtain ⟨a59, c60, rfl⟩ := ownsRow_shape (H58.at 3 rfl)
          refine ⟨_, rfl, ?_⟩
          refine hK52 _ _ ?_
          clear hK52 K52
          refine wl_pure (wantsY 6 68 true rfl (by kernel_rfl) rfl (by kernel_rfl)) (d := 71) (v := (.int .i64 (((sortK (([]) : RegL)).length : Int)))) rfl (by kernel_rfl) ?_
          refine wl_pure (wantsY 6 68 true rfl (by kernel_rfl) rfl (by kernel_rfl)) (d := 72) (v := (.bool (decide (((sortK (([]) : RegL)).length : Int) = 0)))) rfl (by kernel_rfl) ?_
          refine wl_pure (wants0 rfl) (d := 73) (v := (.bool (decide (((sortK (([]) : RegL)).length : Int) = 0)))) rfl (by kernel_rfl) ?_
          refine wl_pure (wants0 rfl) (d := 74) (v := (.bool (decide (((sortK (([]) : RegL)).length : Int) = 0)))) rfl (by kernel_rfl) ?_
          have b61 : (decide (((sortK (([]) : RegL)).length : Int) = 0)) = true := by rw [sortK_len]; rfl
          refine wl_know 74 (.bool true) (congrArg Value.bool b61) ?_
          refine wl_do (wantsY 12 74 true rfl (by kernel_rfl) rfl (by kernel_rfl)) (fun K62 hK62 => ?_)
          refine d_call (d := 75) rfl (by kernel_rfl) (wakes_any w53) ?_
          rintro _ w63 ⟨rfl, u65⟩
          have H64 := H58.keepU u65
          refine ⟨_, rfl, ?_⟩
          refine hK62 _ _ ?_
          clear hK62 K62
          refine wl_pure (wants0 rfl) (d := 76) (v := (.bool true)) rfl (by kernel_rfl) ?_
          refine wl_pure (wants0 rfl) (d := 4) (v := (.bool true)) rfl (by kernel_rfl) ?_
          refine w_nil ?_
          refine then_normal ?_
          refine w_ret ?_
          refine then_ret ?_
          refine end1 rfl (res_tmp (v := (.bool true)) rfl) ?_
          exact ⟨rfl, H64.upd 0 rfl [] (fun _ h => h.elim)⟩
        · refine wp_know 61 (.bool false) (congrArg Value.bool b49) ?_
          refine wp_iff rfl ?_
          refine w_skip ?_
          refine then_normal ?_
          refine w_seq ?_
          refine w_lit ?_
          refine wl_pure (wants0 rfl) (d := 77) (v := (.int .i64 (resE ([]) (item.take 30) client))) rfl (by kernel_rfl) ?_
          refine wl_pure (wants0 rfl) (d := 78) (v := (.bool (decide ((resE ([]) (item.take 30) client) = 1)))) rfl (by kernel_rfl) ?_
          refine wl_pure (wants0 rfl) (d := 79) (v := (.bool (decide ((resE ([]) (item.take 30) client) = 1)))) rfl (by kernel_rfl) ?_
          have b66 : (decide ((resE ([]) (item.take 30) client) = 1)) = true := by simp [resE, *]
          refine wl_know 79 (.bool true) (congrArg Value.bool b66) ?_
          refine wl_pure (wantsY 2 79 true rfl (by kernel_rfl) rfl (by kernel_rfl)) (d := 80) (v := (.int .i64 (relE (resL ([]) (item.take 30) client) (item.take 30) client))) rfl (by kernel_rfl) ?_
          refine wl_pure (wantsY 2 79 true rfl (by kernel_rfl) rfl (by kernel_rfl)) (d := 81) (v := (.bool (decide ((relE (resL ([]) (item.take 30) client) (item.take 30) client) = 1)))) rfl (by kernel_rfl) ?_
          refine wl_pure (wants0 rfl) (d := 82) (v := (.bool (decide ((relE (resL ([]) (item.take 30) client) (item.take 30) client) = 1)))) rfl (by kernel_rfl) ?_
          refine wl_pure (wants0 rfl) (d := 83) (v := (.bool (decide ((relE (resL ([]) (item.take 30) client) (item.take 30) client) = 1)))) rfl (by kernel_rfl) ?_
          have b67 : (decide ((relE (resL ([]) (item.take 30) client) (item.take 30) client) = 1)) = true := by simp [relE, *]
          refine wl_know 83 (.bool true) (congrArg Value.bool b67) ?_
          refine wl_pure (wantsY 6 83 true rfl (by kernel_rfl) rfl (by kernel_rfl)) (d := 84) (v := (.pointer (some ⟨r2, 0, none⟩))) rfl (by kernel_rfl) ?_
          refine wl_do (wantsY 6 83 true rfl (by kernel_rfl) rfl (by kernel_rfl)) (fun K68 hK68 => ?_)
          refine d_call (d := 85) rfl (by kernel_rfl) (items_any w45 r2 b3 ([]) (H48.fin [1, 2] (by decide) rfl) Short.nil) ?_
          rintro _ w69 ⟨u70, rfl, k71, p72, q73⟩
          have H74 : Sat w [restC w (fun _ => False), cellC r2 52 ([(.map (some b3))] : List Value), mapC b3 strV (Value.int .i64) [], rowC 9 1 u70 ((sortK (([]) : RegL)).length) ((sortK (([]) : RegL)).flatMap encS)] w69 := H48.addU p72 k71 q73
          obtain ⟨a75, c76, rfl⟩ := ownsRow_shape (H74.at 3 rfl)
          refine ⟨_, rfl, ?_⟩
          refine hK68 _ _ ?_
          clear hK68 K68
          refine wl_pure (wantsY 6 83 true rfl (by kernel_rfl) rfl (by kernel_rfl)) (d := 86) (v := (.int .i64 (((sortK (([]) : RegL)).length : Int)))) rfl (by kernel_rfl) ?_
          refine wl_pure (wantsY 6 83 true rfl (by kernel_rfl) rfl (by kernel_rfl)) (d := 87) (v := (.bool (decide (((sortK (([]) : RegL)).length : Int) = 0)))) rfl (by kernel_rfl) ?_
          refine wl_pure (wants0 rfl) (d := 88) (v := (.bool (decide (((sortK (([]) : RegL)).length : Int) = 0)))) rfl (by kernel_rfl) ?_
          refine wl_pure (wants0 rfl) (d := 89) (v := (.bool (decide (((sortK (([]) : RegL)).length : Int) = 0)))) rfl (by kernel_rfl) ?_
          have b77 : (decide (((sortK (([]) : RegL)).length : Int) = 0)) = true := by rw [sortK_len]; rfl
          refine wl_know 89 (.bool true) (congrArg Value.bool b77) ?_
          refine wl_pure (wantsY 12 89 true rfl (by kernel_rfl) rfl (by kernel_rfl)) (d := 90) (v := (.pointer (some ⟨r2, 0, none⟩))) rfl (by kernel_rfl) ?_
          refine wl_pure (wantsY 12 89 true rfl (by kernel_rfl) rfl (by kernel_rfl)) (d := 91) (v := (.int .i64 (client))) rfl (by kernel_rfl) ?_
          refine wl_do (wantsY 12 89 true rfl (by kernel_rfl) rfl (by kernel_rfl)) (fun K78 hK78 => ?_)
          refine d_call (d := 92) rfl (by kernel_rfl) (count_any w69 r2 b3 ([]) (H74.fin [1, 2] (by decide) rfl) Short.nil client) ?_
          rintro _ w79 ⟨rfl, u81⟩
          have H80 := H74.keepU u81
          refine ⟨_, rfl, ?_⟩
          refine hK78 _ _ ?_
          clear hK78 K78
          refine wl_pure (wantsY 12 89 true rfl (by kernel_rfl) rfl (by kernel_rfl)) (d := 93) (v := (.bool (decide ((cntL ([]) client) = 0)))) rfl (by kernel_rfl) ?_
          refine wl_pure (wants0 rfl) (d := 94) (v := (.bool (decide ((cntL ([]) client) = 0)))) rfl (by kernel_rfl) ?_
          refine wl_pure (wants0 rfl) (d := 95) (v := (.bool (decide ((cntL ([]) client) = 0)))) rfl (by kernel_rfl) ?_
          have b82 : (decide ((cntL ([]) client) = 0)) = true := by rfl
          refine wl_know 95 (.bool true) (congrArg Value.bool b82) ?_
          refine wl_pure (wantsY 18 95 true rfl (by kernel_rfl) rfl (by kernel_rfl)) (d := 96) (v := (.int .i64 (client))) rfl (by kernel_rfl) ?_
          refine wl_do (wantsY 18 95 true rfl (by kernel_rfl) rfl (by kernel_rfl)) (fun K83 hK83 => ?_)
          refine d_call (d := 97) rfl (by kernel_rfl) (within_any w79 client 1 (by omega)) ?_
          rintro _ w84 ⟨rfl, u86⟩
          have H85 := H80.keepU u86
          refine ⟨_, rfl, ?_⟩
          refine hK83 _ _ ?_
          clear hK83 K83
          refine wl_pure (wantsY 18 95 true rfl (by kernel_rfl) rfl (by kernel_rfl)) (d := 98) (v := (.bool (decide ((withinV client 1) = 0)))) rfl (by kernel_rfl) ?_
          refine wl_pure (wants0 rfl) (d := 99) (v := (.bool (decide ((withinV client 1) = 0)))) rfl (by kernel_rfl) ?_
          refine wl_pure (wants0 rfl) (d := 100) (v := (.bool (decide ((withinV client 1) = 0)))) rfl (by kernel_rfl) ?_
          have b87 : (decide ((withinV client 1) = 0)) = true := by exact decide_eq_true (by omega)
          refine wl_know 100 (.bool true) (congrArg Value.bool b87) ?_
          refine wl_do (wantsY 23 100 true rfl (by kernel_rfl) rfl (by kernel_rfl)) (fun K88 hK88 => ?_)
          refine d_call (d := 101) rfl (by kernel_rfl) (wakes_any w84) ?_
          rintro _ w89 ⟨rfl, u91⟩
          have H90 := H85.keepU u91
          refine ⟨_, rfl, ?_⟩
          refine hK88 _ _ ?_
          clear hK88 K88
          refine wl_pure (wants0 rfl) (d := 102) (v := (.bool true)) rfl (by kernel_rfl) ?_
          refine wl_pure (wants0 rfl) (d := 4) (v := (.bool true)) rfl (by kernel_rfl) ?_
          refine w_nil ?_
          refine then_normal ?_
          refine w_ret ?_
          refine end1 rfl (res_tmp (v := (.bool true)) rfl) ?_
          exact ⟨rfl, H90.upd 0 rfl [] (fun _ h => h.elim)⟩
  · have g92 := of_decide_eq_false b11
    refine wp_know 15 (.bool false) (congrArg Value.bool b11) ?_
    refine wp_iff rfl ?_
    refine w_skip ?_
    refine then_normal ?_
    refine wp_meetR [6, 18, 19, 20, 21, 22, 23, 24, 25, 26, 27, 28, 29, 30, 31, 32, 33] (fun G_ W_ => G_ 6 = (.bool ((decide ((item.length : Int) ≥ 1) && decide ((item.length : Int) ≤ 16) && decide (client ≥ 0) && decide (client < 100)))) ∧ Sat w [restC w (fun _ => False), cellC r2 52 ([(.map (some b3))] : List Value), mapC b3 strV (Value.int .i64) []] W_) ?_ ?_
    · refine w_lit ?_
      refine wl_pure (wants0 rfl) (d := 18) (v := (strV item)) rfl (by kernel_rfl) ?_
      refine wl_pure (wants0 rfl) (d := 19) (v := (.int .i64 ((item.length : Int)))) rfl (e_lenStr (by kernel_rfl) rfl) ?_
      refine wl_pure (wants0 rfl) (d := 20) (v := (.bool (decide ((item.length : Int) ≥ 1)))) rfl (by kernel_rfl) ?_
      refine wl_pure (wants0 rfl) (d := 21) (v := (.bool (decide ((item.length : Int) ≥ 1)))) rfl (by kernel_rfl) ?_
      refine (bsplit (decide ((item.length : Int) ≥ 1))).elim (fun b94 => ?_) (fun b94 => ?_)
      · have g95 := of_decide_eq_true b94
        refine wl_know 21 (.bool true) (congrArg Value.bool b94) ?_
        refine wl_pure (wantsY 3 21 true rfl (by kernel_rfl) rfl (by kernel_rfl)) (d := 22) (v := (strV item)) rfl (by kernel_rfl) ?_
        refine wl_pure (wantsY 3 21 true rfl (by kernel_rfl) rfl (by kernel_rfl)) (d := 23) (v := (.int .i64 ((item.length : Int)))) rfl (e_lenStr (by kernel_rfl) rfl) ?_
        refine wl_pure (wantsY 3 21 true rfl (by kernel_rfl) rfl (by kernel_rfl)) (d := 24) (v := (.bool (decide ((item.length : Int) ≤ 16)))) rfl (by kernel_rfl) ?_
        refine wl_pure (wants0 rfl) (d := 25) (v := (.bool (decide ((item.length : Int) ≤ 16)))) rfl (by kernel_rfl) ?_
        refine wl_pure (wants0 rfl) (d := 26) (v := (.bool (decide ((item.length : Int) ≤ 16)))) rfl (by kernel_rfl) ?_
        refine (bsplit (decide ((item.length : Int) ≤ 16))).elim (fun b96 => ?_) (fun b96 => ?_)
        · have g97 := of_decide_eq_true b96
          refine wl_know 26 (.bool true) (congrArg Value.bool b96) ?_
          refine wl_pure (wantsY 8 26 true rfl (by kernel_rfl) rfl (by kernel_rfl)) (d := 27) (v := (.int .i64 (client))) rfl (by kernel_rfl) ?_
          refine wl_pure (wantsY 8 26 true rfl (by kernel_rfl) rfl (by kernel_rfl)) (d := 28) (v := (.bool (decide (client ≥ 0)))) rfl (by kernel_rfl) ?_
          refine wl_pure (wants0 rfl) (d := 29) (v := (.bool (decide (client ≥ 0)))) rfl (by kernel_rfl) ?_
          refine wl_pure (wants0 rfl) (d := 30) (v := (.bool (decide (client ≥ 0)))) rfl (by kernel_rfl) ?_
          refine (bsplit (decide (client ≥ 0))).elim (fun b98 => ?_) (fun b98 => ?_)
          · have g99 := of_decide_eq_true b98
            refine wl_know 30 (.bool true) (congrArg Value.bool b98) ?_
            refine wl_pure (wantsY 12 30 true rfl (by kernel_rfl) rfl (by kernel_rfl)) (d := 31) (v := (.int .i64 (client))) rfl (by kernel_rfl) ?_
            refine wl_pure (wantsY 12 30 true rfl (by kernel_rfl) rfl (by kernel_rfl)) (d := 32) (v := (.bool (decide (client < 100)))) rfl (by kernel_rfl) ?_
            refine wl_pure (wants0 rfl) (d := 33) (v := (.bool (decide (client < 100)))) rfl (by kernel_rfl) ?_
            refine wl_pure (wants0 rfl) (d := 6) (v := (.bool (decide (client < 100)))) rfl (by kernel_rfl) ?_
            refine w_nil ?_
            refine meetR_at ?_ ⟨(congrArg Value.bool (show (decide (client < 100)) = ((decide ((item.length : Int) ≥ 1) && decide ((item.length : Int) ≤ 16) && decide (client ≥ 0) && decide (client < 100))) by rw [b94, b96, b98]; first | rfl | simp only [Bool.false_and, Bool.and_false, Bool.true_and, Bool.and_self])), H10⟩
            exact (same_upd rfl (same_upd rfl (same_upd rfl (same_upd rfl (same_upd rfl (same_upd rfl (same_upd rfl (same_upd rfl (same_upd rfl (same_upd rfl (same_upd rfl (same_upd rfl (same_upd rfl (same_upd rfl (same_upd rfl (same_upd rfl (same_upd rfl (same_upd rfl (same_upd rfl (same_upd rfl (same_refl)))))))))))))))))))))
          · have g100 := of_decide_eq_false b98
            refine wl_know 30 (.bool false) (congrArg Value.bool b98) ?_
            refine wl_pass (wantsN 12 30 true rfl (by kernel_rfl) rfl (by kernel_rfl)) rfl ?_
            refine wl_pass (wantsN 12 30 true rfl (by kernel_rfl) rfl (by kernel_rfl)) rfl ?_
            refine wl_pure (wants0 rfl) (d := 33) (v := (.bool false)) rfl (by kernel_rfl) ?_
            refine wl_pure (wants0 rfl) (d := 6) (v := (.bool false)) rfl (by kernel_rfl) ?_
            refine w_nil ?_
            refine meetR_at ?_ ⟨(congrArg Value.bool (show false = ((decide ((item.length : Int) ≥ 1) && decide ((item.length : Int) ≤ 16) && decide (client ≥ 0) && decide (client < 100))) by rw [b94, b96, b98]; first | rfl | simp only [Bool.false_and, Bool.and_false, Bool.true_and, Bool.and_self])), H10⟩
            exact (same_upd rfl (same_upd rfl (same_upd rfl (same_upd rfl (same_upd rfl (same_upd rfl (same_upd rfl (same_upd rfl (same_upd rfl (same_upd rfl (same_upd rfl (same_upd rfl (same_upd rfl (same_upd rfl (same_upd rfl (same_upd rfl (same_upd rfl (same_upd rfl (same_upd rfl (same_upd rfl (same_refl)))))))))))))))))))))
        · have g101 := of_decide_eq_false b96
          refine wl_know 26 (.bool false) (congrArg Value.bool b96) ?_
          refine wl_pass (wantsN 8 26 true rfl (by kernel_rfl) rfl (by kernel_rfl)) rfl ?_
          refine wl_pass (wantsN 8 26 true rfl (by kernel_rfl) rfl (by kernel_rfl)) rfl ?_
          refine wl_pure (wants0 rfl) (d := 29) (v := (.bool false)) rfl (by kernel_rfl) ?_
          refine wl_pure (wants0 rfl) (d := 30) (v := (.bool false)) rfl (by kernel_rfl) ?_
          refine wl_pass (wantsN 12 30 true rfl (by kernel_rfl) rfl (by kernel_rfl)) rfl ?_
          refine wl_pass (wantsN 12 30 true rfl (by kernel_rfl) rfl (by kernel_rfl)) rfl ?_
          refine wl_pure (wants0 rfl) (d := 33) (v := (.bool false)) rfl (by kernel_rfl) ?_
          refine wl_pure (wants0 rfl) (d := 6) (v := (.bool false)) rfl (by kernel_rfl) ?_
          refine w_nil ?_
          refine meetR_at ?_ ⟨(congrArg Value.bool (show false = ((decide ((item.length : Int) ≥ 1) && decide ((item.length : Int) ≤ 16) && decide (client ≥ 0) && decide (client < 100))) by rw [b94, b96]; first | rfl | simp only [Bool.false_and, Bool.and_false, Bool.true_and, Bool.and_self])), H10⟩
          exact (same_upd rfl (same_upd rfl (same_upd rfl (same_upd rfl (same_upd rfl (same_upd rfl (same_upd rfl (same_upd rfl (same_upd rfl (same_upd rfl (same_upd rfl (same_upd rfl (same_upd rfl (same_upd rfl (same_upd rfl (same_upd rfl (same_upd rfl (same_upd rfl (same_upd rfl (same_refl))))))))))))))))))))
      · have g102 := of_decide_eq_false b94
        refine wl_know 21 (.bool false) (congrArg Value.bool b94) ?_
        refine wl_pass (wantsN 3 21 true rfl (by kernel_rfl) rfl (by kernel_rfl)) rfl ?_
        refine wl_pass (wantsN 3 21 true rfl (by kernel_rfl) rfl (by kernel_rfl)) rfl ?_
        refine wl_pass (wantsN 3 21 true rfl (by kernel_rfl) rfl (by kernel_rfl)) rfl ?_
        refine wl_pure (wants0 rfl) (d := 25) (v := (.bool false)) rfl (by kernel_rfl) ?_
        refine wl_pure (wants0 rfl) (d := 26) (v := (.bool false)) rfl (by kernel_rfl) ?_
        refine wl_pass (wantsN 8 26 true rfl (by kernel_rfl) rfl (by kernel_rfl)) rfl ?_
        refine wl_pass (wantsN 8 26 true rfl (by kernel_rfl) rfl (by kernel_rfl)) rfl ?_
        refine wl_pure (wants0 rfl) (d := 29) (v := (.bool false)) rfl (by kernel_rfl) ?_
        refine wl_pure (wants0 rfl) (d := 30) (v := (.bool false)) rfl (by kernel_rfl) ?_
        refine wl_pass (wantsN 12 30 true rfl (by kernel_rfl) rfl (by kernel_rfl)) rfl ?_
        refine wl_pass (wantsN 12 30 true rfl (by kernel_rfl) rfl (by kernel_rfl)) rfl ?_
        refine wl_pure (wants0 rfl) (d := 33) (v := (.bool false)) rfl (by kernel_rfl) ?_
        refine wl_pure (wants0 rfl) (d := 6) (v := (.bool false)) rfl (by kernel_rfl) ?_
        refine w_nil ?_
        refine meetR_at ?_ ⟨(congrArg Value.bool (show false = ((decide ((item.length : Int) ≥ 1) && decide ((item.length : Int) ≤ 16) && decide (client ≥ 0) && decide (client < 100))) by rw [b94]; first | rfl | simp only [Bool.false_and, Bool.and_false, Bool.true_and, Bool.and_self])), H10⟩
        exact (same_upd rfl (same_upd rfl (same_upd rfl (same_upd rfl (same_upd rfl (same_upd rfl (same_upd rfl (same_upd rfl (same_upd rfl (same_upd rfl (same_upd rfl (same_upd rfl (same_upd rfl (same_upd rfl (same_upd rfl (same_upd rfl (same_upd rfl (same_upd rfl (same_refl)))))))))))))))))))
    · rintro f103 w104 ⟨v106, H105⟩
      refine wp_know 6 _ v106 ?_
      refine w_seq ?_
      refine w_seq ?_
      refine w_lit ?_
      refine wl_pure (wants0 rfl) (d := 7) (v := (.int .i64 (0))) rfl (by kernel_rfl) ?_
      refine w_nil ?_
      refine then_normal ?_
      refine w_block ?_
      refine wp_round [6, 7, 34, 35, 36, 37, 38, 39, 40, 41, 42, 43, 44, 45, 46, 47, 48, 49, 50, 51, 52] (fun F_ W_ m_ => ∃ (i : Nat), F_ 7 = (.int .i64 ((i : Int))) ∧ F_ 6 = (.bool ((decide ((item.length : Int) ≥ 1) && decide ((item.length : Int) ≤ 16) && decide (client ≥ 0) && decide (client < 100)) && (item.take i).all lcB)) ∧ (i ≤ item.length) ∧ Sat w [restC w (fun _ => False), cellC r2 52 ([(.map (some b3))] : List Value), mapC b3 strV (Value.int .i64) []] W_ ∧ m_ = item.length + 1 - i) _ ⟨0, (show ((.int .i64 (0)) : Value) = _ by first | rfl | go_num), (congrArg Value.bool (Bool.and_true (decide ((item.length : Int) ≥ 1) && decide ((item.length : Int) ≤ 16) && decide (client ≥ 0) && decide (client < 100))).symm), by omega, H105, rfl⟩ ?_
      rintro g107 w108 _ ⟨i, v110, v111, hi, H109, rfl⟩
      refine wp_know 7 _ v110 ?_
      refine wp_know 6 _ v111 ?_
      have hA : item.length ≤ 9223372036854775807 := by first | omega | (simp only [List.length_take]; omega)
      refine w_seq ?_
      refine w_seq ?_
      refine w_lit ?_
      refine wl_pure (wants0 rfl) (d := 34) (v := (.int .i64 ((i : Int)))) rfl (by kernel_rfl) ?_
      refine wl_pure (wants0 rfl) (d := 35) (v := (strV item)) rfl (by kernel_rfl) ?_
      refine wl_pure (wants0 rfl) (d := 36) (v := (.int .i64 ((item.length : Int)))) rfl (e_lenStr (by kernel_rfl) rfl) ?_
      refine wl_pure (wants0 rfl) (d := 37) (v := (.bool (decide ((i : Int) < (item.length : Int))))) rfl (by kernel_rfl) ?_
      refine w_nil ?_
      refine then_normal ?_
      refine (bsplit (decide ((i : Int) < (item.length : Int)))).elim (fun b113 => ?_) (fun b113 => ?_)
      · have g114 := of_decide_eq_true b113
        refine wp_know 37 (.bool true) (congrArg Value.bool b113) ?_
        refine wp_ift rfl ?_
        refine w_skip ?_
        refine then_normal ?_
        refine w_seq ?_
        refine w_block ?_
        refine w_lit ?_
        refine wl_pure (wants0 rfl) (d := 40) (v := (.bool ((decide ((item.length : Int) ≥ 1) && decide ((item.length : Int) ≤ 16) && decide (client ≥ 0) && decide (client < 100)) && (item.take i).all lcB))) rfl (by kernel_rfl) ?_
        refine wl_pure (wants0 rfl) (d := 41) (v := (.bool ((decide ((item.length : Int) ≥ 1) && decide ((item.length : Int) ≤ 16) && decide (client ≥ 0) && decide (client < 100)) && (item.take i).all lcB))) rfl (by kernel_rfl) ?_
        refine (bsplit ((decide ((item.length : Int) ≥ 1) && decide ((item.length : Int) ≤ 16) && decide (client ≥ 0) && decide (client < 100)) && (item.take i).all lcB)).elim (fun b115 => ?_) (fun b115 => ?_)
        · refine wl_know 41 (.bool true) (congrArg Value.bool b115) ?_
          refine wl_pure (wantsY 1 41 true rfl (by kernel_rfl) rfl (by kernel_rfl)) (d := 42) (v := (strV item)) rfl (by kernel_rfl) ?_
          refine wl_pure (wantsY 1 41 true rfl (by kernel_rfl) rfl (by kernel_rfl)) (d := 43) (v := (.int .i64 ((i : Int)))) rfl (by kernel_rfl) ?_
          refine wl_pure (wantsY 1 41 true rfl (by kernel_rfl) rfl (by kernel_rfl)) (d := 44) (v := (.int .u8 (((item.getD i 0).toNat : Int)))) rfl (e_indexStr (q := i) (by kernel_rfl) rfl rfl (by omega) (by omega)) ?_
          refine wl_pure (wantsY 1 41 true rfl (by kernel_rfl) rfl (by kernel_rfl)) (d := 45) (v := (.bool (decide (((item.getD i 0).toNat : Int) ≥ 97)))) rfl (by kernel_rfl) ?_
          refine wl_pure (wants0 rfl) (d := 46) (v := (.bool (decide (((item.getD i 0).toNat : Int) ≥ 97)))) rfl (by kernel_rfl) ?_
          refine wl_pure (wants0 rfl) (d := 47) (v := (.bool (decide (((item.getD i 0).toNat : Int) ≥ 97)))) rfl (by kernel_rfl) ?_
          refine (bsplit (decide (((item.getD i 0).toNat : Int) ≥ 97))).elim (fun b116 => ?_) (fun b116 => ?_)
          · have g117 := of_decide_eq_true b116
            refine wl_know 47 (.bool true) (congrArg Value.bool b116) ?_
            refine wl_pure (wantsY 7 47 true rfl (by kernel_rfl) rfl (by kernel_rfl)) (d := 48) (v := (strV item)) rfl (by kernel_rfl) ?_
            refine wl_pure (wantsY 7 47 true rfl (by kernel_rfl) rfl (by kernel_rfl)) (d := 49) (v := (.int .i64 ((i : Int)))) rfl (by kernel_rfl) ?_
            refine wl_pure (wantsY 7 47 true rfl (by kernel_rfl) rfl (by kernel_rfl)) (d := 50) (v := (.int .u8 (((item.getD i 0).toNat : Int)))) rfl (e_indexStr (q := i) (by kernel_rfl) rfl rfl (by omega) (by omega)) ?_
            refine wl_pure (wantsY 7 47 true rfl (by kernel_rfl) rfl (by kernel_rfl)) (d := 51) (v := (.bool (decide (((item.getD i 0).toNat : Int) ≤ 122)))) rfl (by kernel_rfl) ?_
            refine wl_pure (wants0 rfl) (d := 52) (v := (.bool (decide (((item.getD i 0).toNat : Int) ≤ 122)))) rfl (by kernel_rfl) ?_
            refine wl_pure (wants0 rfl) (d := 6) (v := (.bool (decide (((item.getD i 0).toNat : Int) ≤ 122)))) rfl (by kernel_rfl) ?_
            refine w_nil ?_
            refine blk_normal ?_
            refine then_normal ?_
            refine w_lit ?_
            refine wl_pure (wants0 rfl) (d := 38) (v := (.int .i64 ((i : Int)))) rfl (by kernel_rfl) ?_
            refine wl_pure (wants0 rfl) (d := 39) (v := (.int .i64 ((i : Int) + 1))) rfl (e_int (z := (i : Int) + 1) (by kernel_rfl) (IntWalk.i64_in _ (by omega))) ?_
            refine wl_pure (wants0 rfl) (d := 7) (v := (.int .i64 ((i : Int) + 1))) rfl (by kernel_rfl) ?_
            refine w_nil ?_
            refine round_back ?_ _ ⟨(i + 1), (show ((.int .i64 ((i : Int) + 1)) : Value) = _ by first | rfl | go_num), (show ((.bool (decide (((item.getD i 0).toNat : Int) ≤ 122))) : Value) = _ by rw [all_take_succ (by omega), ← Bool.and_assoc, b115]; first | rfl | (congr 1; rw [Bool.eq_iff_iff]; simp only [lcB, Bool.and_eq_true, Bool.true_and, decide_eq_true_eq]; omega)), by omega, H109, rfl⟩ (by omega)
            exact (same_upd rfl (same_upd rfl (same_upd rfl (same_upd rfl (same_upd rfl (same_upd rfl (same_upd rfl (same_upd rfl (same_upd rfl (same_upd rfl (same_upd rfl (same_upd rfl (same_upd rfl (same_upd rfl (same_upd rfl (same_upd rfl (same_upd rfl (same_upd rfl (same_upd rfl (same_upd rfl (same_upd rfl (same_upd rfl (same_upd rfl (same_upd rfl (same_upd rfl (same_upd rfl (same_ovr)))))))))))))))))))))))))))
          · have g118 := of_decide_eq_false b116
            refine wl_know 47 (.bool false) (congrArg Value.bool b116) ?_
            refine wl_pass (wantsN 7 47 true rfl (by kernel_rfl) rfl (by kernel_rfl)) rfl ?_
            refine wl_pass (wantsN 7 47 true rfl (by kernel_rfl) rfl (by kernel_rfl)) rfl ?_
            refine wl_pass (wantsN 7 47 true rfl (by kernel_rfl) rfl (by kernel_rfl)) rfl ?_
            refine wl_pass (wantsN 7 47 true rfl (by kernel_rfl) rfl (by kernel_rfl)) rfl ?_
            refine wl_pure (wants0 rfl) (d := 52) (v := (.bool false)) rfl (by kernel_rfl) ?_
            refine wl_pure (wants0 rfl) (d := 6) (v := (.bool false)) rfl (by kernel_rfl) ?_
            refine w_nil ?_
            refine blk_normal ?_
            refine then_normal ?_
            refine w_lit ?_
            refine wl_pure (wants0 rfl) (d := 38) (v := (.int .i64 ((i : Int)))) rfl (by kernel_rfl) ?_
            refine wl_pure (wants0 rfl) (d := 39) (v := (.int .i64 ((i : Int) + 1))) rfl (e_int (z := (i : Int) + 1) (by kernel_rfl) (IntWalk.i64_in _ (by omega))) ?_
            refine wl_pure (wants0 rfl) (d := 7) (v := (.int .i64 ((i : Int) + 1))) rfl (by kernel_rfl) ?_
            refine w_nil ?_
            refine round_back ?_ _ ⟨(i + 1), (show ((.int .i64 ((i : Int) + 1)) : Value) = _ by first | rfl | go_num), (show ((.bool false) : Value) = _ by rw [all_take_succ (by omega), ← Bool.and_assoc, b115]; first | rfl | (congr 1; rw [Bool.eq_iff_iff]; simp only [lcB, Bool.and_eq_true, Bool.true_and, decide_eq_true_eq, Bool.false_eq_true, false_iff]; omega)), by omega, H109, rfl⟩ (by omega)
            exact (same_upd rfl (same_upd rfl (same_upd rfl (same_upd rfl (same_upd rfl (same_upd rfl (same_upd rfl (same_upd rfl (same_upd rfl (same_upd rfl (same_upd rfl (same_upd rfl (same_upd rfl (same_upd rfl (same_upd rfl (same_upd rfl (same_upd rfl (same_upd rfl (same_upd rfl (same_upd rfl (same_upd rfl (same_upd rfl (same_upd rfl (same_upd rfl (same_upd rfl (same_upd rfl (same_ovr)))))))))))))))))))))))))))
        · refine wl_know 41 (.bool false) (congrArg Value.bool b115) ?_
          refine wl_pass (wantsN 1 41 true rfl (by kernel_rfl) rfl (by kernel_rfl)) rfl ?_
          refine wl_pass (wantsN 1 41 true rfl (by kernel_rfl) rfl (by kernel_rfl)) rfl ?_
          refine wl_pass (wantsN 1 41 true rfl (by kernel_rfl) rfl (by kernel_rfl)) rfl ?_
          refine wl_pass (wantsN 1 41 true rfl (by kernel_rfl) rfl (by kernel_rfl)) rfl ?_
          refine wl_pure (wants0 rfl) (d := 46) (v := (.bool false)) rfl (by kernel_rfl) ?_
          refine wl_pure (wants0 rfl) (d := 47) (v := (.bool false)) rfl (by kernel_rfl) ?_
          refine wl_pass (wantsN 7 47 true rfl (by kernel_rfl) rfl (by kernel_rfl)) rfl ?_
          refine wl_pass (wantsN 7 47 true rfl (by kernel_rfl) rfl (by kernel_rfl)) rfl ?_
          refine wl_pass (wantsN 7 47 true rfl (by kernel_rfl) rfl (by kernel_rfl)) rfl ?_
          refine wl_pass (wantsN 7 47 true rfl (by kernel_rfl) rfl (by kernel_rfl)) rfl ?_
          refine wl_pure (wants0 rfl) (d := 52) (v := (.bool false)) rfl (by kernel_rfl) ?_
          refine wl_pure (wants0 rfl) (d := 6) (v := (.bool false)) rfl (by kernel_rfl) ?_
          refine w_nil ?_
          refine blk_normal ?_
          refine then_normal ?_
          refine w_lit ?_
          refine wl_pure (wants0 rfl) (d := 38) (v := (.int .i64 ((i : Int)))) rfl (by kernel_rfl) ?_
          refine wl_pure (wants0 rfl) (d := 39) (v := (.int .i64 ((i : Int) + 1))) rfl (e_int (z := (i : Int) + 1) (by kernel_rfl) (IntWalk.i64_in _ (by omega))) ?_
          refine wl_pure (wants0 rfl) (d := 7) (v := (.int .i64 ((i : Int) + 1))) rfl (by kernel_rfl) ?_
          refine w_nil ?_
          refine round_back ?_ _ ⟨(i + 1), (show ((.int .i64 ((i : Int) + 1)) : Value) = _ by first | rfl | go_num), (show ((.bool false) : Value) = _ by rw [all_take_succ (by omega), ← Bool.and_assoc, b115]; first | rfl | (congr 1; rw [Bool.eq_iff_iff]; simp only [lcB, Bool.and_eq_true, Bool.true_and, Bool.false_and, decide_eq_true_eq, Bool.false_eq_true, iff_false, false_iff, true_iff, iff_true]; omega)), by omega, H109, rfl⟩ (by omega)
          exact (same_upd rfl (same_upd rfl (same_upd rfl (same_upd rfl (same_upd rfl (same_upd rfl (same_upd rfl (same_upd rfl (same_upd rfl (same_upd rfl (same_upd rfl (same_upd rfl (same_upd rfl (same_upd rfl (same_upd rfl (same_upd rfl (same_upd rfl (same_upd rfl (same_upd rfl (same_upd rfl (same_upd rfl (same_upd rfl (same_upd rfl (same_upd rfl (same_upd rfl (same_ovr))))))))))))))))))))))))))
      · have g119 := of_decide_eq_false b113
        refine wp_know 37 (.bool false) (congrArg Value.bool b113) ?_
        refine wp_iff rfl ?_
        refine w_exit ?_
        refine then_exit ?_
        refine back_exit ?_
        refine blk_hit ?_
        refine then_normal ?_
        refine w_seq ?_
        have hmay : ((decide ((item.length : Int) ≥ 1) && decide ((item.length : Int) ≤ 16) && decide (client ≥ 0) && decide (client < 100)) && (item.take i).all lcB) = mayB item client := by
          rw [List.take_of_length_le (show item.length ≤ i by omega)]; unfold mayB nameB; rw [Bool.eq_iff_iff]; simp only [Bool.and_eq_true, decide_eq_true_eq]
          exact ⟨fun ⟨⟨⟨⟨q1, q2⟩, q3⟩, q4⟩, q5⟩ => ⟨⟨⟨⟨q5, by omega⟩, by omega⟩, by omega⟩, by omega⟩, fun ⟨⟨⟨⟨q5, q1⟩, q2⟩, q3⟩, q4⟩ => ⟨⟨⟨⟨by omega, by omega⟩, by omega⟩, by omega⟩, q5⟩⟩
        refine wp_know 6 (.bool (mayB item client)) (show ((.bool ((decide ((item.length : Int) ≥ 1) && decide ((item.length : Int) ≤ 16) && decide (client ≥ 0) && decide (client < 100)) && (item.take i).all lcB)) : Value) = _ by rw [hmay]) ?_
        refine w_lit ?_
        refine wl_pure (wants0 rfl) (d := 53) (v := (.pointer (some ⟨r2, 0, none⟩))) rfl (by kernel_rfl) ?_
        refine wl_pure (wants0 rfl) (d := 54) (v := (strV item)) rfl (by kernel_rfl) ?_
        refine wl_pure (wants0 rfl) (d := 55) (v := (.int .i64 (client))) rfl (by kernel_rfl) ?_
        refine wl_do (wants0 rfl) (fun K120 hK120 => ?_)
        refine d_call (d := 56) rfl (by kernel_rfl) (reserve_any w108 r2 b3 ([]) (H109.fin [1, 2] (by decide) rfl) Short.nil item (by first | decide | (simp only [List.length_take]; omega) | omega) client) ?_
        rintro _ w121 ⟨rfl, T122⟩
        have H123 : Sat w [restC w (fun _ => False), cellC r2 52 ([(.map (some b3))] : List Value), mapC b3 strV (Value.int .i64) (resL ([]) item client)] w121 := (Sat.turnL (L' := [cellC r2 52 ([(.map (some b3))] : List Value), mapC b3 strV (Value.int .i64) (resL ([]) item client)]) (R := [restC w (fun _ => False)]) H109 [1, 2] [0] (by decide) (by kernel_rfl) rfl T122).pick [2, 0, 1] (by decide)
        refine ⟨_, rfl, ?_⟩
        refine hK120 _ _ ?_
        clear hK120 K120
        refine wl_pure (wants0 rfl) (d := 57) (v := (.pointer (some ⟨r2, 0, none⟩))) rfl (by kernel_rfl) ?_
        refine wl_pure (wants0 rfl) (d := 58) (v := (strV item)) rfl (by kernel_rfl) ?_
        refine wl_pure (wants0 rfl) (d := 59) (v := (.int .i64 (client))) rfl (by kernel_rfl) ?_
        refine wl_do (wants0 rfl) (fun K124 hK124 => ?_)
        refine d_call (d := 60) rfl (by kernel_rfl) (release_any w121 r2 b3 (resL ([]) item client) (H123.fin [1, 2] (by decide) rfl) (Short.res Short.nil item client) item (by first | decide | (simp only [List.length_take]; omega) | omega) client) ?_
        rintro _ w125 ⟨rfl, T126⟩
        have H127 : Sat w [restC w (fun _ => False), cellC r2 52 ([(.map (some b3))] : List Value), mapC b3 strV (Value.int .i64) (relL (resL ([]) item client) item client)] w125 := (Sat.turnL (L' := [cellC r2 52 ([(.map (some b3))] : List Value), mapC b3 strV (Value.int .i64) (relL (resL ([]) item client) item client)]) (R := [restC w (fun _ => False)]) H123 [1, 2] [0] (by decide) (by kernel_rfl) rfl T126).pick [2, 0, 1] (by decide)
        refine ⟨_, rfl, ?_⟩
        refine hK124 _ _ ?_
        clear hK124 K124
        refine wl_pure (wants0 rfl) (d := 8) (v := (.int .i64 (resE ([]) item client))) rfl (by kernel_rfl) ?_
        refine wl_pure (wants0 rfl) (d := 9) (v := (.int .i64 (relE (resL ([]) item client) item client))) rfl (by kernel_rfl) ?_
        refine w_nil ?_
        refine then_normal ?_
        refine w_seq ?_
        refine w_seq ?_
        have H128 : Sat w [restC w (fun _ => False), cellC r2 52 ([(.map (some b3))] : List Value), mapC b3 strV (Value.int .i64) []] w125 := H127.cast (by rw [back_nil])
        refine w_lit ?_
        refine wl_pure (wants0 rfl) (d := 61) (v := (.bool (mayB item client))) rfl (by kernel_rfl) ?_
        refine w_nil ?_
        refine then_normal ?_
        refine (bsplit (mayB item client)).elim (fun b129 => ?_) (fun b129 => ?_)
        · refine wp_know 61 (.bool true) (congrArg Value.bool b129) ?_
          refine wp_ift rfl ?_
          refine w_seq ?_
          refine w_lit ?_
          refine wl_pure (wants0 rfl) (d := 62) (v := (.int .i64 (resE ([]) item client))) rfl (by kernel_rfl) ?_
          refine wl_pure (wants0 rfl) (d := 63) (v := (.bool (decide ((resE ([]) item client) = 0)))) rfl (by kernel_rfl) ?_
          refine wl_pure (wants0 rfl) (d := 64) (v := (.bool (decide ((resE ([]) item client) = 0)))) rfl (by kernel_rfl) ?_
          have b130 : (decide ((resE ([]) item client) = 0)) = true := by simp [resE, lookM, *]
          refine wl_know 64 (.bool true) (congrArg Value.bool b130) ?_
          refine wl_pure (wantsY 2 64 true rfl (by kernel_rfl) rfl (by kernel_rfl)) (d := 65) (v := (.int .i64 (relE (resL ([]) item client) item client))) rfl (by kernel_rfl) ?_
          refine wl_pure (wantsY 2 64 true rfl (by kernel_rfl) rfl (by kernel_rfl)) (d := 66) (v := (.bool (decide ((relE (resL ([]) item client) item client) = 0)))) rfl (by kernel_rfl) ?_
          refine wl_pure (wants0 rfl) (d := 67) (v := (.bool (decide ((relE (resL ([]) item client) item client) = 0)))) rfl (by kernel_rfl) ?_
          refine wl_pure (wants0 rfl) (d := 68) (v := (.bool (decide ((relE (resL ([]) item client) item client) = 0)))) rfl (by kernel_rfl) ?_
          have b131 : (decide ((relE (resL ([]) item client) item client) = 0)) = true := by simp [relE_back, *]
          refine wl_know 68 (.bool true) (congrArg Value.bool b131) ?_
          refine wl_pure (wantsY 6 68 true rfl (by kernel_rfl) rfl (by kernel_rfl)) (d := 69) (v := (.pointer (some ⟨r2, 0, none⟩))) rfl (by kernel_rfl) ?_
          refine wl_do (wantsY 6 68 true rfl (by kernel_rfl) rfl (by kernel_rfl)) (fun K132 hK132 => ?_)
          refine d_call (d := 70) rfl (by kernel_rfl) (items_any w125 r2 b3 ([]) (H128.fin [1, 2] (by decide) rfl) Short.nil) ?_
          rintro _ w133 ⟨u134, rfl, k135, p136, q137⟩
          have H138 : Sat w [restC w (fun _ => False), cellC r2 52 ([(.map (some b3))] : List Value), mapC b3 strV (Value.int .i64) [], rowC 9 1 u134 ((sortK (([]) : RegL)).length) ((sortK (([]) : RegL)).flatMap encS)] w133 := H128.addU p136 k135 q137
          obtain ⟨a139, c140, rfl⟩ := ownsRow_shape (H138.at 3 rfl)
          refine ⟨_, rfl, ?_⟩
          refine hK132 _ _ ?_
          clear hK132 K132
          refine wl_pure (wantsY 6 68 true rfl (by kernel_rfl) rfl (by kernel_rfl)) (d := 71) (v := (.int .i64 (((sortK (([]) : RegL)).length : Int)))) rfl (by kernel_rfl) ?_
          refine wl_pure (wantsY 6 68 true rfl (by kernel_rfl) rfl (by kernel_rfl)) (d := 72) (v := (.bool (decide (((sortK (([]) : RegL)).length : Int) = 0)))) rfl (by kernel_rfl) ?_
          refine wl_pure (wants0 rfl) (d := 73) (v := (.bool (decide (((sortK (([]) : RegL)).length : Int) = 0)))) rfl (by kernel_rfl) ?_
          refine wl_pure (wants0 rfl) (d := 74) (v := (.bool (decide (((sortK (([]) : RegL)).length : Int) = 0)))) rfl (by kernel_rfl) ?_
          have b141 : (decide (((sortK (([]) : RegL)).length : Int) = 0)) = true := by rw [sortK_len]; rfl
          refine wl_know 74 (.bool true) (congrArg Value.bool b141) ?_
          refine wl_do (wantsY 12 74 true rfl (by kernel_rfl) rfl (by kernel_rfl)) (fun K142 hK142 => ?_)
          refine d_call (d := 75) rfl (by kernel_rfl) (wakes_any w133) ?_
          rintro _ w143 ⟨rfl, u145⟩
          have H144 := H138.keepU u145
          refine ⟨_, rfl, ?_⟩
          refine hK142 _ _ ?_
          clear hK142 K142
          refine wl_pure (wants0 rfl) (d := 76) (v := (.bool true)) rfl (by kernel_rfl) ?_
          refine wl_pure (wants0 rfl) (d := 4) (v := (.bool true)) rfl (by kernel_rfl) ?_
          refine w_nil ?_
          refine then_normal ?_
          refine w_ret ?_
          refine then_ret ?_
          refine end1 rfl (res_tmp (v := (.bool true)) rfl) ?_
          exact ⟨rfl, H144.upd 0 rfl [] (fun _ h => h.elim)⟩
        · refine wp_know 61 (.bool false) (congrArg Value.bool b129) ?_
          refine wp_iff rfl ?_
          refine w_skip ?_
          refine then_normal ?_
          refine w_seq ?_
          refine w_lit ?_
          refine wl_pure (wants0 rfl) (d := 77) (v := (.int .i64 (resE ([]) item client))) rfl (by kernel_rfl) ?_
          refine wl_pure (wants0 rfl) (d := 78) (v := (.bool (decide ((resE ([]) item client) = 1)))) rfl (by kernel_rfl) ?_
          refine wl_pure (wants0 rfl) (d := 79) (v := (.bool (decide ((resE ([]) item client) = 1)))) rfl (by kernel_rfl) ?_
          have b146 : (decide ((resE ([]) item client) = 1)) = true := by simp [resE, *]
          refine wl_know 79 (.bool true) (congrArg Value.bool b146) ?_
          refine wl_pure (wantsY 2 79 true rfl (by kernel_rfl) rfl (by kernel_rfl)) (d := 80) (v := (.int .i64 (relE (resL ([]) item client) item client))) rfl (by kernel_rfl) ?_
          refine wl_pure (wantsY 2 79 true rfl (by kernel_rfl) rfl (by kernel_rfl)) (d := 81) (v := (.bool (decide ((relE (resL ([]) item client) item client) = 1)))) rfl (by kernel_rfl) ?_
          refine wl_pure (wants0 rfl) (d := 82) (v := (.bool (decide ((relE (resL ([]) item client) item client) = 1)))) rfl (by kernel_rfl) ?_
          refine wl_pure (wants0 rfl) (d := 83) (v := (.bool (decide ((relE (resL ([]) item client) item client) = 1)))) rfl (by kernel_rfl) ?_
          have b147 : (decide ((relE (resL ([]) item client) item client) = 1)) = true := by simp [relE, *]
          refine wl_know 83 (.bool true) (congrArg Value.bool b147) ?_
          refine wl_pure (wantsY 6 83 true rfl (by kernel_rfl) rfl (by kernel_rfl)) (d := 84) (v := (.pointer (some ⟨r2, 0, none⟩))) rfl (by kernel_rfl) ?_
          refine wl_do (wantsY 6 83 true rfl (by kernel_rfl) rfl (by kernel_rfl)) (fun K148 hK148 => ?_)
          refine d_call (d := 85) rfl (by kernel_rfl) (items_any w125 r2 b3 ([]) (H128.fin [1, 2] (by decide) rfl) Short.nil) ?_
          rintro _ w149 ⟨u150, rfl, k151, p152, q153⟩
          have H154 : Sat w [restC w (fun _ => False), cellC r2 52 ([(.map (some b3))] : List Value), mapC b3 strV (Value.int .i64) [], rowC 9 1 u150 ((sortK (([]) : RegL)).length) ((sortK (([]) : RegL)).flatMap encS)] w149 := H128.addU p152 k151 q153
          obtain ⟨a155, c156, rfl⟩ := ownsRow_shape (H154.at 3 rfl)
          refine ⟨_, rfl, ?_⟩
          refine hK148 _ _ ?_
          clear hK148 K148
          refine wl_pure (wantsY 6 83 true rfl (by kernel_rfl) rfl (by kernel_rfl)) (d := 86) (v := (.int .i64 (((sortK (([]) : RegL)).length : Int)))) rfl (by kernel_rfl) ?_
          refine wl_pure (wantsY 6 83 true rfl (by kernel_rfl) rfl (by kernel_rfl)) (d := 87) (v := (.bool (decide (((sortK (([]) : RegL)).length : Int) = 0)))) rfl (by kernel_rfl) ?_
          refine wl_pure (wants0 rfl) (d := 88) (v := (.bool (decide (((sortK (([]) : RegL)).length : Int) = 0)))) rfl (by kernel_rfl) ?_
          refine wl_pure (wants0 rfl) (d := 89) (v := (.bool (decide (((sortK (([]) : RegL)).length : Int) = 0)))) rfl (by kernel_rfl) ?_
          have b157 : (decide (((sortK (([]) : RegL)).length : Int) = 0)) = true := by rw [sortK_len]; rfl
          refine wl_know 89 (.bool true) (congrArg Value.bool b157) ?_
          refine wl_pure (wantsY 12 89 true rfl (by kernel_rfl) rfl (by kernel_rfl)) (d := 90) (v := (.pointer (some ⟨r2, 0, none⟩))) rfl (by kernel_rfl) ?_
          refine wl_pure (wantsY 12 89 true rfl (by kernel_rfl) rfl (by kernel_rfl)) (d := 91) (v := (.int .i64 (client))) rfl (by kernel_rfl) ?_
          refine wl_do (wantsY 12 89 true rfl (by kernel_rfl) rfl (by kernel_rfl)) (fun K158 hK158 => ?_)
          refine d_call (d := 92) rfl (by kernel_rfl) (count_any w149 r2 b3 ([]) (H154.fin [1, 2] (by decide) rfl) Short.nil client) ?_
          rintro _ w159 ⟨rfl, u161⟩
          have H160 := H154.keepU u161
          refine ⟨_, rfl, ?_⟩
          refine hK158 _ _ ?_
          clear hK158 K158
          refine wl_pure (wantsY 12 89 true rfl (by kernel_rfl) rfl (by kernel_rfl)) (d := 93) (v := (.bool (decide ((cntL ([]) client) = 0)))) rfl (by kernel_rfl) ?_
          refine wl_pure (wants0 rfl) (d := 94) (v := (.bool (decide ((cntL ([]) client) = 0)))) rfl (by kernel_rfl) ?_
          refine wl_pure (wants0 rfl) (d := 95) (v := (.bool (decide ((cntL ([]) client) = 0)))) rfl (by kernel_rfl) ?_
          have b162 : (decide ((cntL ([]) client) = 0)) = true := by rfl
          refine wl_know 95 (.bool true) (congrArg Value.bool b162) ?_
          refine wl_pure (wantsY 18 95 true rfl (by kernel_rfl) rfl (by kernel_rfl)) (d := 96) (v := (.int .i64 (client))) rfl (by kernel_rfl) ?_
          refine wl_do (wantsY 18 95 true rfl (by kernel_rfl) rfl (by kernel_rfl)) (fun K163 hK163 => ?_)
          refine d_call (d := 97) rfl (by kernel_rfl) (within_any w159 client 1 (by omega)) ?_
          rintro _ w164 ⟨rfl, u166⟩
          have H165 := H160.keepU u166
          refine ⟨_, rfl, ?_⟩
          refine hK163 _ _ ?_
          clear hK163 K163
          refine wl_pure (wantsY 18 95 true rfl (by kernel_rfl) rfl (by kernel_rfl)) (d := 98) (v := (.bool (decide ((withinV client 1) = 0)))) rfl (by kernel_rfl) ?_
          refine wl_pure (wants0 rfl) (d := 99) (v := (.bool (decide ((withinV client 1) = 0)))) rfl (by kernel_rfl) ?_
          refine wl_pure (wants0 rfl) (d := 100) (v := (.bool (decide ((withinV client 1) = 0)))) rfl (by kernel_rfl) ?_
          have b167 : (decide ((withinV client 1) = 0)) = true := by exact decide_eq_true (by omega)
          refine wl_know 100 (.bool true) (congrArg Value.bool b167) ?_
          refine wl_do (wantsY 23 100 true rfl (by kernel_rfl) rfl (by kernel_rfl)) (fun K168 hK168 => ?_)
          refine d_call (d := 101) rfl (by kernel_rfl) (wakes_any w164) ?_
          rintro _ w169 ⟨rfl, u171⟩
          have H170 := H165.keepU u171
          refine ⟨_, rfl, ?_⟩
          refine hK168 _ _ ?_
          clear hK168 K168
          refine wl_pure (wants0 rfl) (d := 102) (v := (.bool true)) rfl (by kernel_rfl) ?_
          refine wl_pure (wants0 rfl) (d := 4) (v := (.bool true)) rfl (by kernel_rfl) ?_
          refine w_nil ?_
          refine then_normal ?_
          refine w_ret ?_
          refine end1 rfl (res_tmp (v := (.bool true)) rfl) ?_
          exact ⟨rfl, H170.upd 0 rfl [] (fun _ h => h.elim)⟩

end Go.Proofs.Ytjlbabikogdknaa
