/- WHAT IS PROVED: slices' sort, its functions: contracts. Conditions: stated with each. -/
import Derived.Test.YtbpeofcoceaahaaSortU
namespace Go.Proofs.Ytbpeofcoceaahaa
open Go.RowKit

set_option maxRecDepth 100000 in
set_option maxHeartbeats 400000 in
theorem nanU_any (w : World) (x : Int) :
    Calls Try.prog 115 #[(.int .u64 (x))] w fun e w' => e = .returned (.bool false) ∧ Upd [] w w' := by
  have H := Sat.start0 w
  refine calls_fr Try.func115 rfl 6 rfl (Nat.le_of_ble_eq_true rfl) ?_
  refine w_seq ?_
  refine w_lit ?_
  refine wl_pure (wants0 rfl) (d := 2) (v := (.bool false)) rfl (by kernel_rfl) ?_
  refine w_nil ?_
  refine then_normal ?_
  refine w_seq ?_
  refine w_lit ?_
  refine wl_pure (wants0 rfl) (d := 3) (v := (.int .u64 (x))) rfl (by kernel_rfl) ?_
  refine wl_pure (wants0 rfl) (d := 4) (v := (.int .u64 (x))) rfl (by kernel_rfl) ?_
  refine wl_pure (wants0 rfl) (d := 5) (v := (.bool (!(decide (x = x))))) rfl (by kernel_rfl) ?_
  refine wl_pure (wants0 rfl) (d := 2) (v := (.bool (!(decide (x = x))))) rfl (by kernel_rfl) ?_
  refine w_nil ?_
  refine then_normal ?_
  refine w_ret ?_
  refine end1 rfl (res_tmp (v := (.bool (!(decide (x = x))))) rfl) ?_
  exact ⟨by simp, H.upd 0 rfl [] (fun _ h => h.elim)⟩

set_option maxRecDepth 100000 in
set_option maxHeartbeats 400000 in
theorem lessU_any (w : World) (x y : Int) :
    Calls Try.prog 102 #[(.int .u64 (x)), (.int .u64 (y))] w fun e w' => e = .returned (.bool (ltU x y)) ∧ Upd [] w w' := by
  have H := Sat.start0 w
  refine calls_fr Try.func102 rfl 17 rfl (Nat.le_of_ble_eq_true rfl) ?_
  refine w_seq ?_
  refine w_lit ?_
  refine wl_pure (wants0 rfl) (d := 4) (v := (.bool false)) rfl (by kernel_rfl) ?_
  refine w_nil ?_
  refine then_normal ?_
  refine w_seq ?_
  refine w_lit ?_
  refine wl_pure (wants0 rfl) (d := 5) (v := (.int .u64 (x))) rfl (by kernel_rfl) ?_
  refine wl_do (wants0 rfl) (fun K1 hK1 => ?_)
  refine d_call (d := 6) rfl (by kernel_rfl) (nanU_any w x) ?_
  rintro _ w2 ⟨rfl, u4⟩
  have H3 := H.keepU u4
  refine ⟨_, rfl, ?_⟩
  refine hK1 _ _ ?_
  clear hK1 K1
  refine wl_pure (wants0 rfl) (d := 7) (v := (.bool false)) rfl (by kernel_rfl) ?_
  refine wl_pass (wantsN 2 7 true rfl (by kernel_rfl) rfl (by kernel_rfl)) rfl ?_
  refine wl_pass (wantsN 2 7 true rfl (by kernel_rfl) rfl (by kernel_rfl)) rfl ?_
  refine wl_pass (wantsN 2 7 true rfl (by kernel_rfl) rfl (by kernel_rfl)) rfl ?_
  refine wl_pure (wants0 rfl) (d := 11) (v := (.bool false)) rfl (by kernel_rfl) ?_
  refine wl_pure (wants0 rfl) (d := 12) (v := (.bool false)) rfl (by kernel_rfl) ?_
  refine wl_pure (wantsY 7 12 false rfl (by kernel_rfl) rfl (by kernel_rfl)) (d := 13) (v := (.int .u64 (x))) rfl (by kernel_rfl) ?_
  refine wl_pure (wantsY 7 12 false rfl (by kernel_rfl) rfl (by kernel_rfl)) (d := 14) (v := (.int .u64 (y))) rfl (by kernel_rfl) ?_
  refine wl_pure (wantsY 7 12 false rfl (by kernel_rfl) rfl (by kernel_rfl)) (d := 15) (v := (.bool (decide (x < y)))) rfl (by kernel_rfl) ?_
  refine wl_pure (wants0 rfl) (d := 16) (v := (.bool (decide (x < y)))) rfl (by kernel_rfl) ?_
  refine wl_pure (wants0 rfl) (d := 4) (v := (.bool (decide (x < y)))) rfl (by kernel_rfl) ?_
  refine w_nil ?_
  refine then_normal ?_
  refine w_ret ?_
  refine end1 rfl (res_tmp (v := (.bool (decide (x < y)))) rfl) ?_
  exact ⟨rfl, H3.upd 0 rfl [] (fun _ h => h.elim)⟩

set_option maxRecDepth 100000 in
set_option maxHeartbeats 1000000 in
theorem insertionU_any (w : World) (g n c a b : Nat) (A : List Int) (hT : (rowU g n c A).ok w) (hn : n ≤ 1000000000000) (hab : a ≤ b ∧ b ≤ n) :
    Calls Try.prog 96 #[(.slice (some ⟨g, 0, none⟩) n c), (.int .i64 ((a : Int))), (.int .i64 ((b : Int)))] w fun e w' => ∃ B : List Int, e = .returned (.tuple #[]) ∧ B.length = n ∧ SegP a b A B ∧ Srt ltU a b B ∧ Sat w [rowU g n c B, restC w (rowU g n c A).fp] w' := by
  have H : Sat w [rowU g n c A, restC w (rowU g n c A).fp] w := Sat.start1 hT
  have hl := rowU_len hT
  have hw := swU
  refine calls_fr Try.func96 rfl 49 rfl (Nat.le_of_ble_eq_true rfl) ?_
  refine w_seq ?_
  refine w_lit ?_
  refine wl_pure (wants0 rfl) (d := 8) (v := (.int .i64 ((a : Int)))) rfl (by kernel_rfl) ?_
  refine wl_pure (wants0 rfl) (d := 9) (v := (.int .i64 ((a : Int) + 1))) rfl (e_int (z := (a : Int) + 1) (by kernel_rfl) (IntWalk.i64_in _ (by omega))) ?_
  refine wl_pure (wants0 rfl) (d := 6) (v := (.int .i64 ((a : Int) + 1))) rfl (by kernel_rfl) ?_
  refine w_nil ?_
  refine then_normal ?_
  refine w_block ?_
  refine wp_round [6, 7, 10, 11, 12, 13, 14, 15, 16, 17, 18, 19, 20, 21, 22, 23, 24, 25, 26, 27, 28, 29, 30, 31, 32, 33, 34, 35, 36, 37, 38, 39, 40, 41, 42, 43, 44, 45, 46, 47, 48] (fun F_ W_ m_ => ∃ (i : Nat) (B : List Int), F_ 6 = (.int .i64 ((i : Int))) ∧ (a + 1 ≤ i ∧ (i ≤ b ∨ i = a + 1)) ∧ (B.length = n) ∧ (SegP a b A B) ∧ (Srt ltU a i B) ∧ Sat w [rowU g n c B, restC w (rowU g n c A).fp] W_ ∧ m_ = b - i) _ ⟨(a + 1), A, (by first | rfl | go_num), (by omega), hl, .refl, (Srt.short (by omega)), H, rfl⟩ ?_
  rintro g1 w2 _ ⟨i, B, v4, hi, hlB, hS, hs, H3, rfl⟩
  refine wp_know 6 _ v4 ?_
  refine w_seq ?_
  refine w_seq ?_
  refine w_lit ?_
  refine wl_pure (wants0 rfl) (d := 10) (v := (.int .i64 ((i : Int)))) rfl (by kernel_rfl) ?_
  refine wl_pure (wants0 rfl) (d := 11) (v := (.int .i64 ((b : Int)))) rfl (by kernel_rfl) ?_
  refine wl_pure (wants0 rfl) (d := 12) (v := (.bool (decide ((i : Int) < (b : Int))))) rfl (by kernel_rfl) ?_
  refine w_nil ?_
  refine then_normal ?_
  refine (bsplit (decide ((i : Int) < (b : Int)))).elim (fun b6 => ?_) (fun b6 => ?_)
  · have g7 := of_decide_eq_true b6
    refine wp_know 12 (.bool true) (congrArg Value.bool b6) ?_
    have g8 := of_decide_eq_true b6
    refine wp_ift rfl ?_
    refine w_skip ?_
    refine then_normal ?_
    refine w_seq ?_
    refine w_block ?_
    refine w_seq ?_
    refine w_lit ?_
    refine wl_pure (wants0 rfl) (d := 15) (v := (.int .i64 ((i : Int)))) rfl (by kernel_rfl) ?_
    refine wl_pure (wants0 rfl) (d := 7) (v := (.int .i64 ((i : Int)))) rfl (by kernel_rfl) ?_
    refine w_nil ?_
    refine then_normal ?_
    refine w_block ?_
    refine wp_round [7, 16, 17, 18, 19, 20, 21, 22, 23, 24, 25, 26, 27, 28, 29, 30, 31, 32, 33, 34, 35, 36, 37, 38, 39, 40, 41, 42, 43, 44, 45, 46, 47, 48] (fun F_ W_ m_ => ∃ (j : Nat) (C : List Int), F_ 7 = (.int .i64 ((j : Int))) ∧ (a ≤ j ∧ j ≤ i) ∧ (C.length = n) ∧ (SegP a b A C) ∧ (Ins ltU a i j C) ∧ Sat w [rowU g n c C, restC w (rowU g n c A).fp] W_ ∧ m_ = j + 1) _ ⟨i, B, (by first | rfl | go_num), (by omega), hlB, hS, (Ins.start hs), H3, rfl⟩ ?_
    rintro g9 w10 _ ⟨j, C, v12, hj, hlC, hS2, hI, H11, rfl⟩
    refine wp_know 7 _ v12 ?_
    refine w_seq ?_
    refine w_seq ?_
    refine q_start H11 (by kernel_rfl) (by kernel_rfl) ?_
    refine q_val (wants0 rfl) (d := 16) (v := (.int .i64 ((j : Int)))) rfl (fun _ H' => (by kernel_rfl)) ?_
    refine q_val (wants0 rfl) (d := 17) (v := (.int .i64 ((a : Int)))) rfl (fun _ H' => (by kernel_rfl)) ?_
    refine q_val (wants0 rfl) (d := 18) (v := (.bool (decide ((j : Int) > (a : Int))))) rfl (fun _ H' => (by kernel_rfl)) ?_
    refine q_val (wants0 rfl) (d := 19) (v := (.bool (decide ((j : Int) > (a : Int))))) rfl (fun _ H' => (by kernel_rfl)) ?_
    refine (bsplit (decide ((j : Int) > (a : Int)))).elim (fun b14 => ?_) (fun b14 => ?_)
    · have g15 := of_decide_eq_true b14
      refine q_know 19 (.bool true) (congrArg Value.bool b14) ?_
      have g16 := of_decide_eq_true b14
      refine q_val (wantsY 3 19 true rfl (by kernel_rfl) rfl (by kernel_rfl)) (d := 20) (v := (.slice (some ⟨g, 0, none⟩) n c)) rfl (fun _ H' => (by kernel_rfl)) ?_
      refine q_val (wantsY 3 19 true rfl (by kernel_rfl) rfl (by kernel_rfl)) (d := 21) (v := (.int .i64 ((j : Int)))) rfl (fun _ H' => (by kernel_rfl)) ?_
      refine q_val (wantsY 3 19 true rfl (by kernel_rfl) rfl (by kernel_rfl)) (d := 22) (v := (.pointer (some ⟨g, 0 + ((j : Int)).toNat * 1, none⟩))) rfl (fun _ H' => (e_indexAddr (E := 23) (by kernel_rfl) (by kernel_rfl) (Nat.le_of_ble_eq_true rfl) rfl rfl (by omega) (by omega))) ?_
      obtain ⟨x17, h18⟩ := get_at (show j < C.length by omega)
      refine q_val (wantsY 3 19 true rfl (by kernel_rfl) rfl (by kernel_rfl)) (d := 23) (v := (.int .u64 (x17))) rfl (fun _ H' => (e_load1 rfl (by kernel_rfl) (rowU_cell (H'.at 0 rfl) h18 (show 0 + ((j : Int)).toNat * 1 = j by omega)))) ?_
      refine q_val (wantsY 3 19 true rfl (by kernel_rfl) rfl (by kernel_rfl)) (d := 24) (v := (.slice (some ⟨g, 0, none⟩) n c)) rfl (fun _ H' => (by kernel_rfl)) ?_
      refine q_val (wantsY 3 19 true rfl (by kernel_rfl) rfl (by kernel_rfl)) (d := 25) (v := (.int .i64 ((j : Int)))) rfl (fun _ H' => (by kernel_rfl)) ?_
      refine q_val (wantsY 3 19 true rfl (by kernel_rfl) rfl (by kernel_rfl)) (d := 26) (v := (.int .i64 ((j : Int) - 1))) rfl (fun _ H' => (e_int (z := (j : Int) - 1) (by kernel_rfl) (IntWalk.i64_in _ (by omega)))) ?_
      refine q_val (wantsY 3 19 true rfl (by kernel_rfl) rfl (by kernel_rfl)) (d := 27) (v := (.pointer (some ⟨g, 0 + ((j : Int) - 1).toNat * 1, none⟩))) rfl (fun _ H' => (e_indexAddr (E := 23) (by kernel_rfl) (by kernel_rfl) (Nat.le_of_ble_eq_true rfl) rfl rfl (by omega) (by omega))) ?_
      obtain ⟨x19, h20⟩ := get_at (show (j - 1) < C.length by omega)
      refine q_val (wantsY 3 19 true rfl (by kernel_rfl) rfl (by kernel_rfl)) (d := 28) (v := (.int .u64 (x19))) rfl (fun _ H' => (e_load1 rfl (by kernel_rfl) (rowU_cell (H'.at 0 rfl) h20 (show 0 + ((j : Int) - 1).toNat * 1 = (j - 1) by omega)))) ?_
      refine q_call (wantsY 3 19 true rfl (by kernel_rfl) rfl (by kernel_rfl)) (d := 29) (v := (.bool (ltU x17 x19))) rfl (fun _ _ => by kernel_rfl) (fun w' H' => (lessU_any w' x17 x19).mono fun _ _ h => ⟨h.1, H'.keepU h.2⟩) ?_
      refine q_val (wants0 rfl) (d := 30) (v := (.bool (ltU x17 x19))) rfl (fun _ H' => (by kernel_rfl)) ?_
      refine q_end ?_
      intro w21 H22
      refine then_normal ?_
      refine (bsplit (ltU x17 x19)).elim (fun b23 => ?_) (fun b23 => ?_)
      · refine wp_know 30 (.bool true) (congrArg Value.bool b23) ?_
        refine wp_ift rfl ?_
        refine w_skip ?_
        refine then_normal ?_
        refine w_seq ?_
        refine w_block ?_
        refine k_start H22 [rowU g n c C, restC w (rowU g n c A).fp] [15, 17] 18 rfl (by kernel_rfl) (fun Hx => (Hx.pick [0, 1] (by decide))) ?_
        intro w24 H25 S26
        refine k_pure 0 rfl (by kernel_rfl) (by kernel_rfl) (by kernel_rfl) (fun _ _ _ h => h) S26 (wants0 rfl) rfl (d := 33) (v := (.slice (some ⟨g, 0, none⟩) n c)) rfl (fun _ => (by kernel_rfl)) ?_
        refine k_pure 1 rfl (by kernel_rfl) (by kernel_rfl) (by kernel_rfl) (fun _ _ _ h => h) S26 (wants0 rfl) rfl (d := 34) (v := (.int .i64 ((j : Int)))) rfl (fun _ => (by kernel_rfl)) ?_
        refine k_pure 2 rfl (by kernel_rfl) (by kernel_rfl) (by kernel_rfl) (fun _ _ _ h => h) S26 (wants0 rfl) rfl (d := 35) (v := (.slice (some ⟨g, 0, none⟩) n c)) rfl (fun _ => (by kernel_rfl)) ?_
        refine k_pure 3 rfl (by kernel_rfl) (by kernel_rfl) (by kernel_rfl) (fun _ _ _ h => h) S26 (wants0 rfl) rfl (d := 36) (v := (.int .i64 ((j : Int)))) rfl (fun _ => (by kernel_rfl)) ?_
        refine k_pure 4 rfl (by kernel_rfl) (by kernel_rfl) (by kernel_rfl) (fun _ _ _ h => h) S26 (wants0 rfl) rfl (d := 37) (v := (.int .i64 ((j : Int) - 1))) rfl (fun _ => (e_int (z := (j : Int) - 1) (by kernel_rfl) (IntWalk.i64_in _ (by omega)))) ?_
        refine k_pure 5 rfl (by kernel_rfl) (by kernel_rfl) (by kernel_rfl) (fun _ _ _ h => h) S26 (wants0 rfl) rfl (d := 38) (v := (.slice (some ⟨g, 0, none⟩) n c)) rfl (fun _ => (by kernel_rfl)) ?_
        refine k_pure 6 rfl (by kernel_rfl) (by kernel_rfl) (by kernel_rfl) (fun _ _ _ h => h) S26 (wants0 rfl) rfl (d := 39) (v := (.int .i64 ((j : Int)))) rfl (fun _ => (by kernel_rfl)) ?_
        refine k_pure 7 rfl (by kernel_rfl) (by kernel_rfl) (by kernel_rfl) (fun _ _ _ h => h) S26 (wants0 rfl) rfl (d := 40) (v := (.int .i64 ((j : Int) - 1))) rfl (fun _ => (e_int (z := (j : Int) - 1) (by kernel_rfl) (IntWalk.i64_in _ (by omega)))) ?_
        refine k_pure 8 rfl (by kernel_rfl) (by kernel_rfl) (by kernel_rfl) (fun _ _ _ h => h) S26 (wants0 rfl) rfl (d := 41) (v := (.pointer (some ⟨g, 0 + ((j : Int) - 1).toNat * 1, none⟩))) rfl (fun _ => (e_indexAddr (E := 23) (by kernel_rfl) (by kernel_rfl) (Nat.le_of_ble_eq_true rfl) rfl rfl (by omega) (by omega))) ?_
        refine k_val 9 rfl (by kernel_rfl) (by kernel_rfl) (by kernel_rfl) (fun _ _ _ h => h) S26 (wants0 rfl) rfl (by kernel_rfl) (d := 42) (v := (.int .u64 (x19))) rfl (fun _ H' => (e_load1 rfl (by kernel_rfl) (rowU_cell (H'.at 0 rfl) h20 (show 0 + ((j : Int) - 1).toNat * 1 = (j - 1) by omega)))) ?_
        refine k_pure 10 rfl (by kernel_rfl) (by kernel_rfl) (by kernel_rfl) (fun _ _ _ h => h) S26 (wants0 rfl) rfl (d := 43) (v := (.slice (some ⟨g, 0, none⟩) n c)) rfl (fun _ => (by kernel_rfl)) ?_
        refine k_pure 11 rfl (by kernel_rfl) (by kernel_rfl) (by kernel_rfl) (fun _ _ _ h => h) S26 (wants0 rfl) rfl (d := 44) (v := (.int .i64 ((j : Int)))) rfl (fun _ => (by kernel_rfl)) ?_
        refine k_pure 12 rfl (by kernel_rfl) (by kernel_rfl) (by kernel_rfl) (fun _ _ _ h => h) S26 (wants0 rfl) rfl (d := 45) (v := (.pointer (some ⟨g, 0 + ((j : Int)).toNat * 1, none⟩))) rfl (fun _ => (e_indexAddr (E := 23) (by kernel_rfl) (by kernel_rfl) (Nat.le_of_ble_eq_true rfl) rfl rfl (by omega) (by omega))) ?_
        refine k_val 13 rfl (by kernel_rfl) (by kernel_rfl) (by kernel_rfl) (fun _ _ _ h => h) S26 (wants0 rfl) rfl (by kernel_rfl) (d := 46) (v := (.int .u64 (x17))) rfl (fun _ H' => (e_load1 rfl (by kernel_rfl) (rowU_cell (H'.at 0 rfl) h18 (show 0 + ((j : Int)).toNat * 1 = j by omega)))) ?_
        refine k_pure 14 rfl (by kernel_rfl) (by kernel_rfl) (by kernel_rfl) (fun _ _ _ h => h) S26 (wants0 rfl) rfl (d := 47) (v := (.pointer (some ⟨g, 0 + ((j : Int)).toNat * 1, none⟩))) rfl (fun _ => (e_indexAddr (E := 23) (by kernel_rfl) (by kernel_rfl) (Nat.le_of_ble_eq_true rfl) rfl rfl (by omega) (by omega))) ?_
        refine k_brk 15 (Sat w [restC w (rowU g n c A).fp]) rfl (by kernel_rfl) (wants0 rfl) rfl (fun K27 hK27 => ?_)
        refine d_storeU rfl H25 0 rfl rfl rfl (by kernel_rfl) (show 0 + ((j : Int)).toNat * 1 = j by omega) (by omega) ?_
        intro w28 (H29 : Sat w [rowU g n c (C.set j x19), restC w (rowU g n c A).fp] w28)
        have hlH29 : (C.set j x19).length = C.length := List.length_set
        have S30 := H29.pick [1] (by decide)
        refine hK27 _ _ S30 ?_
        clear hK27 K27
        refine h_val 16 rfl (by kernel_rfl) (by kernel_rfl) (by kernel_rfl) (fun _ _ _ h => h) S30 (wants0 rfl) (d := 48) (v := (.pointer (some ⟨g, 0 + ((j : Int) - 1).toNat * 1, none⟩))) rfl (fun _ H' => (e_indexAddr (E := 23) (by kernel_rfl) (by kernel_rfl) (Nat.le_of_ble_eq_true rfl) rfl rfl (by omega) (by omega))) ?_
        refine h_do 17 rfl (by kernel_rfl) (wants0 rfl) (fun K31 hK31 => ?_)
        refine d_storeU rfl H29 0 rfl rfl rfl (by kernel_rfl) (show 0 + ((j : Int) - 1).toNat * 1 = (j - 1) by omega) (by omega) ?_
        intro w32 (H33 : Sat w [rowU g n c ((C.set j x19).set (j - 1) x17), restC w (rowU g n c A).fp] w32)
        have hlH33 : ((C.set j x19).set (j - 1) x17).length = (C.set j x19).length := List.length_set
        have S34 := H33.pick [1] (by decide)
        refine hK31 _ _ S34 ?_
        clear hK31 K31
        refine h_fin (by kernel_rfl) ?_
        refine blk_normal ?_
        refine then_normal ?_
        refine w_lit ?_
        refine wl_pure (wants0 rfl) (d := 31) (v := (.int .i64 ((j : Int)))) rfl (by kernel_rfl) ?_
        refine wl_pure (wants0 rfl) (d := 32) (v := (.int .i64 ((j : Int) - 1))) rfl (e_int (z := (j : Int) - 1) (by kernel_rfl) (IntWalk.i64_in _ (by omega))) ?_
        refine wl_pure (wants0 rfl) (d := 7) (v := (.int .i64 ((j : Int) - 1))) rfl (by kernel_rfl) ?_
        refine w_nil ?_
        refine round_back ?_ _ ⟨(j - 1), ((C.set j x19).set (j - 1) x17), (show ((.int .i64 ((j : Int) - 1)) : Value) = _ by first | rfl | go_num), (by omega), (by omega), (hS2.swap (by omega) (by omega) (by omega) (by omega) h18 h20), (hI.step hw (by omega) (by omega) h18 h20 b23), H33, rfl⟩ (by omega)
        exact (same_upd rfl (same_upd rfl (same_upd rfl (same_upd rfl (same_upd rfl (same_upd rfl (same_upd rfl (same_upd rfl (same_upd rfl (same_upd rfl (same_upd rfl (same_upd rfl (same_upd rfl (same_upd rfl (same_upd rfl (same_upd rfl (same_upd rfl (same_upd rfl (same_upd rfl (same_upd rfl (same_upd rfl (same_upd rfl (same_upd rfl (same_upd rfl (same_upd rfl (same_upd rfl (same_upd rfl (same_upd rfl (same_upd rfl (same_upd rfl (same_upd rfl (same_upd rfl (same_upd rfl (same_upd rfl (same_upd rfl (same_upd rfl (same_upd rfl (same_ovr))))))))))))))))))))))))))))))))))))))
      · refine wp_know 30 (.bool false) (congrArg Value.bool b23) ?_
        refine wp_iff rfl ?_
        refine w_exit ?_
        refine then_exit ?_
        refine back_exit ?_
        refine blk_hit ?_
        refine blk_normal ?_
        refine then_normal ?_
        refine w_lit ?_
        refine wl_pure (wants0 rfl) (d := 13) (v := (.int .i64 ((i : Int)))) rfl (by kernel_rfl) ?_
        refine wl_pure (wants0 rfl) (d := 14) (v := (.int .i64 ((i : Int) + 1))) rfl (e_int (z := (i : Int) + 1) (by kernel_rfl) (IntWalk.i64_in _ (by omega))) ?_
        refine wl_pure (wants0 rfl) (d := 6) (v := (.int .i64 ((i : Int) + 1))) rfl (by kernel_rfl) ?_
        refine w_nil ?_
        have hs2 : Srt ltU a (i + 1) C := by
          exact hI.stop hw (by omega) (by omega) h18 h20 b23
        refine round_back ?_ _ ⟨(i + 1), C, (show ((.int .i64 ((i : Int) + 1)) : Value) = _ by first | rfl | go_num), (by omega), hlC, hS2, hs2, H22, rfl⟩ (by omega)
        exact (same_upd rfl (same_upd rfl (same_upd rfl (same_upd rfl (same_upd rfl (same_upd rfl (same_upd rfl (same_upd rfl (same_upd rfl (same_upd rfl (same_upd rfl (same_upd rfl (same_upd rfl (same_upd rfl (same_upd rfl (same_upd rfl (same_upd rfl (same_upd rfl (same_upd rfl (same_upd rfl (same_upd rfl (same_ovr2 rfl (same_upd rfl (same_upd rfl (same_upd rfl (same_upd rfl (same_upd rfl (same_upd rfl (same_upd rfl (same_ovr))))))))))))))))))))))))))))))
    · have g35 := of_decide_eq_false b14
      refine q_know 19 (.bool false) (congrArg Value.bool b14) ?_
      have g36 := of_decide_eq_false b14
      refine q_pass (wantsN 3 19 true rfl (by kernel_rfl) rfl (by kernel_rfl)) rfl ?_
      refine q_pass (wantsN 3 19 true rfl (by kernel_rfl) rfl (by kernel_rfl)) rfl ?_
      refine q_pass (wantsN 3 19 true rfl (by kernel_rfl) rfl (by kernel_rfl)) rfl ?_
      refine q_pass (wantsN 3 19 true rfl (by kernel_rfl) rfl (by kernel_rfl)) rfl ?_
      refine q_pass (wantsN 3 19 true rfl (by kernel_rfl) rfl (by kernel_rfl)) rfl ?_
      refine q_pass (wantsN 3 19 true rfl (by kernel_rfl) rfl (by kernel_rfl)) rfl ?_
      refine q_pass (wantsN 3 19 true rfl (by kernel_rfl) rfl (by kernel_rfl)) rfl ?_
      refine q_pass (wantsN 3 19 true rfl (by kernel_rfl) rfl (by kernel_rfl)) rfl ?_
      refine q_pass (wantsN 3 19 true rfl (by kernel_rfl) rfl (by kernel_rfl)) rfl ?_
      refine q_pass (wantsN 3 19 true rfl (by kernel_rfl) rfl (by kernel_rfl)) rfl ?_
      refine q_val (wants0 rfl) (d := 30) (v := (.bool false)) rfl (fun _ H' => (by kernel_rfl)) ?_
      refine q_end ?_
      intro w37 H38
      refine then_normal ?_
      refine wp_iff rfl ?_
      refine w_exit ?_
      refine then_exit ?_
      refine back_exit ?_
      refine blk_hit ?_
      refine blk_normal ?_
      refine then_normal ?_
      refine w_lit ?_
      refine wl_pure (wants0 rfl) (d := 13) (v := (.int .i64 ((i : Int)))) rfl (by kernel_rfl) ?_
      refine wl_pure (wants0 rfl) (d := 14) (v := (.int .i64 ((i : Int) + 1))) rfl (e_int (z := (i : Int) + 1) (by kernel_rfl) (IntWalk.i64_in _ (by omega))) ?_
      refine wl_pure (wants0 rfl) (d := 6) (v := (.int .i64 ((i : Int) + 1))) rfl (by kernel_rfl) ?_
      refine w_nil ?_
      have hs2 : Srt ltU a (i + 1) C := by
        obtain rfl : j = a := by omega
        exact hI.low
      refine round_back ?_ _ ⟨(i + 1), C, (show ((.int .i64 ((i : Int) + 1)) : Value) = _ by first | rfl | go_num), (by omega), hlC, hS2, hs2, H38, rfl⟩ (by omega)
      exact (same_upd rfl (same_upd rfl (same_upd rfl (same_upd rfl (same_upd rfl (same_upd rfl (same_upd rfl (same_upd rfl (same_upd rfl (same_upd rfl (same_upd rfl (same_upd rfl (same_upd rfl (same_upd rfl (same_upd rfl (same_upd rfl (same_upd rfl (same_upd rfl (same_upd rfl (same_upd rfl (same_ovr2 rfl (same_upd rfl (same_upd rfl (same_upd rfl (same_upd rfl (same_upd rfl (same_upd rfl (same_upd rfl (same_ovr)))))))))))))))))))))))))))))
  · have g39 := of_decide_eq_false b6
    refine wp_know 12 (.bool false) (congrArg Value.bool b6) ?_
    have g40 := of_decide_eq_false b6
    refine wp_iff rfl ?_
    refine w_exit ?_
    refine then_exit ?_
    refine back_exit ?_
    refine blk_hit ?_
    refine end_normal ?_
    refine end0 rfl  ?_
    exact ⟨B, rfl, hlB, hS, hs.sub (Nat.le_refl _) (by omega), H3⟩

end Go.Proofs.Ytbpeofcoceaahaa
