/- WHAT IS PROVED: slices' sort, its functions: contracts. Conditions: stated with each. -/
import Derived.Test.YtbpeofcoceaahaaSortUD
namespace Go.Proofs.Ytbpeofcoceaahaa
open Go.RowKit

set_option maxRecDepth 100000 in
set_option maxHeartbeats 1000000 in
theorem parteqU_any (w : World) (g n c a b p : Nat) (A : List Int) (hT : (rowU g n c A).ok w) (hn : n ≤ 1000000000000) (hab : a < b ∧ b ≤ n ∧ a ≤ p ∧ p < b) :
    Calls Try.prog 103 #[(.slice (some ⟨g, 0, none⟩) n c), (.int .i64 ((a : Int))), (.int .i64 ((b : Int))), (.int .i64 ((p : Int)))] w fun e w' => ∃ (B : List Int) (m : Nat) (pv : Int), e = .returned (.int .i64 (m : Int)) ∧ B.length = n ∧ SegP a b A B ∧ (a < m ∧ m ≤ b) ∧ AllIn (fun x => ltU pv x = false) a m B ∧ AllIn (fun x => ltU pv x = true) m b B ∧ A[p]? = some pv ∧ Sat w [rowU g n c B, restC w (rowU g n c A).fp] w' := by
  have H : Sat w [rowU g n c A, restC w (rowU g n c A).fp] w := Sat.start1 hT
  have hl := rowU_len hT
  have hw := swU
  refine calls_fr Try.func103 rfl 84 rfl (Nat.le_of_ble_eq_true rfl) ?_
  refine w_seq ?_
  refine w_lit ?_
  refine wl_pure (wants0 rfl) (d := 8) (v := (.int .i64 (0))) rfl (by kernel_rfl) ?_
  refine w_nil ?_
  refine then_normal ?_
  refine w_seq ?_
  obtain ⟨x1, h2⟩ := get_at (show p < A.length by omega)
  obtain ⟨x3, h4⟩ := get_at (show a < A.length by omega)
  refine k_start H [rowU g n c A, restC w (rowU g n c A).fp] [13, 15] 16 rfl (by kernel_rfl) (fun Hx => (Hx.pick [0, 1] (by decide))) ?_
  intro w5 H6 S7
  refine k_pure 0 rfl (by kernel_rfl) (by kernel_rfl) (by kernel_rfl) (fun _ _ _ h => h) S7 (wants0 rfl) rfl (d := 11) (v := (.slice (some ⟨g, 0, none⟩) n c)) rfl (fun _ => (by kernel_rfl)) ?_
  refine k_pure 1 rfl (by kernel_rfl) (by kernel_rfl) (by kernel_rfl) (fun _ _ _ h => h) S7 (wants0 rfl) rfl (d := 12) (v := (.int .i64 ((a : Int)))) rfl (fun _ => (by kernel_rfl)) ?_
  refine k_pure 2 rfl (by kernel_rfl) (by kernel_rfl) (by kernel_rfl) (fun _ _ _ h => h) S7 (wants0 rfl) rfl (d := 13) (v := (.slice (some ⟨g, 0, none⟩) n c)) rfl (fun _ => (by kernel_rfl)) ?_
  refine k_pure 3 rfl (by kernel_rfl) (by kernel_rfl) (by kernel_rfl) (fun _ _ _ h => h) S7 (wants0 rfl) rfl (d := 14) (v := (.int .i64 ((p : Int)))) rfl (fun _ => (by kernel_rfl)) ?_
  refine k_pure 4 rfl (by kernel_rfl) (by kernel_rfl) (by kernel_rfl) (fun _ _ _ h => h) S7 (wants0 rfl) rfl (d := 15) (v := (.slice (some ⟨g, 0, none⟩) n c)) rfl (fun _ => (by kernel_rfl)) ?_
  refine k_pure 5 rfl (by kernel_rfl) (by kernel_rfl) (by kernel_rfl) (fun _ _ _ h => h) S7 (wants0 rfl) rfl (d := 16) (v := (.int .i64 ((p : Int)))) rfl (fun _ => (by kernel_rfl)) ?_
  refine k_pure 6 rfl (by kernel_rfl) (by kernel_rfl) (by kernel_rfl) (fun _ _ _ h => h) S7 (wants0 rfl) rfl (d := 17) (v := (.pointer (some ⟨g, 0 + ((p : Int)).toNat * 1, none⟩))) rfl (fun _ => (e_indexAddr (E := 23) (by kernel_rfl) (by kernel_rfl) (Nat.le_of_ble_eq_true rfl) rfl rfl (by omega) (by omega))) ?_
  refine k_val 7 rfl (by kernel_rfl) (by kernel_rfl) (by kernel_rfl) (fun _ _ _ h => h) S7 (wants0 rfl) rfl (by kernel_rfl) (d := 18) (v := (.int .u64 (x1))) rfl (fun _ H' => (e_load1 rfl (by kernel_rfl) (rowU_cell (H'.at 0 rfl) h2 (show 0 + ((p : Int)).toNat * 1 = p by omega)))) ?_
  refine k_pure 8 rfl (by kernel_rfl) (by kernel_rfl) (by kernel_rfl) (fun _ _ _ h => h) S7 (wants0 rfl) rfl (d := 19) (v := (.slice (some ⟨g, 0, none⟩) n c)) rfl (fun _ => (by kernel_rfl)) ?_
  refine k_pure 9 rfl (by kernel_rfl) (by kernel_rfl) (by kernel_rfl) (fun _ _ _ h => h) S7 (wants0 rfl) rfl (d := 20) (v := (.int .i64 ((a : Int)))) rfl (fun _ => (by kernel_rfl)) ?_
  refine k_pure 10 rfl (by kernel_rfl) (by kernel_rfl) (by kernel_rfl) (fun _ _ _ h => h) S7 (wants0 rfl) rfl (d := 21) (v := (.pointer (some ⟨g, 0 + ((a : Int)).toNat * 1, none⟩))) rfl (fun _ => (e_indexAddr (E := 23) (by kernel_rfl) (by kernel_rfl) (Nat.le_of_ble_eq_true rfl) rfl rfl (by omega) (by omega))) ?_
  refine k_val 11 rfl (by kernel_rfl) (by kernel_rfl) (by kernel_rfl) (fun _ _ _ h => h) S7 (wants0 rfl) rfl (by kernel_rfl) (d := 22) (v := (.int .u64 (x3))) rfl (fun _ H' => (e_load1 rfl (by kernel_rfl) (rowU_cell (H'.at 0 rfl) h4 (show 0 + ((a : Int)).toNat * 1 = a by omega)))) ?_
  refine k_pure 12 rfl (by kernel_rfl) (by kernel_rfl) (by kernel_rfl) (fun _ _ _ h => h) S7 (wants0 rfl) rfl (d := 23) (v := (.pointer (some ⟨g, 0 + ((a : Int)).toNat * 1, none⟩))) rfl (fun _ => (e_indexAddr (E := 23) (by kernel_rfl) (by kernel_rfl) (Nat.le_of_ble_eq_true rfl) rfl rfl (by omega) (by omega))) ?_
  refine k_brk 13 (Sat w [restC w (rowU g n c A).fp]) rfl (by kernel_rfl) (wants0 rfl) rfl (fun K8 hK8 => ?_)
  refine d_storeU rfl H6 0 rfl rfl rfl (by kernel_rfl) (show 0 + ((a : Int)).toNat * 1 = a by omega) (by omega) ?_
  intro w9 (H10 : Sat w [rowU g n c (A.set a x1), restC w (rowU g n c A).fp] w9)
  have hlH10 : (A.set a x1).length = A.length := List.length_set
  have S11 := H10.pick [1] (by decide)
  refine hK8 _ _ S11 ?_
  clear hK8 K8
  refine h_val 14 rfl (by kernel_rfl) (by kernel_rfl) (by kernel_rfl) (fun _ _ _ h => h) S11 (wants0 rfl) (d := 24) (v := (.pointer (some ⟨g, 0 + ((p : Int)).toNat * 1, none⟩))) rfl (fun _ H' => (e_indexAddr (E := 23) (by kernel_rfl) (by kernel_rfl) (Nat.le_of_ble_eq_true rfl) rfl rfl (by omega) (by omega))) ?_
  refine h_do 15 rfl (by kernel_rfl) (wants0 rfl) (fun K12 hK12 => ?_)
  refine d_storeU rfl H10 0 rfl rfl rfl (by kernel_rfl) (show 0 + ((p : Int)).toNat * 1 = p by omega) (by omega) ?_
  intro w13 (H14 : Sat w [rowU g n c ((A.set a x1).set p x3), restC w (rowU g n c A).fp] w13)
  have hlH14 : ((A.set a x1).set p x3).length = (A.set a x1).length := List.length_set
  have S15 := H14.pick [1] (by decide)
  refine hK12 _ _ S15 ?_
  clear hK12 K12
  refine h_fin (by kernel_rfl) ?_
  refine then_normal ?_
  refine w_seq ?_
  obtain ⟨A1, hA1, hS1, hat, hl1, pv, hpv⟩ : ∃ A1, ((A.set a x1).set p x3) = A1 ∧ SegP a b A A1 ∧ A1[a]? = some x1 ∧ A1.length = n ∧ ∃ pv, x1 = pv := ⟨_, rfl, SegP.of_swap (by omega) (by omega) (by omega) (by omega) h4 h2, swap_at h4 h2, by omega, _, rfl⟩
  rw [hpv] at hat
  have hpA : A[p]? = some pv := hpv ▸ h2
  have H16 : Sat w [rowU g n c A1, restC w (rowU g n c A).fp] w13 := H14.cast (by rw [hA1])
  refine w_lit ?_
  refine wl_pure (wants0 rfl) (d := 25) (v := (.int .i64 ((a : Int)))) rfl (by kernel_rfl) ?_
  refine wl_pure (wants0 rfl) (d := 26) (v := (.int .i64 ((a : Int) + 1))) rfl (e_int (z := (a : Int) + 1) (by kernel_rfl) (IntWalk.i64_in _ (by omega))) ?_
  refine wl_pure (wants0 rfl) (d := 27) (v := (.int .i64 ((b : Int)))) rfl (by kernel_rfl) ?_
  refine wl_pure (wants0 rfl) (d := 28) (v := (.int .i64 ((b : Int) - 1))) rfl (e_int (z := (b : Int) - 1) (by kernel_rfl) (IntWalk.i64_in _ (by omega))) ?_
  refine wl_pure (wants0 rfl) (d := 9) (v := (.int .i64 ((a : Int) + 1))) rfl (by kernel_rfl) ?_
  refine wl_pure (wants0 rfl) (d := 10) (v := (.int .i64 ((b : Int) - 1))) rfl (by kernel_rfl) ?_
  refine w_nil ?_
  refine then_normal ?_
  refine w_seq ?_
  refine w_block ?_
  refine wp_know 10 (.int .i64 (((b - 1 : Nat) : Int))) (show ((.int .i64 ((b : Int) - 1)) : Value) = _ by first | rfl | go_num) ?_
  refine wp_round [9, 10, 29, 30, 31, 32, 33, 34, 35, 36, 37, 38, 39, 40, 41, 42, 43, 44, 45, 46, 47, 48, 49, 50, 51, 52, 53, 54, 55, 56, 57, 58, 59, 60, 61, 62, 63, 64, 65, 66, 67, 68, 69, 70, 71, 72, 73, 74, 75, 76, 77, 78, 79, 80, 81, 82] (fun F_ W_ m_ => ∃ (i j : Nat) (B : List Int), F_ 9 = (.int .i64 ((i : Int))) ∧ F_ 10 = (.int .i64 ((j : Int))) ∧ (a + 1 ≤ i ∧ i ≤ j + 1 ∧ j < b ∧ a ≤ j) ∧ (B.length = n) ∧ (SegP a b A B) ∧ (PartE ltU a i j b pv B) ∧ Sat w [rowU g n c B, restC w (rowU g n c A).fp] W_ ∧ m_ = j + 1 - i) _ ⟨(a + 1), (b - 1), A1, (show ((.int .i64 ((a : Int) + 1)) : Value) = _ by first | rfl | go_num), (show ((.int .i64 (((b - 1 : Nat) : Int))) : Value) = _ by first | rfl | go_num), (by omega), hl1, hS1, (PartE.start hw hat (by omega)), H16, rfl⟩ ?_
  rintro g17 w18 _ ⟨i, j, B, v20, v21, hij0, hlB, hS, hP, H19, rfl⟩
  refine wp_know 9 _ v20 ?_
  refine wp_know 10 _ v21 ?_
  skip
  refine w_block ?_
  refine wp_meetR [9, 29, 30, 31, 32, 33, 34, 35, 36, 37, 38, 39, 40, 41, 42, 43, 44, 45] (fun G_ W_ => ∃ (i1 : Nat), G_ 9 = (.int .i64 ((i1 : Int))) ∧ (a + 1 ≤ i1 ∧ i1 ≤ j + 1 ∧ i1 ≤ b ∧ i ≤ i1) ∧ (PartE ltU a i1 j b pv B) ∧ (StopI (fun x => !ltU pv x) i1 j B) ∧ Sat w [rowU g n c B, restC w (rowU g n c A).fp] W_) ?_ ?_
  · refine w_block ?_
    refine wp_round [9, 29, 30, 31, 32, 33, 34, 35, 36, 37, 38, 39, 40, 41, 42, 43, 44, 45] (fun F_ W_ m_ => ∃ (i1 : Nat), F_ 9 = (.int .i64 ((i1 : Int))) ∧ (a + 1 ≤ i1 ∧ i1 ≤ j + 1 ∧ i1 ≤ b ∧ i ≤ i1) ∧ (PartE ltU a i1 j b pv B) ∧ Sat w [rowU g n c B, restC w (rowU g n c A).fp] W_ ∧ m_ = b + 1 - i1) _ ⟨i, (show ((.int .i64 ((i : Int))) : Value) = _ by first | rfl | go_num), (by omega), hP, H19, rfl⟩ ?_
    rintro g24 w25 _ ⟨i1, v27, hi, hP, H26, rfl⟩
    refine wp_know 9 _ v27 ?_
    skip
    refine w_seq ?_
    refine w_seq ?_
    refine q_start H26 (by kernel_rfl) (by kernel_rfl) ?_
    refine q_val (wants0 rfl) (d := 29) (v := (.int .i64 ((i1 : Int)))) rfl (fun _ H' => (by kernel_rfl)) ?_
    refine q_val (wants0 rfl) (d := 30) (v := (.int .i64 ((j : Int)))) rfl (fun _ H' => (by kernel_rfl)) ?_
    refine q_val (wants0 rfl) (d := 31) (v := (.bool (decide ((i1 : Int) ≤ (j : Int))))) rfl (fun _ H' => (by kernel_rfl)) ?_
    refine q_val (wants0 rfl) (d := 32) (v := (.bool (decide ((i1 : Int) ≤ (j : Int))))) rfl (fun _ H' => (by kernel_rfl)) ?_
    refine (bsplit (decide ((i1 : Int) ≤ (j : Int)))).elim (fun b29 => ?_) (fun b29 => ?_)
    · have g30 := of_decide_eq_true b29
      refine q_know 32 (.bool true) (congrArg Value.bool b29) ?_
      have g31 := of_decide_eq_true b29
      refine q_val (wantsY 3 32 true rfl (by kernel_rfl) rfl (by kernel_rfl)) (d := 33) (v := (.slice (some ⟨g, 0, none⟩) n c)) rfl (fun _ H' => (by kernel_rfl)) ?_
      refine q_val (wantsY 3 32 true rfl (by kernel_rfl) rfl (by kernel_rfl)) (d := 34) (v := (.int .i64 ((a : Int)))) rfl (fun _ H' => (by kernel_rfl)) ?_
      refine q_val (wantsY 3 32 true rfl (by kernel_rfl) rfl (by kernel_rfl)) (d := 35) (v := (.pointer (some ⟨g, 0 + ((a : Int)).toNat * 1, none⟩))) rfl (fun _ H' => (e_indexAddr (E := 23) (by kernel_rfl) (by kernel_rfl) (Nat.le_of_ble_eq_true rfl) rfl rfl (by omega) (by omega))) ?_
      refine q_val (wantsY 3 32 true rfl (by kernel_rfl) rfl (by kernel_rfl)) (d := 36) (v := (.int .u64 (pv))) rfl (fun _ H' => (e_load1 rfl (by kernel_rfl) (rowU_cell (H'.at 0 rfl) hP.at_ (show 0 + ((a : Int)).toNat * 1 = a by omega)))) ?_
      refine q_val (wantsY 3 32 true rfl (by kernel_rfl) rfl (by kernel_rfl)) (d := 37) (v := (.slice (some ⟨g, 0, none⟩) n c)) rfl (fun _ H' => (by kernel_rfl)) ?_
      refine q_val (wantsY 3 32 true rfl (by kernel_rfl) rfl (by kernel_rfl)) (d := 38) (v := (.int .i64 ((i1 : Int)))) rfl (fun _ H' => (by kernel_rfl)) ?_
      refine q_val (wantsY 3 32 true rfl (by kernel_rfl) rfl (by kernel_rfl)) (d := 39) (v := (.pointer (some ⟨g, 0 + ((i1 : Int)).toNat * 1, none⟩))) rfl (fun _ H' => (e_indexAddr (E := 23) (by kernel_rfl) (by kernel_rfl) (Nat.le_of_ble_eq_true rfl) rfl rfl (by omega) (by omega))) ?_
      obtain ⟨x32, h33⟩ := get_at (show i1 < B.length by omega)
      refine q_val (wantsY 3 32 true rfl (by kernel_rfl) rfl (by kernel_rfl)) (d := 40) (v := (.int .u64 (x32))) rfl (fun _ H' => (e_load1 rfl (by kernel_rfl) (rowU_cell (H'.at 0 rfl) h33 (show 0 + ((i1 : Int)).toNat * 1 = i1 by omega)))) ?_
      refine q_call (wantsY 3 32 true rfl (by kernel_rfl) rfl (by kernel_rfl)) (d := 41) (v := (.bool (ltU pv x32))) rfl (fun _ _ => by kernel_rfl) (fun w' H' => (lessU_any w' pv x32).mono fun _ _ h => ⟨h.1, H'.keepU h.2⟩) ?_
      refine q_val (wantsY 3 32 true rfl (by kernel_rfl) rfl (by kernel_rfl)) (d := 42) (v := (.bool (!(ltU pv x32)))) rfl (fun _ H' => (by kernel_rfl)) ?_
      refine q_val (wants0 rfl) (d := 43) (v := (.bool (!(ltU pv x32)))) rfl (fun _ H' => (by kernel_rfl)) ?_
      refine q_end ?_
      intro w34 H35
      refine then_normal ?_
      refine (bsplit (!(ltU pv x32))).elim (fun b36 => ?_) (fun b36 => ?_)
      · have g37 := bnot_true b36
        refine wp_know 43 (.bool true) (congrArg Value.bool b36) ?_
        have g38 := bnot_true b36
        refine wp_ift rfl ?_
        refine w_skip ?_
        refine then_normal ?_
        refine w_block ?_
        refine w_lit ?_
        refine wl_pure (wants0 rfl) (d := 44) (v := (.int .i64 ((i1 : Int)))) rfl (by kernel_rfl) ?_
        refine wl_pure (wants0 rfl) (d := 45) (v := (.int .i64 ((i1 : Int) + 1))) rfl (e_int (z := (i1 : Int) + 1) (by kernel_rfl) (IntWalk.i64_in _ (by omega))) ?_
        refine wl_pure (wants0 rfl) (d := 9) (v := (.int .i64 ((i1 : Int) + 1))) rfl (by kernel_rfl) ?_
        refine w_nil ?_
        refine blk_normal ?_
        refine round_back ?_ _ ⟨(i1 + 1), (show ((.int .i64 ((i1 : Int) + 1)) : Value) = _ by first | rfl | go_num), (by omega), (hP.incr h33 (bnot_true b36)), H35, rfl⟩ (by omega)
        exact (same_upd rfl (same_upd rfl (same_upd rfl (same_upd rfl (same_upd rfl (same_upd rfl (same_upd rfl (same_upd rfl (same_upd rfl (same_upd rfl (same_upd rfl (same_upd rfl (same_upd rfl (same_upd rfl (same_upd rfl (same_upd rfl (same_upd rfl (same_upd rfl (same_upd rfl (same_upd rfl (same_upd rfl (same_ovr))))))))))))))))))))))
      · have g39 := bnot_false b36
        refine wp_know 43 (.bool false) (congrArg Value.bool b36) ?_
        have g40 := bnot_false b36
        refine wp_iff rfl ?_
        refine w_exit ?_
        refine then_exit ?_
        refine back_exit ?_
        refine blk_hit ?_
        refine meetR_at ?_ ⟨i1, rfl, (by omega), hP, (fun _ => ⟨x32, h33, b36⟩), H35⟩
        exact (same_upd rfl (same_upd rfl (same_upd rfl (same_upd rfl (same_upd rfl (same_upd rfl (same_upd rfl (same_upd rfl (same_upd rfl (same_upd rfl (same_upd rfl (same_upd rfl (same_upd rfl (same_upd rfl (same_upd rfl (same_upd rfl (same_upd rfl (same_upd rfl (same_ovr2 rfl (same_refl))))))))))))))))))))
    · have g41 := of_decide_eq_false b29
      refine q_know 32 (.bool false) (congrArg Value.bool b29) ?_
      have g42 := of_decide_eq_false b29
      refine q_pass (wantsN 3 32 true rfl (by kernel_rfl) rfl (by kernel_rfl)) rfl ?_
      refine q_pass (wantsN 3 32 true rfl (by kernel_rfl) rfl (by kernel_rfl)) rfl ?_
      refine q_pass (wantsN 3 32 true rfl (by kernel_rfl) rfl (by kernel_rfl)) rfl ?_
      refine q_pass (wantsN 3 32 true rfl (by kernel_rfl) rfl (by kernel_rfl)) rfl ?_
      refine q_pass (wantsN 3 32 true rfl (by kernel_rfl) rfl (by kernel_rfl)) rfl ?_
      refine q_pass (wantsN 3 32 true rfl (by kernel_rfl) rfl (by kernel_rfl)) rfl ?_
      refine q_pass (wantsN 3 32 true rfl (by kernel_rfl) rfl (by kernel_rfl)) rfl ?_
      refine q_pass (wantsN 3 32 true rfl (by kernel_rfl) rfl (by kernel_rfl)) rfl ?_
      refine q_pass (wantsN 3 32 true rfl (by kernel_rfl) rfl (by kernel_rfl)) rfl ?_
      refine q_pass (wantsN 3 32 true rfl (by kernel_rfl) rfl (by kernel_rfl)) rfl ?_
      refine q_val (wants0 rfl) (d := 43) (v := (.bool false)) rfl (fun _ H' => (by kernel_rfl)) ?_
      refine q_end ?_
      intro w43 H44
      refine then_normal ?_
      refine wp_iff rfl ?_
      refine w_exit ?_
      refine then_exit ?_
      refine back_exit ?_
      refine blk_hit ?_
      refine meetR_at ?_ ⟨i1, rfl, (by omega), hP, (fun q => absurd q (by omega)), H44⟩
      exact (same_upd rfl (same_upd rfl (same_upd rfl (same_upd rfl (same_upd rfl (same_upd rfl (same_upd rfl (same_upd rfl (same_upd rfl (same_upd rfl (same_upd rfl (same_upd rfl (same_upd rfl (same_upd rfl (same_upd rfl (same_upd rfl (same_upd rfl (same_ovr2 rfl (same_refl)))))))))))))))))))
  · rintro f45 w46 ⟨i1, v48, hi, hP, hSi, H47⟩
    refine wp_know 9 _ v48 ?_
    refine wp_meetR [10, 46, 47, 48, 49, 50, 51, 52, 53, 54, 55, 56, 57, 58, 59, 60, 61] (fun G_ W_ => ∃ (j1 : Nat), G_ 10 = (.int .i64 ((j1 : Int))) ∧ (i1 ≤ j1 + 1 ∧ j1 < b ∧ a ≤ j1 ∧ j1 ≤ j) ∧ (PartE ltU a i1 j1 b pv B) ∧ (StopJ (fun x => !ltU pv x) i1 j1 B) ∧ Sat w [rowU g n c B, restC w (rowU g n c A).fp] W_) ?_ ?_
    · refine w_block ?_
      refine wp_round [10, 46, 47, 48, 49, 50, 51, 52, 53, 54, 55, 56, 57, 58, 59, 60, 61] (fun F_ W_ m_ => ∃ (j1 : Nat), F_ 10 = (.int .i64 ((j1 : Int))) ∧ (i1 ≤ j1 + 1 ∧ j1 < b ∧ a ≤ j1 ∧ j1 ≤ j) ∧ (PartE ltU a i1 j1 b pv B) ∧ Sat w [rowU g n c B, restC w (rowU g n c A).fp] W_ ∧ m_ = j1 + 1) _ ⟨j, (show ((.int .i64 ((j : Int))) : Value) = _ by first | rfl | go_num), (by omega), hP, H47, rfl⟩ ?_
      rintro g50 w51 _ ⟨j1, v53, hj, hP, H52, rfl⟩
      refine wp_know 10 _ v53 ?_
      skip
      refine w_seq ?_
      refine w_seq ?_
      refine q_start H52 (by kernel_rfl) (by kernel_rfl) ?_
      refine q_val (wants0 rfl) (d := 46) (v := (.int .i64 ((i1 : Int)))) rfl (fun _ H' => (by kernel_rfl)) ?_
      refine q_val (wants0 rfl) (d := 47) (v := (.int .i64 ((j1 : Int)))) rfl (fun _ H' => (by kernel_rfl)) ?_
      refine q_val (wants0 rfl) (d := 48) (v := (.bool (decide ((i1 : Int) ≤ (j1 : Int))))) rfl (fun _ H' => (by kernel_rfl)) ?_
      refine q_val (wants0 rfl) (d := 49) (v := (.bool (decide ((i1 : Int) ≤ (j1 : Int))))) rfl (fun _ H' => (by kernel_rfl)) ?_
      refine (bsplit (decide ((i1 : Int) ≤ (j1 : Int)))).elim (fun b55 => ?_) (fun b55 => ?_)
      · have g56 := of_decide_eq_true b55
        refine q_know 49 (.bool true) (congrArg Value.bool b55) ?_
        have g57 := of_decide_eq_true b55
        refine q_val (wantsY 3 49 true rfl (by kernel_rfl) rfl (by kernel_rfl)) (d := 50) (v := (.slice (some ⟨g, 0, none⟩) n c)) rfl (fun _ H' => (by kernel_rfl)) ?_
        refine q_val (wantsY 3 49 true rfl (by kernel_rfl) rfl (by kernel_rfl)) (d := 51) (v := (.int .i64 ((a : Int)))) rfl (fun _ H' => (by kernel_rfl)) ?_
        refine q_val (wantsY 3 49 true rfl (by kernel_rfl) rfl (by kernel_rfl)) (d := 52) (v := (.pointer (some ⟨g, 0 + ((a : Int)).toNat * 1, none⟩))) rfl (fun _ H' => (e_indexAddr (E := 23) (by kernel_rfl) (by kernel_rfl) (Nat.le_of_ble_eq_true rfl) rfl rfl (by omega) (by omega))) ?_
        refine q_val (wantsY 3 49 true rfl (by kernel_rfl) rfl (by kernel_rfl)) (d := 53) (v := (.int .u64 (pv))) rfl (fun _ H' => (e_load1 rfl (by kernel_rfl) (rowU_cell (H'.at 0 rfl) hP.at_ (show 0 + ((a : Int)).toNat * 1 = a by omega)))) ?_
        refine q_val (wantsY 3 49 true rfl (by kernel_rfl) rfl (by kernel_rfl)) (d := 54) (v := (.slice (some ⟨g, 0, none⟩) n c)) rfl (fun _ H' => (by kernel_rfl)) ?_
        refine q_val (wantsY 3 49 true rfl (by kernel_rfl) rfl (by kernel_rfl)) (d := 55) (v := (.int .i64 ((j1 : Int)))) rfl (fun _ H' => (by kernel_rfl)) ?_
        refine q_val (wantsY 3 49 true rfl (by kernel_rfl) rfl (by kernel_rfl)) (d := 56) (v := (.pointer (some ⟨g, 0 + ((j1 : Int)).toNat * 1, none⟩))) rfl (fun _ H' => (e_indexAddr (E := 23) (by kernel_rfl) (by kernel_rfl) (Nat.le_of_ble_eq_true rfl) rfl rfl (by omega) (by omega))) ?_
        obtain ⟨x58, h59⟩ := get_at (show j1 < B.length by omega)
        refine q_val (wantsY 3 49 true rfl (by kernel_rfl) rfl (by kernel_rfl)) (d := 57) (v := (.int .u64 (x58))) rfl (fun _ H' => (e_load1 rfl (by kernel_rfl) (rowU_cell (H'.at 0 rfl) h59 (show 0 + ((j1 : Int)).toNat * 1 = j1 by omega)))) ?_
        refine q_call (wantsY 3 49 true rfl (by kernel_rfl) rfl (by kernel_rfl)) (d := 58) (v := (.bool (ltU pv x58))) rfl (fun _ _ => by kernel_rfl) (fun w' H' => (lessU_any w' pv x58).mono fun _ _ h => ⟨h.1, H'.keepU h.2⟩) ?_
        refine q_val (wants0 rfl) (d := 59) (v := (.bool (ltU pv x58))) rfl (fun _ H' => (by kernel_rfl)) ?_
        refine q_end ?_
        intro w60 H61
        refine then_normal ?_
        refine (bsplit (ltU pv x58)).elim (fun b62 => ?_) (fun b62 => ?_)
        · refine wp_know 59 (.bool true) (congrArg Value.bool b62) ?_
          refine wp_ift rfl ?_
          refine w_skip ?_
          refine then_normal ?_
          refine w_block ?_
          refine w_lit ?_
          refine wl_pure (wants0 rfl) (d := 60) (v := (.int .i64 ((j1 : Int)))) rfl (by kernel_rfl) ?_
          refine wl_pure (wants0 rfl) (d := 61) (v := (.int .i64 ((j1 : Int) - 1))) rfl (e_int (z := (j1 : Int) - 1) (by kernel_rfl) (IntWalk.i64_in _ (by omega))) ?_
          refine wl_pure (wants0 rfl) (d := 10) (v := (.int .i64 ((j1 : Int) - 1))) rfl (by kernel_rfl) ?_
          refine w_nil ?_
          refine blk_normal ?_
          refine round_back ?_ _ ⟨(j1 - 1), (show ((.int .i64 ((j1 : Int) - 1)) : Value) = _ by first | rfl | go_num), (by omega), (hP.decr (by omega) h59 b62), H61, rfl⟩ (by omega)
          exact (same_upd rfl (same_upd rfl (same_upd rfl (same_upd rfl (same_upd rfl (same_upd rfl (same_upd rfl (same_upd rfl (same_upd rfl (same_upd rfl (same_upd rfl (same_upd rfl (same_upd rfl (same_upd rfl (same_upd rfl (same_upd rfl (same_upd rfl (same_upd rfl (same_upd rfl (same_upd rfl (same_ovr)))))))))))))))))))))
        · refine wp_know 59 (.bool false) (congrArg Value.bool b62) ?_
          refine wp_iff rfl ?_
          refine w_exit ?_
          refine then_exit ?_
          refine back_exit ?_
          refine blk_hit ?_
          refine meetR_at ?_ ⟨j1, rfl, (by omega), hP, (fun _ => ⟨x58, h59, (by show (!_) = true; rw [b62]; rfl)⟩), H61⟩
          exact (same_upd rfl (same_upd rfl (same_upd rfl (same_upd rfl (same_upd rfl (same_upd rfl (same_upd rfl (same_upd rfl (same_upd rfl (same_upd rfl (same_upd rfl (same_upd rfl (same_upd rfl (same_upd rfl (same_upd rfl (same_upd rfl (same_upd rfl (same_ovr2 rfl (same_refl)))))))))))))))))))
      · have g63 := of_decide_eq_false b55
        refine q_know 49 (.bool false) (congrArg Value.bool b55) ?_
        have g64 := of_decide_eq_false b55
        refine q_pass (wantsN 3 49 true rfl (by kernel_rfl) rfl (by kernel_rfl)) rfl ?_
        refine q_pass (wantsN 3 49 true rfl (by kernel_rfl) rfl (by kernel_rfl)) rfl ?_
        refine q_pass (wantsN 3 49 true rfl (by kernel_rfl) rfl (by kernel_rfl)) rfl ?_
        refine q_pass (wantsN 3 49 true rfl (by kernel_rfl) rfl (by kernel_rfl)) rfl ?_
        refine q_pass (wantsN 3 49 true rfl (by kernel_rfl) rfl (by kernel_rfl)) rfl ?_
        refine q_pass (wantsN 3 49 true rfl (by kernel_rfl) rfl (by kernel_rfl)) rfl ?_
        refine q_pass (wantsN 3 49 true rfl (by kernel_rfl) rfl (by kernel_rfl)) rfl ?_
        refine q_pass (wantsN 3 49 true rfl (by kernel_rfl) rfl (by kernel_rfl)) rfl ?_
        refine q_pass (wantsN 3 49 true rfl (by kernel_rfl) rfl (by kernel_rfl)) rfl ?_
        refine q_val (wants0 rfl) (d := 59) (v := (.bool false)) rfl (fun _ H' => (by kernel_rfl)) ?_
        refine q_end ?_
        intro w65 H66
        refine then_normal ?_
        refine wp_iff rfl ?_
        refine w_exit ?_
        refine then_exit ?_
        refine back_exit ?_
        refine blk_hit ?_
        refine meetR_at ?_ ⟨j1, rfl, (by omega), hP, (fun q => absurd q (by omega)), H66⟩
        exact (same_upd rfl (same_upd rfl (same_upd rfl (same_upd rfl (same_upd rfl (same_upd rfl (same_upd rfl (same_upd rfl (same_upd rfl (same_upd rfl (same_upd rfl (same_upd rfl (same_upd rfl (same_upd rfl (same_upd rfl (same_upd rfl (same_ovr2 rfl (same_refl))))))))))))))))))
    · rintro f67 w68 ⟨j1, v70, hj, hP, hSj, H69⟩
      refine wp_know 10 _ v70 ?_
      refine w_seq ?_
      refine w_seq ?_
      refine w_lit ?_
      refine wl_pure (wants0 rfl) (d := 62) (v := (.int .i64 ((i1 : Int)))) rfl (by kernel_rfl) ?_
      refine wl_pure (wants0 rfl) (d := 63) (v := (.int .i64 ((j1 : Int)))) rfl (by kernel_rfl) ?_
      refine wl_pure (wants0 rfl) (d := 64) (v := (.bool (decide ((i1 : Int) > (j1 : Int))))) rfl (by kernel_rfl) ?_
      refine w_nil ?_
      refine then_normal ?_
      refine (bsplit (decide ((i1 : Int) > (j1 : Int)))).elim (fun b71 => ?_) (fun b71 => ?_)
      · have g72 := of_decide_eq_true b71
        refine wp_know 64 (.bool true) (congrArg Value.bool b71) ?_
        have g73 := of_decide_eq_true b71
        refine wp_ift rfl ?_
        refine w_exit ?_
        refine then_exit ?_
        refine blk_miss rfl ?_
        refine back_exit ?_
        refine blk_hit ?_
        refine then_normal ?_
        refine w_seq ?_
        refine w_lit ?_
        refine wl_pure (wants0 rfl) (d := 83) (v := (.int .i64 ((i1 : Int)))) rfl (by kernel_rfl) ?_
        refine wl_pure (wants0 rfl) (d := 8) (v := (.int .i64 ((i1 : Int)))) rfl (by kernel_rfl) ?_
        refine w_nil ?_
        refine then_normal ?_
        refine w_ret ?_
        refine end1 rfl (res_tmp (v := (.int .i64 ((i1 : Int)))) rfl) ?_
        obtain rfl : i1 = j1 + 1 := by omega
        exact ⟨B, _, pv, rfl, hlB, hS, (by omega), hP.lo, hP.hi, hpA, H69⟩
      · have g74 := of_decide_eq_false b71
        refine wp_know 64 (.bool false) (congrArg Value.bool b71) ?_
        have g75 := of_decide_eq_false b71
        refine wp_iff rfl ?_
        refine w_skip ?_
        refine then_normal ?_
        refine w_seq ?_
        obtain ⟨xi, hxi, hci⟩ := hSi (by omega)
        obtain ⟨xj, hxj, hcj⟩ := hSj (by omega)
        have hij := lt_of_unlike (p := (fun x => !ltU pv x)) (by omega) hxi hxj hci hcj
        refine k_start H69 [rowU g n c B, restC w (rowU g n c A).fp] [13, 15] 16 rfl (by kernel_rfl) (fun Hx => (Hx.pick [0, 1] (by decide))) ?_
        intro w76 H77 S78
        refine k_pure 0 rfl (by kernel_rfl) (by kernel_rfl) (by kernel_rfl) (fun _ _ _ h => h) S78 (wants0 rfl) rfl (d := 65) (v := (.slice (some ⟨g, 0, none⟩) n c)) rfl (fun _ => (by kernel_rfl)) ?_
        refine k_pure 1 rfl (by kernel_rfl) (by kernel_rfl) (by kernel_rfl) (fun _ _ _ h => h) S78 (wants0 rfl) rfl (d := 66) (v := (.int .i64 ((i1 : Int)))) rfl (fun _ => (by kernel_rfl)) ?_
        refine k_pure 2 rfl (by kernel_rfl) (by kernel_rfl) (by kernel_rfl) (fun _ _ _ h => h) S78 (wants0 rfl) rfl (d := 67) (v := (.slice (some ⟨g, 0, none⟩) n c)) rfl (fun _ => (by kernel_rfl)) ?_
        refine k_pure 3 rfl (by kernel_rfl) (by kernel_rfl) (by kernel_rfl) (fun _ _ _ h => h) S78 (wants0 rfl) rfl (d := 68) (v := (.int .i64 ((j1 : Int)))) rfl (fun _ => (by kernel_rfl)) ?_
        refine k_pure 4 rfl (by kernel_rfl) (by kernel_rfl) (by kernel_rfl) (fun _ _ _ h => h) S78 (wants0 rfl) rfl (d := 69) (v := (.slice (some ⟨g, 0, none⟩) n c)) rfl (fun _ => (by kernel_rfl)) ?_
        refine k_pure 5 rfl (by kernel_rfl) (by kernel_rfl) (by kernel_rfl) (fun _ _ _ h => h) S78 (wants0 rfl) rfl (d := 70) (v := (.int .i64 ((j1 : Int)))) rfl (fun _ => (by kernel_rfl)) ?_
        refine k_pure 6 rfl (by kernel_rfl) (by kernel_rfl) (by kernel_rfl) (fun _ _ _ h => h) S78 (wants0 rfl) rfl (d := 71) (v := (.pointer (some ⟨g, 0 + ((j1 : Int)).toNat * 1, none⟩))) rfl (fun _ => (e_indexAddr (E := 23) (by kernel_rfl) (by kernel_rfl) (Nat.le_of_ble_eq_true rfl) rfl rfl (by omega) (by omega))) ?_
        refine k_val 7 rfl (by kernel_rfl) (by kernel_rfl) (by kernel_rfl) (fun _ _ _ h => h) S78 (wants0 rfl) rfl (by kernel_rfl) (d := 72) (v := (.int .u64 (xj))) rfl (fun _ H' => (e_load1 rfl (by kernel_rfl) (rowU_cell (H'.at 0 rfl) hxj (show 0 + ((j1 : Int)).toNat * 1 = j1 by omega)))) ?_
        refine k_pure 8 rfl (by kernel_rfl) (by kernel_rfl) (by kernel_rfl) (fun _ _ _ h => h) S78 (wants0 rfl) rfl (d := 73) (v := (.slice (some ⟨g, 0, none⟩) n c)) rfl (fun _ => (by kernel_rfl)) ?_
        refine k_pure 9 rfl (by kernel_rfl) (by kernel_rfl) (by kernel_rfl) (fun _ _ _ h => h) S78 (wants0 rfl) rfl (d := 74) (v := (.int .i64 ((i1 : Int)))) rfl (fun _ => (by kernel_rfl)) ?_
        refine k_pure 10 rfl (by kernel_rfl) (by kernel_rfl) (by kernel_rfl) (fun _ _ _ h => h) S78 (wants0 rfl) rfl (d := 75) (v := (.pointer (some ⟨g, 0 + ((i1 : Int)).toNat * 1, none⟩))) rfl (fun _ => (e_indexAddr (E := 23) (by kernel_rfl) (by kernel_rfl) (Nat.le_of_ble_eq_true rfl) rfl rfl (by omega) (by omega))) ?_
        refine k_val 11 rfl (by kernel_rfl) (by kernel_rfl) (by kernel_rfl) (fun _ _ _ h => h) S78 (wants0 rfl) rfl (by kernel_rfl) (d := 76) (v := (.int .u64 (xi))) rfl (fun _ H' => (e_load1 rfl (by kernel_rfl) (rowU_cell (H'.at 0 rfl) hxi (show 0 + ((i1 : Int)).toNat * 1 = i1 by omega)))) ?_
        refine k_pure 12 rfl (by kernel_rfl) (by kernel_rfl) (by kernel_rfl) (fun _ _ _ h => h) S78 (wants0 rfl) rfl (d := 77) (v := (.pointer (some ⟨g, 0 + ((i1 : Int)).toNat * 1, none⟩))) rfl (fun _ => (e_indexAddr (E := 23) (by kernel_rfl) (by kernel_rfl) (Nat.le_of_ble_eq_true rfl) rfl rfl (by omega) (by omega))) ?_
        refine k_brk 13 (Sat w [restC w (rowU g n c A).fp]) rfl (by kernel_rfl) (wants0 rfl) rfl (fun K79 hK79 => ?_)
        refine d_storeU rfl H77 0 rfl rfl rfl (by kernel_rfl) (show 0 + ((i1 : Int)).toNat * 1 = i1 by omega) (by omega) ?_
        intro w80 (H81 : Sat w [rowU g n c (B.set i1 xj), restC w (rowU g n c A).fp] w80)
        have hlH81 : (B.set i1 xj).length = B.length := List.length_set
        have S82 := H81.pick [1] (by decide)
        refine hK79 _ _ S82 ?_
        clear hK79 K79
        refine h_val 14 rfl (by kernel_rfl) (by kernel_rfl) (by kernel_rfl) (fun _ _ _ h => h) S82 (wants0 rfl) (d := 78) (v := (.pointer (some ⟨g, 0 + ((j1 : Int)).toNat * 1, none⟩))) rfl (fun _ H' => (e_indexAddr (E := 23) (by kernel_rfl) (by kernel_rfl) (Nat.le_of_ble_eq_true rfl) rfl rfl (by omega) (by omega))) ?_
        refine h_do 15 rfl (by kernel_rfl) (wants0 rfl) (fun K83 hK83 => ?_)
        refine d_storeU rfl H81 0 rfl rfl rfl (by kernel_rfl) (show 0 + ((j1 : Int)).toNat * 1 = j1 by omega) (by omega) ?_
        intro w84 (H85 : Sat w [rowU g n c ((B.set i1 xj).set j1 xi), restC w (rowU g n c A).fp] w84)
        have hlH85 : ((B.set i1 xj).set j1 xi).length = (B.set i1 xj).length := List.length_set
        have S86 := H85.pick [1] (by decide)
        refine hK83 _ _ S86 ?_
        clear hK83 K83
        refine h_fin (by kernel_rfl) ?_
        refine then_normal ?_
        refine w_seq ?_
        refine w_lit ?_
        refine wl_pure (wants0 rfl) (d := 79) (v := (.int .i64 ((i1 : Int)))) rfl (by kernel_rfl) ?_
        refine wl_pure (wants0 rfl) (d := 80) (v := (.int .i64 ((i1 : Int) + 1))) rfl (e_int (z := (i1 : Int) + 1) (by kernel_rfl) (IntWalk.i64_in _ (by omega))) ?_
        refine wl_pure (wants0 rfl) (d := 9) (v := (.int .i64 ((i1 : Int) + 1))) rfl (by kernel_rfl) ?_
        refine w_nil ?_
        refine then_normal ?_
        refine w_lit ?_
        refine wl_pure (wants0 rfl) (d := 81) (v := (.int .i64 ((j1 : Int)))) rfl (by kernel_rfl) ?_
        refine wl_pure (wants0 rfl) (d := 82) (v := (.int .i64 ((j1 : Int) - 1))) rfl (e_int (z := (j1 : Int) - 1) (by kernel_rfl) (IntWalk.i64_in _ (by omega))) ?_
        refine wl_pure (wants0 rfl) (d := 10) (v := (.int .i64 ((j1 : Int) - 1))) rfl (by kernel_rfl) ?_
        refine w_nil ?_
        refine blk_normal ?_
        refine round_back ?_ _ ⟨(i1 + 1), (j1 - 1), ((B.set i1 xj).set j1 xi), (show ((.int .i64 ((i1 : Int) + 1)) : Value) = _ by first | rfl | go_num), (show ((.int .i64 ((j1 : Int) - 1)) : Value) = _ by first | rfl | go_num), (by omega), (by omega), (hS.swap (by omega) (by omega) (by omega) (by omega) hxi hxj), (hP.swap (by omega) hij hxi hxj (bnot_false hci) (bnot_true hcj)), H85, rfl⟩ (by omega)
        exact (same_upd rfl (same_upd rfl (same_upd rfl (same_upd rfl (same_upd rfl (same_upd rfl (same_upd rfl (same_upd rfl (same_upd rfl (same_upd rfl (same_upd rfl (same_upd rfl (same_upd rfl (same_upd rfl (same_upd rfl (same_upd rfl (same_upd rfl (same_upd rfl (same_upd rfl (same_upd rfl (same_upd rfl (same_upd rfl (same_upd rfl (same_upd rfl (same_upd rfl (same_ovr2 rfl (same_upd rfl (same_ovr2 rfl (same_upd rfl (same_upd rfl (same_ovr)))))))))))))))))))))))))))))))

set_option maxRecDepth 100000 in
set_option maxHeartbeats 1000000 in
theorem partialU_any (w : World) (g n c a b : Nat) (A : List Int) (hT : (rowU g n c A).ok w) (hn : n ≤ 1000000000000) (hab : a ≤ b ∧ b ≤ n) (hab2 : a < b) (hLow : Low ltU a b A) :
    Calls Try.prog 101 #[(.slice (some ⟨g, 0, none⟩) n c), (.int .i64 ((a : Int))), (.int .i64 ((b : Int)))] w fun e w' => ∃ (B : List Int) (q : Bool), e = .returned (.bool q) ∧ B.length = n ∧ SegP a b A B ∧ (q = true → Srt ltU a b B) ∧ Sat w [rowU g n c B, restC w (rowU g n c A).fp] w' := by
  have H : Sat w [rowU g n c A, restC w (rowU g n c A).fp] w := Sat.start1 hT
  have hl := rowU_len hT
  have hw := swU
  refine calls_fr Try.func101 rfl 133 rfl (Nat.le_of_ble_eq_true rfl) ?_
  refine w_seq ?_
  refine w_lit ?_
  refine wl_pure (wants0 rfl) (d := 6) (v := (.bool false)) rfl (by kernel_rfl) ?_
  refine w_nil ?_
  refine then_normal ?_
  refine w_seq ?_
  refine w_lit ?_
  refine wl_pure (wants0 rfl) (d := 11) (v := (.int .i64 ((a : Int)))) rfl (by kernel_rfl) ?_
  refine wl_pure (wants0 rfl) (d := 12) (v := (.int .i64 ((a : Int) + 1))) rfl (e_int (z := (a : Int) + 1) (by kernel_rfl) (IntWalk.i64_in _ (by omega))) ?_
  refine wl_pure (wants0 rfl) (d := 7) (v := (.int .i64 ((a : Int) + 1))) rfl (by kernel_rfl) ?_
  refine w_nil ?_
  refine then_normal ?_
  refine w_seq ?_
  refine w_seq ?_
  refine w_lit ?_
  refine wl_pure (wants0 rfl) (d := 8) (v := (.int .i64 (0))) rfl (by kernel_rfl) ?_
  refine w_nil ?_
  refine then_normal ?_
  refine w_block ?_
  refine wp_round [6, 7, 8, 9, 10, 13, 14, 15, 16, 17, 18, 19, 20, 21, 22, 23, 24, 25, 26, 27, 28, 29, 30, 31, 32, 33, 34, 35, 36, 37, 38, 39, 40, 41, 42, 43, 44, 45, 46, 47, 48, 49, 50, 51, 52, 53, 54, 55, 56, 57, 58, 59, 60, 61, 62, 63, 64, 65, 66, 67, 68, 69, 70, 71, 72, 73, 74, 75, 76, 77, 78, 79, 80, 81, 82, 83, 84, 85, 86, 87, 88, 89, 90, 91, 92, 93, 94, 95, 96, 97, 98, 99, 100, 101, 102, 103, 104, 105, 106, 107, 108, 109, 110, 111, 112, 113, 114, 115, 116, 117, 118, 119, 120, 121, 122, 123, 124, 125, 126, 127, 128, 129, 130, 131, 132] (fun F_ W_ m_ => ∃ (q i : Nat) (B : List Int), F_ 8 = (.int .i64 ((q : Int))) ∧ F_ 7 = (.int .i64 ((i : Int))) ∧ (q ≤ 5 ∧ a + 1 ≤ i ∧ i ≤ b) ∧ (B.length = n) ∧ (SegP a b A B) ∧ (Srt ltU a i B) ∧ Sat w [rowU g n c B, restC w (rowU g n c A).fp] W_ ∧ m_ = 5 - q) _ ⟨0, (a + 1), A, (show ((.int .i64 (0)) : Value) = _ by first | rfl | go_num), (show ((.int .i64 ((a : Int) + 1)) : Value) = _ by first | rfl | go_num), (by omega), hl, .refl, (Srt.short (by omega)), H, rfl⟩ ?_
  rintro g1 w2 _ ⟨q, i, B, v4, v5, hq, hlB, hS, hs, H3, rfl⟩
  refine wp_know 8 _ v4 ?_
  refine wp_know 7 _ v5 ?_
  refine w_seq ?_
  refine w_seq ?_
  refine w_lit ?_
  refine wl_pure (wants0 rfl) (d := 13) (v := (.int .i64 ((q : Int)))) rfl (by kernel_rfl) ?_
  refine wl_pure (wants0 rfl) (d := 14) (v := (.bool (decide ((q : Int) < 5)))) rfl (by kernel_rfl) ?_
  refine w_nil ?_
  refine then_normal ?_
  refine (bsplit (decide ((q : Int) < 5))).elim (fun b7 => ?_) (fun b7 => ?_)
  · have g8 := of_decide_eq_true b7
    refine wp_know 14 (.bool true) (congrArg Value.bool b7) ?_
    have g9 := of_decide_eq_true b7
    refine wp_ift rfl ?_
    refine w_skip ?_
    refine then_normal ?_
    refine w_seq ?_
    refine w_block ?_
    refine w_seq ?_
    refine w_block ?_
    refine wp_round [7, 17, 18, 19, 20, 21, 22, 23, 24, 25, 26, 27, 28, 29, 30, 31, 32, 33, 34] (fun F_ W_ m_ => ∃ (i1 : Nat), F_ 7 = (.int .i64 ((i1 : Int))) ∧ (a + 1 ≤ i1 ∧ i1 ≤ b) ∧ (Srt ltU a i1 B) ∧ Sat w [rowU g n c B, restC w (rowU g n c A).fp] W_ ∧ m_ = b - i1) _ ⟨i, (show ((.int .i64 ((i : Int))) : Value) = _ by first | rfl | go_num), (by omega), hs, H3, rfl⟩ ?_
    rintro g10 w11 _ ⟨i1, v13, hi1, hs1, H12, rfl⟩
    refine wp_know 7 _ v13 ?_
    refine w_seq ?_
    refine w_seq ?_
    refine q_start H12 (by kernel_rfl) (by kernel_rfl) ?_
    refine q_val (wants0 rfl) (d := 17) (v := (.int .i64 ((i1 : Int)))) rfl (fun _ H' => (by kernel_rfl)) ?_
    refine q_val (wants0 rfl) (d := 18) (v := (.int .i64 ((b : Int)))) rfl (fun _ H' => (by kernel_rfl)) ?_
    refine q_val (wants0 rfl) (d := 19) (v := (.bool (decide ((i1 : Int) < (b : Int))))) rfl (fun _ H' => (by kernel_rfl)) ?_
    refine q_val (wants0 rfl) (d := 20) (v := (.bool (decide ((i1 : Int) < (b : Int))))) rfl (fun _ H' => (by kernel_rfl)) ?_
    refine (bsplit (decide ((i1 : Int) < (b : Int)))).elim (fun b15 => ?_) (fun b15 => ?_)
    · have g16 := of_decide_eq_true b15
      refine q_know 20 (.bool true) (congrArg Value.bool b15) ?_
      have g17 := of_decide_eq_true b15
      refine q_val (wantsY 3 20 true rfl (by kernel_rfl) rfl (by kernel_rfl)) (d := 21) (v := (.slice (some ⟨g, 0, none⟩) n c)) rfl (fun _ H' => (by kernel_rfl)) ?_
      refine q_val (wantsY 3 20 true rfl (by kernel_rfl) rfl (by kernel_rfl)) (d := 22) (v := (.int .i64 ((i1 : Int)))) rfl (fun _ H' => (by kernel_rfl)) ?_
      refine q_val (wantsY 3 20 true rfl (by kernel_rfl) rfl (by kernel_rfl)) (d := 23) (v := (.pointer (some ⟨g, 0 + ((i1 : Int)).toNat * 1, none⟩))) rfl (fun _ H' => (e_indexAddr (E := 23) (by kernel_rfl) (by kernel_rfl) (Nat.le_of_ble_eq_true rfl) rfl rfl (by omega) (by omega))) ?_
      obtain ⟨x18, h19⟩ := get_at (show i1 < B.length by omega)
      refine q_val (wantsY 3 20 true rfl (by kernel_rfl) rfl (by kernel_rfl)) (d := 24) (v := (.int .u64 (x18))) rfl (fun _ H' => (e_load1 rfl (by kernel_rfl) (rowU_cell (H'.at 0 rfl) h19 (show 0 + ((i1 : Int)).toNat * 1 = i1 by omega)))) ?_
      refine q_val (wantsY 3 20 true rfl (by kernel_rfl) rfl (by kernel_rfl)) (d := 25) (v := (.slice (some ⟨g, 0, none⟩) n c)) rfl (fun _ H' => (by kernel_rfl)) ?_
      refine q_val (wantsY 3 20 true rfl (by kernel_rfl) rfl (by kernel_rfl)) (d := 26) (v := (.int .i64 ((i1 : Int)))) rfl (fun _ H' => (by kernel_rfl)) ?_
      refine q_val (wantsY 3 20 true rfl (by kernel_rfl) rfl (by kernel_rfl)) (d := 27) (v := (.int .i64 ((i1 : Int) - 1))) rfl (fun _ H' => (e_int (z := (i1 : Int) - 1) (by kernel_rfl) (IntWalk.i64_in _ (by omega)))) ?_
      refine q_val (wantsY 3 20 true rfl (by kernel_rfl) rfl (by kernel_rfl)) (d := 28) (v := (.pointer (some ⟨g, 0 + ((i1 : Int) - 1).toNat * 1, none⟩))) rfl (fun _ H' => (e_indexAddr (E := 23) (by kernel_rfl) (by kernel_rfl) (Nat.le_of_ble_eq_true rfl) rfl rfl (by omega) (by omega))) ?_
      obtain ⟨x20, h21⟩ := get_at (show (i1 - 1) < B.length by omega)
      refine q_val (wantsY 3 20 true rfl (by kernel_rfl) rfl (by kernel_rfl)) (d := 29) (v := (.int .u64 (x20))) rfl (fun _ H' => (e_load1 rfl (by kernel_rfl) (rowU_cell (H'.at 0 rfl) h21 (show 0 + ((i1 : Int) - 1).toNat * 1 = (i1 - 1) by omega)))) ?_
      refine q_call (wantsY 3 20 true rfl (by kernel_rfl) rfl (by kernel_rfl)) (d := 30) (v := (.bool (ltU x18 x20))) rfl (fun _ _ => by kernel_rfl) (fun w' H' => (lessU_any w' x18 x20).mono fun _ _ h => ⟨h.1, H'.keepU h.2⟩) ?_
      refine q_val (wantsY 3 20 true rfl (by kernel_rfl) rfl (by kernel_rfl)) (d := 31) (v := (.bool (!(ltU x18 x20)))) rfl (fun _ H' => (by kernel_rfl)) ?_
      refine q_val (wants0 rfl) (d := 32) (v := (.bool (!(ltU x18 x20)))) rfl (fun _ H' => (by kernel_rfl)) ?_
      refine q_end ?_
      intro w22 H23
      refine then_normal ?_
      refine (bsplit (!(ltU x18 x20))).elim (fun b24 => ?_) (fun b24 => ?_)
      · have g25 := bnot_true b24
        refine wp_know 32 (.bool true) (congrArg Value.bool b24) ?_
        have g26 := bnot_true b24
        refine wp_ift rfl ?_
        refine w_skip ?_
        refine then_normal ?_
        refine w_block ?_
        refine w_lit ?_
        refine wl_pure (wants0 rfl) (d := 33) (v := (.int .i64 ((i1 : Int)))) rfl (by kernel_rfl) ?_
        refine wl_pure (wants0 rfl) (d := 34) (v := (.int .i64 ((i1 : Int) + 1))) rfl (e_int (z := (i1 : Int) + 1) (by kernel_rfl) (IntWalk.i64_in _ (by omega))) ?_
        refine wl_pure (wants0 rfl) (d := 7) (v := (.int .i64 ((i1 : Int) + 1))) rfl (by kernel_rfl) ?_
        refine w_nil ?_
        refine blk_normal ?_
        refine round_back ?_ _ ⟨(i1 + 1), (show ((.int .i64 ((i1 : Int) + 1)) : Value) = _ by first | rfl | go_num), (by omega), (hs1.snoc hw h19 h21 (bnot_true b24) (by omega)), H23, rfl⟩ (by omega)
        exact (same_upd rfl (same_upd rfl (same_upd rfl (same_upd rfl (same_upd rfl (same_upd rfl (same_upd rfl (same_upd rfl (same_upd rfl (same_upd rfl (same_upd rfl (same_upd rfl (same_upd rfl (same_upd rfl (same_upd rfl (same_upd rfl (same_upd rfl (same_upd rfl (same_upd rfl (same_upd rfl (same_upd rfl (same_upd rfl (same_ovr)))))))))))))))))))))))
      · have g27 := bnot_false b24
        refine wp_know 32 (.bool false) (congrArg Value.bool b24) ?_
        have g28 := bnot_false b24
        refine wp_iff rfl ?_
        refine w_exit ?_
        refine then_exit ?_
        refine back_exit ?_
        refine blk_hit ?_
        refine then_normal ?_
        refine w_seq ?_
        refine w_seq ?_
        refine w_lit ?_
        refine wl_pure (wants0 rfl) (d := 35) (v := (.int .i64 ((i1 : Int)))) rfl (by kernel_rfl) ?_
        refine wl_pure (wants0 rfl) (d := 36) (v := (.int .i64 ((b : Int)))) rfl (by kernel_rfl) ?_
        refine wl_pure (wants0 rfl) (d := 37) (v := (.bool (decide ((i1 : Int) = (b : Int))))) rfl (by kernel_rfl) ?_
        refine w_nil ?_
        refine then_normal ?_
        have b29 : (decide ((i1 : Int) = (b : Int))) = false := by exact decide_eq_false (by omega)
        refine wp_know 37 (.bool false) (congrArg Value.bool b29) ?_
        have g30 := of_decide_eq_false b29
        refine wp_iff rfl ?_
        refine w_skip ?_
        refine then_normal ?_
        refine w_seq ?_
        refine w_seq ?_
        refine w_lit ?_
        refine wl_pure (wants0 rfl) (d := 38) (v := (.int .i64 ((b : Int)))) rfl (by kernel_rfl) ?_
        refine wl_pure (wants0 rfl) (d := 39) (v := (.int .i64 ((a : Int)))) rfl (by kernel_rfl) ?_
        refine wl_pure (wants0 rfl) (d := 40) (v := (.int .i64 ((b : Int) - (a : Int)))) rfl (e_int (z := (b : Int) - (a : Int)) (by kernel_rfl) (IntWalk.i64_in _ (by omega))) ?_
        refine wl_pure (wants0 rfl) (d := 41) (v := (.bool (decide (((b : Int) - (a : Int)) < 50)))) rfl (by kernel_rfl) ?_
        refine w_nil ?_
        refine then_normal ?_
        refine (bsplit (decide (((b : Int) - (a : Int)) < 50))).elim (fun b31 => ?_) (fun b31 => ?_)
        · have g32 := of_decide_eq_true b31
          refine wp_know 41 (.bool true) (congrArg Value.bool b31) ?_
          have g33 := of_decide_eq_true b31
          refine wp_ift rfl ?_
          refine w_seq ?_
          refine w_lit ?_
          refine wl_pure (wants0 rfl) (d := 6) (v := (.bool false)) rfl (by kernel_rfl) ?_
          refine w_nil ?_
          refine then_normal ?_
          refine w_ret ?_
          refine then_ret ?_
          refine blk_ret ?_
          refine then_ret ?_
          refine back_ret ?_
          refine blk_ret ?_
          refine then_ret ?_
          refine end1 rfl (res_tmp (v := (.bool false)) rfl) ?_
          exact ⟨B, false, rfl, hlB, hS, (fun q => by cases q), H23⟩
        · have g34 := of_decide_eq_false b31
          refine wp_know 41 (.bool false) (congrArg Value.bool b31) ?_
          have g35 := of_decide_eq_false b31
          refine wp_iff rfl ?_
          refine w_skip ?_
          refine then_normal ?_
          refine w_seq ?_
          refine k_start H23 [rowU g n c B, restC w (rowU g n c A).fp] [15, 17] 18 rfl (by kernel_rfl) (fun Hx => (Hx.pick [0, 1] (by decide))) ?_
          intro w36 H37 S38
          refine k_pure 0 rfl (by kernel_rfl) (by kernel_rfl) (by kernel_rfl) (fun _ _ _ h => h) S38 (wants0 rfl) rfl (d := 42) (v := (.slice (some ⟨g, 0, none⟩) n c)) rfl (fun _ => (by kernel_rfl)) ?_
          refine k_pure 1 rfl (by kernel_rfl) (by kernel_rfl) (by kernel_rfl) (fun _ _ _ h => h) S38 (wants0 rfl) rfl (d := 43) (v := (.int .i64 ((i1 : Int)))) rfl (fun _ => (by kernel_rfl)) ?_
          refine k_pure 2 rfl (by kernel_rfl) (by kernel_rfl) (by kernel_rfl) (fun _ _ _ h => h) S38 (wants0 rfl) rfl (d := 44) (v := (.slice (some ⟨g, 0, none⟩) n c)) rfl (fun _ => (by kernel_rfl)) ?_
          refine k_pure 3 rfl (by kernel_rfl) (by kernel_rfl) (by kernel_rfl) (fun _ _ _ h => h) S38 (wants0 rfl) rfl (d := 45) (v := (.int .i64 ((i1 : Int)))) rfl (fun _ => (by kernel_rfl)) ?_
          refine k_pure 4 rfl (by kernel_rfl) (by kernel_rfl) (by kernel_rfl) (fun _ _ _ h => h) S38 (wants0 rfl) rfl (d := 46) (v := (.int .i64 ((i1 : Int) - 1))) rfl (fun _ => (e_int (z := (i1 : Int) - 1) (by kernel_rfl) (IntWalk.i64_in _ (by omega)))) ?_
          refine k_pure 5 rfl (by kernel_rfl) (by kernel_rfl) (by kernel_rfl) (fun _ _ _ h => h) S38 (wants0 rfl) rfl (d := 47) (v := (.slice (some ⟨g, 0, none⟩) n c)) rfl (fun _ => (by kernel_rfl)) ?_
          refine k_pure 6 rfl (by kernel_rfl) (by kernel_rfl) (by kernel_rfl) (fun _ _ _ h => h) S38 (wants0 rfl) rfl (d := 48) (v := (.int .i64 ((i1 : Int)))) rfl (fun _ => (by kernel_rfl)) ?_
          refine k_pure 7 rfl (by kernel_rfl) (by kernel_rfl) (by kernel_rfl) (fun _ _ _ h => h) S38 (wants0 rfl) rfl (d := 49) (v := (.int .i64 ((i1 : Int) - 1))) rfl (fun _ => (e_int (z := (i1 : Int) - 1) (by kernel_rfl) (IntWalk.i64_in _ (by omega)))) ?_
          refine k_pure 8 rfl (by kernel_rfl) (by kernel_rfl) (by kernel_rfl) (fun _ _ _ h => h) S38 (wants0 rfl) rfl (d := 50) (v := (.pointer (some ⟨g, 0 + ((i1 : Int) - 1).toNat * 1, none⟩))) rfl (fun _ => (e_indexAddr (E := 23) (by kernel_rfl) (by kernel_rfl) (Nat.le_of_ble_eq_true rfl) rfl rfl (by omega) (by omega))) ?_
          refine k_val 9 rfl (by kernel_rfl) (by kernel_rfl) (by kernel_rfl) (fun _ _ _ h => h) S38 (wants0 rfl) rfl (by kernel_rfl) (d := 51) (v := (.int .u64 (x20))) rfl (fun _ H' => (e_load1 rfl (by kernel_rfl) (rowU_cell (H'.at 0 rfl) h21 (show 0 + ((i1 : Int) - 1).toNat * 1 = (i1 - 1) by omega)))) ?_
          refine k_pure 10 rfl (by kernel_rfl) (by kernel_rfl) (by kernel_rfl) (fun _ _ _ h => h) S38 (wants0 rfl) rfl (d := 52) (v := (.slice (some ⟨g, 0, none⟩) n c)) rfl (fun _ => (by kernel_rfl)) ?_
          refine k_pure 11 rfl (by kernel_rfl) (by kernel_rfl) (by kernel_rfl) (fun _ _ _ h => h) S38 (wants0 rfl) rfl (d := 53) (v := (.int .i64 ((i1 : Int)))) rfl (fun _ => (by kernel_rfl)) ?_
          refine k_pure 12 rfl (by kernel_rfl) (by kernel_rfl) (by kernel_rfl) (fun _ _ _ h => h) S38 (wants0 rfl) rfl (d := 54) (v := (.pointer (some ⟨g, 0 + ((i1 : Int)).toNat * 1, none⟩))) rfl (fun _ => (e_indexAddr (E := 23) (by kernel_rfl) (by kernel_rfl) (Nat.le_of_ble_eq_true rfl) rfl rfl (by omega) (by omega))) ?_
          refine k_val 13 rfl (by kernel_rfl) (by kernel_rfl) (by kernel_rfl) (fun _ _ _ h => h) S38 (wants0 rfl) rfl (by kernel_rfl) (d := 55) (v := (.int .u64 (x18))) rfl (fun _ H' => (e_load1 rfl (by kernel_rfl) (rowU_cell (H'.at 0 rfl) h19 (show 0 + ((i1 : Int)).toNat * 1 = i1 by omega)))) ?_
          refine k_pure 14 rfl (by kernel_rfl) (by kernel_rfl) (by kernel_rfl) (fun _ _ _ h => h) S38 (wants0 rfl) rfl (d := 56) (v := (.pointer (some ⟨g, 0 + ((i1 : Int)).toNat * 1, none⟩))) rfl (fun _ => (e_indexAddr (E := 23) (by kernel_rfl) (by kernel_rfl) (Nat.le_of_ble_eq_true rfl) rfl rfl (by omega) (by omega))) ?_
          refine k_brk 15 (Sat w [restC w (rowU g n c A).fp]) rfl (by kernel_rfl) (wants0 rfl) rfl (fun K39 hK39 => ?_)
          refine d_storeU rfl H37 0 rfl rfl rfl (by kernel_rfl) (show 0 + ((i1 : Int)).toNat * 1 = i1 by omega) (by omega) ?_
          intro w40 (H41 : Sat w [rowU g n c (B.set i1 x20), restC w (rowU g n c A).fp] w40)
          have hlH41 : (B.set i1 x20).length = B.length := List.length_set
          have S42 := H41.pick [1] (by decide)
          refine hK39 _ _ S42 ?_
          clear hK39 K39
          refine h_val 16 rfl (by kernel_rfl) (by kernel_rfl) (by kernel_rfl) (fun _ _ _ h => h) S42 (wants0 rfl) (d := 57) (v := (.pointer (some ⟨g, 0 + ((i1 : Int) - 1).toNat * 1, none⟩))) rfl (fun _ H' => (e_indexAddr (E := 23) (by kernel_rfl) (by kernel_rfl) (Nat.le_of_ble_eq_true rfl) rfl rfl (by omega) (by omega))) ?_
          refine h_do 17 rfl (by kernel_rfl) (wants0 rfl) (fun K43 hK43 => ?_)
          refine d_storeU rfl H41 0 rfl rfl rfl (by kernel_rfl) (show 0 + ((i1 : Int) - 1).toNat * 1 = (i1 - 1) by omega) (by omega) ?_
          intro w44 (H45 : Sat w [rowU g n c ((B.set i1 x20).set (i1 - 1) x18), restC w (rowU g n c A).fp] w44)
          have hlH45 : ((B.set i1 x20).set (i1 - 1) x18).length = (B.set i1 x20).length := List.length_set
          have S46 := H45.pick [1] (by decide)
          refine hK43 _ _ S46 ?_
          clear hK43 K43
          refine h_fin (by kernel_rfl) ?_
          refine then_normal ?_
          obtain ⟨C0, hC0, hSC, hs0, hlC0⟩ : ∃ C0, ((B.set i1 x20).set (i1 - 1) x18) = C0 ∧ SegP a b A C0 ∧ Srt ltU a (i1 - 1) C0 ∧ C0.length = n := ⟨_, rfl, hS.swap (by omega) (by omega) (by omega) (by omega) h19 h21, (hs1.sub (Nat.le_refl _) (by omega)).out (SegP.of_swap (a := i1 - 1) (b := i1 + 1) (by omega) (by omega) (by omega) (by omega) h19 h21) (.inl (by omega)), by omega⟩
          have H47 : Sat w [rowU g n c C0, restC w (rowU g n c A).fp] w44 := H45.cast (by rw [hC0])
          refine wp_meetR [9, 58, 59, 60, 61, 62, 63, 64, 65, 66, 67, 68, 69, 70, 71, 72, 73, 74, 75, 76, 77, 78, 79, 80, 81, 82, 83, 84, 85, 86, 87, 88, 89, 90, 91, 92, 93, 94] (fun G_ W_ => ∃ (D : List Int), (D.length = n) ∧ (SegP a b A D) ∧ (Srt ltU a i1 D) ∧ Sat w [rowU g n c D, restC w (rowU g n c A).fp] W_) ?_ ?_
          · refine w_seq ?_
            refine w_lit ?_
            refine wl_pure (wants0 rfl) (d := 58) (v := (.int .i64 ((i1 : Int)))) rfl (by kernel_rfl) ?_
            refine wl_pure (wants0 rfl) (d := 59) (v := (.int .i64 ((a : Int)))) rfl (by kernel_rfl) ?_
            refine wl_pure (wants0 rfl) (d := 60) (v := (.int .i64 ((i1 : Int) - (a : Int)))) rfl (e_int (z := (i1 : Int) - (a : Int)) (by kernel_rfl) (IntWalk.i64_in _ (by omega))) ?_
            refine wl_pure (wants0 rfl) (d := 61) (v := (.bool (decide (((i1 : Int) - (a : Int)) ≥ 2)))) rfl (by kernel_rfl) ?_
            refine w_nil ?_
            refine then_normal ?_
            refine (bsplit (decide (((i1 : Int) - (a : Int)) ≥ 2))).elim (fun b49 => ?_) (fun b49 => ?_)
            · have g50 := of_decide_eq_true b49
              refine wp_know 61 (.bool true) (congrArg Value.bool b49) ?_
              have g51 := of_decide_eq_true b49
              refine wp_ift rfl ?_
              refine w_seq ?_
              refine w_lit ?_
              refine wl_pure (wants0 rfl) (d := 62) (v := (.int .i64 ((i1 : Int)))) rfl (by kernel_rfl) ?_
              refine wl_pure (wants0 rfl) (d := 63) (v := (.int .i64 ((i1 : Int) - 1))) rfl (e_int (z := (i1 : Int) - 1) (by kernel_rfl) (IntWalk.i64_in _ (by omega))) ?_
              refine wl_pure (wants0 rfl) (d := 9) (v := (.int .i64 ((i1 : Int) - 1))) rfl (by kernel_rfl) ?_
              refine w_nil ?_
              refine then_normal ?_
              refine w_block ?_
              refine wp_round [9, 64, 65, 66, 67, 68, 69, 70, 71, 72, 73, 74, 75, 76, 77, 78, 79, 80, 81, 82, 83, 84, 85, 86, 87, 88, 89, 90, 91, 92, 93, 94] (fun F_ W_ m_ => ∃ (j : Nat) (C : List Int), F_ 9 = (.int .i64 ((j : Int))) ∧ (a ≤ j ∧ j ≤ i1 - 1) ∧ (C.length = n) ∧ (SegP a b A C) ∧ (Ins ltU a (i1 - 1) j C) ∧ Sat w [rowU g n c C, restC w (rowU g n c A).fp] W_ ∧ m_ = j + 1) _ ⟨(i1 - 1), C0, (show ((.int .i64 ((i1 : Int) - 1)) : Value) = _ by first | rfl | go_num), (by omega), hlC0, hSC, (Ins.start hs0), H47, rfl⟩ ?_
              rintro g52 w53 _ ⟨j, C, v55, hj, hlC, hSC2, hI, H54, rfl⟩
              refine wp_know 9 _ v55 ?_
              refine w_seq ?_
              refine w_seq ?_
              refine w_lit ?_
              refine wl_pure (wants0 rfl) (d := 64) (v := (.int .i64 ((j : Int)))) rfl (by kernel_rfl) ?_
              refine wl_pure (wants0 rfl) (d := 65) (v := (.bool (decide ((j : Int) ≥ 1)))) rfl (by kernel_rfl) ?_
              refine w_nil ?_
              refine then_normal ?_
              refine (bsplit (decide ((j : Int) ≥ 1))).elim (fun b57 => ?_) (fun b57 => ?_)
              · have g58 := of_decide_eq_true b57
                refine wp_know 65 (.bool true) (congrArg Value.bool b57) ?_
                have g59 := of_decide_eq_true b57
                refine wp_ift rfl ?_
                refine w_skip ?_
                refine then_normal ?_
                refine w_seq ?_
                refine w_block ?_
                refine w_seq ?_
                refine w_seq ?_
                refine q_start H54 (by kernel_rfl) (by kernel_rfl) ?_
                refine q_val (wants0 rfl) (d := 68) (v := (.slice (some ⟨g, 0, none⟩) n c)) rfl (fun _ H' => (by kernel_rfl)) ?_
                refine q_val (wants0 rfl) (d := 69) (v := (.int .i64 ((j : Int)))) rfl (fun _ H' => (by kernel_rfl)) ?_
                refine q_val (wants0 rfl) (d := 70) (v := (.pointer (some ⟨g, 0 + ((j : Int)).toNat * 1, none⟩))) rfl (fun _ H' => (e_indexAddr (E := 23) (by kernel_rfl) (by kernel_rfl) (Nat.le_of_ble_eq_true rfl) rfl rfl (by omega) (by omega))) ?_
                obtain ⟨x60, h61⟩ := get_at (show j < C.length by omega)
                refine q_val (wants0 rfl) (d := 71) (v := (.int .u64 (x60))) rfl (fun _ H' => (e_load1 rfl (by kernel_rfl) (rowU_cell (H'.at 0 rfl) h61 (show 0 + ((j : Int)).toNat * 1 = j by omega)))) ?_
                refine q_val (wants0 rfl) (d := 72) (v := (.slice (some ⟨g, 0, none⟩) n c)) rfl (fun _ H' => (by kernel_rfl)) ?_
                refine q_val (wants0 rfl) (d := 73) (v := (.int .i64 ((j : Int)))) rfl (fun _ H' => (by kernel_rfl)) ?_
                refine q_val (wants0 rfl) (d := 74) (v := (.int .i64 ((j : Int) - 1))) rfl (fun _ H' => (e_int (z := (j : Int) - 1) (by kernel_rfl) (IntWalk.i64_in _ (by omega)))) ?_
                refine q_val (wants0 rfl) (d := 75) (v := (.pointer (some ⟨g, 0 + ((j : Int) - 1).toNat * 1, none⟩))) rfl (fun _ H' => (e_indexAddr (E := 23) (by kernel_rfl) (by kernel_rfl) (Nat.le_of_ble_eq_true rfl) rfl rfl (by omega) (by omega))) ?_
                obtain ⟨x62, h63⟩ := get_at (show (j - 1) < C.length by omega)
                refine q_val (wants0 rfl) (d := 76) (v := (.int .u64 (x62))) rfl (fun _ H' => (e_load1 rfl (by kernel_rfl) (rowU_cell (H'.at 0 rfl) h63 (show 0 + ((j : Int) - 1).toNat * 1 = (j - 1) by omega)))) ?_
                refine q_call (wants0 rfl) (d := 77) (v := (.bool (ltU x60 x62))) rfl (fun _ _ => by kernel_rfl) (fun w' H' => (lessU_any w' x60 x62).mono fun _ _ h => ⟨h.1, H'.keepU h.2⟩) ?_
                refine q_val (wants0 rfl) (d := 78) (v := (.bool (!(ltU x60 x62)))) rfl (fun _ H' => (by kernel_rfl)) ?_
                refine q_end ?_
                intro w64 H65
                refine then_normal ?_
                refine (bsplit (!(ltU x60 x62))).elim (fun b66 => ?_) (fun b66 => ?_)
                · have g67 := bnot_true b66
                  refine wp_know 78 (.bool true) (congrArg Value.bool b66) ?_
                  have g68 := bnot_true b66
                  refine wp_ift rfl ?_
                  refine w_exit ?_
                  refine then_exit ?_
                  refine blk_miss rfl ?_
                  refine then_exit ?_
                  refine back_exit ?_
                  refine blk_hit ?_
                  have hsr : Srt ltU a i1 C := by
                    by_cases e : j = a
                    · subst e
                      have q := hI.low
                      rwa [show i1 - 1 + 1 = i1 by omega] at q
                    · have q := hI.stop hw (by omega) (by omega) h61 h63 (bnot_true b66)
                      rwa [show i1 - 1 + 1 = i1 by omega] at q
                  refine meetR_at ?_ ⟨C, hlC, hSC2, hsr, H65⟩
                  exact (same_upd rfl (same_upd rfl (same_upd rfl (same_upd rfl (same_upd rfl (same_upd rfl (same_upd rfl (same_upd rfl (same_upd rfl (same_upd rfl (same_upd rfl (same_upd rfl (same_upd rfl (same_upd rfl (same_upd rfl (same_upd rfl (same_ovr2 rfl (same_upd rfl (same_upd rfl (same_upd rfl (same_upd rfl (same_upd rfl (same_upd rfl (same_upd rfl (same_upd rfl (same_refl))))))))))))))))))))))))))
                · have g69 := bnot_false b66
                  refine wp_know 78 (.bool false) (congrArg Value.bool b66) ?_
                  have g70 := bnot_false b66
                  refine wp_iff rfl ?_
                  refine w_skip ?_
                  refine then_normal ?_
                  refine k_start H65 [rowU g n c C, restC w (rowU g n c A).fp] [15, 17] 18 rfl (by kernel_rfl) (fun Hx => (Hx.pick [0, 1] (by decide))) ?_
                  intro w71 H72 S73
                  refine k_pure 0 rfl (by kernel_rfl) (by kernel_rfl) (by kernel_rfl) (fun _ _ _ h => h) S73 (wants0 rfl) rfl (d := 79) (v := (.slice (some ⟨g, 0, none⟩) n c)) rfl (fun _ => (by kernel_rfl)) ?_
                  refine k_pure 1 rfl (by kernel_rfl) (by kernel_rfl) (by kernel_rfl) (fun _ _ _ h => h) S73 (wants0 rfl) rfl (d := 80) (v := (.int .i64 ((j : Int)))) rfl (fun _ => (by kernel_rfl)) ?_
                  refine k_pure 2 rfl (by kernel_rfl) (by kernel_rfl) (by kernel_rfl) (fun _ _ _ h => h) S73 (wants0 rfl) rfl (d := 81) (v := (.slice (some ⟨g, 0, none⟩) n c)) rfl (fun _ => (by kernel_rfl)) ?_
                  refine k_pure 3 rfl (by kernel_rfl) (by kernel_rfl) (by kernel_rfl) (fun _ _ _ h => h) S73 (wants0 rfl) rfl (d := 82) (v := (.int .i64 ((j : Int)))) rfl (fun _ => (by kernel_rfl)) ?_
                  refine k_pure 4 rfl (by kernel_rfl) (by kernel_rfl) (by kernel_rfl) (fun _ _ _ h => h) S73 (wants0 rfl) rfl (d := 83) (v := (.int .i64 ((j : Int) - 1))) rfl (fun _ => (e_int (z := (j : Int) - 1) (by kernel_rfl) (IntWalk.i64_in _ (by omega)))) ?_
                  refine k_pure 5 rfl (by kernel_rfl) (by kernel_rfl) (by kernel_rfl) (fun _ _ _ h => h) S73 (wants0 rfl) rfl (d := 84) (v := (.slice (some ⟨g, 0, none⟩) n c)) rfl (fun _ => (by kernel_rfl)) ?_
                  refine k_pure 6 rfl (by kernel_rfl) (by kernel_rfl) (by kernel_rfl) (fun _ _ _ h => h) S73 (wants0 rfl) rfl (d := 85) (v := (.int .i64 ((j : Int)))) rfl (fun _ => (by kernel_rfl)) ?_
                  refine k_pure 7 rfl (by kernel_rfl) (by kernel_rfl) (by kernel_rfl) (fun _ _ _ h => h) S73 (wants0 rfl) rfl (d := 86) (v := (.int .i64 ((j : Int) - 1))) rfl (fun _ => (e_int (z := (j : Int) - 1) (by kernel_rfl) (IntWalk.i64_in _ (by omega)))) ?_
                  refine k_pure 8 rfl (by kernel_rfl) (by kernel_rfl) (by kernel_rfl) (fun _ _ _ h => h) S73 (wants0 rfl) rfl (d := 87) (v := (.pointer (some ⟨g, 0 + ((j : Int) - 1).toNat * 1, none⟩))) rfl (fun _ => (e_indexAddr (E := 23) (by kernel_rfl) (by kernel_rfl) (Nat.le_of_ble_eq_true rfl) rfl rfl (by omega) (by omega))) ?_
                  refine k_val 9 rfl (by kernel_rfl) (by kernel_rfl) (by kernel_rfl) (fun _ _ _ h => h) S73 (wants0 rfl) rfl (by kernel_rfl) (d := 88) (v := (.int .u64 (x62))) rfl (fun _ H' => (e_load1 rfl (by kernel_rfl) (rowU_cell (H'.at 0 rfl) h63 (show 0 + ((j : Int) - 1).toNat * 1 = (j - 1) by omega)))) ?_
                  refine k_pure 10 rfl (by kernel_rfl) (by kernel_rfl) (by kernel_rfl) (fun _ _ _ h => h) S73 (wants0 rfl) rfl (d := 89) (v := (.slice (some ⟨g, 0, none⟩) n c)) rfl (fun _ => (by kernel_rfl)) ?_
                  refine k_pure 11 rfl (by kernel_rfl) (by kernel_rfl) (by kernel_rfl) (fun _ _ _ h => h) S73 (wants0 rfl) rfl (d := 90) (v := (.int .i64 ((j : Int)))) rfl (fun _ => (by kernel_rfl)) ?_
                  refine k_pure 12 rfl (by kernel_rfl) (by kernel_rfl) (by kernel_rfl) (fun _ _ _ h => h) S73 (wants0 rfl) rfl (d := 91) (v := (.pointer (some ⟨g, 0 + ((j : Int)).toNat * 1, none⟩))) rfl (fun _ => (e_indexAddr (E := 23) (by kernel_rfl) (by kernel_rfl) (Nat.le_of_ble_eq_true rfl) rfl rfl (by omega) (by omega))) ?_
                  refine k_val 13 rfl (by kernel_rfl) (by kernel_rfl) (by kernel_rfl) (fun _ _ _ h => h) S73 (wants0 rfl) rfl (by kernel_rfl) (d := 92) (v := (.int .u64 (x60))) rfl (fun _ H' => (e_load1 rfl (by kernel_rfl) (rowU_cell (H'.at 0 rfl) h61 (show 0 + ((j : Int)).toNat * 1 = j by omega)))) ?_
                  refine k_pure 14 rfl (by kernel_rfl) (by kernel_rfl) (by kernel_rfl) (fun _ _ _ h => h) S73 (wants0 rfl) rfl (d := 93) (v := (.pointer (some ⟨g, 0 + ((j : Int)).toNat * 1, none⟩))) rfl (fun _ => (e_indexAddr (E := 23) (by kernel_rfl) (by kernel_rfl) (Nat.le_of_ble_eq_true rfl) rfl rfl (by omega) (by omega))) ?_
                  refine k_brk 15 (Sat w [restC w (rowU g n c A).fp]) rfl (by kernel_rfl) (wants0 rfl) rfl (fun K74 hK74 => ?_)
                  refine d_storeU rfl H72 0 rfl rfl rfl (by kernel_rfl) (show 0 + ((j : Int)).toNat * 1 = j by omega) (by omega) ?_
                  intro w75 (H76 : Sat w [rowU g n c (C.set j x62), restC w (rowU g n c A).fp] w75)
                  have hlH76 : (C.set j x62).length = C.length := List.length_set
                  have S77 := H76.pick [1] (by decide)
                  refine hK74 _ _ S77 ?_
                  clear hK74 K74
                  refine h_val 16 rfl (by kernel_rfl) (by kernel_rfl) (by kernel_rfl) (fun _ _ _ h => h) S77 (wants0 rfl) (d := 94) (v := (.pointer (some ⟨g, 0 + ((j : Int) - 1).toNat * 1, none⟩))) rfl (fun _ H' => (e_indexAddr (E := 23) (by kernel_rfl) (by kernel_rfl) (Nat.le_of_ble_eq_true rfl) rfl rfl (by omega) (by omega))) ?_
                  refine h_do 17 rfl (by kernel_rfl) (wants0 rfl) (fun K78 hK78 => ?_)
                  refine d_storeU rfl H76 0 rfl rfl rfl (by kernel_rfl) (show 0 + ((j : Int) - 1).toNat * 1 = (j - 1) by omega) (by omega) ?_
                  intro w79 (H80 : Sat w [rowU g n c ((C.set j x62).set (j - 1) x60), restC w (rowU g n c A).fp] w79)
                  have hlH80 : ((C.set j x62).set (j - 1) x60).length = (C.set j x62).length := List.length_set
                  have S81 := H80.pick [1] (by decide)
                  refine hK78 _ _ S81 ?_
                  clear hK78 K78
                  refine h_fin (by kernel_rfl) ?_
                  refine blk_normal ?_
                  refine then_normal ?_
                  refine w_lit ?_
                  refine wl_pure (wants0 rfl) (d := 66) (v := (.int .i64 ((j : Int)))) rfl (by kernel_rfl) ?_
                  refine wl_pure (wants0 rfl) (d := 67) (v := (.int .i64 ((j : Int) - 1))) rfl (e_int (z := (j : Int) - 1) (by kernel_rfl) (IntWalk.i64_in _ (by omega))) ?_
                  refine wl_pure (wants0 rfl) (d := 9) (v := (.int .i64 ((j : Int) - 1))) rfl (by kernel_rfl) ?_
                  refine w_nil ?_
                  have hja : a < j := by
                    rcases Nat.lt_or_eq_of_le hj.1 with q | q
                    · exact q
                    · exfalso
                      rcases (hLow.seg hSC2) with q2 | q2
                      · omega
                      · have q3 := q2 (j - 1) j _ _ (by omega) (by omega) (by omega) (by omega) h63 h61
                        rw [bnot_false b66] at q3; cases q3
                  refine round_back ?_ _ ⟨(j - 1), ((C.set j x62).set (j - 1) x60), (show ((.int .i64 ((j : Int) - 1)) : Value) = _ by first | rfl | go_num), (by omega), (by omega), (hSC2.swap (by omega) (by omega) (by omega) (by omega) h61 h63), (hI.step hw (by omega) (by omega) h61 h63 (bnot_false b66)), H80, rfl⟩ (by omega)
                  exact (same_upd rfl (same_upd rfl (same_upd rfl (same_upd rfl (same_upd rfl (same_upd rfl (same_upd rfl (same_upd rfl (same_upd rfl (same_upd rfl (same_upd rfl (same_upd rfl (same_upd rfl (same_upd rfl (same_upd rfl (same_upd rfl (same_upd rfl (same_upd rfl (same_upd rfl (same_upd rfl (same_upd rfl (same_upd rfl (same_upd rfl (same_upd rfl (same_upd rfl (same_upd rfl (same_upd rfl (same_upd rfl (same_upd rfl (same_upd rfl (same_upd rfl (same_upd rfl (same_upd rfl (same_upd rfl (same_upd rfl (same_ovr))))))))))))))))))))))))))))))))))))
              · have g82 := of_decide_eq_false b57
                refine wp_know 65 (.bool false) (congrArg Value.bool b57) ?_
                have g83 := of_decide_eq_false b57
                refine wp_iff rfl ?_
                refine w_exit ?_
                refine then_exit ?_
                refine back_exit ?_
                refine blk_hit ?_
                have hsr : Srt ltU a i1 C := by
                  obtain rfl : j = a := by omega
                  have q := hI.low
                  rwa [show i1 - 1 + 1 = i1 by omega] at q
                refine meetR_at ?_ ⟨C, hlC, hSC2, hsr, H54⟩
                exact (same_upd rfl (same_upd rfl (same_upd rfl (same_upd rfl (same_ovr2 rfl (same_upd rfl (same_upd rfl (same_upd rfl (same_upd rfl (same_upd rfl (same_upd rfl (same_upd rfl (same_upd rfl (same_refl))))))))))))))
            · have g84 := of_decide_eq_false b49
              refine wp_know 61 (.bool false) (congrArg Value.bool b49) ?_
              have g85 := of_decide_eq_false b49
              refine wp_iff rfl ?_
              refine w_skip ?_
              refine meetR_at ?_ ⟨C0, hlC0, hSC, (Srt.short (by omega)), H47⟩
              exact (same_upd rfl (same_upd rfl (same_upd rfl (same_upd rfl (same_upd rfl (same_refl))))))
          · rintro f86 w87 ⟨D, hlD, hSD, hsD, H88⟩
            refine w_seq ?_
            refine w_lit ?_
            refine wl_pure (wants0 rfl) (d := 95) (v := (.int .i64 ((b : Int)))) rfl (by kernel_rfl) ?_
            refine wl_pure (wants0 rfl) (d := 96) (v := (.int .i64 ((i1 : Int)))) rfl (by kernel_rfl) ?_
            refine wl_pure (wants0 rfl) (d := 97) (v := (.int .i64 ((b : Int) - (i1 : Int)))) rfl (e_int (z := (b : Int) - (i1 : Int)) (by kernel_rfl) (IntWalk.i64_in _ (by omega))) ?_
            refine wl_pure (wants0 rfl) (d := 98) (v := (.bool (decide (((b : Int) - (i1 : Int)) ≥ 2)))) rfl (by kernel_rfl) ?_
            refine w_nil ?_
            refine then_normal ?_
            refine (bsplit (decide (((b : Int) - (i1 : Int)) ≥ 2))).elim (fun b89 => ?_) (fun b89 => ?_)
            · have g90 := of_decide_eq_true b89
              refine wp_know 98 (.bool true) (congrArg Value.bool b89) ?_
              have g91 := of_decide_eq_true b89
              refine wp_ift rfl ?_
              refine w_seq ?_
              refine w_lit ?_
              refine wl_pure (wants0 rfl) (d := 99) (v := (.int .i64 ((i1 : Int)))) rfl (by kernel_rfl) ?_
              refine wl_pure (wants0 rfl) (d := 100) (v := (.int .i64 ((i1 : Int) + 1))) rfl (e_int (z := (i1 : Int) + 1) (by kernel_rfl) (IntWalk.i64_in _ (by omega))) ?_
              refine wl_pure (wants0 rfl) (d := 10) (v := (.int .i64 ((i1 : Int) + 1))) rfl (by kernel_rfl) ?_
              refine w_nil ?_
              refine then_normal ?_
              refine w_block ?_
              refine wp_round [10, 101, 102, 103, 104, 105, 106, 107, 108, 109, 110, 111, 112, 113, 114, 115, 116, 117, 118, 119, 120, 121, 122, 123, 124, 125, 126, 127, 128, 129, 130, 131, 132] (fun F_ W_ m_ => ∃ (k : Nat) (F : List Int), F_ 10 = (.int .i64 ((k : Int))) ∧ (i1 + 1 ≤ k ∧ k ≤ b) ∧ (F.length = n) ∧ (SegP i1 b D F) ∧ Sat w [rowU g n c F, restC w (rowU g n c A).fp] W_ ∧ m_ = b - k) _ ⟨(i1 + 1), D, (show ((.int .i64 ((i1 : Int) + 1)) : Value) = _ by first | rfl | go_num), (by omega), hlD, .refl, H88, rfl⟩ ?_
              rintro g92 w93 _ ⟨k, F, v95, hk, hlF, hSF, H94, rfl⟩
              refine wp_know 10 _ v95 ?_
              refine w_seq ?_
              refine w_seq ?_
              refine w_lit ?_
              refine wl_pure (wants0 rfl) (d := 101) (v := (.int .i64 ((k : Int)))) rfl (by kernel_rfl) ?_
              refine wl_pure (wants0 rfl) (d := 102) (v := (.int .i64 ((b : Int)))) rfl (by kernel_rfl) ?_
              refine wl_pure (wants0 rfl) (d := 103) (v := (.bool (decide ((k : Int) < (b : Int))))) rfl (by kernel_rfl) ?_
              refine w_nil ?_
              refine then_normal ?_
              refine (bsplit (decide ((k : Int) < (b : Int)))).elim (fun b97 => ?_) (fun b97 => ?_)
              · have g98 := of_decide_eq_true b97
                refine wp_know 103 (.bool true) (congrArg Value.bool b97) ?_
                have g99 := of_decide_eq_true b97
                refine wp_ift rfl ?_
                refine w_skip ?_
                refine then_normal ?_
                refine w_seq ?_
                refine w_block ?_
                refine w_seq ?_
                refine w_seq ?_
                refine q_start H94 (by kernel_rfl) (by kernel_rfl) ?_
                refine q_val (wants0 rfl) (d := 106) (v := (.slice (some ⟨g, 0, none⟩) n c)) rfl (fun _ H' => (by kernel_rfl)) ?_
                refine q_val (wants0 rfl) (d := 107) (v := (.int .i64 ((k : Int)))) rfl (fun _ H' => (by kernel_rfl)) ?_
                refine q_val (wants0 rfl) (d := 108) (v := (.pointer (some ⟨g, 0 + ((k : Int)).toNat * 1, none⟩))) rfl (fun _ H' => (e_indexAddr (E := 23) (by kernel_rfl) (by kernel_rfl) (Nat.le_of_ble_eq_true rfl) rfl rfl (by omega) (by omega))) ?_
                obtain ⟨x100, h101⟩ := get_at (show k < F.length by omega)
                refine q_val (wants0 rfl) (d := 109) (v := (.int .u64 (x100))) rfl (fun _ H' => (e_load1 rfl (by kernel_rfl) (rowU_cell (H'.at 0 rfl) h101 (show 0 + ((k : Int)).toNat * 1 = k by omega)))) ?_
                refine q_val (wants0 rfl) (d := 110) (v := (.slice (some ⟨g, 0, none⟩) n c)) rfl (fun _ H' => (by kernel_rfl)) ?_
                refine q_val (wants0 rfl) (d := 111) (v := (.int .i64 ((k : Int)))) rfl (fun _ H' => (by kernel_rfl)) ?_
                refine q_val (wants0 rfl) (d := 112) (v := (.int .i64 ((k : Int) - 1))) rfl (fun _ H' => (e_int (z := (k : Int) - 1) (by kernel_rfl) (IntWalk.i64_in _ (by omega)))) ?_
                refine q_val (wants0 rfl) (d := 113) (v := (.pointer (some ⟨g, 0 + ((k : Int) - 1).toNat * 1, none⟩))) rfl (fun _ H' => (e_indexAddr (E := 23) (by kernel_rfl) (by kernel_rfl) (Nat.le_of_ble_eq_true rfl) rfl rfl (by omega) (by omega))) ?_
                obtain ⟨x102, h103⟩ := get_at (show (k - 1) < F.length by omega)
                refine q_val (wants0 rfl) (d := 114) (v := (.int .u64 (x102))) rfl (fun _ H' => (e_load1 rfl (by kernel_rfl) (rowU_cell (H'.at 0 rfl) h103 (show 0 + ((k : Int) - 1).toNat * 1 = (k - 1) by omega)))) ?_
                refine q_call (wants0 rfl) (d := 115) (v := (.bool (ltU x100 x102))) rfl (fun _ _ => by kernel_rfl) (fun w' H' => (lessU_any w' x100 x102).mono fun _ _ h => ⟨h.1, H'.keepU h.2⟩) ?_
                refine q_val (wants0 rfl) (d := 116) (v := (.bool (!(ltU x100 x102)))) rfl (fun _ H' => (by kernel_rfl)) ?_
                refine q_end ?_
                intro w104 H105
                refine then_normal ?_
                refine (bsplit (!(ltU x100 x102))).elim (fun b106 => ?_) (fun b106 => ?_)
                · have g107 := bnot_true b106
                  refine wp_know 116 (.bool true) (congrArg Value.bool b106) ?_
                  have g108 := bnot_true b106
                  refine wp_ift rfl ?_
                  refine w_exit ?_
                  refine then_exit ?_
                  refine blk_miss rfl ?_
                  refine then_exit ?_
                  refine back_exit ?_
                  refine blk_hit ?_
                  refine blk_normal ?_
                  refine then_normal ?_
                  refine w_lit ?_
                  refine wl_pure (wants0 rfl) (d := 15) (v := (.int .i64 ((q : Int)))) rfl (by kernel_rfl) ?_
                  refine wl_pure (wants0 rfl) (d := 16) (v := (.int .i64 ((q : Int) + 1))) rfl (e_int (z := (q : Int) + 1) (by kernel_rfl) (IntWalk.i64_in _ (by omega))) ?_
                  refine wl_pure (wants0 rfl) (d := 8) (v := (.int .i64 ((q : Int) + 1))) rfl (by kernel_rfl) ?_
                  refine w_nil ?_
                  refine round_back ?_ _ ⟨(q + 1), i1, F, (show ((.int .i64 ((q : Int) + 1)) : Value) = _ by first | rfl | go_num), (show ((.int .i64 ((i1 : Int))) : Value) = _ by first | rfl | go_num), (by omega), hlF, (hSD.trans (hSF.mono (by omega) (Nat.le_refl _))), (hsD.out hSF (.inl (Nat.le_refl _))), H105, rfl⟩ (by omega)
                  exact (same_upd rfl (same_upd rfl (same_upd rfl (same_upd rfl (same_upd rfl (same_upd rfl (same_upd rfl (same_upd rfl (same_upd rfl (same_upd rfl (same_upd rfl (same_upd rfl (same_upd rfl (same_upd rfl (same_upd rfl (same_upd rfl (same_upd rfl (same_upd rfl (same_upd rfl (same_upd rfl (same_ovr2 rfl (same_upd rfl (same_upd rfl (same_upd rfl (same_upd rfl (same_upd rfl (same_upd rfl (same_upd rfl (same_upd rfl (same_ovr2 rfl (same_upd rfl (same_upd rfl (same_upd rfl (same_upd rfl (same_upd rfl (same_upd rfl (same_upd rfl (same_upd rfl (same_upd rfl (same_upd rfl (same_upd rfl (same_upd rfl (same_upd rfl (same_upd rfl (same_upd rfl (same_upd rfl (same_upd rfl (same_upd rfl (same_upd rfl (same_upd rfl (same_upd rfl (same_upd rfl (same_upd rfl (same_upd rfl (same_upd rfl (same_upd rfl (same_upd rfl (same_upd rfl (same_upd rfl (same_upd rfl (same_upd rfl (same_upd rfl (same_upd rfl (same_upd rfl (same_upd rfl (same_upd rfl (same_upd rfl (same_upd rfl (same_upd rfl (same_upd rfl (same_upd rfl (same_upd rfl (same_upd rfl (same_upd rfl (same_ovr2 rfl (same_upd rfl (same_upd rfl (same_upd rfl (same_upd rfl (same_upd rfl (same_ovr)))))))))))))))))))))))))))))))))))))))))))))))))))))))))))))))))))))))))))))))))
                · have g109 := bnot_false b106
                  refine wp_know 116 (.bool false) (congrArg Value.bool b106) ?_
                  have g110 := bnot_false b106
                  refine wp_iff rfl ?_
                  refine w_skip ?_
                  refine then_normal ?_
                  refine k_start H105 [rowU g n c F, restC w (rowU g n c A).fp] [15, 17] 18 rfl (by kernel_rfl) (fun Hx => (Hx.pick [0, 1] (by decide))) ?_
                  intro w111 H112 S113
                  refine k_pure 0 rfl (by kernel_rfl) (by kernel_rfl) (by kernel_rfl) (fun _ _ _ h => h) S113 (wants0 rfl) rfl (d := 117) (v := (.slice (some ⟨g, 0, none⟩) n c)) rfl (fun _ => (by kernel_rfl)) ?_
                  refine k_pure 1 rfl (by kernel_rfl) (by kernel_rfl) (by kernel_rfl) (fun _ _ _ h => h) S113 (wants0 rfl) rfl (d := 118) (v := (.int .i64 ((k : Int)))) rfl (fun _ => (by kernel_rfl)) ?_
                  refine k_pure 2 rfl (by kernel_rfl) (by kernel_rfl) (by kernel_rfl) (fun _ _ _ h => h) S113 (wants0 rfl) rfl (d := 119) (v := (.slice (some ⟨g, 0, none⟩) n c)) rfl (fun _ => (by kernel_rfl)) ?_
                  refine k_pure 3 rfl (by kernel_rfl) (by kernel_rfl) (by kernel_rfl) (fun _ _ _ h => h) S113 (wants0 rfl) rfl (d := 120) (v := (.int .i64 ((k : Int)))) rfl (fun _ => (by kernel_rfl)) ?_
                  refine k_pure 4 rfl (by kernel_rfl) (by kernel_rfl) (by kernel_rfl) (fun _ _ _ h => h) S113 (wants0 rfl) rfl (d := 121) (v := (.int .i64 ((k : Int) - 1))) rfl (fun _ => (e_int (z := (k : Int) - 1) (by kernel_rfl) (IntWalk.i64_in _ (by omega)))) ?_
                  refine k_pure 5 rfl (by kernel_rfl) (by kernel_rfl) (by kernel_rfl) (fun _ _ _ h => h) S113 (wants0 rfl) rfl (d := 122) (v := (.slice (some ⟨g, 0, none⟩) n c)) rfl (fun _ => (by kernel_rfl)) ?_
                  refine k_pure 6 rfl (by kernel_rfl) (by kernel_rfl) (by kernel_rfl) (fun _ _ _ h => h) S113 (wants0 rfl) rfl (d := 123) (v := (.int .i64 ((k : Int)))) rfl (fun _ => (by kernel_rfl)) ?_
                  refine k_pure 7 rfl (by kernel_rfl) (by kernel_rfl) (by kernel_rfl) (fun _ _ _ h => h) S113 (wants0 rfl) rfl (d := 124) (v := (.int .i64 ((k : Int) - 1))) rfl (fun _ => (e_int (z := (k : Int) - 1) (by kernel_rfl) (IntWalk.i64_in _ (by omega)))) ?_
                  refine k_pure 8 rfl (by kernel_rfl) (by kernel_rfl) (by kernel_rfl) (fun _ _ _ h => h) S113 (wants0 rfl) rfl (d := 125) (v := (.pointer (some ⟨g, 0 + ((k : Int) - 1).toNat * 1, none⟩))) rfl (fun _ => (e_indexAddr (E := 23) (by kernel_rfl) (by kernel_rfl) (Nat.le_of_ble_eq_true rfl) rfl rfl (by omega) (by omega))) ?_
                  refine k_val 9 rfl (by kernel_rfl) (by kernel_rfl) (by kernel_rfl) (fun _ _ _ h => h) S113 (wants0 rfl) rfl (by kernel_rfl) (d := 126) (v := (.int .u64 (x102))) rfl (fun _ H' => (e_load1 rfl (by kernel_rfl) (rowU_cell (H'.at 0 rfl) h103 (show 0 + ((k : Int) - 1).toNat * 1 = (k - 1) by omega)))) ?_
                  refine k_pure 10 rfl (by kernel_rfl) (by kernel_rfl) (by kernel_rfl) (fun _ _ _ h => h) S113 (wants0 rfl) rfl (d := 127) (v := (.slice (some ⟨g, 0, none⟩) n c)) rfl (fun _ => (by kernel_rfl)) ?_
                  refine k_pure 11 rfl (by kernel_rfl) (by kernel_rfl) (by kernel_rfl) (fun _ _ _ h => h) S113 (wants0 rfl) rfl (d := 128) (v := (.int .i64 ((k : Int)))) rfl (fun _ => (by kernel_rfl)) ?_
                  refine k_pure 12 rfl (by kernel_rfl) (by kernel_rfl) (by kernel_rfl) (fun _ _ _ h => h) S113 (wants0 rfl) rfl (d := 129) (v := (.pointer (some ⟨g, 0 + ((k : Int)).toNat * 1, none⟩))) rfl (fun _ => (e_indexAddr (E := 23) (by kernel_rfl) (by kernel_rfl) (Nat.le_of_ble_eq_true rfl) rfl rfl (by omega) (by omega))) ?_
                  refine k_val 13 rfl (by kernel_rfl) (by kernel_rfl) (by kernel_rfl) (fun _ _ _ h => h) S113 (wants0 rfl) rfl (by kernel_rfl) (d := 130) (v := (.int .u64 (x100))) rfl (fun _ H' => (e_load1 rfl (by kernel_rfl) (rowU_cell (H'.at 0 rfl) h101 (show 0 + ((k : Int)).toNat * 1 = k by omega)))) ?_
                  refine k_pure 14 rfl (by kernel_rfl) (by kernel_rfl) (by kernel_rfl) (fun _ _ _ h => h) S113 (wants0 rfl) rfl (d := 131) (v := (.pointer (some ⟨g, 0 + ((k : Int)).toNat * 1, none⟩))) rfl (fun _ => (e_indexAddr (E := 23) (by kernel_rfl) (by kernel_rfl) (Nat.le_of_ble_eq_true rfl) rfl rfl (by omega) (by omega))) ?_
                  refine k_brk 15 (Sat w [restC w (rowU g n c A).fp]) rfl (by kernel_rfl) (wants0 rfl) rfl (fun K114 hK114 => ?_)
                  refine d_storeU rfl H112 0 rfl rfl rfl (by kernel_rfl) (show 0 + ((k : Int)).toNat * 1 = k by omega) (by omega) ?_
                  intro w115 (H116 : Sat w [rowU g n c (F.set k x102), restC w (rowU g n c A).fp] w115)
                  have hlH116 : (F.set k x102).length = F.length := List.length_set
                  have S117 := H116.pick [1] (by decide)
                  refine hK114 _ _ S117 ?_
                  clear hK114 K114
                  refine h_val 16 rfl (by kernel_rfl) (by kernel_rfl) (by kernel_rfl) (fun _ _ _ h => h) S117 (wants0 rfl) (d := 132) (v := (.pointer (some ⟨g, 0 + ((k : Int) - 1).toNat * 1, none⟩))) rfl (fun _ H' => (e_indexAddr (E := 23) (by kernel_rfl) (by kernel_rfl) (Nat.le_of_ble_eq_true rfl) rfl rfl (by omega) (by omega))) ?_
                  refine h_do 17 rfl (by kernel_rfl) (wants0 rfl) (fun K118 hK118 => ?_)
                  refine d_storeU rfl H116 0 rfl rfl rfl (by kernel_rfl) (show 0 + ((k : Int) - 1).toNat * 1 = (k - 1) by omega) (by omega) ?_
                  intro w119 (H120 : Sat w [rowU g n c ((F.set k x102).set (k - 1) x100), restC w (rowU g n c A).fp] w119)
                  have hlH120 : ((F.set k x102).set (k - 1) x100).length = (F.set k x102).length := List.length_set
                  have S121 := H120.pick [1] (by decide)
                  refine hK118 _ _ S121 ?_
                  clear hK118 K118
                  refine h_fin (by kernel_rfl) ?_
                  refine blk_normal ?_
                  refine then_normal ?_
                  refine w_lit ?_
                  refine wl_pure (wants0 rfl) (d := 104) (v := (.int .i64 ((k : Int)))) rfl (by kernel_rfl) ?_
                  refine wl_pure (wants0 rfl) (d := 105) (v := (.int .i64 ((k : Int) + 1))) rfl (e_int (z := (k : Int) + 1) (by kernel_rfl) (IntWalk.i64_in _ (by omega))) ?_
                  refine wl_pure (wants0 rfl) (d := 10) (v := (.int .i64 ((k : Int) + 1))) rfl (by kernel_rfl) ?_
                  refine w_nil ?_
                  refine round_back ?_ _ ⟨(k + 1), ((F.set k x102).set (k - 1) x100), (show ((.int .i64 ((k : Int) + 1)) : Value) = _ by first | rfl | go_num), (by omega), (by omega), (hSF.swap (by omega) (by omega) (by omega) (by omega) h101 h103), H120, rfl⟩ (by omega)
                  exact (same_upd rfl (same_upd rfl (same_upd rfl (same_upd rfl (same_upd rfl (same_upd rfl (same_upd rfl (same_upd rfl (same_upd rfl (same_upd rfl (same_upd rfl (same_upd rfl (same_upd rfl (same_upd rfl (same_upd rfl (same_upd rfl (same_upd rfl (same_upd rfl (same_upd rfl (same_upd rfl (same_upd rfl (same_upd rfl (same_upd rfl (same_upd rfl (same_upd rfl (same_upd rfl (same_upd rfl (same_upd rfl (same_upd rfl (same_upd rfl (same_upd rfl (same_upd rfl (same_upd rfl (same_upd rfl (same_upd rfl (same_upd rfl (same_ovr)))))))))))))))))))))))))))))))))))))
              · have g122 := of_decide_eq_false b97
                refine wp_know 103 (.bool false) (congrArg Value.bool b97) ?_
                have g123 := of_decide_eq_false b97
                refine wp_iff rfl ?_
                refine w_exit ?_
                refine then_exit ?_
                refine back_exit ?_
                refine blk_hit ?_
                refine blk_normal ?_
                refine then_normal ?_
                refine w_lit ?_
                refine wl_pure (wants0 rfl) (d := 15) (v := (.int .i64 ((q : Int)))) rfl (by kernel_rfl) ?_
                refine wl_pure (wants0 rfl) (d := 16) (v := (.int .i64 ((q : Int) + 1))) rfl (e_int (z := (q : Int) + 1) (by kernel_rfl) (IntWalk.i64_in _ (by omega))) ?_
                refine wl_pure (wants0 rfl) (d := 8) (v := (.int .i64 ((q : Int) + 1))) rfl (by kernel_rfl) ?_
                refine w_nil ?_
                refine round_back ?_ _ ⟨(q + 1), i1, F, (show ((.int .i64 ((q : Int) + 1)) : Value) = _ by first | rfl | go_num), (show ((.int .i64 ((i1 : Int))) : Value) = _ by first | rfl | go_num), (by omega), hlF, (hSD.trans (hSF.mono (by omega) (Nat.le_refl _))), (hsD.out hSF (.inl (Nat.le_refl _))), H94, rfl⟩ (by omega)
                exact (same_upd rfl (same_upd rfl (same_upd rfl (same_upd rfl (same_upd rfl (same_upd rfl (same_upd rfl (same_upd rfl (same_ovr2 rfl (same_upd rfl (same_upd rfl (same_upd rfl (same_upd rfl (same_upd rfl (same_upd rfl (same_upd rfl (same_upd rfl (same_ovr2 rfl (same_upd rfl (same_upd rfl (same_upd rfl (same_upd rfl (same_upd rfl (same_upd rfl (same_upd rfl (same_upd rfl (same_upd rfl (same_upd rfl (same_upd rfl (same_upd rfl (same_upd rfl (same_upd rfl (same_upd rfl (same_upd rfl (same_upd rfl (same_upd rfl (same_upd rfl (same_upd rfl (same_upd rfl (same_upd rfl (same_upd rfl (same_upd rfl (same_upd rfl (same_upd rfl (same_upd rfl (same_upd rfl (same_upd rfl (same_upd rfl (same_upd rfl (same_upd rfl (same_upd rfl (same_upd rfl (same_upd rfl (same_upd rfl (same_upd rfl (same_upd rfl (same_upd rfl (same_upd rfl (same_upd rfl (same_upd rfl (same_upd rfl (same_upd rfl (same_ovr2 rfl (same_upd rfl (same_upd rfl (same_upd rfl (same_upd rfl (same_upd rfl (same_ovr)))))))))))))))))))))))))))))))))))))))))))))))))))))))))))))))))))))
            · have g124 := of_decide_eq_false b89
              refine wp_know 98 (.bool false) (congrArg Value.bool b89) ?_
              have g125 := of_decide_eq_false b89
              refine wp_iff rfl ?_
              refine w_skip ?_
              refine blk_normal ?_
              refine then_normal ?_
              refine w_lit ?_
              refine wl_pure (wants0 rfl) (d := 15) (v := (.int .i64 ((q : Int)))) rfl (by kernel_rfl) ?_
              refine wl_pure (wants0 rfl) (d := 16) (v := (.int .i64 ((q : Int) + 1))) rfl (e_int (z := (q : Int) + 1) (by kernel_rfl) (IntWalk.i64_in _ (by omega))) ?_
              refine wl_pure (wants0 rfl) (d := 8) (v := (.int .i64 ((q : Int) + 1))) rfl (by kernel_rfl) ?_
              refine w_nil ?_
              refine round_back ?_ _ ⟨(q + 1), i1, D, (show ((.int .i64 ((q : Int) + 1)) : Value) = _ by first | rfl | go_num), (show ((.int .i64 ((i1 : Int))) : Value) = _ by first | rfl | go_num), (by omega), hlD, hSD, hsD, H88, rfl⟩ (by omega)
              exact (same_upd rfl (same_upd rfl (same_upd rfl (same_upd rfl (same_upd rfl (same_upd rfl (same_upd rfl (same_upd rfl (same_ovr2 rfl (same_upd rfl (same_upd rfl (same_upd rfl (same_upd rfl (same_upd rfl (same_upd rfl (same_upd rfl (same_upd rfl (same_upd rfl (same_upd rfl (same_upd rfl (same_upd rfl (same_upd rfl (same_upd rfl (same_upd rfl (same_upd rfl (same_upd rfl (same_upd rfl (same_upd rfl (same_upd rfl (same_upd rfl (same_upd rfl (same_upd rfl (same_upd rfl (same_upd rfl (same_upd rfl (same_upd rfl (same_upd rfl (same_upd rfl (same_upd rfl (same_upd rfl (same_upd rfl (same_upd rfl (same_upd rfl (same_upd rfl (same_upd rfl (same_upd rfl (same_upd rfl (same_upd rfl (same_upd rfl (same_upd rfl (same_upd rfl (same_upd rfl (same_upd rfl (same_ovr2 rfl (same_upd rfl (same_upd rfl (same_upd rfl (same_upd rfl (same_upd rfl (same_ovr))))))))))))))))))))))))))))))))))))))))))))))))))))))))))))
    · have g126 := of_decide_eq_false b15
      refine q_know 20 (.bool false) (congrArg Value.bool b15) ?_
      have g127 := of_decide_eq_false b15
      refine q_pass (wantsN 3 20 true rfl (by kernel_rfl) rfl (by kernel_rfl)) rfl ?_
      refine q_pass (wantsN 3 20 true rfl (by kernel_rfl) rfl (by kernel_rfl)) rfl ?_
      refine q_pass (wantsN 3 20 true rfl (by kernel_rfl) rfl (by kernel_rfl)) rfl ?_
      refine q_pass (wantsN 3 20 true rfl (by kernel_rfl) rfl (by kernel_rfl)) rfl ?_
      refine q_pass (wantsN 3 20 true rfl (by kernel_rfl) rfl (by kernel_rfl)) rfl ?_
      refine q_pass (wantsN 3 20 true rfl (by kernel_rfl) rfl (by kernel_rfl)) rfl ?_
      refine q_pass (wantsN 3 20 true rfl (by kernel_rfl) rfl (by kernel_rfl)) rfl ?_
      refine q_pass (wantsN 3 20 true rfl (by kernel_rfl) rfl (by kernel_rfl)) rfl ?_
      refine q_pass (wantsN 3 20 true rfl (by kernel_rfl) rfl (by kernel_rfl)) rfl ?_
      refine q_pass (wantsN 3 20 true rfl (by kernel_rfl) rfl (by kernel_rfl)) rfl ?_
      refine q_pass (wantsN 3 20 true rfl (by kernel_rfl) rfl (by kernel_rfl)) rfl ?_
      refine q_val (wants0 rfl) (d := 32) (v := (.bool false)) rfl (fun _ H' => (by kernel_rfl)) ?_
      refine q_end ?_
      intro w128 H129
      refine then_normal ?_
      refine wp_iff rfl ?_
      refine w_exit ?_
      refine then_exit ?_
      refine back_exit ?_
      refine blk_hit ?_
      refine then_normal ?_
      refine w_seq ?_
      refine w_seq ?_
      refine w_lit ?_
      refine wl_pure (wants0 rfl) (d := 35) (v := (.int .i64 ((i1 : Int)))) rfl (by kernel_rfl) ?_
      refine wl_pure (wants0 rfl) (d := 36) (v := (.int .i64 ((b : Int)))) rfl (by kernel_rfl) ?_
      refine wl_pure (wants0 rfl) (d := 37) (v := (.bool (decide ((i1 : Int) = (b : Int))))) rfl (by kernel_rfl) ?_
      refine w_nil ?_
      refine then_normal ?_
      have b130 : (decide ((i1 : Int) = (b : Int))) = true := by exact decide_eq_true (by omega)
      refine wp_know 37 (.bool true) (congrArg Value.bool b130) ?_
      have g131 := of_decide_eq_true b130
      refine wp_ift rfl ?_
      refine w_seq ?_
      refine w_lit ?_
      refine wl_pure (wants0 rfl) (d := 6) (v := (.bool true)) rfl (by kernel_rfl) ?_
      refine w_nil ?_
      refine then_normal ?_
      refine w_ret ?_
      refine then_ret ?_
      refine blk_ret ?_
      refine then_ret ?_
      refine back_ret ?_
      refine blk_ret ?_
      refine then_ret ?_
      refine end1 rfl (res_tmp (v := (.bool true)) rfl) ?_
      obtain rfl : i1 = b := by omega
      exact ⟨B, true, rfl, hlB, hS, (fun _ => hs1), H129⟩
  · have g132 := of_decide_eq_false b7
    refine wp_know 14 (.bool false) (congrArg Value.bool b7) ?_
    have g133 := of_decide_eq_false b7
    refine wp_iff rfl ?_
    refine w_exit ?_
    refine then_exit ?_
    refine back_exit ?_
    refine blk_hit ?_
    refine then_normal ?_
    refine w_seq ?_
    refine w_lit ?_
    refine wl_pure (wants0 rfl) (d := 6) (v := (.bool false)) rfl (by kernel_rfl) ?_
    refine w_nil ?_
    refine then_normal ?_
    refine w_ret ?_
    refine end1 rfl (res_tmp (v := (.bool false)) rfl) ?_
    exact ⟨B, false, rfl, hlB, hS, (fun q => by cases q), H3⟩

end Go.Proofs.Ytbpeofcoceaahaa
