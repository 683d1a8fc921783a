/- WHAT IS PROVED: slices' sort, its functions: contracts. Conditions: stated with each. -/
import Derived.Test.YtbpeofcoceaahaaSortUC
namespace Go.Proofs.Ytbpeofcoceaahaa
open Go.RowKit

set_option maxRecDepth 100000 in
set_option maxHeartbeats 1000000 in
theorem partU_any (w : World) (g n c a b p : Nat) (A : List Int) (hT : (rowU g n c A).ok w) (hn : n ≤ 1000000000000) (hab : a < b ∧ b ≤ n ∧ a ≤ p ∧ p < b) :
    Calls Try.prog 104 #[(.slice (some ⟨g, 0, none⟩) n c), (.int .i64 ((a : Int))), (.int .i64 ((b : Int))), (.int .i64 ((p : Int)))] w fun e w' => ∃ (B : List Int) (m : Nat) (q : Bool) (pv : Int), e = .returned (.tuple #[.int .i64 (m : Int), .bool q]) ∧ B.length = n ∧ SegP a b A B ∧ (a ≤ m ∧ m < b) ∧ B[m]? = some pv ∧ Cut3 ltU a m b B ∧ Sat w [rowU g n c B, restC w (rowU g n c A).fp] w' := by
  have H : Sat w [rowU g n c A, restC w (rowU g n c A).fp] w := Sat.start1 hT
  have hl := rowU_len hT
  have hw := swU
  refine calls_fr Try.func104 rfl 168 rfl (Nat.le_of_ble_eq_true rfl) ?_
  refine w_seq ?_
  refine w_lit ?_
  refine wl_pure (wants0 rfl) (d := 8) (v := (.int .i64 (0))) rfl (by kernel_rfl) ?_
  refine wl_pure (wants0 rfl) (d := 9) (v := (.bool false)) rfl (by kernel_rfl) ?_
  refine w_nil ?_
  refine then_normal ?_
  refine w_seq ?_
  obtain ⟨x1, h2⟩ := get_at (show p < A.length by omega)
  obtain ⟨x3, h4⟩ := get_at (show a < A.length by omega)
  refine k_start H [rowU g n c A, restC w (rowU g n c A).fp] [13, 15] 16 rfl (by kernel_rfl) (fun Hx => (Hx.pick [0, 1] (by decide))) ?_
  intro w5 H6 S7
  refine k_pure 0 rfl (by kernel_rfl) (by kernel_rfl) (by kernel_rfl) (fun _ _ _ h => h) S7 (wants0 rfl) rfl (d := 12) (v := (.slice (some ⟨g, 0, none⟩) n c)) rfl (fun _ => (by kernel_rfl)) ?_
  refine k_pure 1 rfl (by kernel_rfl) (by kernel_rfl) (by kernel_rfl) (fun _ _ _ h => h) S7 (wants0 rfl) rfl (d := 13) (v := (.int .i64 ((a : Int)))) rfl (fun _ => (by kernel_rfl)) ?_
  refine k_pure 2 rfl (by kernel_rfl) (by kernel_rfl) (by kernel_rfl) (fun _ _ _ h => h) S7 (wants0 rfl) rfl (d := 14) (v := (.slice (some ⟨g, 0, none⟩) n c)) rfl (fun _ => (by kernel_rfl)) ?_
  refine k_pure 3 rfl (by kernel_rfl) (by kernel_rfl) (by kernel_rfl) (fun _ _ _ h => h) S7 (wants0 rfl) rfl (d := 15) (v := (.int .i64 ((p : Int)))) rfl (fun _ => (by kernel_rfl)) ?_
  refine k_pure 4 rfl (by kernel_rfl) (by kernel_rfl) (by kernel_rfl) (fun _ _ _ h => h) S7 (wants0 rfl) rfl (d := 16) (v := (.slice (some ⟨g, 0, none⟩) n c)) rfl (fun _ => (by kernel_rfl)) ?_
  refine k_pure 5 rfl (by kernel_rfl) (by kernel_rfl) (by kernel_rfl) (fun _ _ _ h => h) S7 (wants0 rfl) rfl (d := 17) (v := (.int .i64 ((p : Int)))) rfl (fun _ => (by kernel_rfl)) ?_
  refine k_pure 6 rfl (by kernel_rfl) (by kernel_rfl) (by kernel_rfl) (fun _ _ _ h => h) S7 (wants0 rfl) rfl (d := 18) (v := (.pointer (some ⟨g, 0 + ((p : Int)).toNat * 1, none⟩))) rfl (fun _ => (e_indexAddr (E := 23) (by kernel_rfl) (by kernel_rfl) (Nat.le_of_ble_eq_true rfl) rfl rfl (by omega) (by omega))) ?_
  refine k_val 7 rfl (by kernel_rfl) (by kernel_rfl) (by kernel_rfl) (fun _ _ _ h => h) S7 (wants0 rfl) rfl (by kernel_rfl) (d := 19) (v := (.int .u64 (x1))) rfl (fun _ H' => (e_load1 rfl (by kernel_rfl) (rowU_cell (H'.at 0 rfl) h2 (show 0 + ((p : Int)).toNat * 1 = p by omega)))) ?_
  refine k_pure 8 rfl (by kernel_rfl) (by kernel_rfl) (by kernel_rfl) (fun _ _ _ h => h) S7 (wants0 rfl) rfl (d := 20) (v := (.slice (some ⟨g, 0, none⟩) n c)) rfl (fun _ => (by kernel_rfl)) ?_
  refine k_pure 9 rfl (by kernel_rfl) (by kernel_rfl) (by kernel_rfl) (fun _ _ _ h => h) S7 (wants0 rfl) rfl (d := 21) (v := (.int .i64 ((a : Int)))) rfl (fun _ => (by kernel_rfl)) ?_
  refine k_pure 10 rfl (by kernel_rfl) (by kernel_rfl) (by kernel_rfl) (fun _ _ _ h => h) S7 (wants0 rfl) rfl (d := 22) (v := (.pointer (some ⟨g, 0 + ((a : Int)).toNat * 1, none⟩))) rfl (fun _ => (e_indexAddr (E := 23) (by kernel_rfl) (by kernel_rfl) (Nat.le_of_ble_eq_true rfl) rfl rfl (by omega) (by omega))) ?_
  refine k_val 11 rfl (by kernel_rfl) (by kernel_rfl) (by kernel_rfl) (fun _ _ _ h => h) S7 (wants0 rfl) rfl (by kernel_rfl) (d := 23) (v := (.int .u64 (x3))) rfl (fun _ H' => (e_load1 rfl (by kernel_rfl) (rowU_cell (H'.at 0 rfl) h4 (show 0 + ((a : Int)).toNat * 1 = a by omega)))) ?_
  refine k_pure 12 rfl (by kernel_rfl) (by kernel_rfl) (by kernel_rfl) (fun _ _ _ h => h) S7 (wants0 rfl) rfl (d := 24) (v := (.pointer (some ⟨g, 0 + ((a : Int)).toNat * 1, none⟩))) rfl (fun _ => (e_indexAddr (E := 23) (by kernel_rfl) (by kernel_rfl) (Nat.le_of_ble_eq_true rfl) rfl rfl (by omega) (by omega))) ?_
  refine k_brk 13 (Sat w [restC w (rowU g n c A).fp]) rfl (by kernel_rfl) (wants0 rfl) rfl (fun K8 hK8 => ?_)
  refine d_storeU rfl H6 0 rfl rfl rfl (by kernel_rfl) (show 0 + ((a : Int)).toNat * 1 = a by omega) (by omega) ?_
  intro w9 (H10 : Sat w [rowU g n c (A.set a x1), restC w (rowU g n c A).fp] w9)
  have hlH10 : (A.set a x1).length = A.length := List.length_set
  have S11 := H10.pick [1] (by decide)
  refine hK8 _ _ S11 ?_
  clear hK8 K8
  refine h_val 14 rfl (by kernel_rfl) (by kernel_rfl) (by kernel_rfl) (fun _ _ _ h => h) S11 (wants0 rfl) (d := 25) (v := (.pointer (some ⟨g, 0 + ((p : Int)).toNat * 1, none⟩))) rfl (fun _ H' => (e_indexAddr (E := 23) (by kernel_rfl) (by kernel_rfl) (Nat.le_of_ble_eq_true rfl) rfl rfl (by omega) (by omega))) ?_
  refine h_do 15 rfl (by kernel_rfl) (wants0 rfl) (fun K12 hK12 => ?_)
  refine d_storeU rfl H10 0 rfl rfl rfl (by kernel_rfl) (show 0 + ((p : Int)).toNat * 1 = p by omega) (by omega) ?_
  intro w13 (H14 : Sat w [rowU g n c ((A.set a x1).set p x3), restC w (rowU g n c A).fp] w13)
  have hlH14 : ((A.set a x1).set p x3).length = (A.set a x1).length := List.length_set
  have S15 := H14.pick [1] (by decide)
  refine hK12 _ _ S15 ?_
  clear hK12 K12
  refine h_fin (by kernel_rfl) ?_
  refine then_normal ?_
  refine w_seq ?_
  obtain ⟨A1, hA1, hS1, hat, hl1, pv, hpv⟩ : ∃ A1, ((A.set a x1).set p x3) = A1 ∧ SegP a b A A1 ∧ A1[a]? = some x1 ∧ A1.length = n ∧ ∃ pv, x1 = pv := ⟨_, rfl, SegP.of_swap (by omega) (by omega) (by omega) (by omega) h4 h2, swap_at h4 h2, by omega, _, rfl⟩
  rw [hpv] at hat
  have H16 : Sat w [rowU g n c A1, restC w (rowU g n c A).fp] w13 := H14.cast (by rw [hA1])
  refine w_lit ?_
  refine wl_pure (wants0 rfl) (d := 26) (v := (.int .i64 ((a : Int)))) rfl (by kernel_rfl) ?_
  refine wl_pure (wants0 rfl) (d := 27) (v := (.int .i64 ((a : Int) + 1))) rfl (e_int (z := (a : Int) + 1) (by kernel_rfl) (IntWalk.i64_in _ (by omega))) ?_
  refine wl_pure (wants0 rfl) (d := 28) (v := (.int .i64 ((b : Int)))) rfl (by kernel_rfl) ?_
  refine wl_pure (wants0 rfl) (d := 29) (v := (.int .i64 ((b : Int) - 1))) rfl (e_int (z := (b : Int) - 1) (by kernel_rfl) (IntWalk.i64_in _ (by omega))) ?_
  refine wl_pure (wants0 rfl) (d := 10) (v := (.int .i64 ((a : Int) + 1))) rfl (by kernel_rfl) ?_
  refine wl_pure (wants0 rfl) (d := 11) (v := (.int .i64 ((b : Int) - 1))) rfl (by kernel_rfl) ?_
  refine w_nil ?_
  refine then_normal ?_
  refine wp_know 11 (.int .i64 (((b - 1 : Nat) : Int))) (show ((.int .i64 ((b : Int) - 1)) : Value) = _ by first | rfl | go_num) ?_
  refine wp_meetR [10, 30, 31, 32, 33, 34, 35, 36, 37, 38, 39, 40, 41, 42, 43, 44, 45] (fun G_ W_ => ∃ (i : Nat), G_ 10 = (.int .i64 ((i : Int))) ∧ (a + 1 ≤ i ∧ i ≤ (b - 1) + 1 ∧ i ≤ b ∧ a + 1 ≤ i) ∧ (Part ltU a i (b - 1) b pv A1) ∧ (StopI (fun x => ltU x pv) i (b - 1) A1) ∧ Sat w [rowU g n c A1, restC w (rowU g n c A).fp] W_) ?_ ?_
  · refine w_block ?_
    refine wp_round [10, 30, 31, 32, 33, 34, 35, 36, 37, 38, 39, 40, 41, 42, 43, 44, 45] (fun F_ W_ m_ => ∃ (i : Nat), F_ 10 = (.int .i64 ((i : Int))) ∧ (a + 1 ≤ i ∧ i ≤ (b - 1) + 1 ∧ i ≤ b ∧ a + 1 ≤ i) ∧ (Part ltU a i (b - 1) b pv A1) ∧ Sat w [rowU g n c A1, restC w (rowU g n c A).fp] W_ ∧ m_ = b + 1 - i) _ ⟨a + 1, (show ((.int .i64 ((a : Int) + 1)) : Value) = _ by first | rfl | go_num), (by omega), (by rw [show b - 1 = b - 1 from rfl]; exact Part.start hat (by omega)), H16, rfl⟩ ?_
    rintro g18 w19 _ ⟨i, v21, hi, hP, H20, rfl⟩
    refine wp_know 10 _ v21 ?_
    skip
    refine w_seq ?_
    refine w_seq ?_
    refine q_start H20 (by kernel_rfl) (by kernel_rfl) ?_
    refine q_val (wants0 rfl) (d := 30) (v := (.int .i64 ((i : Int)))) rfl (fun _ H' => (by kernel_rfl)) ?_
    refine q_val (wants0 rfl) (d := 31) (v := (.int .i64 (((b - 1 : Nat) : Int)))) rfl (fun _ H' => (by kernel_rfl)) ?_
    refine q_val (wants0 rfl) (d := 32) (v := (.bool (decide ((i : Int) ≤ ((b - 1 : Nat) : Int))))) rfl (fun _ H' => (by kernel_rfl)) ?_
    refine q_val (wants0 rfl) (d := 33) (v := (.bool (decide ((i : Int) ≤ ((b - 1 : Nat) : Int))))) rfl (fun _ H' => (by kernel_rfl)) ?_
    refine (bsplit (decide ((i : Int) ≤ ((b - 1 : Nat) : Int)))).elim (fun b23 => ?_) (fun b23 => ?_)
    · have g24 := of_decide_eq_true b23
      refine q_know 33 (.bool true) (congrArg Value.bool b23) ?_
      have g25 := of_decide_eq_true b23
      refine q_val (wantsY 3 33 true rfl (by kernel_rfl) rfl (by kernel_rfl)) (d := 34) (v := (.slice (some ⟨g, 0, none⟩) n c)) rfl (fun _ H' => (by kernel_rfl)) ?_
      refine q_val (wantsY 3 33 true rfl (by kernel_rfl) rfl (by kernel_rfl)) (d := 35) (v := (.int .i64 ((i : Int)))) rfl (fun _ H' => (by kernel_rfl)) ?_
      refine q_val (wantsY 3 33 true rfl (by kernel_rfl) rfl (by kernel_rfl)) (d := 36) (v := (.pointer (some ⟨g, 0 + ((i : Int)).toNat * 1, none⟩))) rfl (fun _ H' => (e_indexAddr (E := 23) (by kernel_rfl) (by kernel_rfl) (Nat.le_of_ble_eq_true rfl) rfl rfl (by omega) (by omega))) ?_
      obtain ⟨x26, h27⟩ := get_at (show i < A1.length by omega)
      refine q_val (wantsY 3 33 true rfl (by kernel_rfl) rfl (by kernel_rfl)) (d := 37) (v := (.int .u64 (x26))) rfl (fun _ H' => (e_load1 rfl (by kernel_rfl) (rowU_cell (H'.at 0 rfl) h27 (show 0 + ((i : Int)).toNat * 1 = i by omega)))) ?_
      refine q_val (wantsY 3 33 true rfl (by kernel_rfl) rfl (by kernel_rfl)) (d := 38) (v := (.slice (some ⟨g, 0, none⟩) n c)) rfl (fun _ H' => (by kernel_rfl)) ?_
      refine q_val (wantsY 3 33 true rfl (by kernel_rfl) rfl (by kernel_rfl)) (d := 39) (v := (.int .i64 ((a : Int)))) rfl (fun _ H' => (by kernel_rfl)) ?_
      refine q_val (wantsY 3 33 true rfl (by kernel_rfl) rfl (by kernel_rfl)) (d := 40) (v := (.pointer (some ⟨g, 0 + ((a : Int)).toNat * 1, none⟩))) rfl (fun _ H' => (e_indexAddr (E := 23) (by kernel_rfl) (by kernel_rfl) (Nat.le_of_ble_eq_true rfl) rfl rfl (by omega) (by omega))) ?_
      refine q_val (wantsY 3 33 true rfl (by kernel_rfl) rfl (by kernel_rfl)) (d := 41) (v := (.int .u64 (pv))) rfl (fun _ H' => (e_load1 rfl (by kernel_rfl) (rowU_cell (H'.at 0 rfl) hP.at_ (show 0 + ((a : Int)).toNat * 1 = a by omega)))) ?_
      refine q_call (wantsY 3 33 true rfl (by kernel_rfl) rfl (by kernel_rfl)) (d := 42) (v := (.bool (ltU x26 pv))) rfl (fun _ _ => by kernel_rfl) (fun w' H' => (lessU_any w' x26 pv).mono fun _ _ h => ⟨h.1, H'.keepU h.2⟩) ?_
      refine q_val (wants0 rfl) (d := 43) (v := (.bool (ltU x26 pv))) rfl (fun _ H' => (by kernel_rfl)) ?_
      refine q_end ?_
      intro w28 H29
      refine then_normal ?_
      refine (bsplit (ltU x26 pv)).elim (fun b30 => ?_) (fun b30 => ?_)
      · refine wp_know 43 (.bool true) (congrArg Value.bool b30) ?_
        refine wp_ift rfl ?_
        refine w_skip ?_
        refine then_normal ?_
        refine w_block ?_
        refine w_lit ?_
        refine wl_pure (wants0 rfl) (d := 44) (v := (.int .i64 ((i : Int)))) rfl (by kernel_rfl) ?_
        refine wl_pure (wants0 rfl) (d := 45) (v := (.int .i64 ((i : Int) + 1))) rfl (e_int (z := (i : Int) + 1) (by kernel_rfl) (IntWalk.i64_in _ (by omega))) ?_
        refine wl_pure (wants0 rfl) (d := 10) (v := (.int .i64 ((i : Int) + 1))) rfl (by kernel_rfl) ?_
        refine w_nil ?_
        refine blk_normal ?_
        refine round_back ?_ _ ⟨(i + 1), (show ((.int .i64 ((i : Int) + 1)) : Value) = _ by first | rfl | go_num), (by omega), (hP.incr h27 b30), H29, rfl⟩ (by omega)
        exact (same_upd rfl (same_upd rfl (same_upd rfl (same_upd rfl (same_upd rfl (same_upd rfl (same_upd rfl (same_upd rfl (same_upd rfl (same_upd rfl (same_upd rfl (same_upd rfl (same_upd rfl (same_upd rfl (same_upd rfl (same_upd rfl (same_upd rfl (same_upd rfl (same_upd rfl (same_upd rfl (same_ovr)))))))))))))))))))))
      · refine wp_know 43 (.bool false) (congrArg Value.bool b30) ?_
        refine wp_iff rfl ?_
        refine w_exit ?_
        refine then_exit ?_
        refine back_exit ?_
        refine blk_hit ?_
        refine meetR_at ?_ ⟨i, rfl, (by omega), hP, (fun _ => ⟨x26, h27, b30⟩), H29⟩
        exact (same_upd rfl (same_upd rfl (same_upd rfl (same_upd rfl (same_upd rfl (same_upd rfl (same_upd rfl (same_upd rfl (same_upd rfl (same_upd rfl (same_upd rfl (same_upd rfl (same_upd rfl (same_upd rfl (same_upd rfl (same_upd rfl (same_upd rfl (same_ovr2 rfl (same_refl)))))))))))))))))))
    · have g31 := of_decide_eq_false b23
      refine q_know 33 (.bool false) (congrArg Value.bool b23) ?_
      have g32 := of_decide_eq_false b23
      refine q_pass (wantsN 3 33 true rfl (by kernel_rfl) rfl (by kernel_rfl)) rfl ?_
      refine q_pass (wantsN 3 33 true rfl (by kernel_rfl) rfl (by kernel_rfl)) rfl ?_
      refine q_pass (wantsN 3 33 true rfl (by kernel_rfl) rfl (by kernel_rfl)) rfl ?_
      refine q_pass (wantsN 3 33 true rfl (by kernel_rfl) rfl (by kernel_rfl)) rfl ?_
      refine q_pass (wantsN 3 33 true rfl (by kernel_rfl) rfl (by kernel_rfl)) rfl ?_
      refine q_pass (wantsN 3 33 true rfl (by kernel_rfl) rfl (by kernel_rfl)) rfl ?_
      refine q_pass (wantsN 3 33 true rfl (by kernel_rfl) rfl (by kernel_rfl)) rfl ?_
      refine q_pass (wantsN 3 33 true rfl (by kernel_rfl) rfl (by kernel_rfl)) rfl ?_
      refine q_pass (wantsN 3 33 true rfl (by kernel_rfl) rfl (by kernel_rfl)) rfl ?_
      refine q_val (wants0 rfl) (d := 43) (v := (.bool false)) rfl (fun _ H' => (by kernel_rfl)) ?_
      refine q_end ?_
      intro w33 H34
      refine then_normal ?_
      refine wp_iff rfl ?_
      refine w_exit ?_
      refine then_exit ?_
      refine back_exit ?_
      refine blk_hit ?_
      refine meetR_at ?_ ⟨i, rfl, (by omega), hP, (fun q => absurd q (by omega)), H34⟩
      exact (same_upd rfl (same_upd rfl (same_upd rfl (same_upd rfl (same_upd rfl (same_upd rfl (same_upd rfl (same_upd rfl (same_upd rfl (same_upd rfl (same_upd rfl (same_upd rfl (same_upd rfl (same_upd rfl (same_upd rfl (same_upd rfl (same_ovr2 rfl (same_refl))))))))))))))))))
  · rintro f35 w36 ⟨i, v38, hi, hP, hSi, H37⟩
    refine wp_know 10 _ v38 ?_
    refine wp_meetR [11, 46, 47, 48, 49, 50, 51, 52, 53, 54, 55, 56, 57, 58, 59, 60, 61, 62] (fun G_ W_ => ∃ (j : Nat), G_ 11 = (.int .i64 ((j : Int))) ∧ (i ≤ j + 1 ∧ j < b ∧ a ≤ j ∧ j ≤ (b - 1)) ∧ (Part ltU a i j b pv A1) ∧ (StopJ (fun x => ltU x pv) i j A1) ∧ Sat w [rowU g n c A1, restC w (rowU g n c A).fp] W_) ?_ ?_
    · refine w_block ?_
      refine wp_round [11, 46, 47, 48, 49, 50, 51, 52, 53, 54, 55, 56, 57, 58, 59, 60, 61, 62] (fun F_ W_ m_ => ∃ (j : Nat), F_ 11 = (.int .i64 ((j : Int))) ∧ (i ≤ j + 1 ∧ j < b ∧ a ≤ j ∧ j ≤ (b - 1)) ∧ (Part ltU a i j b pv A1) ∧ Sat w [rowU g n c A1, restC w (rowU g n c A).fp] W_ ∧ m_ = j + 1) _ ⟨(b - 1), (show ((.int .i64 (((b - 1 : Nat) : Int))) : Value) = _ by first | rfl | go_num), (by omega), hP, H37, rfl⟩ ?_
      rintro g40 w41 _ ⟨j, v43, hj, hP, H42, rfl⟩
      refine wp_know 11 _ v43 ?_
      skip
      refine w_seq ?_
      refine w_seq ?_
      refine q_start H42 (by kernel_rfl) (by kernel_rfl) ?_
      refine q_val (wants0 rfl) (d := 46) (v := (.int .i64 ((i : Int)))) rfl (fun _ H' => (by kernel_rfl)) ?_
      refine q_val (wants0 rfl) (d := 47) (v := (.int .i64 ((j : Int)))) rfl (fun _ H' => (by kernel_rfl)) ?_
      refine q_val (wants0 rfl) (d := 48) (v := (.bool (decide ((i : Int) ≤ (j : Int))))) rfl (fun _ H' => (by kernel_rfl)) ?_
      refine q_val (wants0 rfl) (d := 49) (v := (.bool (decide ((i : Int) ≤ (j : Int))))) rfl (fun _ H' => (by kernel_rfl)) ?_
      refine (bsplit (decide ((i : Int) ≤ (j : Int)))).elim (fun b45 => ?_) (fun b45 => ?_)
      · have g46 := of_decide_eq_true b45
        refine q_know 49 (.bool true) (congrArg Value.bool b45) ?_
        have g47 := of_decide_eq_true b45
        refine q_val (wantsY 3 49 true rfl (by kernel_rfl) rfl (by kernel_rfl)) (d := 50) (v := (.slice (some ⟨g, 0, none⟩) n c)) rfl (fun _ H' => (by kernel_rfl)) ?_
        refine q_val (wantsY 3 49 true rfl (by kernel_rfl) rfl (by kernel_rfl)) (d := 51) (v := (.int .i64 ((j : Int)))) rfl (fun _ H' => (by kernel_rfl)) ?_
        refine q_val (wantsY 3 49 true rfl (by kernel_rfl) rfl (by kernel_rfl)) (d := 52) (v := (.pointer (some ⟨g, 0 + ((j : Int)).toNat * 1, none⟩))) rfl (fun _ H' => (e_indexAddr (E := 23) (by kernel_rfl) (by kernel_rfl) (Nat.le_of_ble_eq_true rfl) rfl rfl (by omega) (by omega))) ?_
        obtain ⟨x48, h49⟩ := get_at (show j < A1.length by omega)
        refine q_val (wantsY 3 49 true rfl (by kernel_rfl) rfl (by kernel_rfl)) (d := 53) (v := (.int .u64 (x48))) rfl (fun _ H' => (e_load1 rfl (by kernel_rfl) (rowU_cell (H'.at 0 rfl) h49 (show 0 + ((j : Int)).toNat * 1 = j by omega)))) ?_
        refine q_val (wantsY 3 49 true rfl (by kernel_rfl) rfl (by kernel_rfl)) (d := 54) (v := (.slice (some ⟨g, 0, none⟩) n c)) rfl (fun _ H' => (by kernel_rfl)) ?_
        refine q_val (wantsY 3 49 true rfl (by kernel_rfl) rfl (by kernel_rfl)) (d := 55) (v := (.int .i64 ((a : Int)))) rfl (fun _ H' => (by kernel_rfl)) ?_
        refine q_val (wantsY 3 49 true rfl (by kernel_rfl) rfl (by kernel_rfl)) (d := 56) (v := (.pointer (some ⟨g, 0 + ((a : Int)).toNat * 1, none⟩))) rfl (fun _ H' => (e_indexAddr (E := 23) (by kernel_rfl) (by kernel_rfl) (Nat.le_of_ble_eq_true rfl) rfl rfl (by omega) (by omega))) ?_
        refine q_val (wantsY 3 49 true rfl (by kernel_rfl) rfl (by kernel_rfl)) (d := 57) (v := (.int .u64 (pv))) rfl (fun _ H' => (e_load1 rfl (by kernel_rfl) (rowU_cell (H'.at 0 rfl) hP.at_ (show 0 + ((a : Int)).toNat * 1 = a by omega)))) ?_
        refine q_call (wantsY 3 49 true rfl (by kernel_rfl) rfl (by kernel_rfl)) (d := 58) (v := (.bool (ltU x48 pv))) rfl (fun _ _ => by kernel_rfl) (fun w' H' => (lessU_any w' x48 pv).mono fun _ _ h => ⟨h.1, H'.keepU h.2⟩) ?_
        refine q_val (wantsY 3 49 true rfl (by kernel_rfl) rfl (by kernel_rfl)) (d := 59) (v := (.bool (!(ltU x48 pv)))) rfl (fun _ H' => (by kernel_rfl)) ?_
        refine q_val (wants0 rfl) (d := 60) (v := (.bool (!(ltU x48 pv)))) rfl (fun _ H' => (by kernel_rfl)) ?_
        refine q_end ?_
        intro w50 H51
        refine then_normal ?_
        refine (bsplit (!(ltU x48 pv))).elim (fun b52 => ?_) (fun b52 => ?_)
        · have g53 := bnot_true b52
          refine wp_know 60 (.bool true) (congrArg Value.bool b52) ?_
          have g54 := bnot_true b52
          refine wp_ift rfl ?_
          refine w_skip ?_
          refine then_normal ?_
          refine w_block ?_
          refine w_lit ?_
          refine wl_pure (wants0 rfl) (d := 61) (v := (.int .i64 ((j : Int)))) rfl (by kernel_rfl) ?_
          refine wl_pure (wants0 rfl) (d := 62) (v := (.int .i64 ((j : Int) - 1))) rfl (e_int (z := (j : Int) - 1) (by kernel_rfl) (IntWalk.i64_in _ (by omega))) ?_
          refine wl_pure (wants0 rfl) (d := 11) (v := (.int .i64 ((j : Int) - 1))) rfl (by kernel_rfl) ?_
          refine w_nil ?_
          refine blk_normal ?_
          refine round_back ?_ _ ⟨(j - 1), (show ((.int .i64 ((j : Int) - 1)) : Value) = _ by first | rfl | go_num), (by omega), (hP.decr (by omega) h49 (bnot_true b52)), H51, rfl⟩ (by omega)
          exact (same_upd rfl (same_upd rfl (same_upd rfl (same_upd rfl (same_upd rfl (same_upd rfl (same_upd rfl (same_upd rfl (same_upd rfl (same_upd rfl (same_upd rfl (same_upd rfl (same_upd rfl (same_upd rfl (same_upd rfl (same_upd rfl (same_upd rfl (same_upd rfl (same_upd rfl (same_upd rfl (same_upd rfl (same_ovr))))))))))))))))))))))
        · have g55 := bnot_false b52
          refine wp_know 60 (.bool false) (congrArg Value.bool b52) ?_
          have g56 := bnot_false b52
          refine wp_iff rfl ?_
          refine w_exit ?_
          refine then_exit ?_
          refine back_exit ?_
          refine blk_hit ?_
          refine meetR_at ?_ ⟨j, rfl, (by omega), hP, (fun _ => ⟨x48, h49, (bnot_false b52)⟩), H51⟩
          exact (same_upd rfl (same_upd rfl (same_upd rfl (same_upd rfl (same_upd rfl (same_upd rfl (same_upd rfl (same_upd rfl (same_upd rfl (same_upd rfl (same_upd rfl (same_upd rfl (same_upd rfl (same_upd rfl (same_upd rfl (same_upd rfl (same_upd rfl (same_upd rfl (same_ovr2 rfl (same_refl))))))))))))))))))))
      · have g57 := of_decide_eq_false b45
        refine q_know 49 (.bool false) (congrArg Value.bool b45) ?_
        have g58 := of_decide_eq_false b45
        refine q_pass (wantsN 3 49 true rfl (by kernel_rfl) rfl (by kernel_rfl)) rfl ?_
        refine q_pass (wantsN 3 49 true rfl (by kernel_rfl) rfl (by kernel_rfl)) rfl ?_
        refine q_pass (wantsN 3 49 true rfl (by kernel_rfl) rfl (by kernel_rfl)) rfl ?_
        refine q_pass (wantsN 3 49 true rfl (by kernel_rfl) rfl (by kernel_rfl)) rfl ?_
        refine q_pass (wantsN 3 49 true rfl (by kernel_rfl) rfl (by kernel_rfl)) rfl ?_
        refine q_pass (wantsN 3 49 true rfl (by kernel_rfl) rfl (by kernel_rfl)) rfl ?_
        refine q_pass (wantsN 3 49 true rfl (by kernel_rfl) rfl (by kernel_rfl)) rfl ?_
        refine q_pass (wantsN 3 49 true rfl (by kernel_rfl) rfl (by kernel_rfl)) rfl ?_
        refine q_pass (wantsN 3 49 true rfl (by kernel_rfl) rfl (by kernel_rfl)) rfl ?_
        refine q_pass (wantsN 3 49 true rfl (by kernel_rfl) rfl (by kernel_rfl)) rfl ?_
        refine q_val (wants0 rfl) (d := 60) (v := (.bool false)) rfl (fun _ H' => (by kernel_rfl)) ?_
        refine q_end ?_
        intro w59 H60
        refine then_normal ?_
        refine wp_iff rfl ?_
        refine w_exit ?_
        refine then_exit ?_
        refine back_exit ?_
        refine blk_hit ?_
        refine meetR_at ?_ ⟨j, rfl, (by omega), hP, (fun q => absurd q (by omega)), H60⟩
        exact (same_upd rfl (same_upd rfl (same_upd rfl (same_upd rfl (same_upd rfl (same_upd rfl (same_upd rfl (same_upd rfl (same_upd rfl (same_upd rfl (same_upd rfl (same_upd rfl (same_upd rfl (same_upd rfl (same_upd rfl (same_upd rfl (same_upd rfl (same_ovr2 rfl (same_refl)))))))))))))))))))
    · rintro f61 w62 ⟨j, v64, hj, hP, hSj, H63⟩
      refine wp_know 11 _ v64 ?_
      refine w_seq ?_
      refine w_seq ?_
      refine w_lit ?_
      refine wl_pure (wants0 rfl) (d := 63) (v := (.int .i64 ((i : Int)))) rfl (by kernel_rfl) ?_
      refine wl_pure (wants0 rfl) (d := 64) (v := (.int .i64 ((j : Int)))) rfl (by kernel_rfl) ?_
      refine wl_pure (wants0 rfl) (d := 65) (v := (.bool (decide ((i : Int) > (j : Int))))) rfl (by kernel_rfl) ?_
      refine w_nil ?_
      refine then_normal ?_
      refine (bsplit (decide ((i : Int) > (j : Int)))).elim (fun b65 => ?_) (fun b65 => ?_)
      · have g66 := of_decide_eq_true b65
        refine wp_know 65 (.bool true) (congrArg Value.bool b65) ?_
        have g67 := of_decide_eq_true b65
        refine wp_ift rfl ?_
        refine w_seq ?_
        obtain ⟨xj, hxj⟩ := get_at (show j < A1.length by omega)
        have hcut := hP.done hw (by omega) (by omega) (by omega) hxj (fun q => hP.lo j xj (by omega) (by omega) hxj)
        refine k_start H63 [rowU g n c A1, restC w (rowU g n c A).fp] [13, 15] 16 rfl (by kernel_rfl) (fun Hx => (Hx.pick [0, 1] (by decide))) ?_
        intro w68 H69 S70
        refine k_pure 0 rfl (by kernel_rfl) (by kernel_rfl) (by kernel_rfl) (fun _ _ _ h => h) S70 (wants0 rfl) rfl (d := 66) (v := (.slice (some ⟨g, 0, none⟩) n c)) rfl (fun _ => (by kernel_rfl)) ?_
        refine k_pure 1 rfl (by kernel_rfl) (by kernel_rfl) (by kernel_rfl) (fun _ _ _ h => h) S70 (wants0 rfl) rfl (d := 67) (v := (.int .i64 ((j : Int)))) rfl (fun _ => (by kernel_rfl)) ?_
        refine k_pure 2 rfl (by kernel_rfl) (by kernel_rfl) (by kernel_rfl) (fun _ _ _ h => h) S70 (wants0 rfl) rfl (d := 68) (v := (.slice (some ⟨g, 0, none⟩) n c)) rfl (fun _ => (by kernel_rfl)) ?_
        refine k_pure 3 rfl (by kernel_rfl) (by kernel_rfl) (by kernel_rfl) (fun _ _ _ h => h) S70 (wants0 rfl) rfl (d := 69) (v := (.int .i64 ((a : Int)))) rfl (fun _ => (by kernel_rfl)) ?_
        refine k_pure 4 rfl (by kernel_rfl) (by kernel_rfl) (by kernel_rfl) (fun _ _ _ h => h) S70 (wants0 rfl) rfl (d := 70) (v := (.slice (some ⟨g, 0, none⟩) n c)) rfl (fun _ => (by kernel_rfl)) ?_
        refine k_pure 5 rfl (by kernel_rfl) (by kernel_rfl) (by kernel_rfl) (fun _ _ _ h => h) S70 (wants0 rfl) rfl (d := 71) (v := (.int .i64 ((a : Int)))) rfl (fun _ => (by kernel_rfl)) ?_
        refine k_pure 6 rfl (by kernel_rfl) (by kernel_rfl) (by kernel_rfl) (fun _ _ _ h => h) S70 (wants0 rfl) rfl (d := 72) (v := (.pointer (some ⟨g, 0 + ((a : Int)).toNat * 1, none⟩))) rfl (fun _ => (e_indexAddr (E := 23) (by kernel_rfl) (by kernel_rfl) (Nat.le_of_ble_eq_true rfl) rfl rfl (by omega) (by omega))) ?_
        refine k_val 7 rfl (by kernel_rfl) (by kernel_rfl) (by kernel_rfl) (fun _ _ _ h => h) S70 (wants0 rfl) rfl (by kernel_rfl) (d := 73) (v := (.int .u64 (pv))) rfl (fun _ H' => (e_load1 rfl (by kernel_rfl) (rowU_cell (H'.at 0 rfl) hP.at_ (show 0 + ((a : Int)).toNat * 1 = a by omega)))) ?_
        refine k_pure 8 rfl (by kernel_rfl) (by kernel_rfl) (by kernel_rfl) (fun _ _ _ h => h) S70 (wants0 rfl) rfl (d := 74) (v := (.slice (some ⟨g, 0, none⟩) n c)) rfl (fun _ => (by kernel_rfl)) ?_
        refine k_pure 9 rfl (by kernel_rfl) (by kernel_rfl) (by kernel_rfl) (fun _ _ _ h => h) S70 (wants0 rfl) rfl (d := 75) (v := (.int .i64 ((j : Int)))) rfl (fun _ => (by kernel_rfl)) ?_
        refine k_pure 10 rfl (by kernel_rfl) (by kernel_rfl) (by kernel_rfl) (fun _ _ _ h => h) S70 (wants0 rfl) rfl (d := 76) (v := (.pointer (some ⟨g, 0 + ((j : Int)).toNat * 1, none⟩))) rfl (fun _ => (e_indexAddr (E := 23) (by kernel_rfl) (by kernel_rfl) (Nat.le_of_ble_eq_true rfl) rfl rfl (by omega) (by omega))) ?_
        refine k_val 11 rfl (by kernel_rfl) (by kernel_rfl) (by kernel_rfl) (fun _ _ _ h => h) S70 (wants0 rfl) rfl (by kernel_rfl) (d := 77) (v := (.int .u64 (xj))) rfl (fun _ H' => (e_load1 rfl (by kernel_rfl) (rowU_cell (H'.at 0 rfl) hxj (show 0 + ((j : Int)).toNat * 1 = j by omega)))) ?_
        refine k_pure 12 rfl (by kernel_rfl) (by kernel_rfl) (by kernel_rfl) (fun _ _ _ h => h) S70 (wants0 rfl) rfl (d := 78) (v := (.pointer (some ⟨g, 0 + ((j : Int)).toNat * 1, none⟩))) rfl (fun _ => (e_indexAddr (E := 23) (by kernel_rfl) (by kernel_rfl) (Nat.le_of_ble_eq_true rfl) rfl rfl (by omega) (by omega))) ?_
        refine k_brk 13 (Sat w [restC w (rowU g n c A).fp]) rfl (by kernel_rfl) (wants0 rfl) rfl (fun K71 hK71 => ?_)
        refine d_storeU rfl H69 0 rfl rfl rfl (by kernel_rfl) (show 0 + ((j : Int)).toNat * 1 = j by omega) (by omega) ?_
        intro w72 (H73 : Sat w [rowU g n c (A1.set j pv), restC w (rowU g n c A).fp] w72)
        have hlH73 : (A1.set j pv).length = A1.length := List.length_set
        have S74 := H73.pick [1] (by decide)
        refine hK71 _ _ S74 ?_
        clear hK71 K71
        refine h_val 14 rfl (by kernel_rfl) (by kernel_rfl) (by kernel_rfl) (fun _ _ _ h => h) S74 (wants0 rfl) (d := 79) (v := (.pointer (some ⟨g, 0 + ((a : Int)).toNat * 1, none⟩))) rfl (fun _ H' => (e_indexAddr (E := 23) (by kernel_rfl) (by kernel_rfl) (Nat.le_of_ble_eq_true rfl) rfl rfl (by omega) (by omega))) ?_
        refine h_do 15 rfl (by kernel_rfl) (wants0 rfl) (fun K75 hK75 => ?_)
        refine d_storeU rfl H73 0 rfl rfl rfl (by kernel_rfl) (show 0 + ((a : Int)).toNat * 1 = a by omega) (by omega) ?_
        intro w76 (H77 : Sat w [rowU g n c ((A1.set j pv).set a xj), restC w (rowU g n c A).fp] w76)
        have hlH77 : ((A1.set j pv).set a xj).length = (A1.set j pv).length := List.length_set
        have S78 := H77.pick [1] (by decide)
        refine hK75 _ _ S78 ?_
        clear hK75 K75
        refine h_fin (by kernel_rfl) ?_
        refine then_normal ?_
        refine w_seq ?_
        refine w_lit ?_
        refine wl_pure (wants0 rfl) (d := 80) (v := (.int .i64 ((j : Int)))) rfl (by kernel_rfl) ?_
        refine wl_pure (wants0 rfl) (d := 8) (v := (.int .i64 ((j : Int)))) rfl (by kernel_rfl) ?_
        refine wl_pure (wants0 rfl) (d := 9) (v := (.bool true)) rfl (by kernel_rfl) ?_
        refine w_nil ?_
        refine then_normal ?_
        refine w_ret ?_
        refine then_ret ?_
        refine end2 rfl (res_tmp (v := (.int .i64 ((j : Int)))) rfl) (res_tmp (v := (.bool true)) rfl) ?_
        have hpm : ((A1.set j pv).set a xj)[j]? = some pv := by
          rw [get_swap hxj hP.at_]
          split
          · rename_i e; subst e; exact hxj.symm.trans hP.at_
          · exact if_pos rfl
        exact ⟨_, j, _, pv, rfl, (by omega), hS1.swap (by omega) (by omega) (by omega) (by omega) hxj hP.at_, (by omega), hpm, hcut, H77⟩
      · have g79 := of_decide_eq_false b65
        refine wp_know 65 (.bool false) (congrArg Value.bool b65) ?_
        have g80 := of_decide_eq_false b65
        refine wp_iff rfl ?_
        refine w_skip ?_
        refine then_normal ?_
        refine w_seq ?_
        obtain ⟨xi, hxi, hci⟩ := hSi (by omega)
        obtain ⟨xj, hxj, hcj⟩ := hSj (by omega)
        have hij := lt_of_unlike (p := (fun x => ltU x pv)) (by omega) hxi hxj hci hcj
        refine k_start H63 [rowU g n c A1, restC w (rowU g n c A).fp] [13, 15] 16 rfl (by kernel_rfl) (fun Hx => (Hx.pick [0, 1] (by decide))) ?_
        intro w81 H82 S83
        refine k_pure 0 rfl (by kernel_rfl) (by kernel_rfl) (by kernel_rfl) (fun _ _ _ h => h) S83 (wants0 rfl) rfl (d := 81) (v := (.slice (some ⟨g, 0, none⟩) n c)) rfl (fun _ => (by kernel_rfl)) ?_
        refine k_pure 1 rfl (by kernel_rfl) (by kernel_rfl) (by kernel_rfl) (fun _ _ _ h => h) S83 (wants0 rfl) rfl (d := 82) (v := (.int .i64 ((i : Int)))) rfl (fun _ => (by kernel_rfl)) ?_
        refine k_pure 2 rfl (by kernel_rfl) (by kernel_rfl) (by kernel_rfl) (fun _ _ _ h => h) S83 (wants0 rfl) rfl (d := 83) (v := (.slice (some ⟨g, 0, none⟩) n c)) rfl (fun _ => (by kernel_rfl)) ?_
        refine k_pure 3 rfl (by kernel_rfl) (by kernel_rfl) (by kernel_rfl) (fun _ _ _ h => h) S83 (wants0 rfl) rfl (d := 84) (v := (.int .i64 ((j : Int)))) rfl (fun _ => (by kernel_rfl)) ?_
        refine k_pure 4 rfl (by kernel_rfl) (by kernel_rfl) (by kernel_rfl) (fun _ _ _ h => h) S83 (wants0 rfl) rfl (d := 85) (v := (.slice (some ⟨g, 0, none⟩) n c)) rfl (fun _ => (by kernel_rfl)) ?_
        refine k_pure 5 rfl (by kernel_rfl) (by kernel_rfl) (by kernel_rfl) (fun _ _ _ h => h) S83 (wants0 rfl) rfl (d := 86) (v := (.int .i64 ((j : Int)))) rfl (fun _ => (by kernel_rfl)) ?_
        refine k_pure 6 rfl (by kernel_rfl) (by kernel_rfl) (by kernel_rfl) (fun _ _ _ h => h) S83 (wants0 rfl) rfl (d := 87) (v := (.pointer (some ⟨g, 0 + ((j : Int)).toNat * 1, none⟩))) rfl (fun _ => (e_indexAddr (E := 23) (by kernel_rfl) (by kernel_rfl) (Nat.le_of_ble_eq_true rfl) rfl rfl (by omega) (by omega))) ?_
        refine k_val 7 rfl (by kernel_rfl) (by kernel_rfl) (by kernel_rfl) (fun _ _ _ h => h) S83 (wants0 rfl) rfl (by kernel_rfl) (d := 88) (v := (.int .u64 (xj))) rfl (fun _ H' => (e_load1 rfl (by kernel_rfl) (rowU_cell (H'.at 0 rfl) hxj (show 0 + ((j : Int)).toNat * 1 = j by omega)))) ?_
        refine k_pure 8 rfl (by kernel_rfl) (by kernel_rfl) (by kernel_rfl) (fun _ _ _ h => h) S83 (wants0 rfl) rfl (d := 89) (v := (.slice (some ⟨g, 0, none⟩) n c)) rfl (fun _ => (by kernel_rfl)) ?_
        refine k_pure 9 rfl (by kernel_rfl) (by kernel_rfl) (by kernel_rfl) (fun _ _ _ h => h) S83 (wants0 rfl) rfl (d := 90) (v := (.int .i64 ((i : Int)))) rfl (fun _ => (by kernel_rfl)) ?_
        refine k_pure 10 rfl (by kernel_rfl) (by kernel_rfl) (by kernel_rfl) (fun _ _ _ h => h) S83 (wants0 rfl) rfl (d := 91) (v := (.pointer (some ⟨g, 0 + ((i : Int)).toNat * 1, none⟩))) rfl (fun _ => (e_indexAddr (E := 23) (by kernel_rfl) (by kernel_rfl) (Nat.le_of_ble_eq_true rfl) rfl rfl (by omega) (by omega))) ?_
        refine k_val 11 rfl (by kernel_rfl) (by kernel_rfl) (by kernel_rfl) (fun _ _ _ h => h) S83 (wants0 rfl) rfl (by kernel_rfl) (d := 92) (v := (.int .u64 (xi))) rfl (fun _ H' => (e_load1 rfl (by kernel_rfl) (rowU_cell (H'.at 0 rfl) hxi (show 0 + ((i : Int)).toNat * 1 = i by omega)))) ?_
        refine k_pure 12 rfl (by kernel_rfl) (by kernel_rfl) (by kernel_rfl) (fun _ _ _ h => h) S83 (wants0 rfl) rfl (d := 93) (v := (.pointer (some ⟨g, 0 + ((i : Int)).toNat * 1, none⟩))) rfl (fun _ => (e_indexAddr (E := 23) (by kernel_rfl) (by kernel_rfl) (Nat.le_of_ble_eq_true rfl) rfl rfl (by omega) (by omega))) ?_
        refine k_brk 13 (Sat w [restC w (rowU g n c A).fp]) rfl (by kernel_rfl) (wants0 rfl) rfl (fun K84 hK84 => ?_)
        refine d_storeU rfl H82 0 rfl rfl rfl (by kernel_rfl) (show 0 + ((i : Int)).toNat * 1 = i by omega) (by omega) ?_
        intro w85 (H86 : Sat w [rowU g n c (A1.set i xj), restC w (rowU g n c A).fp] w85)
        have hlH86 : (A1.set i xj).length = A1.length := List.length_set
        have S87 := H86.pick [1] (by decide)
        refine hK84 _ _ S87 ?_
        clear hK84 K84
        refine h_val 14 rfl (by kernel_rfl) (by kernel_rfl) (by kernel_rfl) (fun _ _ _ h => h) S87 (wants0 rfl) (d := 94) (v := (.pointer (some ⟨g, 0 + ((j : Int)).toNat * 1, none⟩))) rfl (fun _ H' => (e_indexAddr (E := 23) (by kernel_rfl) (by kernel_rfl) (Nat.le_of_ble_eq_true rfl) rfl rfl (by omega) (by omega))) ?_
        refine h_do 15 rfl (by kernel_rfl) (wants0 rfl) (fun K88 hK88 => ?_)
        refine d_storeU rfl H86 0 rfl rfl rfl (by kernel_rfl) (show 0 + ((j : Int)).toNat * 1 = j by omega) (by omega) ?_
        intro w89 (H90 : Sat w [rowU g n c ((A1.set i xj).set j xi), restC w (rowU g n c A).fp] w89)
        have hlH90 : ((A1.set i xj).set j xi).length = (A1.set i xj).length := List.length_set
        have S91 := H90.pick [1] (by decide)
        refine hK88 _ _ S91 ?_
        clear hK88 K88
        refine h_fin (by kernel_rfl) ?_
        refine then_normal ?_
        refine w_seq ?_
        refine w_lit ?_
        refine wl_pure (wants0 rfl) (d := 95) (v := (.int .i64 ((i : Int)))) rfl (by kernel_rfl) ?_
        refine wl_pure (wants0 rfl) (d := 96) (v := (.int .i64 ((i : Int) + 1))) rfl (e_int (z := (i : Int) + 1) (by kernel_rfl) (IntWalk.i64_in _ (by omega))) ?_
        refine wl_pure (wants0 rfl) (d := 10) (v := (.int .i64 ((i : Int) + 1))) rfl (by kernel_rfl) ?_
        refine w_nil ?_
        refine then_normal ?_
        refine w_seq ?_
        refine w_lit ?_
        refine wl_pure (wants0 rfl) (d := 97) (v := (.int .i64 ((j : Int)))) rfl (by kernel_rfl) ?_
        refine wl_pure (wants0 rfl) (d := 98) (v := (.int .i64 ((j : Int) - 1))) rfl (e_int (z := (j : Int) - 1) (by kernel_rfl) (IntWalk.i64_in _ (by omega))) ?_
        refine wl_pure (wants0 rfl) (d := 11) (v := (.int .i64 ((j : Int) - 1))) rfl (by kernel_rfl) ?_
        refine w_nil ?_
        refine then_normal ?_
        refine w_seq ?_
        refine w_block ?_
        refine wp_round [10, 11, 99, 100, 101, 102, 103, 104, 105, 106, 107, 108, 109, 110, 111, 112, 113, 114, 115, 116, 117, 118, 119, 120, 121, 122, 123, 124, 125, 126, 127, 128, 129, 130, 131, 132, 133, 134, 135, 136, 137, 138, 139, 140, 141, 142, 143, 144, 145, 146, 147, 148, 149, 150, 151, 152] (fun F_ W_ m_ => ∃ (i j : Nat) (B : List Int), F_ 10 = (.int .i64 ((i : Int))) ∧ F_ 11 = (.int .i64 ((j : Int))) ∧ (a + 1 ≤ i ∧ i ≤ j + 1 ∧ j < b ∧ a ≤ j) ∧ (B.length = n) ∧ (SegP a b A B) ∧ (Part ltU a i j b pv B) ∧ Sat w [rowU g n c B, restC w (rowU g n c A).fp] W_ ∧ m_ = j + 1 - i) _ ⟨(i + 1), (j - 1), ((A1.set i xj).set j xi), (show ((.int .i64 ((i : Int) + 1)) : Value) = _ by first | rfl | go_num), (show ((.int .i64 ((j : Int) - 1)) : Value) = _ by first | rfl | go_num), (by omega), (by omega), (hS1.swap (by omega) (by omega) (by omega) (by omega) hxi hxj), (hP.swap (by omega) hij hxi hxj hci hcj), H90, rfl⟩ ?_
        rintro g92 w93 _ ⟨i, j, B, v95, v96, hij0, hlB, hS, hP, H94, rfl⟩
        refine wp_know 10 _ v95 ?_
        refine wp_know 11 _ v96 ?_
        skip
        refine w_block ?_
        refine wp_meetR [10, 99, 100, 101, 102, 103, 104, 105, 106, 107, 108, 109, 110, 111, 112, 113, 114] (fun G_ W_ => ∃ (i1 : Nat), G_ 10 = (.int .i64 ((i1 : Int))) ∧ (a + 1 ≤ i1 ∧ i1 ≤ j + 1 ∧ i1 ≤ b ∧ i ≤ i1) ∧ (Part ltU a i1 j b pv B) ∧ (StopI (fun x => ltU x pv) i1 j B) ∧ Sat w [rowU g n c B, restC w (rowU g n c A).fp] W_) ?_ ?_
        · refine w_block ?_
          refine wp_round [10, 99, 100, 101, 102, 103, 104, 105, 106, 107, 108, 109, 110, 111, 112, 113, 114] (fun F_ W_ m_ => ∃ (i1 : Nat), F_ 10 = (.int .i64 ((i1 : Int))) ∧ (a + 1 ≤ i1 ∧ i1 ≤ j + 1 ∧ i1 ≤ b ∧ i ≤ i1) ∧ (Part ltU a i1 j b pv B) ∧ Sat w [rowU g n c B, restC w (rowU g n c A).fp] W_ ∧ m_ = b + 1 - i1) _ ⟨i, (show ((.int .i64 ((i : Int))) : Value) = _ by first | rfl | go_num), (by omega), hP, H94, rfl⟩ ?_
          rintro g99 w100 _ ⟨i1, v102, hi, hP, H101, rfl⟩
          refine wp_know 10 _ v102 ?_
          skip
          refine w_seq ?_
          refine w_seq ?_
          refine q_start H101 (by kernel_rfl) (by kernel_rfl) ?_
          refine q_val (wants0 rfl) (d := 99) (v := (.int .i64 ((i1 : Int)))) rfl (fun _ H' => (by kernel_rfl)) ?_
          refine q_val (wants0 rfl) (d := 100) (v := (.int .i64 ((j : Int)))) rfl (fun _ H' => (by kernel_rfl)) ?_
          refine q_val (wants0 rfl) (d := 101) (v := (.bool (decide ((i1 : Int) ≤ (j : Int))))) rfl (fun _ H' => (by kernel_rfl)) ?_
          refine q_val (wants0 rfl) (d := 102) (v := (.bool (decide ((i1 : Int) ≤ (j : Int))))) rfl (fun _ H' => (by kernel_rfl)) ?_
          refine (bsplit (decide ((i1 : Int) ≤ (j : Int)))).elim (fun b104 => ?_) (fun b104 => ?_)
          · have g105 := of_decide_eq_true b104
            refine q_know 102 (.bool true) (congrArg Value.bool b104) ?_
            have g106 := of_decide_eq_true b104
            refine q_val (wantsY 3 102 true rfl (by kernel_rfl) rfl (by kernel_rfl)) (d := 103) (v := (.slice (some ⟨g, 0, none⟩) n c)) rfl (fun _ H' => (by kernel_rfl)) ?_
            refine q_val (wantsY 3 102 true rfl (by kernel_rfl) rfl (by kernel_rfl)) (d := 104) (v := (.int .i64 ((i1 : Int)))) rfl (fun _ H' => (by kernel_rfl)) ?_
            refine q_val (wantsY 3 102 true rfl (by kernel_rfl) rfl (by kernel_rfl)) (d := 105) (v := (.pointer (some ⟨g, 0 + ((i1 : Int)).toNat * 1, none⟩))) rfl (fun _ H' => (e_indexAddr (E := 23) (by kernel_rfl) (by kernel_rfl) (Nat.le_of_ble_eq_true rfl) rfl rfl (by omega) (by omega))) ?_
            obtain ⟨x107, h108⟩ := get_at (show i1 < B.length by omega)
            refine q_val (wantsY 3 102 true rfl (by kernel_rfl) rfl (by kernel_rfl)) (d := 106) (v := (.int .u64 (x107))) rfl (fun _ H' => (e_load1 rfl (by kernel_rfl) (rowU_cell (H'.at 0 rfl) h108 (show 0 + ((i1 : Int)).toNat * 1 = i1 by omega)))) ?_
            refine q_val (wantsY 3 102 true rfl (by kernel_rfl) rfl (by kernel_rfl)) (d := 107) (v := (.slice (some ⟨g, 0, none⟩) n c)) rfl (fun _ H' => (by kernel_rfl)) ?_
            refine q_val (wantsY 3 102 true rfl (by kernel_rfl) rfl (by kernel_rfl)) (d := 108) (v := (.int .i64 ((a : Int)))) rfl (fun _ H' => (by kernel_rfl)) ?_
            refine q_val (wantsY 3 102 true rfl (by kernel_rfl) rfl (by kernel_rfl)) (d := 109) (v := (.pointer (some ⟨g, 0 + ((a : Int)).toNat * 1, none⟩))) rfl (fun _ H' => (e_indexAddr (E := 23) (by kernel_rfl) (by kernel_rfl) (Nat.le_of_ble_eq_true rfl) rfl rfl (by omega) (by omega))) ?_
            refine q_val (wantsY 3 102 true rfl (by kernel_rfl) rfl (by kernel_rfl)) (d := 110) (v := (.int .u64 (pv))) rfl (fun _ H' => (e_load1 rfl (by kernel_rfl) (rowU_cell (H'.at 0 rfl) hP.at_ (show 0 + ((a : Int)).toNat * 1 = a by omega)))) ?_
            refine q_call (wantsY 3 102 true rfl (by kernel_rfl) rfl (by kernel_rfl)) (d := 111) (v := (.bool (ltU x107 pv))) rfl (fun _ _ => by kernel_rfl) (fun w' H' => (lessU_any w' x107 pv).mono fun _ _ h => ⟨h.1, H'.keepU h.2⟩) ?_
            refine q_val (wants0 rfl) (d := 112) (v := (.bool (ltU x107 pv))) rfl (fun _ H' => (by kernel_rfl)) ?_
            refine q_end ?_
            intro w109 H110
            refine then_normal ?_
            refine (bsplit (ltU x107 pv)).elim (fun b111 => ?_) (fun b111 => ?_)
            · refine wp_know 112 (.bool true) (congrArg Value.bool b111) ?_
              refine wp_ift rfl ?_
              refine w_skip ?_
              refine then_normal ?_
              refine w_block ?_
              refine w_lit ?_
              refine wl_pure (wants0 rfl) (d := 113) (v := (.int .i64 ((i1 : Int)))) rfl (by kernel_rfl) ?_
              refine wl_pure (wants0 rfl) (d := 114) (v := (.int .i64 ((i1 : Int) + 1))) rfl (e_int (z := (i1 : Int) + 1) (by kernel_rfl) (IntWalk.i64_in _ (by omega))) ?_
              refine wl_pure (wants0 rfl) (d := 10) (v := (.int .i64 ((i1 : Int) + 1))) rfl (by kernel_rfl) ?_
              refine w_nil ?_
              refine blk_normal ?_
              refine round_back ?_ _ ⟨(i1 + 1), (show ((.int .i64 ((i1 : Int) + 1)) : Value) = _ by first | rfl | go_num), (by omega), (hP.incr h108 b111), H110, rfl⟩ (by omega)
              exact (same_upd rfl (same_upd rfl (same_upd rfl (same_upd rfl (same_upd rfl (same_upd rfl (same_upd rfl (same_upd rfl (same_upd rfl (same_upd rfl (same_upd rfl (same_upd rfl (same_upd rfl (same_upd rfl (same_upd rfl (same_upd rfl (same_upd rfl (same_upd rfl (same_upd rfl (same_upd rfl (same_ovr)))))))))))))))))))))
            · refine wp_know 112 (.bool false) (congrArg Value.bool b111) ?_
              refine wp_iff rfl ?_
              refine w_exit ?_
              refine then_exit ?_
              refine back_exit ?_
              refine blk_hit ?_
              refine meetR_at ?_ ⟨i1, rfl, (by omega), hP, (fun _ => ⟨x107, h108, b111⟩), H110⟩
              exact (same_upd rfl (same_upd rfl (same_upd rfl (same_upd rfl (same_upd rfl (same_upd rfl (same_upd rfl (same_upd rfl (same_upd rfl (same_upd rfl (same_upd rfl (same_upd rfl (same_upd rfl (same_upd rfl (same_upd rfl (same_upd rfl (same_upd rfl (same_ovr2 rfl (same_refl)))))))))))))))))))
          · have g112 := of_decide_eq_false b104
            refine q_know 102 (.bool false) (congrArg Value.bool b104) ?_
            have g113 := of_decide_eq_false b104
            refine q_pass (wantsN 3 102 true rfl (by kernel_rfl) rfl (by kernel_rfl)) rfl ?_
            refine q_pass (wantsN 3 102 true rfl (by kernel_rfl) rfl (by kernel_rfl)) rfl ?_
            refine q_pass (wantsN 3 102 true rfl (by kernel_rfl) rfl (by kernel_rfl)) rfl ?_
            refine q_pass (wantsN 3 102 true rfl (by kernel_rfl) rfl (by kernel_rfl)) rfl ?_
            refine q_pass (wantsN 3 102 true rfl (by kernel_rfl) rfl (by kernel_rfl)) rfl ?_
            refine q_pass (wantsN 3 102 true rfl (by kernel_rfl) rfl (by kernel_rfl)) rfl ?_
            refine q_pass (wantsN 3 102 true rfl (by kernel_rfl) rfl (by kernel_rfl)) rfl ?_
            refine q_pass (wantsN 3 102 true rfl (by kernel_rfl) rfl (by kernel_rfl)) rfl ?_
            refine q_pass (wantsN 3 102 true rfl (by kernel_rfl) rfl (by kernel_rfl)) rfl ?_
            refine q_val (wants0 rfl) (d := 112) (v := (.bool false)) rfl (fun _ H' => (by kernel_rfl)) ?_
            refine q_end ?_
            intro w114 H115
            refine then_normal ?_
            refine wp_iff rfl ?_
            refine w_exit ?_
            refine then_exit ?_
            refine back_exit ?_
            refine blk_hit ?_
            refine meetR_at ?_ ⟨i1, rfl, (by omega), hP, (fun q => absurd q (by omega)), H115⟩
            exact (same_upd rfl (same_upd rfl (same_upd rfl (same_upd rfl (same_upd rfl (same_upd rfl (same_upd rfl (same_upd rfl (same_upd rfl (same_upd rfl (same_upd rfl (same_upd rfl (same_upd rfl (same_upd rfl (same_upd rfl (same_upd rfl (same_ovr2 rfl (same_refl))))))))))))))))))
        · rintro f116 w117 ⟨i1, v119, hi, hP, hSi, H118⟩
          refine wp_know 10 _ v119 ?_
          refine wp_meetR [11, 115, 116, 117, 118, 119, 120, 121, 122, 123, 124, 125, 126, 127, 128, 129, 130, 131] (fun G_ W_ => ∃ (j1 : Nat), G_ 11 = (.int .i64 ((j1 : Int))) ∧ (i1 ≤ j1 + 1 ∧ j1 < b ∧ a ≤ j1 ∧ j1 ≤ j) ∧ (Part ltU a i1 j1 b pv B) ∧ (StopJ (fun x => ltU x pv) i1 j1 B) ∧ Sat w [rowU g n c B, restC w (rowU g n c A).fp] W_) ?_ ?_
          · refine w_block ?_
            refine wp_round [11, 115, 116, 117, 118, 119, 120, 121, 122, 123, 124, 125, 126, 127, 128, 129, 130, 131] (fun F_ W_ m_ => ∃ (j1 : Nat), F_ 11 = (.int .i64 ((j1 : Int))) ∧ (i1 ≤ j1 + 1 ∧ j1 < b ∧ a ≤ j1 ∧ j1 ≤ j) ∧ (Part ltU a i1 j1 b pv B) ∧ Sat w [rowU g n c B, restC w (rowU g n c A).fp] W_ ∧ m_ = j1 + 1) _ ⟨j, (show ((.int .i64 ((j : Int))) : Value) = _ by first | rfl | go_num), (by omega), hP, H118, rfl⟩ ?_
            rintro g121 w122 _ ⟨j1, v124, hj, hP, H123, rfl⟩
            refine wp_know 11 _ v124 ?_
            skip
            refine w_seq ?_
            refine w_seq ?_
            refine q_start H123 (by kernel_rfl) (by kernel_rfl) ?_
            refine q_val (wants0 rfl) (d := 115) (v := (.int .i64 ((i1 : Int)))) rfl (fun _ H' => (by kernel_rfl)) ?_
            refine q_val (wants0 rfl) (d := 116) (v := (.int .i64 ((j1 : Int)))) rfl (fun _ H' => (by kernel_rfl)) ?_
            refine q_val (wants0 rfl) (d := 117) (v := (.bool (decide ((i1 : Int) ≤ (j1 : Int))))) rfl (fun _ H' => (by kernel_rfl)) ?_
            refine q_val (wants0 rfl) (d := 118) (v := (.bool (decide ((i1 : Int) ≤ (j1 : Int))))) rfl (fun _ H' => (by kernel_rfl)) ?_
            refine (bsplit (decide ((i1 : Int) ≤ (j1 : Int)))).elim (fun b126 => ?_) (fun b126 => ?_)
            · have g127 := of_decide_eq_true b126
              refine q_know 118 (.bool true) (congrArg Value.bool b126) ?_
              have g128 := of_decide_eq_true b126
              refine q_val (wantsY 3 118 true rfl (by kernel_rfl) rfl (by kernel_rfl)) (d := 119) (v := (.slice (some ⟨g, 0, none⟩) n c)) rfl (fun _ H' => (by kernel_rfl)) ?_
              refine q_val (wantsY 3 118 true rfl (by kernel_rfl) rfl (by kernel_rfl)) (d := 120) (v := (.int .i64 ((j1 : Int)))) rfl (fun _ H' => (by kernel_rfl)) ?_
              refine q_val (wantsY 3 118 true rfl (by kernel_rfl) rfl (by kernel_rfl)) (d := 121) (v := (.pointer (some ⟨g, 0 + ((j1 : Int)).toNat * 1, none⟩))) rfl (fun _ H' => (e_indexAddr (E := 23) (by kernel_rfl) (by kernel_rfl) (Nat.le_of_ble_eq_true rfl) rfl rfl (by omega) (by omega))) ?_
              obtain ⟨x129, h130⟩ := get_at (show j1 < B.length by omega)
              refine q_val (wantsY 3 118 true rfl (by kernel_rfl) rfl (by kernel_rfl)) (d := 122) (v := (.int .u64 (x129))) rfl (fun _ H' => (e_load1 rfl (by kernel_rfl) (rowU_cell (H'.at 0 rfl) h130 (show 0 + ((j1 : Int)).toNat * 1 = j1 by omega)))) ?_
              refine q_val (wantsY 3 118 true rfl (by kernel_rfl) rfl (by kernel_rfl)) (d := 123) (v := (.slice (some ⟨g, 0, none⟩) n c)) rfl (fun _ H' => (by kernel_rfl)) ?_
              refine q_val (wantsY 3 118 true rfl (by kernel_rfl) rfl (by kernel_rfl)) (d := 124) (v := (.int .i64 ((a : Int)))) rfl (fun _ H' => (by kernel_rfl)) ?_
              refine q_val (wantsY 3 118 true rfl (by kernel_rfl) rfl (by kernel_rfl)) (d := 125) (v := (.pointer (some ⟨g, 0 + ((a : Int)).toNat * 1, none⟩))) rfl (fun _ H' => (e_indexAddr (E := 23) (by kernel_rfl) (by kernel_rfl) (Nat.le_of_ble_eq_true rfl) rfl rfl (by omega) (by omega))) ?_
              refine q_val (wantsY 3 118 true rfl (by kernel_rfl) rfl (by kernel_rfl)) (d := 126) (v := (.int .u64 (pv))) rfl (fun _ H' => (e_load1 rfl (by kernel_rfl) (rowU_cell (H'.at 0 rfl) hP.at_ (show 0 + ((a : Int)).toNat * 1 = a by omega)))) ?_
              refine q_call (wantsY 3 118 true rfl (by kernel_rfl) rfl (by kernel_rfl)) (d := 127) (v := (.bool (ltU x129 pv))) rfl (fun _ _ => by kernel_rfl) (fun w' H' => (lessU_any w' x129 pv).mono fun _ _ h => ⟨h.1, H'.keepU h.2⟩) ?_
              refine q_val (wantsY 3 118 true rfl (by kernel_rfl) rfl (by kernel_rfl)) (d := 128) (v := (.bool (!(ltU x129 pv)))) rfl (fun _ H' => (by kernel_rfl)) ?_
              refine q_val (wants0 rfl) (d := 129) (v := (.bool (!(ltU x129 pv)))) rfl (fun _ H' => (by kernel_rfl)) ?_
              refine q_end ?_
              intro w131 H132
              refine then_normal ?_
              refine (bsplit (!(ltU x129 pv))).elim (fun b133 => ?_) (fun b133 => ?_)
              · have g134 := bnot_true b133
                refine wp_know 129 (.bool true) (congrArg Value.bool b133) ?_
                have g135 := bnot_true b133
                refine wp_ift rfl ?_
                refine w_skip ?_
                refine then_normal ?_
                refine w_block ?_
                refine w_lit ?_
                refine wl_pure (wants0 rfl) (d := 130) (v := (.int .i64 ((j1 : Int)))) rfl (by kernel_rfl) ?_
                refine wl_pure (wants0 rfl) (d := 131) (v := (.int .i64 ((j1 : Int) - 1))) rfl (e_int (z := (j1 : Int) - 1) (by kernel_rfl) (IntWalk.i64_in _ (by omega))) ?_
                refine wl_pure (wants0 rfl) (d := 11) (v := (.int .i64 ((j1 : Int) - 1))) rfl (by kernel_rfl) ?_
                refine w_nil ?_
                refine blk_normal ?_
                refine round_back ?_ _ ⟨(j1 - 1), (show ((.int .i64 ((j1 : Int) - 1)) : Value) = _ by first | rfl | go_num), (by omega), (hP.decr (by omega) h130 (bnot_true b133)), H132, rfl⟩ (by omega)
                exact (same_upd rfl (same_upd rfl (same_upd rfl (same_upd rfl (same_upd rfl (same_upd rfl (same_upd rfl (same_upd rfl (same_upd rfl (same_upd rfl (same_upd rfl (same_upd rfl (same_upd rfl (same_upd rfl (same_upd rfl (same_upd rfl (same_upd rfl (same_upd rfl (same_upd rfl (same_upd rfl (same_upd rfl (same_ovr))))))))))))))))))))))
              · have g136 := bnot_false b133
                refine wp_know 129 (.bool false) (congrArg Value.bool b133) ?_
                have g137 := bnot_false b133
                refine wp_iff rfl ?_
                refine w_exit ?_
                refine then_exit ?_
                refine back_exit ?_
                refine blk_hit ?_
                refine meetR_at ?_ ⟨j1, rfl, (by omega), hP, (fun _ => ⟨x129, h130, (bnot_false b133)⟩), H132⟩
                exact (same_upd rfl (same_upd rfl (same_upd rfl (same_upd rfl (same_upd rfl (same_upd rfl (same_upd rfl (same_upd rfl (same_upd rfl (same_upd rfl (same_upd rfl (same_upd rfl (same_upd rfl (same_upd rfl (same_upd rfl (same_upd rfl (same_upd rfl (same_upd rfl (same_ovr2 rfl (same_refl))))))))))))))))))))
            · have g138 := of_decide_eq_false b126
              refine q_know 118 (.bool false) (congrArg Value.bool b126) ?_
              have g139 := of_decide_eq_false b126
              refine q_pass (wantsN 3 118 true rfl (by kernel_rfl) rfl (by kernel_rfl)) rfl ?_
              refine q_pass (wantsN 3 118 true rfl (by kernel_rfl) rfl (by kernel_rfl)) rfl ?_
              refine q_pass (wantsN 3 118 true rfl (by kernel_rfl) rfl (by kernel_rfl)) rfl ?_
              refine q_pass (wantsN 3 118 true rfl (by kernel_rfl) rfl (by kernel_rfl)) rfl ?_
              refine q_pass (wantsN 3 118 true rfl (by kernel_rfl) rfl (by kernel_rfl)) rfl ?_
              refine q_pass (wantsN 3 118 true rfl (by kernel_rfl) rfl (by kernel_rfl)) rfl ?_
              refine q_pass (wantsN 3 118 true rfl (by kernel_rfl) rfl (by kernel_rfl)) rfl ?_
              refine q_pass (wantsN 3 118 true rfl (by kernel_rfl) rfl (by kernel_rfl)) rfl ?_
              refine q_pass (wantsN 3 118 true rfl (by kernel_rfl) rfl (by kernel_rfl)) rfl ?_
              refine q_pass (wantsN 3 118 true rfl (by kernel_rfl) rfl (by kernel_rfl)) rfl ?_
              refine q_val (wants0 rfl) (d := 129) (v := (.bool false)) rfl (fun _ H' => (by kernel_rfl)) ?_
              refine q_end ?_
              intro w140 H141
              refine then_normal ?_
              refine wp_iff rfl ?_
              refine w_exit ?_
              refine then_exit ?_
              refine back_exit ?_
              refine blk_hit ?_
              refine meetR_at ?_ ⟨j1, rfl, (by omega), hP, (fun q => absurd q (by omega)), H141⟩
              exact (same_upd rfl (same_upd rfl (same_upd rfl (same_upd rfl (same_upd rfl (same_upd rfl (same_upd rfl (same_upd rfl (same_upd rfl (same_upd rfl (same_upd rfl (same_upd rfl (same_upd rfl (same_upd rfl (same_upd rfl (same_upd rfl (same_upd rfl (same_ovr2 rfl (same_refl)))))))))))))))))))
          · rintro f142 w143 ⟨j1, v145, hj, hP, hSj, H144⟩
            refine wp_know 11 _ v145 ?_
            refine w_seq ?_
            refine w_seq ?_
            refine w_lit ?_
            refine wl_pure (wants0 rfl) (d := 132) (v := (.int .i64 ((i1 : Int)))) rfl (by kernel_rfl) ?_
            refine wl_pure (wants0 rfl) (d := 133) (v := (.int .i64 ((j1 : Int)))) rfl (by kernel_rfl) ?_
            refine wl_pure (wants0 rfl) (d := 134) (v := (.bool (decide ((i1 : Int) > (j1 : Int))))) rfl (by kernel_rfl) ?_
            refine w_nil ?_
            refine then_normal ?_
            refine (bsplit (decide ((i1 : Int) > (j1 : Int)))).elim (fun b146 => ?_) (fun b146 => ?_)
            · have g147 := of_decide_eq_true b146
              refine wp_know 134 (.bool true) (congrArg Value.bool b146) ?_
              have g148 := of_decide_eq_true b146
              refine wp_ift rfl ?_
              refine w_exit ?_
              refine then_exit ?_
              refine blk_miss rfl ?_
              refine back_exit ?_
              refine blk_hit ?_
              refine then_normal ?_
              refine w_seq ?_
              obtain ⟨xj, hxj⟩ := get_at (show j1 < B.length by omega)
              have hcut := hP.done hw (by omega) (by omega) (by omega) hxj (fun q => hP.lo j1 xj (by omega) (by omega) hxj)
              refine k_start H144 [rowU g n c B, restC w (rowU g n c A).fp] [13, 15] 16 rfl (by kernel_rfl) (fun Hx => (Hx.pick [0, 1] (by decide))) ?_
              intro w149 H150 S151
              refine k_pure 0 rfl (by kernel_rfl) (by kernel_rfl) (by kernel_rfl) (fun _ _ _ h => h) S151 (wants0 rfl) rfl (d := 153) (v := (.slice (some ⟨g, 0, none⟩) n c)) rfl (fun _ => (by kernel_rfl)) ?_
              refine k_pure 1 rfl (by kernel_rfl) (by kernel_rfl) (by kernel_rfl) (fun _ _ _ h => h) S151 (wants0 rfl) rfl (d := 154) (v := (.int .i64 ((j1 : Int)))) rfl (fun _ => (by kernel_rfl)) ?_
              refine k_pure 2 rfl (by kernel_rfl) (by kernel_rfl) (by kernel_rfl) (fun _ _ _ h => h) S151 (wants0 rfl) rfl (d := 155) (v := (.slice (some ⟨g, 0, none⟩) n c)) rfl (fun _ => (by kernel_rfl)) ?_
              refine k_pure 3 rfl (by kernel_rfl) (by kernel_rfl) (by kernel_rfl) (fun _ _ _ h => h) S151 (wants0 rfl) rfl (d := 156) (v := (.int .i64 ((a : Int)))) rfl (fun _ => (by kernel_rfl)) ?_
              refine k_pure 4 rfl (by kernel_rfl) (by kernel_rfl) (by kernel_rfl) (fun _ _ _ h => h) S151 (wants0 rfl) rfl (d := 157) (v := (.slice (some ⟨g, 0, none⟩) n c)) rfl (fun _ => (by kernel_rfl)) ?_
              refine k_pure 5 rfl (by kernel_rfl) (by kernel_rfl) (by kernel_rfl) (fun _ _ _ h => h) S151 (wants0 rfl) rfl (d := 158) (v := (.int .i64 ((a : Int)))) rfl (fun _ => (by kernel_rfl)) ?_
              refine k_pure 6 rfl (by kernel_rfl) (by kernel_rfl) (by kernel_rfl) (fun _ _ _ h => h) S151 (wants0 rfl) rfl (d := 159) (v := (.pointer (some ⟨g, 0 + ((a : Int)).toNat * 1, none⟩))) rfl (fun _ => (e_indexAddr (E := 23) (by kernel_rfl) (by kernel_rfl) (Nat.le_of_ble_eq_true rfl) rfl rfl (by omega) (by omega))) ?_
              refine k_val 7 rfl (by kernel_rfl) (by kernel_rfl) (by kernel_rfl) (fun _ _ _ h => h) S151 (wants0 rfl) rfl (by kernel_rfl) (d := 160) (v := (.int .u64 (pv))) rfl (fun _ H' => (e_load1 rfl (by kernel_rfl) (rowU_cell (H'.at 0 rfl) hP.at_ (show 0 + ((a : Int)).toNat * 1 = a by omega)))) ?_
              refine k_pure 8 rfl (by kernel_rfl) (by kernel_rfl) (by kernel_rfl) (fun _ _ _ h => h) S151 (wants0 rfl) rfl (d := 161) (v := (.slice (some ⟨g, 0, none⟩) n c)) rfl (fun _ => (by kernel_rfl)) ?_
              refine k_pure 9 rfl (by kernel_rfl) (by kernel_rfl) (by kernel_rfl) (fun _ _ _ h => h) S151 (wants0 rfl) rfl (d := 162) (v := (.int .i64 ((j1 : Int)))) rfl (fun _ => (by kernel_rfl)) ?_
              refine k_pure 10 rfl (by kernel_rfl) (by kernel_rfl) (by kernel_rfl) (fun _ _ _ h => h) S151 (wants0 rfl) rfl (d := 163) (v := (.pointer (some ⟨g, 0 + ((j1 : Int)).toNat * 1, none⟩))) rfl (fun _ => (e_indexAddr (E := 23) (by kernel_rfl) (by kernel_rfl) (Nat.le_of_ble_eq_true rfl) rfl rfl (by omega) (by omega))) ?_
              refine k_val 11 rfl (by kernel_rfl) (by kernel_rfl) (by kernel_rfl) (fun _ _ _ h => h) S151 (wants0 rfl) rfl (by kernel_rfl) (d := 164) (v := (.int .u64 (xj))) rfl (fun _ H' => (e_load1 rfl (by kernel_rfl) (rowU_cell (H'.at 0 rfl) hxj (show 0 + ((j1 : Int)).toNat * 1 = j1 by omega)))) ?_
              refine k_pure 12 rfl (by kernel_rfl) (by kernel_rfl) (by kernel_rfl) (fun _ _ _ h => h) S151 (wants0 rfl) rfl (d := 165) (v := (.pointer (some ⟨g, 0 + ((j1 : Int)).toNat * 1, none⟩))) rfl (fun _ => (e_indexAddr (E := 23) (by kernel_rfl) (by kernel_rfl) (Nat.le_of_ble_eq_true rfl) rfl rfl (by omega) (by omega))) ?_
              refine k_brk 13 (Sat w [restC w (rowU g n c A).fp]) rfl (by kernel_rfl) (wants0 rfl) rfl (fun K152 hK152 => ?_)
              refine d_storeU rfl H150 0 rfl rfl rfl (by kernel_rfl) (show 0 + ((j1 : Int)).toNat * 1 = j1 by omega) (by omega) ?_
              intro w153 (H154 : Sat w [rowU g n c (B.set j1 pv), restC w (rowU g n c A).fp] w153)
              have hlH154 : (B.set j1 pv).length = B.length := List.length_set
              have S155 := H154.pick [1] (by decide)
              refine hK152 _ _ S155 ?_
              clear hK152 K152
              refine h_val 14 rfl (by kernel_rfl) (by kernel_rfl) (by kernel_rfl) (fun _ _ _ h => h) S155 (wants0 rfl) (d := 166) (v := (.pointer (some ⟨g, 0 + ((a : Int)).toNat * 1, none⟩))) rfl (fun _ H' => (e_indexAddr (E := 23) (by kernel_rfl) (by kernel_rfl) (Nat.le_of_ble_eq_true rfl) rfl rfl (by omega) (by omega))) ?_
              refine h_do 15 rfl (by kernel_rfl) (wants0 rfl) (fun K156 hK156 => ?_)
              refine d_storeU rfl H154 0 rfl rfl rfl (by kernel_rfl) (show 0 + ((a : Int)).toNat * 1 = a by omega) (by omega) ?_
              intro w157 (H158 : Sat w [rowU g n c ((B.set j1 pv).set a xj), restC w (rowU g n c A).fp] w157)
              have hlH158 : ((B.set j1 pv).set a xj).length = (B.set j1 pv).length := List.length_set
              have S159 := H158.pick [1] (by decide)
              refine hK156 _ _ S159 ?_
              clear hK156 K156
              refine h_fin (by kernel_rfl) ?_
              refine then_normal ?_
              refine w_seq ?_
              refine w_lit ?_
              refine wl_pure (wants0 rfl) (d := 167) (v := (.int .i64 ((j1 : Int)))) rfl (by kernel_rfl) ?_
              refine wl_pure (wants0 rfl) (d := 8) (v := (.int .i64 ((j1 : Int)))) rfl (by kernel_rfl) ?_
              refine wl_pure (wants0 rfl) (d := 9) (v := (.bool false)) rfl (by kernel_rfl) ?_
              refine w_nil ?_
              refine then_normal ?_
              refine w_ret ?_
              refine end2 rfl (res_tmp (v := (.int .i64 ((j1 : Int)))) rfl) (res_tmp (v := (.bool false)) rfl) ?_
              have hpm : ((B.set j1 pv).set a xj)[j1]? = some pv := by
                rw [get_swap hxj hP.at_]
                split
                · rename_i e; subst e; exact hxj.symm.trans hP.at_
                · exact if_pos rfl
              exact ⟨_, j1, _, pv, rfl, (by omega), hS.swap (by omega) (by omega) (by omega) (by omega) hxj hP.at_, (by omega), hpm, hcut, H158⟩
            · have g160 := of_decide_eq_false b146
              refine wp_know 134 (.bool false) (congrArg Value.bool b146) ?_
              have g161 := of_decide_eq_false b146
              refine wp_iff rfl ?_
              refine w_skip ?_
              refine then_normal ?_
              refine w_seq ?_
              obtain ⟨xi, hxi, hci⟩ := hSi (by omega)
              obtain ⟨xj, hxj, hcj⟩ := hSj (by omega)
              have hij := lt_of_unlike (p := (fun x => ltU x pv)) (by omega) hxi hxj hci hcj
              refine k_start H144 [rowU g n c B, restC w (rowU g n c A).fp] [13, 15] 16 rfl (by kernel_rfl) (fun Hx => (Hx.pick [0, 1] (by decide))) ?_
              intro w162 H163 S164
              refine k_pure 0 rfl (by kernel_rfl) (by kernel_rfl) (by kernel_rfl) (fun _ _ _ h => h) S164 (wants0 rfl) rfl (d := 135) (v := (.slice (some ⟨g, 0, none⟩) n c)) rfl (fun _ => (by kernel_rfl)) ?_
              refine k_pure 1 rfl (by kernel_rfl) (by kernel_rfl) (by kernel_rfl) (fun _ _ _ h => h) S164 (wants0 rfl) rfl (d := 136) (v := (.int .i64 ((i1 : Int)))) rfl (fun _ => (by kernel_rfl)) ?_
              refine k_pure 2 rfl (by kernel_rfl) (by kernel_rfl) (by kernel_rfl) (fun _ _ _ h => h) S164 (wants0 rfl) rfl (d := 137) (v := (.slice (some ⟨g, 0, none⟩) n c)) rfl (fun _ => (by kernel_rfl)) ?_
              refine k_pure 3 rfl (by kernel_rfl) (by kernel_rfl) (by kernel_rfl) (fun _ _ _ h => h) S164 (wants0 rfl) rfl (d := 138) (v := (.int .i64 ((j1 : Int)))) rfl (fun _ => (by kernel_rfl)) ?_
              refine k_pure 4 rfl (by kernel_rfl) (by kernel_rfl) (by kernel_rfl) (fun _ _ _ h => h) S164 (wants0 rfl) rfl (d := 139) (v := (.slice (some ⟨g, 0, none⟩) n c)) rfl (fun _ => (by kernel_rfl)) ?_
              refine k_pure 5 rfl (by kernel_rfl) (by kernel_rfl) (by kernel_rfl) (fun _ _ _ h => h) S164 (wants0 rfl) rfl (d := 140) (v := (.int .i64 ((j1 : Int)))) rfl (fun _ => (by kernel_rfl)) ?_
              refine k_pure 6 rfl (by kernel_rfl) (by kernel_rfl) (by kernel_rfl) (fun _ _ _ h => h) S164 (wants0 rfl) rfl (d := 141) (v := (.pointer (some ⟨g, 0 + ((j1 : Int)).toNat * 1, none⟩))) rfl (fun _ => (e_indexAddr (E := 23) (by kernel_rfl) (by kernel_rfl) (Nat.le_of_ble_eq_true rfl) rfl rfl (by omega) (by omega))) ?_
              refine k_val 7 rfl (by kernel_rfl) (by kernel_rfl) (by kernel_rfl) (fun _ _ _ h => h) S164 (wants0 rfl) rfl (by kernel_rfl) (d := 142) (v := (.int .u64 (xj))) rfl (fun _ H' => (e_load1 rfl (by kernel_rfl) (rowU_cell (H'.at 0 rfl) hxj (show 0 + ((j1 : Int)).toNat * 1 = j1 by omega)))) ?_
              refine k_pure 8 rfl (by kernel_rfl) (by kernel_rfl) (by kernel_rfl) (fun _ _ _ h => h) S164 (wants0 rfl) rfl (d := 143) (v := (.slice (some ⟨g, 0, none⟩) n c)) rfl (fun _ => (by kernel_rfl)) ?_
              refine k_pure 9 rfl (by kernel_rfl) (by kernel_rfl) (by kernel_rfl) (fun _ _ _ h => h) S164 (wants0 rfl) rfl (d := 144) (v := (.int .i64 ((i1 : Int)))) rfl (fun _ => (by kernel_rfl)) ?_
              refine k_pure 10 rfl (by kernel_rfl) (by kernel_rfl) (by kernel_rfl) (fun _ _ _ h => h) S164 (wants0 rfl) rfl (d := 145) (v := (.pointer (some ⟨g, 0 + ((i1 : Int)).toNat * 1, none⟩))) rfl (fun _ => (e_indexAddr (E := 23) (by kernel_rfl) (by kernel_rfl) (Nat.le_of_ble_eq_true rfl) rfl rfl (by omega) (by omega))) ?_
              refine k_val 11 rfl (by kernel_rfl) (by kernel_rfl) (by kernel_rfl) (fun _ _ _ h => h) S164 (wants0 rfl) rfl (by kernel_rfl) (d := 146) (v := (.int .u64 (xi))) rfl (fun _ H' => (e_load1 rfl (by kernel_rfl) (rowU_cell (H'.at 0 rfl) hxi (show 0 + ((i1 : Int)).toNat * 1 = i1 by omega)))) ?_
              refine k_pure 12 rfl (by kernel_rfl) (by kernel_rfl) (by kernel_rfl) (fun _ _ _ h => h) S164 (wants0 rfl) rfl (d := 147) (v := (.pointer (some ⟨g, 0 + ((i1 : Int)).toNat * 1, none⟩))) rfl (fun _ => (e_indexAddr (E := 23) (by kernel_rfl) (by kernel_rfl) (Nat.le_of_ble_eq_true rfl) rfl rfl (by omega) (by omega))) ?_
              refine k_brk 13 (Sat w [restC w (rowU g n c A).fp]) rfl (by kernel_rfl) (wants0 rfl) rfl (fun K165 hK165 => ?_)
              refine d_storeU rfl H163 0 rfl rfl rfl (by kernel_rfl) (show 0 + ((i1 : Int)).toNat * 1 = i1 by omega) (by omega) ?_
              intro w166 (H167 : Sat w [rowU g n c (B.set i1 xj), restC w (rowU g n c A).fp] w166)
              have hlH167 : (B.set i1 xj).length = B.length := List.length_set
              have S168 := H167.pick [1] (by decide)
              refine hK165 _ _ S168 ?_
              clear hK165 K165
              refine h_val 14 rfl (by kernel_rfl) (by kernel_rfl) (by kernel_rfl) (fun _ _ _ h => h) S168 (wants0 rfl) (d := 148) (v := (.pointer (some ⟨g, 0 + ((j1 : Int)).toNat * 1, none⟩))) rfl (fun _ H' => (e_indexAddr (E := 23) (by kernel_rfl) (by kernel_rfl) (Nat.le_of_ble_eq_true rfl) rfl rfl (by omega) (by omega))) ?_
              refine h_do 15 rfl (by kernel_rfl) (wants0 rfl) (fun K169 hK169 => ?_)
              refine d_storeU rfl H167 0 rfl rfl rfl (by kernel_rfl) (show 0 + ((j1 : Int)).toNat * 1 = j1 by omega) (by omega) ?_
              intro w170 (H171 : Sat w [rowU g n c ((B.set i1 xj).set j1 xi), restC w (rowU g n c A).fp] w170)
              have hlH171 : ((B.set i1 xj).set j1 xi).length = (B.set i1 xj).length := List.length_set
              have S172 := H171.pick [1] (by decide)
              refine hK169 _ _ S172 ?_
              clear hK169 K169
              refine h_fin (by kernel_rfl) ?_
              refine then_normal ?_
              refine w_seq ?_
              refine w_lit ?_
              refine wl_pure (wants0 rfl) (d := 149) (v := (.int .i64 ((i1 : Int)))) rfl (by kernel_rfl) ?_
              refine wl_pure (wants0 rfl) (d := 150) (v := (.int .i64 ((i1 : Int) + 1))) rfl (e_int (z := (i1 : Int) + 1) (by kernel_rfl) (IntWalk.i64_in _ (by omega))) ?_
              refine wl_pure (wants0 rfl) (d := 10) (v := (.int .i64 ((i1 : Int) + 1))) rfl (by kernel_rfl) ?_
              refine w_nil ?_
              refine then_normal ?_
              refine w_lit ?_
              refine wl_pure (wants0 rfl) (d := 151) (v := (.int .i64 ((j1 : Int)))) rfl (by kernel_rfl) ?_
              refine wl_pure (wants0 rfl) (d := 152) (v := (.int .i64 ((j1 : Int) - 1))) rfl (e_int (z := (j1 : Int) - 1) (by kernel_rfl) (IntWalk.i64_in _ (by omega))) ?_
              refine wl_pure (wants0 rfl) (d := 11) (v := (.int .i64 ((j1 : Int) - 1))) rfl (by kernel_rfl) ?_
              refine w_nil ?_
              refine blk_normal ?_
              refine round_back ?_ _ ⟨(i1 + 1), (j1 - 1), ((B.set i1 xj).set j1 xi), (show ((.int .i64 ((i1 : Int) + 1)) : Value) = _ by first | rfl | go_num), (show ((.int .i64 ((j1 : Int) - 1)) : Value) = _ by first | rfl | go_num), (by omega), (by omega), (hS.swap (by omega) (by omega) (by omega) (by omega) hxi hxj), (hP.swap (by omega) hij hxi hxj hci hcj), H171, rfl⟩ (by omega)
              exact (same_upd rfl (same_upd rfl (same_upd rfl (same_upd rfl (same_upd rfl (same_upd rfl (same_upd rfl (same_upd rfl (same_upd rfl (same_upd rfl (same_upd rfl (same_upd rfl (same_upd rfl (same_upd rfl (same_upd rfl (same_upd rfl (same_upd rfl (same_upd rfl (same_upd rfl (same_upd rfl (same_upd rfl (same_upd rfl (same_upd rfl (same_upd rfl (same_upd rfl (same_ovr2 rfl (same_upd rfl (same_ovr2 rfl (same_upd rfl (same_upd rfl (same_ovr)))))))))))))))))))))))))))))))

end Go.Proofs.Ytbpeofcoceaahaa
