/- WHAT IS PROVED: slices' sort, its functions: contracts. Conditions: stated with each. -/
import Derived.Test.YtbpeofcoceaahaaSortUA
namespace Go.Proofs.Ytbpeofcoceaahaa
open Go.RowKit

set_option maxRecDepth 100000 in
set_option maxHeartbeats 1000000 in
theorem siftU_any (w : World) (g n c lo hi f : Nat) (A : List Int) (hT : (rowU g n c A).ok w) (hn : n ≤ 1000000000000) (hab : lo ≤ n ∧ f + hi ≤ n) (hh : Heap ltU f (lo + 1) hi A) :
    Calls Try.prog 112 #[(.slice (some ⟨g, 0, none⟩) n c), (.int .i64 ((lo : Int))), (.int .i64 ((hi : Int))), (.int .i64 ((f : Int)))] w fun e w' => ∃ B : List Int, e = .returned (.tuple #[]) ∧ B.length = n ∧ SegP f (f + hi) A B ∧ Heap ltU f lo hi B ∧ Sat w [rowU g n c B, restC w (rowU g n c A).fp] w' := by
  have H : Sat w [rowU g n c A, restC w (rowU g n c A).fp] w := Sat.start1 hT
  have hl := rowU_len hT
  have hw := swU
  refine calls_fr Try.func112 rfl 76 rfl (Nat.le_of_ble_eq_true rfl) ?_
  refine w_seq ?_
  refine w_lit ?_
  refine wl_pure (wants0 rfl) (d := 10) (v := (.int .i64 ((lo : Int)))) rfl (by kernel_rfl) ?_
  refine wl_pure (wants0 rfl) (d := 8) (v := (.int .i64 ((lo : Int)))) rfl (by kernel_rfl) ?_
  refine w_nil ?_
  refine then_normal ?_
  refine w_block ?_
  refine wp_round [8, 9, 11, 12, 13, 14, 15, 16, 17, 18, 19, 20, 21, 22, 23, 24, 25, 26, 27, 28, 29, 30, 31, 32, 33, 34, 35, 36, 37, 38, 39, 40, 41, 42, 43, 44, 45, 46, 47, 48, 49, 50, 51, 52, 53, 54, 55, 56, 57, 58, 59, 60, 61, 62, 63, 64, 65, 66, 67, 68, 69, 70, 71, 72, 73, 74, 75] (fun F_ W_ m_ => ∃ (root : Nat) (B : List Int), F_ 8 = (.int .i64 ((root : Int))) ∧ (lo ≤ root ∧ root ≤ n) ∧ (B.length = n) ∧ (SegP f (f + hi) A B) ∧ (Sift ltU f lo hi root B) ∧ Sat w [rowU g n c B, restC w (rowU g n c A).fp] W_ ∧ m_ = n - root) _ ⟨lo, A, (by first | rfl | go_num), (by omega), hl, .refl, (Sift.start hh), H, rfl⟩ ?_
  rintro g1 w2 _ ⟨root, B, v4, hr, hlB, hS, hI, H3, rfl⟩
  refine wp_know 8 _ v4 ?_
  refine w_block ?_
  refine w_seq ?_
  refine w_lit ?_
  refine wl_pure (wants0 rfl) (d := 11) (v := (.int .i64 ((root : Int)))) rfl (by kernel_rfl) ?_
  refine wl_pure (wants0 rfl) (d := 12) (v := (.int .i64 (2 * (root : Int)))) rfl (e_int (z := 2 * (root : Int)) (by kernel_rfl) (IntWalk.i64_in _ (by omega))) ?_
  refine wl_pure (wants0 rfl) (d := 13) (v := (.int .i64 ((2 * (root : Int)) + 1))) rfl (e_int (z := (2 * (root : Int)) + 1) (by kernel_rfl) (IntWalk.i64_in _ (by omega))) ?_
  refine wl_pure (wants0 rfl) (d := 9) (v := (.int .i64 ((2 * (root : Int)) + 1))) rfl (by kernel_rfl) ?_
  refine w_nil ?_
  refine then_normal ?_
  refine w_seq ?_
  refine w_seq ?_
  refine w_lit ?_
  refine wl_pure (wants0 rfl) (d := 14) (v := (.int .i64 ((2 * (root : Int)) + 1))) rfl (by kernel_rfl) ?_
  refine wl_pure (wants0 rfl) (d := 15) (v := (.int .i64 ((hi : Int)))) rfl (by kernel_rfl) ?_
  refine wl_pure (wants0 rfl) (d := 16) (v := (.bool (decide (((2 * (root : Int)) + 1) ≥ (hi : Int))))) rfl (by kernel_rfl) ?_
  refine w_nil ?_
  refine then_normal ?_
  refine (bsplit (decide (((2 * (root : Int)) + 1) ≥ (hi : Int)))).elim (fun b6 => ?_) (fun b6 => ?_)
  · have g7 := of_decide_eq_true b6
    refine wp_know 16 (.bool true) (congrArg Value.bool b6) ?_
    have g8 := of_decide_eq_true b6
    refine wp_ift rfl ?_
    refine w_exit ?_
    refine then_exit ?_
    refine blk_miss rfl ?_
    refine back_exit ?_
    refine blk_hit ?_
    refine end_normal ?_
    refine end0 rfl  ?_
    exact ⟨B, rfl, hlB, hS, hI.leaf (by omega), H3⟩
  · have g9 := of_decide_eq_false b6
    refine wp_know 16 (.bool false) (congrArg Value.bool b6) ?_
    have g10 := of_decide_eq_false b6
    refine wp_iff rfl ?_
    refine w_skip ?_
    refine then_normal ?_
    refine w_seq ?_
    refine w_seq ?_
    refine q_start H3 (by kernel_rfl) (by kernel_rfl) ?_
    refine q_val (wants0 rfl) (d := 17) (v := (.int .i64 ((2 * (root : Int)) + 1))) rfl (fun _ H' => (by kernel_rfl)) ?_
    refine q_val (wants0 rfl) (d := 18) (v := (.int .i64 (((2 * (root : Int)) + 1) + 1))) rfl (fun _ H' => (e_int (z := ((2 * (root : Int)) + 1) + 1) (by kernel_rfl) (IntWalk.i64_in _ (by omega)))) ?_
    refine q_val (wants0 rfl) (d := 19) (v := (.int .i64 ((hi : Int)))) rfl (fun _ H' => (by kernel_rfl)) ?_
    refine q_val (wants0 rfl) (d := 20) (v := (.bool (decide ((((2 * (root : Int)) + 1) + 1) < (hi : Int))))) rfl (fun _ H' => (by kernel_rfl)) ?_
    refine q_val (wants0 rfl) (d := 21) (v := (.bool (decide ((((2 * (root : Int)) + 1) + 1) < (hi : Int))))) rfl (fun _ H' => (by kernel_rfl)) ?_
    refine (bsplit (decide ((((2 * (root : Int)) + 1) + 1) < (hi : Int)))).elim (fun b11 => ?_) (fun b11 => ?_)
    · have g12 := of_decide_eq_true b11
      refine q_know 21 (.bool true) (congrArg Value.bool b11) ?_
      have g13 := of_decide_eq_true b11
      refine q_val (wantsY 4 21 true rfl (by kernel_rfl) rfl (by kernel_rfl)) (d := 22) (v := (.slice (some ⟨g, 0, none⟩) n c)) rfl (fun _ H' => (by kernel_rfl)) ?_
      refine q_val (wantsY 4 21 true rfl (by kernel_rfl) rfl (by kernel_rfl)) (d := 23) (v := (.int .i64 ((f : Int)))) rfl (fun _ H' => (by kernel_rfl)) ?_
      refine q_val (wantsY 4 21 true rfl (by kernel_rfl) rfl (by kernel_rfl)) (d := 24) (v := (.int .i64 ((2 * (root : Int)) + 1))) rfl (fun _ H' => (by kernel_rfl)) ?_
      refine q_val (wantsY 4 21 true rfl (by kernel_rfl) rfl (by kernel_rfl)) (d := 25) (v := (.int .i64 ((f : Int) + ((2 * (root : Int)) + 1)))) rfl (fun _ H' => (e_int (z := (f : Int) + ((2 * (root : Int)) + 1)) (by kernel_rfl) (IntWalk.i64_in _ (by omega)))) ?_
      refine q_val (wantsY 4 21 true rfl (by kernel_rfl) rfl (by kernel_rfl)) (d := 26) (v := (.pointer (some ⟨g, 0 + ((f : Int) + ((2 * (root : Int)) + 1)).toNat * 1, none⟩))) rfl (fun _ H' => (e_indexAddr (E := 23) (by kernel_rfl) (by kernel_rfl) (Nat.le_of_ble_eq_true rfl) rfl rfl (by omega) (by omega))) ?_
      obtain ⟨x14, h15⟩ := get_at (show (f + ((2 * root) + 1)) < B.length by omega)
      refine q_val (wantsY 4 21 true rfl (by kernel_rfl) rfl (by kernel_rfl)) (d := 27) (v := (.int .u64 (x14))) rfl (fun _ H' => (e_load1 rfl (by kernel_rfl) (rowU_cell (H'.at 0 rfl) h15 (show 0 + ((f : Int) + ((2 * (root : Int)) + 1)).toNat * 1 = (f + ((2 * root) + 1)) by omega)))) ?_
      refine q_val (wantsY 4 21 true rfl (by kernel_rfl) rfl (by kernel_rfl)) (d := 28) (v := (.slice (some ⟨g, 0, none⟩) n c)) rfl (fun _ H' => (by kernel_rfl)) ?_
      refine q_val (wantsY 4 21 true rfl (by kernel_rfl) rfl (by kernel_rfl)) (d := 29) (v := (.int .i64 ((f : Int)))) rfl (fun _ H' => (by kernel_rfl)) ?_
      refine q_val (wantsY 4 21 true rfl (by kernel_rfl) rfl (by kernel_rfl)) (d := 30) (v := (.int .i64 ((2 * (root : Int)) + 1))) rfl (fun _ H' => (by kernel_rfl)) ?_
      refine q_val (wantsY 4 21 true rfl (by kernel_rfl) rfl (by kernel_rfl)) (d := 31) (v := (.int .i64 ((f : Int) + ((2 * (root : Int)) + 1)))) rfl (fun _ H' => (e_int (z := (f : Int) + ((2 * (root : Int)) + 1)) (by kernel_rfl) (IntWalk.i64_in _ (by omega)))) ?_
      refine q_val (wantsY 4 21 true rfl (by kernel_rfl) rfl (by kernel_rfl)) (d := 32) (v := (.int .i64 (((f : Int) + ((2 * (root : Int)) + 1)) + 1))) rfl (fun _ H' => (e_int (z := ((f : Int) + ((2 * (root : Int)) + 1)) + 1) (by kernel_rfl) (IntWalk.i64_in _ (by omega)))) ?_
      refine q_val (wantsY 4 21 true rfl (by kernel_rfl) rfl (by kernel_rfl)) (d := 33) (v := (.pointer (some ⟨g, 0 + (((f : Int) + ((2 * (root : Int)) + 1)) + 1).toNat * 1, none⟩))) rfl (fun _ H' => (e_indexAddr (E := 23) (by kernel_rfl) (by kernel_rfl) (Nat.le_of_ble_eq_true rfl) rfl rfl (by omega) (by omega))) ?_
      obtain ⟨x16, h17⟩ := get_at (show ((f + ((2 * root) + 1)) + 1) < B.length by omega)
      refine q_val (wantsY 4 21 true rfl (by kernel_rfl) rfl (by kernel_rfl)) (d := 34) (v := (.int .u64 (x16))) rfl (fun _ H' => (e_load1 rfl (by kernel_rfl) (rowU_cell (H'.at 0 rfl) h17 (show 0 + (((f : Int) + ((2 * (root : Int)) + 1)) + 1).toNat * 1 = ((f + ((2 * root) + 1)) + 1) by omega)))) ?_
      refine q_call (wantsY 4 21 true rfl (by kernel_rfl) rfl (by kernel_rfl)) (d := 35) (v := (.bool (ltU x14 x16))) rfl (fun _ _ => by kernel_rfl) (fun w' H' => (lessU_any w' x14 x16).mono fun _ _ h => ⟨h.1, H'.keepU h.2⟩) ?_
      refine q_val (wants0 rfl) (d := 36) (v := (.bool (ltU x14 x16))) rfl (fun _ H' => (by kernel_rfl)) ?_
      refine q_end ?_
      intro w18 H19
      refine then_normal ?_
      refine (bsplit (ltU x14 x16)).elim (fun b20 => ?_) (fun b20 => ?_)
      · refine wp_know 36 (.bool true) (congrArg Value.bool b20) ?_
        refine wp_ift rfl ?_
        refine w_lit ?_
        refine wl_pure (wants0 rfl) (d := 37) (v := (.int .i64 ((2 * (root : Int)) + 1))) rfl (by kernel_rfl) ?_
        refine wl_pure (wants0 rfl) (d := 38) (v := (.int .i64 (((2 * (root : Int)) + 1) + 1))) rfl (e_int (z := ((2 * (root : Int)) + 1) + 1) (by kernel_rfl) (IntWalk.i64_in _ (by omega))) ?_
        refine wl_pure (wants0 rfl) (d := 9) (v := (.int .i64 (((2 * (root : Int)) + 1) + 1))) rfl (by kernel_rfl) ?_
        refine w_nil ?_
        refine then_normal ?_
        refine w_seq ?_
        refine w_seq ?_
        refine q_start H19 (by kernel_rfl) (by kernel_rfl) ?_
        refine q_val (wants0 rfl) (d := 39) (v := (.slice (some ⟨g, 0, none⟩) n c)) rfl (fun _ H' => (by kernel_rfl)) ?_
        refine q_val (wants0 rfl) (d := 40) (v := (.int .i64 ((f : Int)))) rfl (fun _ H' => (by kernel_rfl)) ?_
        refine q_val (wants0 rfl) (d := 41) (v := (.int .i64 ((root : Int)))) rfl (fun _ H' => (by kernel_rfl)) ?_
        refine q_val (wants0 rfl) (d := 42) (v := (.int .i64 ((f : Int) + (root : Int)))) rfl (fun _ H' => (e_int (z := (f : Int) + (root : Int)) (by kernel_rfl) (IntWalk.i64_in _ (by omega)))) ?_
        refine q_val (wants0 rfl) (d := 43) (v := (.pointer (some ⟨g, 0 + ((f : Int) + (root : Int)).toNat * 1, none⟩))) rfl (fun _ H' => (e_indexAddr (E := 23) (by kernel_rfl) (by kernel_rfl) (Nat.le_of_ble_eq_true rfl) rfl rfl (by omega) (by omega))) ?_
        obtain ⟨x21, h22⟩ := get_at (show (f + root) < B.length by omega)
        refine q_val (wants0 rfl) (d := 44) (v := (.int .u64 (x21))) rfl (fun _ H' => (e_load1 rfl (by kernel_rfl) (rowU_cell (H'.at 0 rfl) h22 (show 0 + ((f : Int) + (root : Int)).toNat * 1 = (f + root) by omega)))) ?_
        refine q_val (wants0 rfl) (d := 45) (v := (.slice (some ⟨g, 0, none⟩) n c)) rfl (fun _ H' => (by kernel_rfl)) ?_
        refine q_val (wants0 rfl) (d := 46) (v := (.int .i64 ((f : Int)))) rfl (fun _ H' => (by kernel_rfl)) ?_
        refine q_val (wants0 rfl) (d := 47) (v := (.int .i64 (((2 * (root : Int)) + 1) + 1))) rfl (fun _ H' => (by kernel_rfl)) ?_
        refine q_val (wants0 rfl) (d := 48) (v := (.int .i64 ((f : Int) + (((2 * (root : Int)) + 1) + 1)))) rfl (fun _ H' => (e_int (z := (f : Int) + (((2 * (root : Int)) + 1) + 1)) (by kernel_rfl) (IntWalk.i64_in _ (by omega)))) ?_
        refine q_val (wants0 rfl) (d := 49) (v := (.pointer (some ⟨g, 0 + ((f : Int) + (((2 * (root : Int)) + 1) + 1)).toNat * 1, none⟩))) rfl (fun _ H' => (e_indexAddr (E := 23) (by kernel_rfl) (by kernel_rfl) (Nat.le_of_ble_eq_true rfl) rfl rfl (by omega) (by omega))) ?_
        obtain ⟨x23, h24⟩ := get_at (show (f + (((2 * root) + 1) + 1)) < B.length by omega)
        refine q_val (wants0 rfl) (d := 50) (v := (.int .u64 (x23))) rfl (fun _ H' => (e_load1 rfl (by kernel_rfl) (rowU_cell (H'.at 0 rfl) h24 (show 0 + ((f : Int) + (((2 * (root : Int)) + 1) + 1)).toNat * 1 = (f + (((2 * root) + 1) + 1)) by omega)))) ?_
        refine q_call (wants0 rfl) (d := 51) (v := (.bool (ltU x21 x23))) rfl (fun _ _ => by kernel_rfl) (fun w' H' => (lessU_any w' x21 x23).mono fun _ _ h => ⟨h.1, H'.keepU h.2⟩) ?_
        refine q_val (wants0 rfl) (d := 52) (v := (.bool (!(ltU x21 x23)))) rfl (fun _ H' => (by kernel_rfl)) ?_
        refine q_end ?_
        intro w25 H26
        have hmax : ∀ c z, Kid root c → c < hi → B[f + c]? = some z → ltU x23 z = false := by
          intro c z hk hc hz
          rcases hk with rfl | rfl
          · have q := Option.some.inj (h15.symm.trans hz); subst q; have q2 := Option.some.inj (h17.symm.trans h24); subst q2; exact hw.asym _ _ b20
          · have q := Option.some.inj (h24.symm.trans hz); subst q; exact hw.irrefl _
        refine then_normal ?_
        refine (bsplit (!(ltU x21 x23))).elim (fun b27 => ?_) (fun b27 => ?_)
        · have g28 := bnot_true b27
          refine wp_know 52 (.bool true) (congrArg Value.bool b27) ?_
          have g29 := bnot_true b27
          refine wp_ift rfl ?_
          refine w_ret ?_
          refine then_ret ?_
          refine blk_ret ?_
          refine back_ret ?_
          refine blk_ret ?_
          refine end0 rfl  ?_
          exact ⟨B, rfl, hlB, hS, hI.stop hw h22 (bnot_true b27) h24 hmax, H26⟩
        · have g30 := bnot_false b27
          refine wp_know 52 (.bool false) (congrArg Value.bool b27) ?_
          have g31 := bnot_false b27
          refine wp_iff rfl ?_
          refine w_skip ?_
          refine then_normal ?_
          refine w_seq ?_
          refine k_start H26 [rowU g n c B, restC w (rowU g n c A).fp] [21, 23] 24 rfl (by kernel_rfl) (fun Hx => (Hx.pick [0, 1] (by decide))) ?_
          intro w32 H33 S34
          refine k_pure 0 rfl (by kernel_rfl) (by kernel_rfl) (by kernel_rfl) (fun _ _ _ h => h) S34 (wants0 rfl) rfl (d := 53) (v := (.slice (some ⟨g, 0, none⟩) n c)) rfl (fun _ => (by kernel_rfl)) ?_
          refine k_pure 1 rfl (by kernel_rfl) (by kernel_rfl) (by kernel_rfl) (fun _ _ _ h => h) S34 (wants0 rfl) rfl (d := 54) (v := (.int .i64 ((f : Int)))) rfl (fun _ => (by kernel_rfl)) ?_
          refine k_pure 2 rfl (by kernel_rfl) (by kernel_rfl) (by kernel_rfl) (fun _ _ _ h => h) S34 (wants0 rfl) rfl (d := 55) (v := (.int .i64 ((root : Int)))) rfl (fun _ => (by kernel_rfl)) ?_
          refine k_pure 3 rfl (by kernel_rfl) (by kernel_rfl) (by kernel_rfl) (fun _ _ _ h => h) S34 (wants0 rfl) rfl (d := 56) (v := (.int .i64 ((f : Int) + (root : Int)))) rfl (fun _ => (e_int (z := (f : Int) + (root : Int)) (by kernel_rfl) (IntWalk.i64_in _ (by omega)))) ?_
          refine k_pure 4 rfl (by kernel_rfl) (by kernel_rfl) (by kernel_rfl) (fun _ _ _ h => h) S34 (wants0 rfl) rfl (d := 57) (v := (.slice (some ⟨g, 0, none⟩) n c)) rfl (fun _ => (by kernel_rfl)) ?_
          refine k_pure 5 rfl (by kernel_rfl) (by kernel_rfl) (by kernel_rfl) (fun _ _ _ h => h) S34 (wants0 rfl) rfl (d := 58) (v := (.int .i64 ((f : Int)))) rfl (fun _ => (by kernel_rfl)) ?_
          refine k_pure 6 rfl (by kernel_rfl) (by kernel_rfl) (by kernel_rfl) (fun _ _ _ h => h) S34 (wants0 rfl) rfl (d := 59) (v := (.int .i64 (((2 * (root : Int)) + 1) + 1))) rfl (fun _ => (by kernel_rfl)) ?_
          refine k_pure 7 rfl (by kernel_rfl) (by kernel_rfl) (by kernel_rfl) (fun _ _ _ h => h) S34 (wants0 rfl) rfl (d := 60) (v := (.int .i64 ((f : Int) + (((2 * (root : Int)) + 1) + 1)))) rfl (fun _ => (e_int (z := (f : Int) + (((2 * (root : Int)) + 1) + 1)) (by kernel_rfl) (IntWalk.i64_in _ (by omega)))) ?_
          refine k_pure 8 rfl (by kernel_rfl) (by kernel_rfl) (by kernel_rfl) (fun _ _ _ h => h) S34 (wants0 rfl) rfl (d := 61) (v := (.slice (some ⟨g, 0, none⟩) n c)) rfl (fun _ => (by kernel_rfl)) ?_
          refine k_pure 9 rfl (by kernel_rfl) (by kernel_rfl) (by kernel_rfl) (fun _ _ _ h => h) S34 (wants0 rfl) rfl (d := 62) (v := (.int .i64 ((f : Int)))) rfl (fun _ => (by kernel_rfl)) ?_
          refine k_pure 10 rfl (by kernel_rfl) (by kernel_rfl) (by kernel_rfl) (fun _ _ _ h => h) S34 (wants0 rfl) rfl (d := 63) (v := (.int .i64 (((2 * (root : Int)) + 1) + 1))) rfl (fun _ => (by kernel_rfl)) ?_
          refine k_pure 11 rfl (by kernel_rfl) (by kernel_rfl) (by kernel_rfl) (fun _ _ _ h => h) S34 (wants0 rfl) rfl (d := 64) (v := (.int .i64 ((f : Int) + (((2 * (root : Int)) + 1) + 1)))) rfl (fun _ => (e_int (z := (f : Int) + (((2 * (root : Int)) + 1) + 1)) (by kernel_rfl) (IntWalk.i64_in _ (by omega)))) ?_
          refine k_pure 12 rfl (by kernel_rfl) (by kernel_rfl) (by kernel_rfl) (fun _ _ _ h => h) S34 (wants0 rfl) rfl (d := 65) (v := (.pointer (some ⟨g, 0 + ((f : Int) + (((2 * (root : Int)) + 1) + 1)).toNat * 1, none⟩))) rfl (fun _ => (e_indexAddr (E := 23) (by kernel_rfl) (by kernel_rfl) (Nat.le_of_ble_eq_true rfl) rfl rfl (by omega) (by omega))) ?_
          refine k_val 13 rfl (by kernel_rfl) (by kernel_rfl) (by kernel_rfl) (fun _ _ _ h => h) S34 (wants0 rfl) rfl (by kernel_rfl) (d := 66) (v := (.int .u64 (x23))) rfl (fun _ H' => (e_load1 rfl (by kernel_rfl) (rowU_cell (H'.at 0 rfl) h24 (show 0 + ((f : Int) + (((2 * (root : Int)) + 1) + 1)).toNat * 1 = (f + (((2 * root) + 1) + 1)) by omega)))) ?_
          refine k_pure 14 rfl (by kernel_rfl) (by kernel_rfl) (by kernel_rfl) (fun _ _ _ h => h) S34 (wants0 rfl) rfl (d := 67) (v := (.slice (some ⟨g, 0, none⟩) n c)) rfl (fun _ => (by kernel_rfl)) ?_
          refine k_pure 15 rfl (by kernel_rfl) (by kernel_rfl) (by kernel_rfl) (fun _ _ _ h => h) S34 (wants0 rfl) rfl (d := 68) (v := (.int .i64 ((f : Int)))) rfl (fun _ => (by kernel_rfl)) ?_
          refine k_pure 16 rfl (by kernel_rfl) (by kernel_rfl) (by kernel_rfl) (fun _ _ _ h => h) S34 (wants0 rfl) rfl (d := 69) (v := (.int .i64 ((root : Int)))) rfl (fun _ => (by kernel_rfl)) ?_
          refine k_pure 17 rfl (by kernel_rfl) (by kernel_rfl) (by kernel_rfl) (fun _ _ _ h => h) S34 (wants0 rfl) rfl (d := 70) (v := (.int .i64 ((f : Int) + (root : Int)))) rfl (fun _ => (e_int (z := (f : Int) + (root : Int)) (by kernel_rfl) (IntWalk.i64_in _ (by omega)))) ?_
          refine k_pure 18 rfl (by kernel_rfl) (by kernel_rfl) (by kernel_rfl) (fun _ _ _ h => h) S34 (wants0 rfl) rfl (d := 71) (v := (.pointer (some ⟨g, 0 + ((f : Int) + (root : Int)).toNat * 1, none⟩))) rfl (fun _ => (e_indexAddr (E := 23) (by kernel_rfl) (by kernel_rfl) (Nat.le_of_ble_eq_true rfl) rfl rfl (by omega) (by omega))) ?_
          refine k_val 19 rfl (by kernel_rfl) (by kernel_rfl) (by kernel_rfl) (fun _ _ _ h => h) S34 (wants0 rfl) rfl (by kernel_rfl) (d := 72) (v := (.int .u64 (x21))) rfl (fun _ H' => (e_load1 rfl (by kernel_rfl) (rowU_cell (H'.at 0 rfl) h22 (show 0 + ((f : Int) + (root : Int)).toNat * 1 = (f + root) by omega)))) ?_
          refine k_pure 20 rfl (by kernel_rfl) (by kernel_rfl) (by kernel_rfl) (fun _ _ _ h => h) S34 (wants0 rfl) rfl (d := 73) (v := (.pointer (some ⟨g, 0 + ((f : Int) + (root : Int)).toNat * 1, none⟩))) rfl (fun _ => (e_indexAddr (E := 23) (by kernel_rfl) (by kernel_rfl) (Nat.le_of_ble_eq_true rfl) rfl rfl (by omega) (by omega))) ?_
          refine k_brk 21 (Sat w [restC w (rowU g n c A).fp]) rfl (by kernel_rfl) (wants0 rfl) rfl (fun K35 hK35 => ?_)
          refine d_storeU rfl H33 0 rfl rfl rfl (by kernel_rfl) (show 0 + ((f : Int) + (root : Int)).toNat * 1 = (f + root) by omega) (by omega) ?_
          intro w36 (H37 : Sat w [rowU g n c (B.set (f + root) x23), restC w (rowU g n c A).fp] w36)
          have hlH37 : (B.set (f + root) x23).length = B.length := List.length_set
          have S38 := H37.pick [1] (by decide)
          refine hK35 _ _ S38 ?_
          clear hK35 K35
          refine h_val 22 rfl (by kernel_rfl) (by kernel_rfl) (by kernel_rfl) (fun _ _ _ h => h) S38 (wants0 rfl) (d := 74) (v := (.pointer (some ⟨g, 0 + ((f : Int) + (((2 * (root : Int)) + 1) + 1)).toNat * 1, none⟩))) rfl (fun _ H' => (e_indexAddr (E := 23) (by kernel_rfl) (by kernel_rfl) (Nat.le_of_ble_eq_true rfl) rfl rfl (by omega) (by omega))) ?_
          refine h_do 23 rfl (by kernel_rfl) (wants0 rfl) (fun K39 hK39 => ?_)
          refine d_storeU rfl H37 0 rfl rfl rfl (by kernel_rfl) (show 0 + ((f : Int) + (((2 * (root : Int)) + 1) + 1)).toNat * 1 = (f + (((2 * root) + 1) + 1)) by omega) (by omega) ?_
          intro w40 (H41 : Sat w [rowU g n c ((B.set (f + root) x23).set (f + (((2 * root) + 1) + 1)) x21), restC w (rowU g n c A).fp] w40)
          have hlH41 : ((B.set (f + root) x23).set (f + (((2 * root) + 1) + 1)) x21).length = (B.set (f + root) x23).length := List.length_set
          have S42 := H41.pick [1] (by decide)
          refine hK39 _ _ S42 ?_
          clear hK39 K39
          refine h_fin (by kernel_rfl) ?_
          refine then_normal ?_
          refine w_lit ?_
          refine wl_pure (wants0 rfl) (d := 75) (v := (.int .i64 (((2 * (root : Int)) + 1) + 1))) rfl (by kernel_rfl) ?_
          refine wl_pure (wants0 rfl) (d := 8) (v := (.int .i64 (((2 * (root : Int)) + 1) + 1))) rfl (by kernel_rfl) ?_
          refine w_nil ?_
          refine blk_normal ?_
          refine round_back ?_ _ ⟨((2 * root) + 1) + 1, ((B.set (f + root) x23).set (f + (((2 * root) + 1) + 1)) x21), (show ((.int .i64 (((2 * (root : Int)) + 1) + 1)) : Value) = _ by first | rfl | go_num), (by omega), (by omega), (hS.swap (by omega) (by omega) (by omega) (by omega) h22 h24), (hI.step hw (by omega) (by unfold Kid; omega) (by omega) h22 h24 (bnot_false b27) hmax), H41, rfl⟩ (by omega)
          exact (same_upd rfl (same_upd rfl (same_upd rfl (same_upd rfl (same_upd rfl (same_upd rfl (same_upd rfl (same_upd rfl (same_upd rfl (same_upd rfl (same_upd rfl (same_upd rfl (same_upd rfl (same_upd rfl (same_upd rfl (same_upd rfl (same_upd rfl (same_upd rfl (same_upd rfl (same_upd rfl (same_upd rfl (same_upd rfl (same_upd rfl (same_upd rfl (same_upd rfl (same_upd rfl (same_upd rfl (same_upd rfl (same_upd rfl (same_upd rfl (same_upd rfl (same_upd rfl (same_upd rfl (same_upd rfl (same_upd rfl (same_upd rfl (same_upd rfl (same_upd rfl (same_upd rfl (same_upd rfl (same_upd rfl (same_upd rfl (same_upd rfl (same_upd rfl (same_upd rfl (same_upd rfl (same_upd rfl (same_upd rfl (same_upd rfl (same_upd rfl (same_upd rfl (same_upd rfl (same_upd rfl (same_upd rfl (same_upd rfl (same_upd rfl (same_upd rfl (same_upd rfl (same_upd rfl (same_upd rfl (same_upd rfl (same_upd rfl (same_upd rfl (same_upd rfl (same_upd rfl (same_upd rfl (same_upd rfl (same_upd rfl (same_upd rfl (same_upd rfl (same_upd rfl (same_upd rfl (same_upd rfl (same_ovr))))))))))))))))))))))))))))))))))))))))))))))))))))))))))))))))))))))))))
      · refine wp_know 36 (.bool false) (congrArg Value.bool b20) ?_
        refine wp_iff rfl ?_
        refine w_skip ?_
        refine then_normal ?_
        refine w_seq ?_
        refine w_seq ?_
        refine q_start H19 (by kernel_rfl) (by kernel_rfl) ?_
        refine q_val (wants0 rfl) (d := 39) (v := (.slice (some ⟨g, 0, none⟩) n c)) rfl (fun _ H' => (by kernel_rfl)) ?_
        refine q_val (wants0 rfl) (d := 40) (v := (.int .i64 ((f : Int)))) rfl (fun _ H' => (by kernel_rfl)) ?_
        refine q_val (wants0 rfl) (d := 41) (v := (.int .i64 ((root : Int)))) rfl (fun _ H' => (by kernel_rfl)) ?_
        refine q_val (wants0 rfl) (d := 42) (v := (.int .i64 ((f : Int) + (root : Int)))) rfl (fun _ H' => (e_int (z := (f : Int) + (root : Int)) (by kernel_rfl) (IntWalk.i64_in _ (by omega)))) ?_
        refine q_val (wants0 rfl) (d := 43) (v := (.pointer (some ⟨g, 0 + ((f : Int) + (root : Int)).toNat * 1, none⟩))) rfl (fun _ H' => (e_indexAddr (E := 23) (by kernel_rfl) (by kernel_rfl) (Nat.le_of_ble_eq_true rfl) rfl rfl (by omega) (by omega))) ?_
        obtain ⟨x43, h44⟩ := get_at (show (f + root) < B.length by omega)
        refine q_val (wants0 rfl) (d := 44) (v := (.int .u64 (x43))) rfl (fun _ H' => (e_load1 rfl (by kernel_rfl) (rowU_cell (H'.at 0 rfl) h44 (show 0 + ((f : Int) + (root : Int)).toNat * 1 = (f + root) by omega)))) ?_
        refine q_val (wants0 rfl) (d := 45) (v := (.slice (some ⟨g, 0, none⟩) n c)) rfl (fun _ H' => (by kernel_rfl)) ?_
        refine q_val (wants0 rfl) (d := 46) (v := (.int .i64 ((f : Int)))) rfl (fun _ H' => (by kernel_rfl)) ?_
        refine q_val (wants0 rfl) (d := 47) (v := (.int .i64 ((2 * (root : Int)) + 1))) rfl (fun _ H' => (by kernel_rfl)) ?_
        refine q_val (wants0 rfl) (d := 48) (v := (.int .i64 ((f : Int) + ((2 * (root : Int)) + 1)))) rfl (fun _ H' => (e_int (z := (f : Int) + ((2 * (root : Int)) + 1)) (by kernel_rfl) (IntWalk.i64_in _ (by omega)))) ?_
        refine q_val (wants0 rfl) (d := 49) (v := (.pointer (some ⟨g, 0 + ((f : Int) + ((2 * (root : Int)) + 1)).toNat * 1, none⟩))) rfl (fun _ H' => (e_indexAddr (E := 23) (by kernel_rfl) (by kernel_rfl) (Nat.le_of_ble_eq_true rfl) rfl rfl (by omega) (by omega))) ?_
        refine q_val (wants0 rfl) (d := 50) (v := (.int .u64 (x14))) rfl (fun _ H' => (e_load1 rfl (by kernel_rfl) (rowU_cell (H'.at 0 rfl) h15 (show 0 + ((f : Int) + ((2 * (root : Int)) + 1)).toNat * 1 = (f + ((2 * root) + 1)) by omega)))) ?_
        refine q_call (wants0 rfl) (d := 51) (v := (.bool (ltU x43 x14))) rfl (fun _ _ => by kernel_rfl) (fun w' H' => (lessU_any w' x43 x14).mono fun _ _ h => ⟨h.1, H'.keepU h.2⟩) ?_
        refine q_val (wants0 rfl) (d := 52) (v := (.bool (!(ltU x43 x14)))) rfl (fun _ H' => (by kernel_rfl)) ?_
        refine q_end ?_
        intro w45 H46
        have hmax : ∀ c z, Kid root c → c < hi → B[f + c]? = some z → ltU x14 z = false := by
          intro c z hk hc hz
          rcases hk with rfl | rfl
          · have q := Option.some.inj (h15.symm.trans hz); subst q; exact hw.irrefl _
          · have q := Option.some.inj (h17.symm.trans hz); subst q; exact b20
        refine then_normal ?_
        refine (bsplit (!(ltU x43 x14))).elim (fun b47 => ?_) (fun b47 => ?_)
        · have g48 := bnot_true b47
          refine wp_know 52 (.bool true) (congrArg Value.bool b47) ?_
          have g49 := bnot_true b47
          refine wp_ift rfl ?_
          refine w_ret ?_
          refine then_ret ?_
          refine blk_ret ?_
          refine back_ret ?_
          refine blk_ret ?_
          refine end0 rfl  ?_
          exact ⟨B, rfl, hlB, hS, hI.stop hw h44 (bnot_true b47) h15 hmax, H46⟩
        · have g50 := bnot_false b47
          refine wp_know 52 (.bool false) (congrArg Value.bool b47) ?_
          have g51 := bnot_false b47
          refine wp_iff rfl ?_
          refine w_skip ?_
          refine then_normal ?_
          refine w_seq ?_
          refine k_start H46 [rowU g n c B, restC w (rowU g n c A).fp] [21, 23] 24 rfl (by kernel_rfl) (fun Hx => (Hx.pick [0, 1] (by decide))) ?_
          intro w52 H53 S54
          refine k_pure 0 rfl (by kernel_rfl) (by kernel_rfl) (by kernel_rfl) (fun _ _ _ h => h) S54 (wants0 rfl) rfl (d := 53) (v := (.slice (some ⟨g, 0, none⟩) n c)) rfl (fun _ => (by kernel_rfl)) ?_
          refine k_pure 1 rfl (by kernel_rfl) (by kernel_rfl) (by kernel_rfl) (fun _ _ _ h => h) S54 (wants0 rfl) rfl (d := 54) (v := (.int .i64 ((f : Int)))) rfl (fun _ => (by kernel_rfl)) ?_
          refine k_pure 2 rfl (by kernel_rfl) (by kernel_rfl) (by kernel_rfl) (fun _ _ _ h => h) S54 (wants0 rfl) rfl (d := 55) (v := (.int .i64 ((root : Int)))) rfl (fun _ => (by kernel_rfl)) ?_
          refine k_pure 3 rfl (by kernel_rfl) (by kernel_rfl) (by kernel_rfl) (fun _ _ _ h => h) S54 (wants0 rfl) rfl (d := 56) (v := (.int .i64 ((f : Int) + (root : Int)))) rfl (fun _ => (e_int (z := (f : Int) + (root : Int)) (by kernel_rfl) (IntWalk.i64_in _ (by omega)))) ?_
          refine k_pure 4 rfl (by kernel_rfl) (by kernel_rfl) (by kernel_rfl) (fun _ _ _ h => h) S54 (wants0 rfl) rfl (d := 57) (v := (.slice (some ⟨g, 0, none⟩) n c)) rfl (fun _ => (by kernel_rfl)) ?_
          refine k_pure 5 rfl (by kernel_rfl) (by kernel_rfl) (by kernel_rfl) (fun _ _ _ h => h) S54 (wants0 rfl) rfl (d := 58) (v := (.int .i64 ((f : Int)))) rfl (fun _ => (by kernel_rfl)) ?_
          refine k_pure 6 rfl (by kernel_rfl) (by kernel_rfl) (by kernel_rfl) (fun _ _ _ h => h) S54 (wants0 rfl) rfl (d := 59) (v := (.int .i64 ((2 * (root : Int)) + 1))) rfl (fun _ => (by kernel_rfl)) ?_
          refine k_pure 7 rfl (by kernel_rfl) (by kernel_rfl) (by kernel_rfl) (fun _ _ _ h => h) S54 (wants0 rfl) rfl (d := 60) (v := (.int .i64 ((f : Int) + ((2 * (root : Int)) + 1)))) rfl (fun _ => (e_int (z := (f : Int) + ((2 * (root : Int)) + 1)) (by kernel_rfl) (IntWalk.i64_in _ (by omega)))) ?_
          refine k_pure 8 rfl (by kernel_rfl) (by kernel_rfl) (by kernel_rfl) (fun _ _ _ h => h) S54 (wants0 rfl) rfl (d := 61) (v := (.slice (some ⟨g, 0, none⟩) n c)) rfl (fun _ => (by kernel_rfl)) ?_
          refine k_pure 9 rfl (by kernel_rfl) (by kernel_rfl) (by kernel_rfl) (fun _ _ _ h => h) S54 (wants0 rfl) rfl (d := 62) (v := (.int .i64 ((f : Int)))) rfl (fun _ => (by kernel_rfl)) ?_
          refine k_pure 10 rfl (by kernel_rfl) (by kernel_rfl) (by kernel_rfl) (fun _ _ _ h => h) S54 (wants0 rfl) rfl (d := 63) (v := (.int .i64 ((2 * (root : Int)) + 1))) rfl (fun _ => (by kernel_rfl)) ?_
          refine k_pure 11 rfl (by kernel_rfl) (by kernel_rfl) (by kernel_rfl) (fun _ _ _ h => h) S54 (wants0 rfl) rfl (d := 64) (v := (.int .i64 ((f : Int) + ((2 * (root : Int)) + 1)))) rfl (fun _ => (e_int (z := (f : Int) + ((2 * (root : Int)) + 1)) (by kernel_rfl) (IntWalk.i64_in _ (by omega)))) ?_
          refine k_pure 12 rfl (by kernel_rfl) (by kernel_rfl) (by kernel_rfl) (fun _ _ _ h => h) S54 (wants0 rfl) rfl (d := 65) (v := (.pointer (some ⟨g, 0 + ((f : Int) + ((2 * (root : Int)) + 1)).toNat * 1, none⟩))) rfl (fun _ => (e_indexAddr (E := 23) (by kernel_rfl) (by kernel_rfl) (Nat.le_of_ble_eq_true rfl) rfl rfl (by omega) (by omega))) ?_
          refine k_val 13 rfl (by kernel_rfl) (by kernel_rfl) (by kernel_rfl) (fun _ _ _ h => h) S54 (wants0 rfl) rfl (by kernel_rfl) (d := 66) (v := (.int .u64 (x14))) rfl (fun _ H' => (e_load1 rfl (by kernel_rfl) (rowU_cell (H'.at 0 rfl) h15 (show 0 + ((f : Int) + ((2 * (root : Int)) + 1)).toNat * 1 = (f + ((2 * root) + 1)) by omega)))) ?_
          refine k_pure 14 rfl (by kernel_rfl) (by kernel_rfl) (by kernel_rfl) (fun _ _ _ h => h) S54 (wants0 rfl) rfl (d := 67) (v := (.slice (some ⟨g, 0, none⟩) n c)) rfl (fun _ => (by kernel_rfl)) ?_
          refine k_pure 15 rfl (by kernel_rfl) (by kernel_rfl) (by kernel_rfl) (fun _ _ _ h => h) S54 (wants0 rfl) rfl (d := 68) (v := (.int .i64 ((f : Int)))) rfl (fun _ => (by kernel_rfl)) ?_
          refine k_pure 16 rfl (by kernel_rfl) (by kernel_rfl) (by kernel_rfl) (fun _ _ _ h => h) S54 (wants0 rfl) rfl (d := 69) (v := (.int .i64 ((root : Int)))) rfl (fun _ => (by kernel_rfl)) ?_
          refine k_pure 17 rfl (by kernel_rfl) (by kernel_rfl) (by kernel_rfl) (fun _ _ _ h => h) S54 (wants0 rfl) rfl (d := 70) (v := (.int .i64 ((f : Int) + (root : Int)))) rfl (fun _ => (e_int (z := (f : Int) + (root : Int)) (by kernel_rfl) (IntWalk.i64_in _ (by omega)))) ?_
          refine k_pure 18 rfl (by kernel_rfl) (by kernel_rfl) (by kernel_rfl) (fun _ _ _ h => h) S54 (wants0 rfl) rfl (d := 71) (v := (.pointer (some ⟨g, 0 + ((f : Int) + (root : Int)).toNat * 1, none⟩))) rfl (fun _ => (e_indexAddr (E := 23) (by kernel_rfl) (by kernel_rfl) (Nat.le_of_ble_eq_true rfl) rfl rfl (by omega) (by omega))) ?_
          refine k_val 19 rfl (by kernel_rfl) (by kernel_rfl) (by kernel_rfl) (fun _ _ _ h => h) S54 (wants0 rfl) rfl (by kernel_rfl) (d := 72) (v := (.int .u64 (x43))) rfl (fun _ H' => (e_load1 rfl (by kernel_rfl) (rowU_cell (H'.at 0 rfl) h44 (show 0 + ((f : Int) + (root : Int)).toNat * 1 = (f + root) by omega)))) ?_
          refine k_pure 20 rfl (by kernel_rfl) (by kernel_rfl) (by kernel_rfl) (fun _ _ _ h => h) S54 (wants0 rfl) rfl (d := 73) (v := (.pointer (some ⟨g, 0 + ((f : Int) + (root : Int)).toNat * 1, none⟩))) rfl (fun _ => (e_indexAddr (E := 23) (by kernel_rfl) (by kernel_rfl) (Nat.le_of_ble_eq_true rfl) rfl rfl (by omega) (by omega))) ?_
          refine k_brk 21 (Sat w [restC w (rowU g n c A).fp]) rfl (by kernel_rfl) (wants0 rfl) rfl (fun K55 hK55 => ?_)
          refine d_storeU rfl H53 0 rfl rfl rfl (by kernel_rfl) (show 0 + ((f : Int) + (root : Int)).toNat * 1 = (f + root) by omega) (by omega) ?_
          intro w56 (H57 : Sat w [rowU g n c (B.set (f + root) x14), restC w (rowU g n c A).fp] w56)
          have hlH57 : (B.set (f + root) x14).length = B.length := List.length_set
          have S58 := H57.pick [1] (by decide)
          refine hK55 _ _ S58 ?_
          clear hK55 K55
          refine h_val 22 rfl (by kernel_rfl) (by kernel_rfl) (by kernel_rfl) (fun _ _ _ h => h) S58 (wants0 rfl) (d := 74) (v := (.pointer (some ⟨g, 0 + ((f : Int) + ((2 * (root : Int)) + 1)).toNat * 1, none⟩))) rfl (fun _ H' => (e_indexAddr (E := 23) (by kernel_rfl) (by kernel_rfl) (Nat.le_of_ble_eq_true rfl) rfl rfl (by omega) (by omega))) ?_
          refine h_do 23 rfl (by kernel_rfl) (wants0 rfl) (fun K59 hK59 => ?_)
          refine d_storeU rfl H57 0 rfl rfl rfl (by kernel_rfl) (show 0 + ((f : Int) + ((2 * (root : Int)) + 1)).toNat * 1 = (f + ((2 * root) + 1)) by omega) (by omega) ?_
          intro w60 (H61 : Sat w [rowU g n c ((B.set (f + root) x14).set (f + ((2 * root) + 1)) x43), restC w (rowU g n c A).fp] w60)
          have hlH61 : ((B.set (f + root) x14).set (f + ((2 * root) + 1)) x43).length = (B.set (f + root) x14).length := List.length_set
          have S62 := H61.pick [1] (by decide)
          refine hK59 _ _ S62 ?_
          clear hK59 K59
          refine h_fin (by kernel_rfl) ?_
          refine then_normal ?_
          refine w_lit ?_
          refine wl_pure (wants0 rfl) (d := 75) (v := (.int .i64 ((2 * (root : Int)) + 1))) rfl (by kernel_rfl) ?_
          refine wl_pure (wants0 rfl) (d := 8) (v := (.int .i64 ((2 * (root : Int)) + 1))) rfl (by kernel_rfl) ?_
          refine w_nil ?_
          refine blk_normal ?_
          refine round_back ?_ _ ⟨(2 * root) + 1, ((B.set (f + root) x14).set (f + ((2 * root) + 1)) x43), (show ((.int .i64 ((2 * (root : Int)) + 1)) : Value) = _ by first | rfl | go_num), (by omega), (by omega), (hS.swap (by omega) (by omega) (by omega) (by omega) h44 h15), (hI.step hw (by omega) (by unfold Kid; omega) (by omega) h44 h15 (bnot_false b47) hmax), H61, rfl⟩ (by omega)
          exact (same_upd rfl (same_upd rfl (same_upd rfl (same_upd rfl (same_upd rfl (same_upd rfl (same_upd rfl (same_upd rfl (same_upd rfl (same_upd rfl (same_upd rfl (same_upd rfl (same_upd rfl (same_upd rfl (same_upd rfl (same_upd rfl (same_upd rfl (same_upd rfl (same_upd rfl (same_upd rfl (same_upd rfl (same_upd rfl (same_upd rfl (same_upd rfl (same_upd rfl (same_upd rfl (same_upd rfl (same_upd rfl (same_upd rfl (same_upd rfl (same_upd rfl (same_upd rfl (same_upd rfl (same_upd rfl (same_upd rfl (same_upd rfl (same_upd rfl (same_upd rfl (same_upd rfl (same_upd rfl (same_upd rfl (same_upd rfl (same_upd rfl (same_upd rfl (same_upd rfl (same_upd rfl (same_upd rfl (same_upd rfl (same_upd rfl (same_upd rfl (same_upd rfl (same_upd rfl (same_upd rfl (same_upd rfl (same_upd rfl (same_upd rfl (same_upd rfl (same_upd rfl (same_upd rfl (same_upd rfl (same_upd rfl (same_upd rfl (same_upd rfl (same_upd rfl (same_upd rfl (same_upd rfl (same_upd rfl (same_upd rfl (same_upd rfl (same_upd rfl (same_ovr)))))))))))))))))))))))))))))))))))))))))))))))))))))))))))))))))))))))
    · have g63 := of_decide_eq_false b11
      refine q_know 21 (.bool false) (congrArg Value.bool b11) ?_
      have g64 := of_decide_eq_false b11
      refine q_pass (wantsN 4 21 true rfl (by kernel_rfl) rfl (by kernel_rfl)) rfl ?_
      refine q_pass (wantsN 4 21 true rfl (by kernel_rfl) rfl (by kernel_rfl)) rfl ?_
      refine q_pass (wantsN 4 21 true rfl (by kernel_rfl) rfl (by kernel_rfl)) rfl ?_
      refine q_pass (wantsN 4 21 true rfl (by kernel_rfl) rfl (by kernel_rfl)) rfl ?_
      refine q_pass (wantsN 4 21 true rfl (by kernel_rfl) rfl (by kernel_rfl)) rfl ?_
      refine q_pass (wantsN 4 21 true rfl (by kernel_rfl) rfl (by kernel_rfl)) rfl ?_
      refine q_pass (wantsN 4 21 true rfl (by kernel_rfl) rfl (by kernel_rfl)) rfl ?_
      refine q_pass (wantsN 4 21 true rfl (by kernel_rfl) rfl (by kernel_rfl)) rfl ?_
      refine q_pass (wantsN 4 21 true rfl (by kernel_rfl) rfl (by kernel_rfl)) rfl ?_
      refine q_pass (wantsN 4 21 true rfl (by kernel_rfl) rfl (by kernel_rfl)) rfl ?_
      refine q_pass (wantsN 4 21 true rfl (by kernel_rfl) rfl (by kernel_rfl)) rfl ?_
      refine q_pass (wantsN 4 21 true rfl (by kernel_rfl) rfl (by kernel_rfl)) rfl ?_
      refine q_pass (wantsN 4 21 true rfl (by kernel_rfl) rfl (by kernel_rfl)) rfl ?_
      refine q_pass (wantsN 4 21 true rfl (by kernel_rfl) rfl (by kernel_rfl)) rfl ?_
      refine q_val (wants0 rfl) (d := 36) (v := (.bool false)) rfl (fun _ H' => (by kernel_rfl)) ?_
      refine q_end ?_
      intro w65 H66
      refine then_normal ?_
      refine wp_iff rfl ?_
      refine w_skip ?_
      refine then_normal ?_
      refine w_seq ?_
      refine w_seq ?_
      refine q_start H66 (by kernel_rfl) (by kernel_rfl) ?_
      refine q_val (wants0 rfl) (d := 39) (v := (.slice (some ⟨g, 0, none⟩) n c)) rfl (fun _ H' => (by kernel_rfl)) ?_
      refine q_val (wants0 rfl) (d := 40) (v := (.int .i64 ((f : Int)))) rfl (fun _ H' => (by kernel_rfl)) ?_
      refine q_val (wants0 rfl) (d := 41) (v := (.int .i64 ((root : Int)))) rfl (fun _ H' => (by kernel_rfl)) ?_
      refine q_val (wants0 rfl) (d := 42) (v := (.int .i64 ((f : Int) + (root : Int)))) rfl (fun _ H' => (e_int (z := (f : Int) + (root : Int)) (by kernel_rfl) (IntWalk.i64_in _ (by omega)))) ?_
      refine q_val (wants0 rfl) (d := 43) (v := (.pointer (some ⟨g, 0 + ((f : Int) + (root : Int)).toNat * 1, none⟩))) rfl (fun _ H' => (e_indexAddr (E := 23) (by kernel_rfl) (by kernel_rfl) (Nat.le_of_ble_eq_true rfl) rfl rfl (by omega) (by omega))) ?_
      obtain ⟨x67, h68⟩ := get_at (show (f + root) < B.length by omega)
      refine q_val (wants0 rfl) (d := 44) (v := (.int .u64 (x67))) rfl (fun _ H' => (e_load1 rfl (by kernel_rfl) (rowU_cell (H'.at 0 rfl) h68 (show 0 + ((f : Int) + (root : Int)).toNat * 1 = (f + root) by omega)))) ?_
      refine q_val (wants0 rfl) (d := 45) (v := (.slice (some ⟨g, 0, none⟩) n c)) rfl (fun _ H' => (by kernel_rfl)) ?_
      refine q_val (wants0 rfl) (d := 46) (v := (.int .i64 ((f : Int)))) rfl (fun _ H' => (by kernel_rfl)) ?_
      refine q_val (wants0 rfl) (d := 47) (v := (.int .i64 ((2 * (root : Int)) + 1))) rfl (fun _ H' => (by kernel_rfl)) ?_
      refine q_val (wants0 rfl) (d := 48) (v := (.int .i64 ((f : Int) + ((2 * (root : Int)) + 1)))) rfl (fun _ H' => (e_int (z := (f : Int) + ((2 * (root : Int)) + 1)) (by kernel_rfl) (IntWalk.i64_in _ (by omega)))) ?_
      refine q_val (wants0 rfl) (d := 49) (v := (.pointer (some ⟨g, 0 + ((f : Int) + ((2 * (root : Int)) + 1)).toNat * 1, none⟩))) rfl (fun _ H' => (e_indexAddr (E := 23) (by kernel_rfl) (by kernel_rfl) (Nat.le_of_ble_eq_true rfl) rfl rfl (by omega) (by omega))) ?_
      obtain ⟨x69, h70⟩ := get_at (show (f + ((2 * root) + 1)) < B.length by omega)
      refine q_val (wants0 rfl) (d := 50) (v := (.int .u64 (x69))) rfl (fun _ H' => (e_load1 rfl (by kernel_rfl) (rowU_cell (H'.at 0 rfl) h70 (show 0 + ((f : Int) + ((2 * (root : Int)) + 1)).toNat * 1 = (f + ((2 * root) + 1)) by omega)))) ?_
      refine q_call (wants0 rfl) (d := 51) (v := (.bool (ltU x67 x69))) rfl (fun _ _ => by kernel_rfl) (fun w' H' => (lessU_any w' x67 x69).mono fun _ _ h => ⟨h.1, H'.keepU h.2⟩) ?_
      refine q_val (wants0 rfl) (d := 52) (v := (.bool (!(ltU x67 x69)))) rfl (fun _ H' => (by kernel_rfl)) ?_
      refine q_end ?_
      intro w71 H72
      have hmax : ∀ c z, Kid root c → c < hi → B[f + c]? = some z → ltU x69 z = false := by
        intro c z hk hc hz
        rcases hk with rfl | rfl
        · have q := Option.some.inj (h70.symm.trans hz); subst q; exact hw.irrefl _
        · omega
      refine then_normal ?_
      refine (bsplit (!(ltU x67 x69))).elim (fun b73 => ?_) (fun b73 => ?_)
      · have g74 := bnot_true b73
        refine wp_know 52 (.bool true) (congrArg Value.bool b73) ?_
        have g75 := bnot_true b73
        refine wp_ift rfl ?_
        refine w_ret ?_
        refine then_ret ?_
        refine blk_ret ?_
        refine back_ret ?_
        refine blk_ret ?_
        refine end0 rfl  ?_
        exact ⟨B, rfl, hlB, hS, hI.stop hw h68 (bnot_true b73) h70 hmax, H72⟩
      · have g76 := bnot_false b73
        refine wp_know 52 (.bool false) (congrArg Value.bool b73) ?_
        have g77 := bnot_false b73
        refine wp_iff rfl ?_
        refine w_skip ?_
        refine then_normal ?_
        refine w_seq ?_
        refine k_start H72 [rowU g n c B, restC w (rowU g n c A).fp] [21, 23] 24 rfl (by kernel_rfl) (fun Hx => (Hx.pick [0, 1] (by decide))) ?_
        intro w78 H79 S80
        refine k_pure 0 rfl (by kernel_rfl) (by kernel_rfl) (by kernel_rfl) (fun _ _ _ h => h) S80 (wants0 rfl) rfl (d := 53) (v := (.slice (some ⟨g, 0, none⟩) n c)) rfl (fun _ => (by kernel_rfl)) ?_
        refine k_pure 1 rfl (by kernel_rfl) (by kernel_rfl) (by kernel_rfl) (fun _ _ _ h => h) S80 (wants0 rfl) rfl (d := 54) (v := (.int .i64 ((f : Int)))) rfl (fun _ => (by kernel_rfl)) ?_
        refine k_pure 2 rfl (by kernel_rfl) (by kernel_rfl) (by kernel_rfl) (fun _ _ _ h => h) S80 (wants0 rfl) rfl (d := 55) (v := (.int .i64 ((root : Int)))) rfl (fun _ => (by kernel_rfl)) ?_
        refine k_pure 3 rfl (by kernel_rfl) (by kernel_rfl) (by kernel_rfl) (fun _ _ _ h => h) S80 (wants0 rfl) rfl (d := 56) (v := (.int .i64 ((f : Int) + (root : Int)))) rfl (fun _ => (e_int (z := (f : Int) + (root : Int)) (by kernel_rfl) (IntWalk.i64_in _ (by omega)))) ?_
        refine k_pure 4 rfl (by kernel_rfl) (by kernel_rfl) (by kernel_rfl) (fun _ _ _ h => h) S80 (wants0 rfl) rfl (d := 57) (v := (.slice (some ⟨g, 0, none⟩) n c)) rfl (fun _ => (by kernel_rfl)) ?_
        refine k_pure 5 rfl (by kernel_rfl) (by kernel_rfl) (by kernel_rfl) (fun _ _ _ h => h) S80 (wants0 rfl) rfl (d := 58) (v := (.int .i64 ((f : Int)))) rfl (fun _ => (by kernel_rfl)) ?_
        refine k_pure 6 rfl (by kernel_rfl) (by kernel_rfl) (by kernel_rfl) (fun _ _ _ h => h) S80 (wants0 rfl) rfl (d := 59) (v := (.int .i64 ((2 * (root : Int)) + 1))) rfl (fun _ => (by kernel_rfl)) ?_
        refine k_pure 7 rfl (by kernel_rfl) (by kernel_rfl) (by kernel_rfl) (fun _ _ _ h => h) S80 (wants0 rfl) rfl (d := 60) (v := (.int .i64 ((f : Int) + ((2 * (root : Int)) + 1)))) rfl (fun _ => (e_int (z := (f : Int) + ((2 * (root : Int)) + 1)) (by kernel_rfl) (IntWalk.i64_in _ (by omega)))) ?_
        refine k_pure 8 rfl (by kernel_rfl) (by kernel_rfl) (by kernel_rfl) (fun _ _ _ h => h) S80 (wants0 rfl) rfl (d := 61) (v := (.slice (some ⟨g, 0, none⟩) n c)) rfl (fun _ => (by kernel_rfl)) ?_
        refine k_pure 9 rfl (by kernel_rfl) (by kernel_rfl) (by kernel_rfl) (fun _ _ _ h => h) S80 (wants0 rfl) rfl (d := 62) (v := (.int .i64 ((f : Int)))) rfl (fun _ => (by kernel_rfl)) ?_
        refine k_pure 10 rfl (by kernel_rfl) (by kernel_rfl) (by kernel_rfl) (fun _ _ _ h => h) S80 (wants0 rfl) rfl (d := 63) (v := (.int .i64 ((2 * (root : Int)) + 1))) rfl (fun _ => (by kernel_rfl)) ?_
        refine k_pure 11 rfl (by kernel_rfl) (by kernel_rfl) (by kernel_rfl) (fun _ _ _ h => h) S80 (wants0 rfl) rfl (d := 64) (v := (.int .i64 ((f : Int) + ((2 * (root : Int)) + 1)))) rfl (fun _ => (e_int (z := (f : Int) + ((2 * (root : Int)) + 1)) (by kernel_rfl) (IntWalk.i64_in _ (by omega)))) ?_
        refine k_pure 12 rfl (by kernel_rfl) (by kernel_rfl) (by kernel_rfl) (fun _ _ _ h => h) S80 (wants0 rfl) rfl (d := 65) (v := (.pointer (some ⟨g, 0 + ((f : Int) + ((2 * (root : Int)) + 1)).toNat * 1, none⟩))) rfl (fun _ => (e_indexAddr (E := 23) (by kernel_rfl) (by kernel_rfl) (Nat.le_of_ble_eq_true rfl) rfl rfl (by omega) (by omega))) ?_
        refine k_val 13 rfl (by kernel_rfl) (by kernel_rfl) (by kernel_rfl) (fun _ _ _ h => h) S80 (wants0 rfl) rfl (by kernel_rfl) (d := 66) (v := (.int .u64 (x69))) rfl (fun _ H' => (e_load1 rfl (by kernel_rfl) (rowU_cell (H'.at 0 rfl) h70 (show 0 + ((f : Int) + ((2 * (root : Int)) + 1)).toNat * 1 = (f + ((2 * root) + 1)) by omega)))) ?_
        refine k_pure 14 rfl (by kernel_rfl) (by kernel_rfl) (by kernel_rfl) (fun _ _ _ h => h) S80 (wants0 rfl) rfl (d := 67) (v := (.slice (some ⟨g, 0, none⟩) n c)) rfl (fun _ => (by kernel_rfl)) ?_
        refine k_pure 15 rfl (by kernel_rfl) (by kernel_rfl) (by kernel_rfl) (fun _ _ _ h => h) S80 (wants0 rfl) rfl (d := 68) (v := (.int .i64 ((f : Int)))) rfl (fun _ => (by kernel_rfl)) ?_
        refine k_pure 16 rfl (by kernel_rfl) (by kernel_rfl) (by kernel_rfl) (fun _ _ _ h => h) S80 (wants0 rfl) rfl (d := 69) (v := (.int .i64 ((root : Int)))) rfl (fun _ => (by kernel_rfl)) ?_
        refine k_pure 17 rfl (by kernel_rfl) (by kernel_rfl) (by kernel_rfl) (fun _ _ _ h => h) S80 (wants0 rfl) rfl (d := 70) (v := (.int .i64 ((f : Int) + (root : Int)))) rfl (fun _ => (e_int (z := (f : Int) + (root : Int)) (by kernel_rfl) (IntWalk.i64_in _ (by omega)))) ?_
        refine k_pure 18 rfl (by kernel_rfl) (by kernel_rfl) (by kernel_rfl) (fun _ _ _ h => h) S80 (wants0 rfl) rfl (d := 71) (v := (.pointer (some ⟨g, 0 + ((f : Int) + (root : Int)).toNat * 1, none⟩))) rfl (fun _ => (e_indexAddr (E := 23) (by kernel_rfl) (by kernel_rfl) (Nat.le_of_ble_eq_true rfl) rfl rfl (by omega) (by omega))) ?_
        refine k_val 19 rfl (by kernel_rfl) (by kernel_rfl) (by kernel_rfl) (fun _ _ _ h => h) S80 (wants0 rfl) rfl (by kernel_rfl) (d := 72) (v := (.int .u64 (x67))) rfl (fun _ H' => (e_load1 rfl (by kernel_rfl) (rowU_cell (H'.at 0 rfl) h68 (show 0 + ((f : Int) + (root : Int)).toNat * 1 = (f + root) by omega)))) ?_
        refine k_pure 20 rfl (by kernel_rfl) (by kernel_rfl) (by kernel_rfl) (fun _ _ _ h => h) S80 (wants0 rfl) rfl (d := 73) (v := (.pointer (some ⟨g, 0 + ((f : Int) + (root : Int)).toNat * 1, none⟩))) rfl (fun _ => (e_indexAddr (E := 23) (by kernel_rfl) (by kernel_rfl) (Nat.le_of_ble_eq_true rfl) rfl rfl (by omega) (by omega))) ?_
        refine k_brk 21 (Sat w [restC w (rowU g n c A).fp]) rfl (by kernel_rfl) (wants0 rfl) rfl (fun K81 hK81 => ?_)
        refine d_storeU rfl H79 0 rfl rfl rfl (by kernel_rfl) (show 0 + ((f : Int) + (root : Int)).toNat * 1 = (f + root) by omega) (by omega) ?_
        intro w82 (H83 : Sat w [rowU g n c (B.set (f + root) x69), restC w (rowU g n c A).fp] w82)
        have hlH83 : (B.set (f + root) x69).length = B.length := List.length_set
        have S84 := H83.pick [1] (by decide)
        refine hK81 _ _ S84 ?_
        clear hK81 K81
        refine h_val 22 rfl (by kernel_rfl) (by kernel_rfl) (by kernel_rfl) (fun _ _ _ h => h) S84 (wants0 rfl) (d := 74) (v := (.pointer (some ⟨g, 0 + ((f : Int) + ((2 * (root : Int)) + 1)).toNat * 1, none⟩))) rfl (fun _ H' => (e_indexAddr (E := 23) (by kernel_rfl) (by kernel_rfl) (Nat.le_of_ble_eq_true rfl) rfl rfl (by omega) (by omega))) ?_
        refine h_do 23 rfl (by kernel_rfl) (wants0 rfl) (fun K85 hK85 => ?_)
        refine d_storeU rfl H83 0 rfl rfl rfl (by kernel_rfl) (show 0 + ((f : Int) + ((2 * (root : Int)) + 1)).toNat * 1 = (f + ((2 * root) + 1)) by omega) (by omega) ?_
        intro w86 (H87 : Sat w [rowU g n c ((B.set (f + root) x69).set (f + ((2 * root) + 1)) x67), restC w (rowU g n c A).fp] w86)
        have hlH87 : ((B.set (f + root) x69).set (f + ((2 * root) + 1)) x67).length = (B.set (f + root) x69).length := List.length_set
        have S88 := H87.pick [1] (by decide)
        refine hK85 _ _ S88 ?_
        clear hK85 K85
        refine h_fin (by kernel_rfl) ?_
        refine then_normal ?_
        refine w_lit ?_
        refine wl_pure (wants0 rfl) (d := 75) (v := (.int .i64 ((2 * (root : Int)) + 1))) rfl (by kernel_rfl) ?_
        refine wl_pure (wants0 rfl) (d := 8) (v := (.int .i64 ((2 * (root : Int)) + 1))) rfl (by kernel_rfl) ?_
        refine w_nil ?_
        refine blk_normal ?_
        refine round_back ?_ _ ⟨(2 * root) + 1, ((B.set (f + root) x69).set (f + ((2 * root) + 1)) x67), (show ((.int .i64 ((2 * (root : Int)) + 1)) : Value) = _ by first | rfl | go_num), (by omega), (by omega), (hS.swap (by omega) (by omega) (by omega) (by omega) h68 h70), (hI.step hw (by omega) (by unfold Kid; omega) (by omega) h68 h70 (bnot_false b73) hmax), H87, rfl⟩ (by omega)
        exact (same_upd rfl (same_upd rfl (same_upd rfl (same_upd rfl (same_upd rfl (same_upd rfl (same_upd rfl (same_upd rfl (same_upd rfl (same_upd rfl (same_upd rfl (same_upd rfl (same_upd rfl (same_upd rfl (same_upd rfl (same_upd rfl (same_upd rfl (same_upd rfl (same_upd rfl (same_upd rfl (same_upd rfl (same_upd rfl (same_upd rfl (same_upd rfl (same_upd rfl (same_upd rfl (same_upd rfl (same_upd rfl (same_upd rfl (same_upd rfl (same_upd rfl (same_upd rfl (same_upd rfl (same_upd rfl (same_upd rfl (same_upd rfl (same_upd rfl (same_upd rfl (same_upd rfl (same_upd rfl (same_upd rfl (same_upd rfl (same_upd rfl (same_upd rfl (same_upd rfl (same_upd rfl (same_upd rfl (same_upd rfl (same_upd rfl (same_upd rfl (same_upd rfl (same_upd rfl (same_upd rfl (same_upd rfl (same_upd rfl (same_upd rfl (same_upd rfl (same_upd rfl (same_upd rfl (same_upd rfl (same_upd rfl (same_upd rfl (same_upd rfl (same_upd rfl (same_upd rfl (same_upd rfl (same_upd rfl (same_upd rfl (same_upd rfl (same_ovr))))))))))))))))))))))))))))))))))))))))))))))))))))))))))))))))))))))

end Go.Proofs.Ytbpeofcoceaahaa
