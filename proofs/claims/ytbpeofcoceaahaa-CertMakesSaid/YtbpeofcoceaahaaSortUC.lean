/- WHAT IS PROVED: slices' sort, its functions: contracts. Conditions: stated with each. -/
import Derived.Test.YtbpeofcoceaahaaSortUB
namespace Go.Proofs.Ytbpeofcoceaahaa
open Go.RowKit

set_option maxRecDepth 100000 in
set_option maxHeartbeats 1000000 in
theorem heapU_any (w : World) (g n c a b : Nat) (A : List Int) (hT : (rowU g n c A).ok w) (hn : n ≤ 1000000000000) (hab : a ≤ b ∧ b ≤ n) (hab2 : a < b) :
    Calls Try.prog 97 #[(.slice (some ⟨g, 0, none⟩) n c), (.int .i64 ((a : Int))), (.int .i64 ((b : Int)))] w fun e w' => ∃ B : List Int, e = .returned (.tuple #[]) ∧ B.length = n ∧ SegP a b A B ∧ Srt ltU a b B ∧ Sat w [rowU g n c B, restC w (rowU g n c A).fp] w' := by
  have H : Sat w [rowU g n c A, restC w (rowU g n c A).fp] w := Sat.start1 hT
  have hl := rowU_len hT
  have hw := swU
  obtain ⟨m, hm⟩ : ∃ m : Nat, a + m = b := ⟨b - a, by omega⟩
  refine calls_fr Try.func97 rfl 56 rfl (Nat.le_of_ble_eq_true rfl) ?_
  refine w_seq ?_
  refine w_lit ?_
  refine wl_pure (wants0 rfl) (d := 11) (v := (.int .i64 ((a : Int)))) rfl (by kernel_rfl) ?_
  refine wl_pure (wants0 rfl) (d := 6) (v := (.int .i64 ((a : Int)))) rfl (by kernel_rfl) ?_
  refine w_nil ?_
  refine then_normal ?_
  refine w_seq ?_
  refine w_lit ?_
  refine wl_pure (wants0 rfl) (d := 7) (v := (.int .i64 (0))) rfl (by kernel_rfl) ?_
  refine w_nil ?_
  refine then_normal ?_
  refine w_seq ?_
  refine w_lit ?_
  refine wl_pure (wants0 rfl) (d := 12) (v := (.int .i64 ((b : Int)))) rfl (by kernel_rfl) ?_
  refine wl_pure (wants0 rfl) (d := 13) (v := (.int .i64 ((a : Int)))) rfl (by kernel_rfl) ?_
  refine wl_pure (wants0 rfl) (d := 14) (v := (.int .i64 ((b : Int) - (a : Int)))) rfl (e_int (z := (b : Int) - (a : Int)) (by kernel_rfl) (IntWalk.i64_in _ (by omega))) ?_
  refine wl_pure (wants0 rfl) (d := 8) (v := (.int .i64 ((b : Int) - (a : Int)))) rfl (by kernel_rfl) ?_
  refine w_nil ?_
  refine then_normal ?_
  refine w_seq ?_
  refine w_seq ?_
  refine wp_know 8 (.int .i64 ((m : Int))) (show ((.int .i64 ((b : Int) - (a : Int))) : Value) = _ by first | rfl | go_num) ?_
  refine w_lit ?_
  refine wl_pure (wants0 rfl) (d := 15) (v := (.int .i64 ((m : Int)))) rfl (by kernel_rfl) ?_
  refine wl_pure (wants0 rfl) (d := 16) (v := (.int .i64 ((m : Int) - 1))) rfl (e_int (z := (m : Int) - 1) (by kernel_rfl) (IntWalk.i64_in _ (by omega))) ?_
  refine wl_pure (wants0 rfl) (d := 17) (v := (.int .i64 (((m : Int) - 1) / 2))) rfl (e_quo (by kernel_rfl) (by omega) (by omega) (IntWalk.i64_in _ (by omega))) ?_
  refine wl_pure (wants0 rfl) (d := 9) (v := (.int .i64 (((m : Int) - 1) / 2))) rfl (by kernel_rfl) ?_
  refine w_nil ?_
  refine then_normal ?_
  refine w_block ?_
  refine wp_round [9, 18, 19, 20, 21, 22, 23, 24, 25, 26] (fun F_ W_ m_ => ∃ (k : Nat) (B : List Int), F_ 9 = (.int .i64 (((k : Int) - 1))) ∧ (k ≤ m) ∧ (B.length = n) ∧ (SegP a b A B) ∧ (Heap ltU a k m B) ∧ Sat w [rowU g n c B, restC w (rowU g n c A).fp] W_ ∧ m_ = k + 1) _ ⟨((m - 1) / 2 + 1), A, (show (Value.int .i64 (((m : Int) - 1) / 2)) = .int .i64 ((((m - 1) / 2 + 1 : Nat) : Int) - 1) by congr 1; omega), (by omega), hl, .refl, (fun r c _ _ h1 h2 h3 => by unfold Kid at h2; omega), H, rfl⟩ ?_
  rintro g1 w2 _ ⟨k, B, v4, hk, hlB, hS, hh, H3, rfl⟩
  refine wp_know 9 _ v4 ?_
  refine w_seq ?_
  refine w_seq ?_
  refine w_lit ?_
  refine wl_pure (wants0 rfl) (d := 18) (v := (.int .i64 (((k : Int) - 1)))) rfl (by kernel_rfl) ?_
  refine wl_pure (wants0 rfl) (d := 19) (v := (.bool (decide (((k : Int) - 1) ≥ 0)))) rfl (by kernel_rfl) ?_
  refine w_nil ?_
  refine then_normal ?_
  refine (bsplit (decide (((k : Int) - 1) ≥ 0))).elim (fun b6 => ?_) (fun b6 => ?_)
  · have g7 := of_decide_eq_true b6
    refine wp_know 19 (.bool true) (congrArg Value.bool b6) ?_
    have g8 := of_decide_eq_true b6
    refine wp_ift rfl ?_
    refine w_skip ?_
    refine then_normal ?_
    refine w_seq ?_
    refine w_block ?_
    refine wp_know 9 (.int .i64 (((k - 1 : Nat) : Int))) (show ((.int .i64 (((k : Int) - 1))) : Value) = _ by first | rfl | go_num) ?_
    refine w_lit ?_
    refine wl_pure (wants0 rfl) (d := 22) (v := (.slice (some ⟨g, 0, none⟩) n c)) rfl (by kernel_rfl) ?_
    refine wl_pure (wants0 rfl) (d := 23) (v := (.int .i64 (((k - 1 : Nat) : Int)))) rfl (by kernel_rfl) ?_
    refine wl_pure (wants0 rfl) (d := 24) (v := (.int .i64 ((m : Int)))) rfl (by kernel_rfl) ?_
    refine wl_pure (wants0 rfl) (d := 25) (v := (.int .i64 ((a : Int)))) rfl (by kernel_rfl) ?_
    refine wl_do (wants0 rfl) (fun K9 hK9 => ?_)
    refine d_call (d := 26) rfl (by kernel_rfl) (siftU_any w2 g n c (k - 1) m a B (H3.at 0 rfl) hn (by omega) (by rw [show k - 1 + 1 = k by omega]; exact hh)) ?_
    rintro _ w11 ⟨B10, rfl, l12, S13, h15, T14⟩
    have H17 : Sat w [rowU g n c B10, restC w (rowU g n c A).fp] w11 := (Sat.turn1 (L' := [rowU g n c B10]) (R := [restC w (rowU g n c A).fp]) H3 0 [1] (by decide) rfl rfl T14).pick [0, 1] (by decide)
    refine ⟨_, rfl, ?_⟩
    refine hK9 _ _ ?_
    clear hK9 K9
    refine w_nil ?_
    refine blk_normal ?_
    refine then_normal ?_
    refine w_lit ?_
    refine wl_pure (wants0 rfl) (d := 20) (v := (.int .i64 (((k - 1 : Nat) : Int)))) rfl (by kernel_rfl) ?_
    refine wl_pure (wants0 rfl) (d := 21) (v := (.int .i64 (((k - 1 : Nat) : Int) - 1))) rfl (e_int (z := ((k - 1 : Nat) : Int) - 1) (by kernel_rfl) (IntWalk.i64_in _ (by omega))) ?_
    refine wl_pure (wants0 rfl) (d := 9) (v := (.int .i64 (((k - 1 : Nat) : Int) - 1))) rfl (by kernel_rfl) ?_
    refine w_nil ?_
    refine round_back ?_ _ ⟨(k - 1), B10, (show ((.int .i64 (((k - 1 : Nat) : Int) - 1)) : Value) = _ by first | rfl | go_num), (by omega), (by omega), (hS.trans (S13.mono (by omega) (by omega))), h15, H17, rfl⟩ (by omega)
    exact (same_upd rfl (same_upd rfl (same_upd rfl (same_upd rfl (same_upd rfl (same_upd rfl (same_upd rfl (same_upd rfl (same_upd rfl (same_upd rfl (same_upd rfl (same_upd rfl (same_upd rfl (same_ovr))))))))))))))
  · have g18 := of_decide_eq_false b6
    refine wp_know 19 (.bool false) (congrArg Value.bool b6) ?_
    have g19 := of_decide_eq_false b6
    refine wp_iff rfl ?_
    refine w_exit ?_
    refine then_exit ?_
    refine back_exit ?_
    refine blk_hit ?_
    refine then_normal ?_
    refine w_seq ?_
    obtain rfl : k = 0 := by omega
    have hh0 := hh
    refine w_lit ?_
    refine wl_pure (wants0 rfl) (d := 27) (v := (.int .i64 ((m : Int)))) rfl (by kernel_rfl) ?_
    refine wl_pure (wants0 rfl) (d := 28) (v := (.int .i64 ((m : Int) - 1))) rfl (e_int (z := (m : Int) - 1) (by kernel_rfl) (IntWalk.i64_in _ (by omega))) ?_
    refine wl_pure (wants0 rfl) (d := 10) (v := (.int .i64 ((m : Int) - 1))) rfl (by kernel_rfl) ?_
    refine w_nil ?_
    refine then_normal ?_
    refine w_block ?_
    refine wp_round [10, 29, 30, 31, 32, 33, 34, 35, 36, 37, 38, 39, 40, 41, 42, 43, 44, 45, 46, 47, 48, 49, 50, 51, 52, 53, 54, 55] (fun F_ W_ m_ => ∃ (i : Nat) (C : List Int), F_ 10 = (.int .i64 (((i : Int) - 1))) ∧ (i ≤ m) ∧ (C.length = n) ∧ (SegP a b A C) ∧ (Pop ltU a i m C) ∧ Sat w [rowU g n c C, restC w (rowU g n c A).fp] W_ ∧ m_ = i + 1) _ ⟨m, B, (by first | rfl | go_num), (Nat.le_refl _), hlB, hS, (Pop.start hh0), H3, rfl⟩ ?_
    rintro g20 w21 _ ⟨i, C, v23, hi, hlC, hS2, hP, H22, rfl⟩
    refine wp_know 10 _ v23 ?_
    refine w_seq ?_
    refine w_seq ?_
    refine w_lit ?_
    refine wl_pure (wants0 rfl) (d := 29) (v := (.int .i64 (((i : Int) - 1)))) rfl (by kernel_rfl) ?_
    refine wl_pure (wants0 rfl) (d := 30) (v := (.bool (decide (((i : Int) - 1) ≥ 0)))) rfl (by kernel_rfl) ?_
    refine w_nil ?_
    refine then_normal ?_
    refine (bsplit (decide (((i : Int) - 1) ≥ 0))).elim (fun b25 => ?_) (fun b25 => ?_)
    · have g26 := of_decide_eq_true b25
      refine wp_know 30 (.bool true) (congrArg Value.bool b25) ?_
      have g27 := of_decide_eq_true b25
      refine wp_ift rfl ?_
      refine w_skip ?_
      refine then_normal ?_
      refine w_seq ?_
      refine w_block ?_
      refine w_seq ?_
      refine wp_know 10 (.int .i64 (((i - 1 : Nat) : Int))) (show ((.int .i64 (((i : Int) - 1))) : Value) = _ by first | rfl | go_num) ?_
      obtain ⟨x28, h29⟩ := get_at (show (a + (i - 1)) < C.length by omega)
      obtain ⟨x30, h31⟩ := get_at (show a < C.length by omega)
      refine k_start H22 [rowU g n c C, restC w (rowU g n c A).fp] [17, 19] 20 rfl (by kernel_rfl) (fun Hx => (Hx.pick [0, 1] (by decide))) ?_
      intro w32 H33 S34
      refine k_pure 0 rfl (by kernel_rfl) (by kernel_rfl) (by kernel_rfl) (fun _ _ _ h => h) S34 (wants0 rfl) rfl (d := 33) (v := (.slice (some ⟨g, 0, none⟩) n c)) rfl (fun _ => (by kernel_rfl)) ?_
      refine k_pure 1 rfl (by kernel_rfl) (by kernel_rfl) (by kernel_rfl) (fun _ _ _ h => h) S34 (wants0 rfl) rfl (d := 34) (v := (.int .i64 ((a : Int)))) rfl (fun _ => (by kernel_rfl)) ?_
      refine k_pure 2 rfl (by kernel_rfl) (by kernel_rfl) (by kernel_rfl) (fun _ _ _ h => h) S34 (wants0 rfl) rfl (d := 35) (v := (.slice (some ⟨g, 0, none⟩) n c)) rfl (fun _ => (by kernel_rfl)) ?_
      refine k_pure 3 rfl (by kernel_rfl) (by kernel_rfl) (by kernel_rfl) (fun _ _ _ h => h) S34 (wants0 rfl) rfl (d := 36) (v := (.int .i64 ((a : Int)))) rfl (fun _ => (by kernel_rfl)) ?_
      refine k_pure 4 rfl (by kernel_rfl) (by kernel_rfl) (by kernel_rfl) (fun _ _ _ h => h) S34 (wants0 rfl) rfl (d := 37) (v := (.int .i64 (((i - 1 : Nat) : Int)))) rfl (fun _ => (by kernel_rfl)) ?_
      refine k_pure 5 rfl (by kernel_rfl) (by kernel_rfl) (by kernel_rfl) (fun _ _ _ h => h) S34 (wants0 rfl) rfl (d := 38) (v := (.int .i64 ((a : Int) + ((i - 1 : Nat) : Int)))) rfl (fun _ => (e_int (z := (a : Int) + ((i - 1 : Nat) : Int)) (by kernel_rfl) (IntWalk.i64_in _ (by omega)))) ?_
      refine k_pure 6 rfl (by kernel_rfl) (by kernel_rfl) (by kernel_rfl) (fun _ _ _ h => h) S34 (wants0 rfl) rfl (d := 39) (v := (.slice (some ⟨g, 0, none⟩) n c)) rfl (fun _ => (by kernel_rfl)) ?_
      refine k_pure 7 rfl (by kernel_rfl) (by kernel_rfl) (by kernel_rfl) (fun _ _ _ h => h) S34 (wants0 rfl) rfl (d := 40) (v := (.int .i64 ((a : Int)))) rfl (fun _ => (by kernel_rfl)) ?_
      refine k_pure 8 rfl (by kernel_rfl) (by kernel_rfl) (by kernel_rfl) (fun _ _ _ h => h) S34 (wants0 rfl) rfl (d := 41) (v := (.int .i64 (((i - 1 : Nat) : Int)))) rfl (fun _ => (by kernel_rfl)) ?_
      refine k_pure 9 rfl (by kernel_rfl) (by kernel_rfl) (by kernel_rfl) (fun _ _ _ h => h) S34 (wants0 rfl) rfl (d := 42) (v := (.int .i64 ((a : Int) + ((i - 1 : Nat) : Int)))) rfl (fun _ => (e_int (z := (a : Int) + ((i - 1 : Nat) : Int)) (by kernel_rfl) (IntWalk.i64_in _ (by omega)))) ?_
      refine k_pure 10 rfl (by kernel_rfl) (by kernel_rfl) (by kernel_rfl) (fun _ _ _ h => h) S34 (wants0 rfl) rfl (d := 43) (v := (.pointer (some ⟨g, 0 + ((a : Int) + ((i - 1 : Nat) : Int)).toNat * 1, none⟩))) rfl (fun _ => (e_indexAddr (E := 23) (by kernel_rfl) (by kernel_rfl) (Nat.le_of_ble_eq_true rfl) rfl rfl (by omega) (by omega))) ?_
      refine k_val 11 rfl (by kernel_rfl) (by kernel_rfl) (by kernel_rfl) (fun _ _ _ h => h) S34 (wants0 rfl) rfl (by kernel_rfl) (d := 44) (v := (.int .u64 (x28))) rfl (fun _ H' => (e_load1 rfl (by kernel_rfl) (rowU_cell (H'.at 0 rfl) h29 (show 0 + ((a : Int) + ((i - 1 : Nat) : Int)).toNat * 1 = (a + (i - 1)) by omega)))) ?_
      refine k_pure 12 rfl (by kernel_rfl) (by kernel_rfl) (by kernel_rfl) (fun _ _ _ h => h) S34 (wants0 rfl) rfl (d := 45) (v := (.slice (some ⟨g, 0, none⟩) n c)) rfl (fun _ => (by kernel_rfl)) ?_
      refine k_pure 13 rfl (by kernel_rfl) (by kernel_rfl) (by kernel_rfl) (fun _ _ _ h => h) S34 (wants0 rfl) rfl (d := 46) (v := (.int .i64 ((a : Int)))) rfl (fun _ => (by kernel_rfl)) ?_
      refine k_pure 14 rfl (by kernel_rfl) (by kernel_rfl) (by kernel_rfl) (fun _ _ _ h => h) S34 (wants0 rfl) rfl (d := 47) (v := (.pointer (some ⟨g, 0 + ((a : Int)).toNat * 1, none⟩))) rfl (fun _ => (e_indexAddr (E := 23) (by kernel_rfl) (by kernel_rfl) (Nat.le_of_ble_eq_true rfl) rfl rfl (by omega) (by omega))) ?_
      refine k_val 15 rfl (by kernel_rfl) (by kernel_rfl) (by kernel_rfl) (fun _ _ _ h => h) S34 (wants0 rfl) rfl (by kernel_rfl) (d := 48) (v := (.int .u64 (x30))) rfl (fun _ H' => (e_load1 rfl (by kernel_rfl) (rowU_cell (H'.at 0 rfl) h31 (show 0 + ((a : Int)).toNat * 1 = a by omega)))) ?_
      refine k_pure 16 rfl (by kernel_rfl) (by kernel_rfl) (by kernel_rfl) (fun _ _ _ h => h) S34 (wants0 rfl) rfl (d := 49) (v := (.pointer (some ⟨g, 0 + ((a : Int)).toNat * 1, none⟩))) rfl (fun _ => (e_indexAddr (E := 23) (by kernel_rfl) (by kernel_rfl) (Nat.le_of_ble_eq_true rfl) rfl rfl (by omega) (by omega))) ?_
      refine k_brk 17 (Sat w [restC w (rowU g n c A).fp]) rfl (by kernel_rfl) (wants0 rfl) rfl (fun K35 hK35 => ?_)
      refine d_storeU rfl H33 0 rfl rfl rfl (by kernel_rfl) (show 0 + ((a : Int)).toNat * 1 = a by omega) (by omega) ?_
      intro w36 (H37 : Sat w [rowU g n c (C.set a x28), restC w (rowU g n c A).fp] w36)
      have hlH37 : (C.set a x28).length = C.length := List.length_set
      have S38 := H37.pick [1] (by decide)
      refine hK35 _ _ S38 ?_
      clear hK35 K35
      refine h_val 18 rfl (by kernel_rfl) (by kernel_rfl) (by kernel_rfl) (fun _ _ _ h => h) S38 (wants0 rfl) (d := 50) (v := (.pointer (some ⟨g, 0 + ((a : Int) + ((i - 1 : Nat) : Int)).toNat * 1, none⟩))) rfl (fun _ H' => (e_indexAddr (E := 23) (by kernel_rfl) (by kernel_rfl) (Nat.le_of_ble_eq_true rfl) rfl rfl (by omega) (by omega))) ?_
      refine h_do 19 rfl (by kernel_rfl) (wants0 rfl) (fun K39 hK39 => ?_)
      refine d_storeU rfl H37 0 rfl rfl rfl (by kernel_rfl) (show 0 + ((a : Int) + ((i - 1 : Nat) : Int)).toNat * 1 = (a + (i - 1)) by omega) (by omega) ?_
      intro w40 (H41 : Sat w [rowU g n c ((C.set a x28).set (a + (i - 1)) x30), restC w (rowU g n c A).fp] w40)
      have hlH41 : ((C.set a x28).set (a + (i - 1)) x30).length = (C.set a x28).length := List.length_set
      have S42 := H41.pick [1] (by decide)
      refine hK39 _ _ S42 ?_
      clear hK39 K39
      refine h_fin (by kernel_rfl) ?_
      refine then_normal ?_
      have hP2 : Pop ltU a (i - 1 + 1) m C := by rw [show i - 1 + 1 = i by omega]; exact hP
      have hsw := hP2.swap hw (by omega) (by omega) h31 h29
      have hS3 := hS2.swap (a := a) (b := b) (by omega) (by omega) (by omega) (by omega) h31 h29
      replace hS2 := hS3
      refine w_lit ?_
      refine wl_pure (wants0 rfl) (d := 51) (v := (.slice (some ⟨g, 0, none⟩) n c)) rfl (by kernel_rfl) ?_
      refine wl_pure (wants0 rfl) (d := 52) (v := (.int .i64 (0))) rfl (by kernel_rfl) ?_
      refine wl_pure (wants0 rfl) (d := 53) (v := (.int .i64 (((i - 1 : Nat) : Int)))) rfl (by kernel_rfl) ?_
      refine wl_pure (wants0 rfl) (d := 54) (v := (.int .i64 ((a : Int)))) rfl (by kernel_rfl) ?_
      refine wl_do (wants0 rfl) (fun K43 hK43 => ?_)
      refine d_call (d := 55) rfl (by kernel_rfl) (siftU_any w40 g n c 0 (i - 1) a ((C.set a x28).set (a + (i - 1)) x30) (H41.at 0 rfl) hn (by omega) hsw.1) ?_
      rintro _ w45 ⟨B44, rfl, l46, S47, h49, T48⟩
      have H51 : Sat w [rowU g n c B44, restC w (rowU g n c A).fp] w45 := (Sat.turn1 (L' := [rowU g n c B44]) (R := [restC w (rowU g n c A).fp]) H41 0 [1] (by decide) rfl rfl T48).pick [0, 1] (by decide)
      refine ⟨_, rfl, ?_⟩
      refine hK43 _ _ ?_
      clear hK43 K43
      refine w_nil ?_
      refine blk_normal ?_
      refine then_normal ?_
      refine w_lit ?_
      refine wl_pure (wants0 rfl) (d := 31) (v := (.int .i64 (((i - 1 : Nat) : Int)))) rfl (by kernel_rfl) ?_
      refine wl_pure (wants0 rfl) (d := 32) (v := (.int .i64 (((i - 1 : Nat) : Int) - 1))) rfl (e_int (z := ((i - 1 : Nat) : Int) - 1) (by kernel_rfl) (IntWalk.i64_in _ (by omega))) ?_
      refine wl_pure (wants0 rfl) (d := 10) (v := (.int .i64 (((i - 1 : Nat) : Int) - 1))) rfl (by kernel_rfl) ?_
      refine w_nil ?_
      refine round_back ?_ _ ⟨(i - 1), B44, (show ((.int .i64 (((i - 1 : Nat) : Int) - 1)) : Value) = _ by first | rfl | go_num), (by omega), (by omega), (hS2.trans (S47.mono (by omega) (by omega))), (Pop.down hsw.2.1 hsw.2.2 (S47.mono (Nat.le_refl _) (by omega)) h49), H51, rfl⟩ (by omega)
      exact (same_upd rfl (same_upd rfl (same_upd rfl (same_upd rfl (same_upd rfl (same_upd rfl (same_upd rfl (same_upd rfl (same_upd rfl (same_upd rfl (same_upd rfl (same_upd rfl (same_upd rfl (same_upd rfl (same_upd rfl (same_upd rfl (same_upd rfl (same_upd rfl (same_upd rfl (same_upd rfl (same_upd rfl (same_upd rfl (same_upd rfl (same_upd rfl (same_upd rfl (same_upd rfl (same_upd rfl (same_upd rfl (same_upd rfl (same_upd rfl (same_upd rfl (same_ovr))))))))))))))))))))))))))))))))
    · have g52 := of_decide_eq_false b25
      refine wp_know 30 (.bool false) (congrArg Value.bool b25) ?_
      have g53 := of_decide_eq_false b25
      refine wp_iff rfl ?_
      refine w_exit ?_
      refine then_exit ?_
      refine back_exit ?_
      refine blk_hit ?_
      refine end_normal ?_
      refine end0 rfl  ?_
      obtain rfl : i = 0 := by omega
      exact ⟨C, rfl, hlC, hS2, by have q := hP.srt; rw [Nat.add_zero, hm] at q; exact q, H22⟩

set_option maxRecDepth 100000 in
set_option maxHeartbeats 1000000 in
theorem reverseU_any (w : World) (g n c a b : Nat) (A : List Int) (hT : (rowU g n c A).ok w) (hn : n ≤ 1000000000000) (hab : a ≤ b ∧ b ≤ n) :
    Calls Try.prog 100 #[(.slice (some ⟨g, 0, none⟩) n c), (.int .i64 ((a : Int))), (.int .i64 ((b : Int)))] w fun e w' => ∃ B : List Int, e = .returned (.tuple #[]) ∧ B.length = n ∧ SegP a b A B ∧ Sat w [rowU g n c B, restC w (rowU g n c A).fp] w' := by
  have H : Sat w [rowU g n c A, restC w (rowU g n c A).fp] w := Sat.start1 hT
  have hl := rowU_len hT
  have hw := swU
  refine calls_fr Try.func100 rfl 32 rfl (Nat.le_of_ble_eq_true rfl) ?_
  refine w_seq ?_
  refine w_lit ?_
  refine wl_pure (wants0 rfl) (d := 8) (v := (.int .i64 ((a : Int)))) rfl (by kernel_rfl) ?_
  refine wl_pure (wants0 rfl) (d := 6) (v := (.int .i64 ((a : Int)))) rfl (by kernel_rfl) ?_
  refine w_nil ?_
  refine then_normal ?_
  refine w_seq ?_
  refine w_lit ?_
  refine wl_pure (wants0 rfl) (d := 9) (v := (.int .i64 ((b : Int)))) rfl (by kernel_rfl) ?_
  refine wl_pure (wants0 rfl) (d := 10) (v := (.int .i64 ((b : Int) - 1))) rfl (e_int (z := (b : Int) - 1) (by kernel_rfl) (IntWalk.i64_in _ (by omega))) ?_
  refine wl_pure (wants0 rfl) (d := 7) (v := (.int .i64 ((b : Int) - 1))) rfl (by kernel_rfl) ?_
  refine w_nil ?_
  refine then_normal ?_
  refine w_block ?_
  refine wp_round [6, 7, 11, 12, 13, 14, 15, 16, 17, 18, 19, 20, 21, 22, 23, 24, 25, 26, 27, 28, 29, 30, 31] (fun F_ W_ m_ => ∃ (i j : Nat) (B : List Int), F_ 6 = (.int .i64 ((i : Int))) ∧ F_ 7 = (.int .i64 (((j : Int) - 1))) ∧ (a ≤ i ∧ j ≤ b) ∧ (B.length = n) ∧ (SegP a b A B) ∧ Sat w [rowU g n c B, restC w (rowU g n c A).fp] W_ ∧ m_ = j + 1 - i) _ ⟨a, b, A, (by first | rfl | go_num), (by first | rfl | go_num), (by omega), hl, .refl, H, rfl⟩ ?_
  rintro g1 w2 _ ⟨i, j, B, v4, v5, hi, hlB, hS, H3, rfl⟩
  refine wp_know 6 _ v4 ?_
  refine wp_know 7 _ v5 ?_
  refine w_seq ?_
  refine w_seq ?_
  refine w_lit ?_
  refine wl_pure (wants0 rfl) (d := 11) (v := (.int .i64 ((i : Int)))) rfl (by kernel_rfl) ?_
  refine wl_pure (wants0 rfl) (d := 12) (v := (.int .i64 (((j : Int) - 1)))) rfl (by kernel_rfl) ?_
  refine wl_pure (wants0 rfl) (d := 13) (v := (.bool (decide ((i : Int) < ((j : Int) - 1))))) rfl (by kernel_rfl) ?_
  refine w_nil ?_
  refine then_normal ?_
  refine (bsplit (decide ((i : Int) < ((j : Int) - 1)))).elim (fun b7 => ?_) (fun b7 => ?_)
  · have g8 := of_decide_eq_true b7
    refine wp_know 13 (.bool true) (congrArg Value.bool b7) ?_
    have g9 := of_decide_eq_true b7
    refine wp_ift rfl ?_
    refine w_skip ?_
    refine then_normal ?_
    refine w_block ?_
    refine w_seq ?_
    obtain ⟨x10, h11⟩ := get_at (show (j - 1) < B.length by omega)
    obtain ⟨x12, h13⟩ := get_at (show i < B.length by omega)
    refine k_start H3 [rowU g n c B, restC w (rowU g n c A).fp] [13, 15] 16 rfl (by kernel_rfl) (fun Hx => (Hx.pick [0, 1] (by decide))) ?_
    intro w14 H15 S16
    refine k_pure 0 rfl (by kernel_rfl) (by kernel_rfl) (by kernel_rfl) (fun _ _ _ h => h) S16 (wants0 rfl) rfl (d := 14) (v := (.slice (some ⟨g, 0, none⟩) n c)) rfl (fun _ => (by kernel_rfl)) ?_
    refine k_pure 1 rfl (by kernel_rfl) (by kernel_rfl) (by kernel_rfl) (fun _ _ _ h => h) S16 (wants0 rfl) rfl (d := 15) (v := (.int .i64 ((i : Int)))) rfl (fun _ => (by kernel_rfl)) ?_
    refine k_pure 2 rfl (by kernel_rfl) (by kernel_rfl) (by kernel_rfl) (fun _ _ _ h => h) S16 (wants0 rfl) rfl (d := 16) (v := (.slice (some ⟨g, 0, none⟩) n c)) rfl (fun _ => (by kernel_rfl)) ?_
    refine k_pure 3 rfl (by kernel_rfl) (by kernel_rfl) (by kernel_rfl) (fun _ _ _ h => h) S16 (wants0 rfl) rfl (d := 17) (v := (.int .i64 (((j : Int) - 1)))) rfl (fun _ => (by kernel_rfl)) ?_
    refine k_pure 4 rfl (by kernel_rfl) (by kernel_rfl) (by kernel_rfl) (fun _ _ _ h => h) S16 (wants0 rfl) rfl (d := 18) (v := (.slice (some ⟨g, 0, none⟩) n c)) rfl (fun _ => (by kernel_rfl)) ?_
    refine k_pure 5 rfl (by kernel_rfl) (by kernel_rfl) (by kernel_rfl) (fun _ _ _ h => h) S16 (wants0 rfl) rfl (d := 19) (v := (.int .i64 (((j : Int) - 1)))) rfl (fun _ => (by kernel_rfl)) ?_
    refine k_pure 6 rfl (by kernel_rfl) (by kernel_rfl) (by kernel_rfl) (fun _ _ _ h => h) S16 (wants0 rfl) rfl (d := 20) (v := (.pointer (some ⟨g, 0 + (((j : Int) - 1)).toNat * 1, none⟩))) rfl (fun _ => (e_indexAddr (E := 23) (by kernel_rfl) (by kernel_rfl) (Nat.le_of_ble_eq_true rfl) rfl rfl (by omega) (by omega))) ?_
    refine k_val 7 rfl (by kernel_rfl) (by kernel_rfl) (by kernel_rfl) (fun _ _ _ h => h) S16 (wants0 rfl) rfl (by kernel_rfl) (d := 21) (v := (.int .u64 (x10))) rfl (fun _ H' => (e_load1 rfl (by kernel_rfl) (rowU_cell (H'.at 0 rfl) h11 (show 0 + (((j : Int) - 1)).toNat * 1 = (j - 1) by omega)))) ?_
    refine k_pure 8 rfl (by kernel_rfl) (by kernel_rfl) (by kernel_rfl) (fun _ _ _ h => h) S16 (wants0 rfl) rfl (d := 22) (v := (.slice (some ⟨g, 0, none⟩) n c)) rfl (fun _ => (by kernel_rfl)) ?_
    refine k_pure 9 rfl (by kernel_rfl) (by kernel_rfl) (by kernel_rfl) (fun _ _ _ h => h) S16 (wants0 rfl) rfl (d := 23) (v := (.int .i64 ((i : Int)))) rfl (fun _ => (by kernel_rfl)) ?_
    refine k_pure 10 rfl (by kernel_rfl) (by kernel_rfl) (by kernel_rfl) (fun _ _ _ h => h) S16 (wants0 rfl) rfl (d := 24) (v := (.pointer (some ⟨g, 0 + ((i : Int)).toNat * 1, none⟩))) rfl (fun _ => (e_indexAddr (E := 23) (by kernel_rfl) (by kernel_rfl) (Nat.le_of_ble_eq_true rfl) rfl rfl (by omega) (by omega))) ?_
    refine k_val 11 rfl (by kernel_rfl) (by kernel_rfl) (by kernel_rfl) (fun _ _ _ h => h) S16 (wants0 rfl) rfl (by kernel_rfl) (d := 25) (v := (.int .u64 (x12))) rfl (fun _ H' => (e_load1 rfl (by kernel_rfl) (rowU_cell (H'.at 0 rfl) h13 (show 0 + ((i : Int)).toNat * 1 = i by omega)))) ?_
    refine k_pure 12 rfl (by kernel_rfl) (by kernel_rfl) (by kernel_rfl) (fun _ _ _ h => h) S16 (wants0 rfl) rfl (d := 26) (v := (.pointer (some ⟨g, 0 + ((i : Int)).toNat * 1, none⟩))) rfl (fun _ => (e_indexAddr (E := 23) (by kernel_rfl) (by kernel_rfl) (Nat.le_of_ble_eq_true rfl) rfl rfl (by omega) (by omega))) ?_
    refine k_brk 13 (Sat w [restC w (rowU g n c A).fp]) rfl (by kernel_rfl) (wants0 rfl) rfl (fun K17 hK17 => ?_)
    refine d_storeU rfl H15 0 rfl rfl rfl (by kernel_rfl) (show 0 + ((i : Int)).toNat * 1 = i by omega) (by omega) ?_
    intro w18 (H19 : Sat w [rowU g n c (B.set i x10), restC w (rowU g n c A).fp] w18)
    have hlH19 : (B.set i x10).length = B.length := List.length_set
    have S20 := H19.pick [1] (by decide)
    refine hK17 _ _ S20 ?_
    clear hK17 K17
    refine h_val 14 rfl (by kernel_rfl) (by kernel_rfl) (by kernel_rfl) (fun _ _ _ h => h) S20 (wants0 rfl) (d := 27) (v := (.pointer (some ⟨g, 0 + (((j : Int) - 1)).toNat * 1, none⟩))) rfl (fun _ H' => (e_indexAddr (E := 23) (by kernel_rfl) (by kernel_rfl) (Nat.le_of_ble_eq_true rfl) rfl rfl (by omega) (by omega))) ?_
    refine h_do 15 rfl (by kernel_rfl) (wants0 rfl) (fun K21 hK21 => ?_)
    refine d_storeU rfl H19 0 rfl rfl rfl (by kernel_rfl) (show 0 + (((j : Int) - 1)).toNat * 1 = (j - 1) by omega) (by omega) ?_
    intro w22 (H23 : Sat w [rowU g n c ((B.set i x10).set (j - 1) x12), restC w (rowU g n c A).fp] w22)
    have hlH23 : ((B.set i x10).set (j - 1) x12).length = (B.set i x10).length := List.length_set
    have S24 := H23.pick [1] (by decide)
    refine hK21 _ _ S24 ?_
    clear hK21 K21
    refine h_fin (by kernel_rfl) ?_
    refine then_normal ?_
    refine w_seq ?_
    refine w_lit ?_
    refine wl_pure (wants0 rfl) (d := 28) (v := (.int .i64 ((i : Int)))) rfl (by kernel_rfl) ?_
    refine wl_pure (wants0 rfl) (d := 29) (v := (.int .i64 ((i : Int) + 1))) rfl (e_int (z := (i : Int) + 1) (by kernel_rfl) (IntWalk.i64_in _ (by omega))) ?_
    refine wl_pure (wants0 rfl) (d := 6) (v := (.int .i64 ((i : Int) + 1))) rfl (by kernel_rfl) ?_
    refine w_nil ?_
    refine then_normal ?_
    refine w_lit ?_
    refine wl_pure (wants0 rfl) (d := 30) (v := (.int .i64 (((j : Int) - 1)))) rfl (by kernel_rfl) ?_
    refine wl_pure (wants0 rfl) (d := 31) (v := (.int .i64 (((j : Int) - 1) - 1))) rfl (e_int (z := ((j : Int) - 1) - 1) (by kernel_rfl) (IntWalk.i64_in _ (by omega))) ?_
    refine wl_pure (wants0 rfl) (d := 7) (v := (.int .i64 (((j : Int) - 1) - 1))) rfl (by kernel_rfl) ?_
    refine w_nil ?_
    refine blk_normal ?_
    refine round_back ?_ _ ⟨(i + 1), (j - 1), ((B.set i x10).set (j - 1) x12), (show ((.int .i64 ((i : Int) + 1)) : Value) = _ by first | rfl | go_num), (show ((.int .i64 (((j : Int) - 1) - 1)) : Value) = _ by first | rfl | go_num), (by omega), (by omega), (hS.swap (by omega) (by omega) (by omega) (by omega) h13 h11), H23, rfl⟩ (by omega)
    exact (same_upd rfl (same_upd rfl (same_upd rfl (same_upd rfl (same_upd rfl (same_upd rfl (same_upd rfl (same_upd rfl (same_upd rfl (same_upd rfl (same_upd rfl (same_upd rfl (same_upd rfl (same_upd rfl (same_upd rfl (same_upd rfl (same_upd rfl (same_upd rfl (same_upd rfl (same_upd rfl (same_upd rfl (same_upd rfl (same_upd rfl (same_upd rfl (same_upd rfl (same_upd rfl (same_ovr)))))))))))))))))))))))))))
  · have g25 := of_decide_eq_false b7
    refine wp_know 13 (.bool false) (congrArg Value.bool b7) ?_
    have g26 := of_decide_eq_false b7
    refine wp_iff rfl ?_
    refine w_exit ?_
    refine then_exit ?_
    refine back_exit ?_
    refine blk_hit ?_
    refine end_normal ?_
    refine end0 rfl  ?_
    exact ⟨B, rfl, hlB, hS, H3⟩

end Go.Proofs.Ytbpeofcoceaahaa
