/- WHAT IS PROVED: the document's registry: contracts. Conditions: stated with each. -/
import Derived.Test.YtjlbabikogdknaaRrMem18
namespace Go.Proofs.Ytjlbabikogdknaa
open Go.RowKit
theorem cnt_take {L : RegL} {i : Nat} {x : List UInt8 × Int} {d : Int} (h : L[i]? = some x) : cntL (L.take (i + 1)) d = cntL (L.take i) d + if x.2 = d then 1 else 0 := by
  unfold cntL
  rw [List.take_add_one, h, List.countP_append]
  simp [List.countP_cons]
  split <;> rfl
theorem cnt_le (L : RegL) (d : Int) : 0 ≤ cntL L d ∧ cntL L d ≤ L.length := by
  have := List.countP_le_length (l := L) (p := fun x => decide (x.2 = d))
  unfold cntL; omega
theorem map_take {L : RegL} {i : Nat} {x : List UInt8 × Int} (h : L[i]? = some x) : (L.take (i + 1)).map (·.1) = (L.take i).map (·.1) ++ [x.1] := by
  rw [List.take_add_one, h, List.map_append]; rfl
theorem filter_take {L : RegL} {i : Nat} {x : List UInt8 × Int} {s : List UInt8} (h : L[i]? = some x) (hn : ¬ x.1 = s) : (L.take (i + 1)).filter (fun x => decide (x.1 ≠ s)) = (L.take i).filter (fun x => decide (x.1 ≠ s)) ++ [(x.1, x.2)] := by
  rw [List.take_add_one, h, List.filter_append]
  simp [hn]
theorem filter_takeN {L : RegL} {i : Nat} {x : List UInt8 × Int} {s : List UInt8} (h : L[i]? = some x) (hn : x.1 = s) : (L.take (i + 1)).filter (fun x => decide (x.1 ≠ s)) = (L.take i).filter (fun x => decide (x.1 ≠ s)) := by
  rw [List.take_add_one, h, List.filter_append]
  simp [hn]
theorem gt_step {L : RegL} {k : Nat} {x : List UInt8 × Int} {s : List UInt8} (h : L[((k : Int) - 1).toNat]? = some x) (hl : s < x.1) (h0 : 0 < k) (hgt : ∀ j x, k ≤ j → L[j]? = some x → s < x.1) : ∀ j x, k - 1 ≤ j → L[j]? = some x → s < x.1 := fun j y hj hy => by
  by_cases e : j = k - 1
  · have : ((k : Int) - 1).toNat = j := by omega
    rw [this, hy] at h
    cases h; exact hl
  · exact hgt j y (by omega) hy

set_option maxRecDepth 100000 in
set_option maxHeartbeats 400000 in
theorem letters_any (w : World) (s : List UInt8) (hs : s.length ≤ 9223372036854775807) :
    Calls Try.prog 38 #[(strV s)] w fun e w' => e = .returned (.bool (nameB s)) ∧ Upd [] w w' := by
  have H := Sat.start0 w
  refine calls_fr Try.func38 rfl 28 rfl (Nat.le_of_ble_eq_true rfl) ?_
  refine w_seq ?_
  refine w_lit ?_
  refine wl_pure (wants0 rfl) (d := 2) (v := (.bool false)) rfl (by kernel_rfl) ?_
  refine w_nil ?_
  refine then_normal ?_
  refine w_seq ?_
  refine w_seq ?_
  refine w_lit ?_
  refine wl_pure (wants0 rfl) (d := 3) (v := (.int .i64 (0))) rfl (by kernel_rfl) ?_
  refine w_nil ?_
  refine then_normal ?_
  refine w_block ?_
  refine wp_round [2, 3, 4, 5, 6, 7, 8, 9, 10, 11, 12, 13, 14, 15, 16, 17, 18, 19] (fun F_ W_ m_ => ∃ (i : Nat), F_ 3 = (.int .i64 ((i : Int))) ∧ (i ≤ s.length) ∧ ((s.take i).all lcB = true) ∧ Sat w [restC w (fun _ => False)] W_ ∧ m_ = s.length + 1 - i) _ ⟨0, (show ((.int .i64 (0)) : Value) = _ by first | rfl | go_num), by omega, by simp, H, rfl⟩ ?_
  rintro g1 w2 _ ⟨i, v4, hi, hall, H3, rfl⟩
  refine wp_know 3 _ v4 ?_
  refine w_seq ?_
  refine w_seq ?_
  refine w_lit ?_
  refine wl_pure (wants0 rfl) (d := 4) (v := (.int .i64 ((i : Int)))) rfl (by kernel_rfl) ?_
  refine wl_pure (wants0 rfl) (d := 5) (v := (strV s)) rfl (by kernel_rfl) ?_
  refine wl_pure (wants0 rfl) (d := 6) (v := (.int .i64 ((s.length : Int)))) rfl (e_lenStr (by kernel_rfl) rfl) ?_
  refine wl_pure (wants0 rfl) (d := 7) (v := (.bool (decide ((i : Int) < (s.length : Int))))) rfl (by kernel_rfl) ?_
  refine w_nil ?_
  refine then_normal ?_
  refine (bsplit (decide ((i : Int) < (s.length : Int)))).elim (fun b6 => ?_) (fun b6 => ?_)
  · have g7 := of_decide_eq_true b6
    refine wp_know 7 (.bool true) (congrArg Value.bool b6) ?_
    have g8 := of_decide_eq_true b6
    refine wp_ift rfl ?_
    refine w_skip ?_
    refine then_normal ?_
    refine w_seq ?_
    refine w_block ?_
    refine w_seq ?_
    refine w_lit ?_
    refine wl_pure (wants0 rfl) (d := 10) (v := (strV s)) rfl (by kernel_rfl) ?_
    refine wl_pure (wants0 rfl) (d := 11) (v := (.int .i64 ((i : Int)))) rfl (by kernel_rfl) ?_
    refine wl_pure (wants0 rfl) (d := 12) (v := (.int .u8 (((s.getD i 0).toNat : Int)))) rfl (e_indexStr (q := i) (by kernel_rfl) rfl rfl (by omega) (by omega)) ?_
    refine wl_pure (wants0 rfl) (d := 13) (v := (.bool (decide (((s.getD i 0).toNat : Int) < 97)))) rfl (by kernel_rfl) ?_
    refine wl_pure (wants0 rfl) (d := 14) (v := (.bool (decide (((s.getD i 0).toNat : Int) < 97)))) rfl (by kernel_rfl) ?_
    refine (bsplit (decide (((s.getD i 0).toNat : Int) < 97))).elim (fun b9 => ?_) (fun b9 => ?_)
    · have g10 := of_decide_eq_true b9
      refine wl_know 14 (.bool true) (congrArg Value.bool b9) ?_
      have g11 := of_decide_eq_true b9
      refine wl_pass (wantsN 4 14 false rfl (by kernel_rfl) rfl (by kernel_rfl)) rfl ?_
      refine wl_pass (wantsN 4 14 false rfl (by kernel_rfl) rfl (by kernel_rfl)) rfl ?_
      refine wl_pass (wantsN 4 14 false rfl (by kernel_rfl) rfl (by kernel_rfl)) rfl ?_
      refine wl_pass (wantsN 4 14 false rfl (by kernel_rfl) rfl (by kernel_rfl)) rfl ?_
      refine wl_pure (wants0 rfl) (d := 19) (v := (.bool true)) rfl (by kernel_rfl) ?_
      refine w_nil ?_
      refine then_normal ?_
      refine wp_ift rfl ?_
      refine w_seq ?_
      refine w_lit ?_
      refine wl_pure (wants0 rfl) (d := 2) (v := (.bool false)) rfl (by kernel_rfl) ?_
      refine w_nil ?_
      refine then_normal ?_
      refine w_ret ?_
      refine blk_ret ?_
      refine then_ret ?_
      refine back_ret ?_
      refine blk_ret ?_
      refine then_ret ?_
      refine end1 rfl (res_tmp (v := (.bool false)) rfl) ?_
      exact ⟨by rw [show nameB s = false by unfold nameB; rw [all_not (i := i) (by omega) (by unfold lcB; first | (rw [decide_eq_false (by omega)]; rfl) | (rw [decide_eq_false (show ¬ (s.getD i 0).toNat ≤ 122 by omega), Bool.and_false]))]; rfl], H3.upd 0 rfl [] (fun _ h => h.elim)⟩
    · have g12 := of_decide_eq_false b9
      refine wl_know 14 (.bool false) (congrArg Value.bool b9) ?_
      have g13 := of_decide_eq_false b9
      refine wl_pure (wantsY 4 14 false rfl (by kernel_rfl) rfl (by kernel_rfl)) (d := 15) (v := (strV s)) rfl (by kernel_rfl) ?_
      refine wl_pure (wantsY 4 14 false rfl (by kernel_rfl) rfl (by kernel_rfl)) (d := 16) (v := (.int .i64 ((i : Int)))) rfl (by kernel_rfl) ?_
      refine wl_pure (wantsY 4 14 false rfl (by kernel_rfl) rfl (by kernel_rfl)) (d := 17) (v := (.int .u8 (((s.getD i 0).toNat : Int)))) rfl (e_indexStr (q := i) (by kernel_rfl) rfl rfl (by omega) (by omega)) ?_
      refine wl_pure (wantsY 4 14 false rfl (by kernel_rfl) rfl (by kernel_rfl)) (d := 18) (v := (.bool (decide (((s.getD i 0).toNat : Int) > 122)))) rfl (by kernel_rfl) ?_
      refine wl_pure (wants0 rfl) (d := 19) (v := (.bool (decide (((s.getD i 0).toNat : Int) > 122)))) rfl (by kernel_rfl) ?_
      refine w_nil ?_
      refine then_normal ?_
      refine (bsplit (decide (((s.getD i 0).toNat : Int) > 122))).elim (fun b14 => ?_) (fun b14 => ?_)
      · have g15 := of_decide_eq_true b14
        refine wp_know 19 (.bool true) (congrArg Value.bool b14) ?_
        have g16 := of_decide_eq_true b14
        refine wp_ift rfl ?_
        refine w_seq ?_
        refine w_lit ?_
        refine wl_pure (wants0 rfl) (d := 2) (v := (.bool false)) rfl (by kernel_rfl) ?_
        refine w_nil ?_
        refine then_normal ?_
        refine w_ret ?_
        refine blk_ret ?_
        refine then_ret ?_
        refine back_ret ?_
        refine blk_ret ?_
        refine then_ret ?_
        refine end1 rfl (res_tmp (v := (.bool false)) rfl) ?_
        exact ⟨by rw [show nameB s = false by unfold nameB; rw [all_not (i := i) (by omega) (by unfold lcB; first | (rw [decide_eq_false (by omega)]; rfl) | (rw [decide_eq_false (show ¬ (s.getD i 0).toNat ≤ 122 by omega), Bool.and_false]))]; rfl], H3.upd 0 rfl [] (fun _ h => h.elim)⟩
      · have g17 := of_decide_eq_false b14
        refine wp_know 19 (.bool false) (congrArg Value.bool b14) ?_
        have g18 := of_decide_eq_false b14
        refine wp_iff rfl ?_
        refine w_skip ?_
        refine blk_normal ?_
        refine then_normal ?_
        refine w_lit ?_
        refine wl_pure (wants0 rfl) (d := 8) (v := (.int .i64 ((i : Int)))) rfl (by kernel_rfl) ?_
        refine wl_pure (wants0 rfl) (d := 9) (v := (.int .i64 ((i : Int) + 1))) rfl (e_int (z := (i : Int) + 1) (by kernel_rfl) (IntWalk.i64_in _ (by omega))) ?_
        refine wl_pure (wants0 rfl) (d := 3) (v := (.int .i64 ((i : Int) + 1))) rfl (by kernel_rfl) ?_
        refine w_nil ?_
        refine round_back ?_ _ ⟨(i + 1), (show ((.int .i64 ((i : Int) + 1)) : Value) = _ by first | rfl | go_num), by omega, all_step hall (by omega) (by unfold lcB; rw [decide_eq_true (by omega), decide_eq_true (by omega)]; rfl), H3, rfl⟩ (by omega)
        exact (same_upd rfl (same_upd rfl (same_upd rfl (same_upd rfl (same_upd rfl (same_upd rfl (same_upd rfl (same_upd rfl (same_upd rfl (same_upd rfl (same_upd rfl (same_upd rfl (same_upd rfl (same_upd rfl (same_upd rfl (same_upd rfl (same_upd rfl (same_upd rfl (same_upd rfl (same_upd rfl (same_upd rfl (same_ovr))))))))))))))))))))))
  · have g19 := of_decide_eq_false b6
    refine wp_know 7 (.bool false) (congrArg Value.bool b6) ?_
    have g20 := of_decide_eq_false b6
    refine wp_iff rfl ?_
    refine w_exit ?_
    refine then_exit ?_
    refine back_exit ?_
    refine blk_hit ?_
    refine then_normal ?_
    refine w_seq ?_
    refine w_lit ?_
    refine wl_pure (wants0 rfl) (d := 20) (v := (strV s)) rfl (by kernel_rfl) ?_
    refine wl_pure (wants0 rfl) (d := 21) (v := (.int .i64 ((s.length : Int)))) rfl (e_lenStr (by kernel_rfl) rfl) ?_
    refine wl_pure (wants0 rfl) (d := 22) (v := (.bool (decide ((s.length : Int) ≥ 1)))) rfl (by kernel_rfl) ?_
    refine wl_pure (wants0 rfl) (d := 23) (v := (.bool (decide ((s.length : Int) ≥ 1)))) rfl (by kernel_rfl) ?_
    refine (bsplit (decide ((s.length : Int) ≥ 1))).elim (fun b21 => ?_) (fun b21 => ?_)
    · have g22 := of_decide_eq_true b21
      refine wl_know 23 (.bool true) (congrArg Value.bool b21) ?_
      have g23 := of_decide_eq_true b21
      refine wl_pure (wantsY 3 23 true rfl (by kernel_rfl) rfl (by kernel_rfl)) (d := 24) (v := (strV s)) rfl (by kernel_rfl) ?_
      refine wl_pure (wantsY 3 23 true rfl (by kernel_rfl) rfl (by kernel_rfl)) (d := 25) (v := (.int .i64 ((s.length : Int)))) rfl (e_lenStr (by kernel_rfl) rfl) ?_
      refine wl_pure (wantsY 3 23 true rfl (by kernel_rfl) rfl (by kernel_rfl)) (d := 26) (v := (.bool (decide ((s.length : Int) ≤ 16)))) rfl (by kernel_rfl) ?_
      refine wl_pure (wants0 rfl) (d := 27) (v := (.bool (decide ((s.length : Int) ≤ 16)))) rfl (by kernel_rfl) ?_
      refine wl_pure (wants0 rfl) (d := 2) (v := (.bool (decide ((s.length : Int) ≤ 16)))) rfl (by kernel_rfl) ?_
      refine w_nil ?_
      refine then_normal ?_
      refine w_ret ?_
      refine end1 rfl (res_tmp (v := (.bool (decide ((s.length : Int) ≤ 16)))) rfl) ?_
      rw [List.take_of_length_le (by omega)] at hall
      exact ⟨by rw [nameB, hall, Bool.true_and]; congr 3; rw [Bool.eq_iff_iff]; simp only [Bool.and_eq_true, decide_eq_true_eq]; omega, H3.upd 0 rfl [] (fun _ h => h.elim)⟩
    · have g24 := of_decide_eq_false b21
      refine wl_know 23 (.bool false) (congrArg Value.bool b21) ?_
      have g25 := of_decide_eq_false b21
      refine wl_pass (wantsN 3 23 true rfl (by kernel_rfl) rfl (by kernel_rfl)) rfl ?_
      refine wl_pass (wantsN 3 23 true rfl (by kernel_rfl) rfl (by kernel_rfl)) rfl ?_
      refine wl_pass (wantsN 3 23 true rfl (by kernel_rfl) rfl (by kernel_rfl)) rfl ?_
      refine wl_pure (wants0 rfl) (d := 27) (v := (.bool false)) rfl (by kernel_rfl) ?_
      refine wl_pure (wants0 rfl) (d := 2) (v := (.bool false)) rfl (by kernel_rfl) ?_
      refine w_nil ?_
      refine then_normal ?_
      refine w_ret ?_
      refine end1 rfl (res_tmp (v := (.bool false)) rfl) ?_
      rw [List.take_of_length_le (by omega)] at hall
      exact ⟨by rw [nameB, hall, Bool.true_and]; congr 3; rw [Bool.eq_iff_iff]; simp only [Bool.and_eq_true, decide_eq_true_eq, Bool.false_eq_true, false_iff, not_and]; omega, H3.upd 0 rfl [] (fun _ h => h.elim)⟩

set_option maxRecDepth 100000 in
set_option maxHeartbeats 400000 in
theorem rMay_any (w : World) (s : List UInt8) (c : Int) (hs : s.length ≤ 9223372036854775807) :
    Calls Try.prog 33 #[(strV s), (.int .i64 (c))] w fun e w' => e = .returned (.bool (mayB s c)) ∧ Upd [] w w' := by
  have H := Sat.start0 w
  refine calls_fr Try.func33 rfl 15 rfl (Nat.le_of_ble_eq_true rfl) ?_
  refine w_seq ?_
  refine w_lit ?_
  refine wl_pure (wants0 rfl) (d := 4) (v := (.bool false)) rfl (by kernel_rfl) ?_
  refine w_nil ?_
  refine then_normal ?_
  refine w_seq ?_
  refine w_lit ?_
  refine wl_pure (wants0 rfl) (d := 5) (v := (strV s)) rfl (by kernel_rfl) ?_
  refine wl_do (wants0 rfl) (fun K1 hK1 => ?_)
  refine d_call (d := 6) rfl (by kernel_rfl) (letters_any w s hs) ?_
  rintro _ w2 ⟨rfl, u4⟩
  have H3 := H.keepU u4
  refine ⟨_, rfl, ?_⟩
  refine hK1 _ _ ?_
  clear hK1 K1
  refine wl_pure (wants0 rfl) (d := 7) (v := (.bool (nameB s))) rfl (by kernel_rfl) ?_
  refine (bsplit (nameB s)).elim (fun b5 => ?_) (fun b5 => ?_)
  · refine wl_know 7 (.bool true) (congrArg Value.bool b5) ?_
    refine wl_pure (wantsY 2 7 true rfl (by kernel_rfl) rfl (by kernel_rfl)) (d := 8) (v := (.int .i64 (c))) rfl (by kernel_rfl) ?_
    refine wl_pure (wantsY 2 7 true rfl (by kernel_rfl) rfl (by kernel_rfl)) (d := 9) (v := (.bool (decide (c ≥ 0)))) rfl (by kernel_rfl) ?_
    refine wl_pure (wants0 rfl) (d := 10) (v := (.bool (decide (c ≥ 0)))) rfl (by kernel_rfl) ?_
    refine wl_pure (wants0 rfl) (d := 11) (v := (.bool (decide (c ≥ 0)))) rfl (by kernel_rfl) ?_
    refine (bsplit (decide (c ≥ 0))).elim (fun b6 => ?_) (fun b6 => ?_)
    · have g7 := of_decide_eq_true b6
      refine wl_know 11 (.bool true) (congrArg Value.bool b6) ?_
      refine wl_pure (wantsY 6 11 true rfl (by kernel_rfl) rfl (by kernel_rfl)) (d := 12) (v := (.int .i64 (c))) rfl (by kernel_rfl) ?_
      refine wl_pure (wantsY 6 11 true rfl (by kernel_rfl) rfl (by kernel_rfl)) (d := 13) (v := (.bool (decide (c < 100)))) rfl (by kernel_rfl) ?_
      refine wl_pure (wants0 rfl) (d := 14) (v := (.bool (decide (c < 100)))) rfl (by kernel_rfl) ?_
      refine wl_pure (wants0 rfl) (d := 4) (v := (.bool (decide (c < 100)))) rfl (by kernel_rfl) ?_
      refine w_nil ?_
      refine then_normal ?_
      refine w_ret ?_
      refine end1 rfl (res_tmp (v := (.bool (decide (c < 100)))) rfl) ?_
      exact ⟨by simp [mayB, b5, b6], H3.upd 0 rfl [] (fun _ h => h.elim)⟩
    · have g8 := of_decide_eq_false b6
      refine wl_know 11 (.bool false) (congrArg Value.bool b6) ?_
      refine wl_pass (wantsN 6 11 true rfl (by kernel_rfl) rfl (by kernel_rfl)) rfl ?_
      refine wl_pass (wantsN 6 11 true rfl (by kernel_rfl) rfl (by kernel_rfl)) rfl ?_
      refine wl_pure (wants0 rfl) (d := 14) (v := (.bool false)) rfl (by kernel_rfl) ?_
      refine wl_pure (wants0 rfl) (d := 4) (v := (.bool false)) rfl (by kernel_rfl) ?_
      refine w_nil ?_
      refine then_normal ?_
      refine w_ret ?_
      refine end1 rfl (res_tmp (v := (.bool false)) rfl) ?_
      exact ⟨by simp [mayB, b5, b6], H3.upd 0 rfl [] (fun _ h => h.elim)⟩
  · refine wl_know 7 (.bool false) (congrArg Value.bool b5) ?_
    refine wl_pass (wantsN 2 7 true rfl (by kernel_rfl) rfl (by kernel_rfl)) rfl ?_
    refine wl_pass (wantsN 2 7 true rfl (by kernel_rfl) rfl (by kernel_rfl)) rfl ?_
    refine wl_pure (wants0 rfl) (d := 10) (v := (.bool false)) rfl (by kernel_rfl) ?_
    refine wl_pure (wants0 rfl) (d := 11) (v := (.bool false)) rfl (by kernel_rfl) ?_
    refine wl_pass (wantsN 6 11 true rfl (by kernel_rfl) rfl (by kernel_rfl)) rfl ?_
    refine wl_pass (wantsN 6 11 true rfl (by kernel_rfl) rfl (by kernel_rfl)) rfl ?_
    refine wl_pure (wants0 rfl) (d := 14) (v := (.bool false)) rfl (by kernel_rfl) ?_
    refine wl_pure (wants0 rfl) (d := 4) (v := (.bool false)) rfl (by kernel_rfl) ?_
    refine w_nil ?_
    refine then_normal ?_
    refine w_ret ?_
    refine end1 rfl (res_tmp (v := (.bool false)) rfl) ?_
    exact ⟨by simp [mayB, b5], H3.upd 0 rfl [] (fun _ h => h.elim)⟩

set_option maxRecDepth 100000 in
set_option maxHeartbeats 400000 in
theorem rOwner_any (w : World) (r : Nat) (a : Option Addr) (c : Nat) (L : RegL) (hR : (rrC r a c L).ok w) (hl : L.length ≤ 64) (s : List UInt8) :
    Calls Try.prog 25 #[(.pointer (some ⟨r, 0, none⟩)), (strV s)] w fun e w' => e = .returned (.tuple #[.int .i64 ((lookM L s).getD 0), .bool (lookM L s).isSome]) ∧ Sat w [cellC r 46 [.slice a L.length c], rowC 61 2 (.slice a L.length c) L.length (L.flatMap encO), restC w (rrC r a c L).fp] w' := by
  have H : Sat w [cellC r 46 ([(.slice a L.length c)] : List Value), rowC 61 2 (.slice a L.length c) L.length (L.flatMap encO), restC w (rrC r a c L).fp] w := Sat.start (rrL r a c L) hR
  have hL64 := hl
  refine calls_fr Try.func25 rfl 34 rfl (Nat.le_of_ble_eq_true rfl) ?_
  refine w_seq ?_
  refine w_lit ?_
  refine wl_pure (wants0 rfl) (d := 4) (v := (.int .i64 (0))) rfl (by kernel_rfl) ?_
  refine wl_pure (wants0 rfl) (d := 5) (v := (.bool false)) rfl (by kernel_rfl) ?_
  refine w_nil ?_
  refine then_normal ?_
  refine w_seq ?_
  refine w_seq ?_
  refine w_lit ?_
  refine wl_pure (wants0 rfl) (d := 7) (v := (.pointer (some ⟨r, 0, none⟩))) rfl (by kernel_rfl) ?_
  refine wl_pure (wants0 rfl) (d := 8) (v := (.pointer (some ⟨r, 0, none⟩))) rfl (by kernel_rfl) ?_
  refine wl_pure (wants0 rfl) (d := 9) (v := (.pointer (some ⟨r, 0, none⟩))) rfl (by kernel_rfl) ?_
  refine wl_pure (wants0 rfl) (d := 10) (v := (.slice a L.length c)) rfl (e_load1 rfl (by kernel_rfl) (H.cell 0 rfl rfl)) ?_
  refine wl_pure (wants0 rfl) (d := 11) (v := (.int .i64 ((L.length : Int)))) rfl (by kernel_rfl) ?_
  refine wl_pure (wants0 rfl) (d := 12) (v := (.int .i64 (0))) rfl (by kernel_rfl) ?_
  refine w_nil ?_
  refine then_normal ?_
  refine w_block ?_
  refine wp_round [4, 5, 6, 12, 13, 14, 15, 16, 17, 18, 19, 20, 21, 22, 23, 24, 25, 26, 27, 28, 29, 30, 31, 32, 33] (fun F_ W_ m_ => ∃ (i : Nat), F_ 12 = (.int .i64 ((i : Int))) ∧ (i ≤ L.length) ∧ (s ∉ (L.take i).map (·.1)) ∧ Sat w [cellC r 46 ([(.slice a L.length c)] : List Value), rowC 61 2 (.slice a L.length c) L.length (L.flatMap encO), restC w (rrC r a c L).fp] W_ ∧ m_ = L.length + 1 - i) _ ⟨0, (show ((.int .i64 (0)) : Value) = _ by first | rfl | go_num), by omega, by simp, H, rfl⟩ ?_
  rintro g1 w2 _ ⟨i, v4, hi, hno, H3, rfl⟩
  refine wp_know 12 _ v4 ?_
  refine w_seq ?_
  refine w_lit ?_
  refine wl_pure (wants0 rfl) (d := 13) (v := (.bool (decide ((i : Int) < (L.length : Int))))) rfl (by kernel_rfl) ?_
  refine w_nil ?_
  refine then_normal ?_
  refine w_seq ?_
  refine (bsplit (decide ((i : Int) < (L.length : Int)))).elim (fun b6 => ?_) (fun b6 => ?_)
  · have g7 := of_decide_eq_true b6
    refine wp_know 13 (.bool true) (congrArg Value.bool b6) ?_
    have g8 := of_decide_eq_true b6
    refine wp_ift rfl ?_
    refine w_skip ?_
    refine then_normal ?_
    refine w_seq ?_
    refine w_block ?_
    refine w_seq ?_
    refine w_lit ?_
    refine wl_pure (wants0 rfl) (d := 14) (v := (.int .i64 ((i : Int)))) rfl (by kernel_rfl) ?_
    refine wl_pure (wants0 rfl) (d := 6) (v := (.int .i64 ((i : Int)))) rfl (by kernel_rfl) ?_
    refine w_nil ?_
    refine then_normal ?_
    refine w_seq ?_
    refine w_lit ?_
    refine wl_pure (wants0 rfl) (d := 15) (v := (.pointer (some ⟨r, 0, none⟩))) rfl (by kernel_rfl) ?_
    refine wl_pure (wants0 rfl) (d := 16) (v := (.pointer (some ⟨r, 0, none⟩))) rfl (by kernel_rfl) ?_
    refine wl_pure (wants0 rfl) (d := 17) (v := (.pointer (some ⟨r, 0, none⟩))) rfl (by kernel_rfl) ?_
    refine wl_pure (wants0 rfl) (d := 18) (v := (.slice a L.length c)) rfl (e_load1 rfl (by kernel_rfl) (H3.cell 0 rfl rfl)) ?_
    refine wl_pure (wants0 rfl) (d := 19) (v := (.int .i64 ((i : Int)))) rfl (by kernel_rfl) ?_
    obtain ⟨g9, c10, e11⟩ := row_shape (H3.at 1 rfl) (by omega)
    obtain ⟨x12, h13⟩ := get_at (show i < L.length by omega)
    refine wl_pure (wants0 rfl) (d := 20) (v := (.pointer (some ⟨g9, 0 + ((i : Int)).toNat * 2, none⟩))) rfl (e_indexAddrV (E := 61) (by kernel_rfl) (by kernel_rfl) (Nat.le_of_ble_eq_true rfl) rfl e11 rfl (by omega) (by omega)) ?_
    refine wl_pure (wants0 rfl) (d := 21) (v := (.pointer (some ⟨g9, 0 + ((i : Int)).toNat * 2, none⟩))) rfl (by kernel_rfl) ?_
    refine wl_pure (wants0 rfl) (d := 22) (v := (strV x12.1)) rfl (e_load1 rfl (by kernel_rfl) (rows_cell (H3.at 1 rfl) e11 encO_len h13 0 rfl (show 0 + ((i : Int)).toNat * 2 = i * 2 + 0 by omega) (by kernel_rfl))) ?_
    refine wl_pure (wants0 rfl) (d := 23) (v := (strV s)) rfl (by kernel_rfl) ?_
    refine wl_pure (wants0 rfl) (d := 24) (v := (.bool (decide (x12.1 = s)))) rfl (e_eqStr x12.1 s rfl rfl) ?_
    refine w_nil ?_
    refine then_normal ?_
    refine (bsplit (decide (x12.1 = s))).elim (fun b14 => ?_) (fun b14 => ?_)
    · have g15 := of_decide_eq_true b14
      refine wp_know 24 (.bool true) (congrArg Value.bool b14) ?_
      have g16 := of_decide_eq_true b14
      refine wp_ift rfl ?_
      refine w_seq ?_
      refine w_lit ?_
      refine wl_pure (wants0 rfl) (d := 25) (v := (.pointer (some ⟨r, 0, none⟩))) rfl (by kernel_rfl) ?_
      refine wl_pure (wants0 rfl) (d := 26) (v := (.pointer (some ⟨r, 0, none⟩))) rfl (by kernel_rfl) ?_
      refine wl_pure (wants0 rfl) (d := 27) (v := (.pointer (some ⟨r, 0, none⟩))) rfl (by kernel_rfl) ?_
      refine wl_pure (wants0 rfl) (d := 28) (v := (.slice a L.length c)) rfl (e_load1 rfl (by kernel_rfl) (H3.cell 0 rfl rfl)) ?_
      refine wl_pure (wants0 rfl) (d := 29) (v := (.int .i64 ((i : Int)))) rfl (by kernel_rfl) ?_
      refine wl_pure (wants0 rfl) (d := 30) (v := (.pointer (some ⟨g9, 0 + ((i : Int)).toNat * 2, none⟩))) rfl (e_indexAddrV (E := 61) (by kernel_rfl) (by kernel_rfl) (Nat.le_of_ble_eq_true rfl) rfl e11 rfl (by omega) (by omega)) ?_
      refine wl_pure (wants0 rfl) (d := 31) (v := (.pointer (some ⟨g9, 0 + ((i : Int)).toNat * 2 + 1, none⟩))) rfl (by kernel_rfl) ?_
      refine wl_pure (wants0 rfl) (d := 32) (v := (.int .i64 (x12.2))) rfl (e_load1 rfl (by kernel_rfl) (rows_cell (H3.at 1 rfl) e11 encO_len h13 1 rfl (show 0 + ((i : Int)).toNat * 2 + 1 = i * 2 + 1 by omega) (by kernel_rfl))) ?_
      refine wl_pure (wants0 rfl) (d := 4) (v := (.int .i64 (x12.2))) rfl (by kernel_rfl) ?_
      refine wl_pure (wants0 rfl) (d := 5) (v := (.bool true)) rfl (by kernel_rfl) ?_
      refine w_nil ?_
      refine then_normal ?_
      refine w_ret ?_
      refine blk_ret ?_
      refine then_ret ?_
      refine back_ret ?_
      refine blk_ret ?_
      refine then_ret ?_
      refine end2 rfl (res_tmp (v := (.int .i64 (x12.2))) rfl) (res_tmp (v := (.bool true)) rfl) ?_
      have hl := look_here h13 (of_decide_eq_true b14) hno
      exact ⟨by rw [hl]; rfl, H3⟩
    · have g17 := of_decide_eq_false b14
      refine wp_know 24 (.bool false) (congrArg Value.bool b14) ?_
      have g18 := of_decide_eq_false b14
      refine wp_iff rfl ?_
      refine w_skip ?_
      refine blk_normal ?_
      refine then_normal ?_
      refine w_lit ?_
      refine wl_pure (wants0 rfl) (d := 33) (v := (.int .i64 ((i : Int) + 1))) rfl (e_int (z := (i : Int) + 1) (by kernel_rfl) (IntWalk.i64_in _ (by omega))) ?_
      refine wl_pure (wants0 rfl) (d := 12) (v := (.int .i64 ((i : Int) + 1))) rfl (by kernel_rfl) ?_
      refine w_nil ?_
      refine round_back ?_ _ ⟨(i + 1), (show ((.int .i64 ((i : Int) + 1)) : Value) = _ by first | rfl | go_num), by omega, look_step h13 (of_decide_eq_false b14) hno, H3, rfl⟩ (by omega)
      exact (same_upd rfl (same_upd rfl (same_upd rfl (same_upd rfl (same_upd rfl (same_upd rfl (same_upd rfl (same_upd rfl (same_upd rfl (same_upd rfl (same_upd rfl (same_upd rfl (same_upd rfl (same_upd rfl (same_upd rfl (same_upd rfl (same_upd rfl (same_upd rfl (same_ovr)))))))))))))))))))
  · have g19 := of_decide_eq_false b6
    refine wp_know 13 (.bool false) (congrArg Value.bool b6) ?_
    have g20 := of_decide_eq_false b6
    refine wp_iff rfl ?_
    refine w_exit ?_
    refine then_exit ?_
    refine back_exit ?_
    refine blk_hit ?_
    refine then_normal ?_
    refine w_seq ?_
    refine w_lit ?_
    refine wl_pure (wants0 rfl) (d := 4) (v := (.int .i64 (0))) rfl (by kernel_rfl) ?_
    refine wl_pure (wants0 rfl) (d := 5) (v := (.bool false)) rfl (by kernel_rfl) ?_
    refine w_nil ?_
    refine then_normal ?_
    refine w_ret ?_
    refine end2 rfl (res_tmp (v := (.int .i64 (0))) rfl) (res_tmp (v := (.bool false)) rfl) ?_
    rw [List.take_of_length_le (show L.length ≤ i by omega)] at hno
    have hl := lookM_notin hno
    exact ⟨by rw [hl]; rfl, H3⟩

set_option maxRecDepth 100000 in
set_option maxHeartbeats 400000 in
theorem rCount_any (w : World) (r : Nat) (a : Option Addr) (c : Nat) (L : RegL) (hR : (rrC r a c L).ok w) (hl : L.length ≤ 64) (d : Int) :
    Calls Try.prog 27 #[(.pointer (some ⟨r, 0, none⟩)), (.int .i64 (d))] w fun e w' => e = .returned (.int .i64 (cntL L d)) ∧ Sat w [cellC r 46 [.slice a L.length c], rowC 61 2 (.slice a L.length c) L.length (L.flatMap encO), restC w (rrC r a c L).fp] w' := by
  have H : Sat w [cellC r 46 ([(.slice a L.length c)] : List Value), rowC 61 2 (.slice a L.length c) L.length (L.flatMap encO), restC w (rrC r a c L).fp] w := Sat.start (rrL r a c L) hR
  refine calls_fr Try.func27 rfl 29 rfl (Nat.le_of_ble_eq_true rfl) ?_
  refine w_seq ?_
  refine w_lit ?_
  refine wl_pure (wants0 rfl) (d := 4) (v := (.int .i64 (0))) rfl (by kernel_rfl) ?_
  refine w_nil ?_
  refine then_normal ?_
  refine w_seq ?_
  refine w_lit ?_
  refine wl_pure (wants0 rfl) (d := 5) (v := (.int .i64 (0))) rfl (by kernel_rfl) ?_
  refine w_nil ?_
  refine then_normal ?_
  refine w_seq ?_
  refine w_seq ?_
  refine w_lit ?_
  refine wl_pure (wants0 rfl) (d := 7) (v := (.pointer (some ⟨r, 0, none⟩))) rfl (by kernel_rfl) ?_
  refine wl_pure (wants0 rfl) (d := 8) (v := (.pointer (some ⟨r, 0, none⟩))) rfl (by kernel_rfl) ?_
  refine wl_pure (wants0 rfl) (d := 9) (v := (.pointer (some ⟨r, 0, none⟩))) rfl (by kernel_rfl) ?_
  refine wl_pure (wants0 rfl) (d := 10) (v := (.slice a L.length c)) rfl (e_load1 rfl (by kernel_rfl) (H.cell 0 rfl rfl)) ?_
  refine wl_pure (wants0 rfl) (d := 11) (v := (.int .i64 ((L.length : Int)))) rfl (by kernel_rfl) ?_
  refine wl_pure (wants0 rfl) (d := 12) (v := (.int .i64 (0))) rfl (by kernel_rfl) ?_
  refine w_nil ?_
  refine then_normal ?_
  refine w_block ?_
  refine wp_round [5, 6, 12, 13, 14, 15, 16, 17, 18, 19, 20, 21, 22, 23, 24, 25, 26, 27] (fun F_ W_ m_ => ∃ (i : Nat), F_ 12 = (.int .i64 ((i : Int))) ∧ F_ 5 = (.int .i64 (cntL (L.take i) d)) ∧ (i ≤ L.length) ∧ Sat w [cellC r 46 ([(.slice a L.length c)] : List Value), rowC 61 2 (.slice a L.length c) L.length (L.flatMap encO), restC w (rrC r a c L).fp] W_ ∧ m_ = L.length + 1 - i) _ ⟨0, (show ((.int .i64 (0)) : Value) = _ by first | rfl | go_num), rfl, by omega, H, rfl⟩ ?_
  rintro g1 w2 _ ⟨i, v4, v5, hi, H3, rfl⟩
  refine wp_know 12 _ v4 ?_
  refine wp_know 5 _ v5 ?_
  refine w_seq ?_
  refine w_lit ?_
  refine wl_pure (wants0 rfl) (d := 13) (v := (.bool (decide ((i : Int) < (L.length : Int))))) rfl (by kernel_rfl) ?_
  refine w_nil ?_
  refine then_normal ?_
  refine w_seq ?_
  refine (bsplit (decide ((i : Int) < (L.length : Int)))).elim (fun b7 => ?_) (fun b7 => ?_)
  · have g8 := of_decide_eq_true b7
    refine wp_know 13 (.bool true) (congrArg Value.bool b7) ?_
    have g9 := of_decide_eq_true b7
    refine wp_ift rfl ?_
    refine w_skip ?_
    refine then_normal ?_
    refine w_seq ?_
    refine w_block ?_
    refine w_seq ?_
    refine w_lit ?_
    refine wl_pure (wants0 rfl) (d := 14) (v := (.int .i64 ((i : Int)))) rfl (by kernel_rfl) ?_
    refine wl_pure (wants0 rfl) (d := 6) (v := (.int .i64 ((i : Int)))) rfl (by kernel_rfl) ?_
    refine w_nil ?_
    refine then_normal ?_
    refine w_seq ?_
    refine w_lit ?_
    refine wl_pure (wants0 rfl) (d := 15) (v := (.pointer (some ⟨r, 0, none⟩))) rfl (by kernel_rfl) ?_
    refine wl_pure (wants0 rfl) (d := 16) (v := (.pointer (some ⟨r, 0, none⟩))) rfl (by kernel_rfl) ?_
    refine wl_pure (wants0 rfl) (d := 17) (v := (.pointer (some ⟨r, 0, none⟩))) rfl (by kernel_rfl) ?_
    refine wl_pure (wants0 rfl) (d := 18) (v := (.slice a L.length c)) rfl (e_load1 rfl (by kernel_rfl) (H3.cell 0 rfl rfl)) ?_
    refine wl_pure (wants0 rfl) (d := 19) (v := (.int .i64 ((i : Int)))) rfl (by kernel_rfl) ?_
    obtain ⟨g10, c11, e12⟩ := row_shape (H3.at 1 rfl) (by omega)
    obtain ⟨x13, h14⟩ := get_at (show i < L.length by omega)
    refine wl_pure (wants0 rfl) (d := 20) (v := (.pointer (some ⟨g10, 0 + ((i : Int)).toNat * 2, none⟩))) rfl (e_indexAddrV (E := 61) (by kernel_rfl) (by kernel_rfl) (Nat.le_of_ble_eq_true rfl) rfl e12 rfl (by omega) (by omega)) ?_
    refine wl_pure (wants0 rfl) (d := 21) (v := (.pointer (some ⟨g10, 0 + ((i : Int)).toNat * 2 + 1, none⟩))) rfl (by kernel_rfl) ?_
    refine wl_pure (wants0 rfl) (d := 22) (v := (.int .i64 (x13.2))) rfl (e_load1 rfl (by kernel_rfl) (rows_cell (H3.at 1 rfl) e12 encO_len h14 1 rfl (show 0 + ((i : Int)).toNat * 2 + 1 = i * 2 + 1 by omega) (by kernel_rfl))) ?_
    refine wl_pure (wants0 rfl) (d := 23) (v := (.int .i64 (d))) rfl (by kernel_rfl) ?_
    refine wl_pure (wants0 rfl) (d := 24) (v := (.bool (decide (x13.2 = d)))) rfl (by kernel_rfl) ?_
    refine w_nil ?_
    refine then_normal ?_
    refine (bsplit (decide (x13.2 = d))).elim (fun b15 => ?_) (fun b15 => ?_)
    · have g16 := of_decide_eq_true b15
      refine wp_know 24 (.bool true) (congrArg Value.bool b15) ?_
      have g17 := of_decide_eq_true b15
      refine wp_ift rfl ?_
      refine w_lit ?_
      refine wl_pure (wants0 rfl) (d := 25) (v := (.int .i64 (cntL (L.take i) d))) rfl (by kernel_rfl) ?_
      refine wl_pure (wants0 rfl) (d := 26) (v := (.int .i64 ((cntL (L.take i) d) + 1))) rfl (e_int (z := (cntL (L.take i) d) + 1) (by kernel_rfl) (IntWalk.i64_in _ (by have q := cnt_le (L.take i) d; rw [List.length_take] at q; omega))) ?_
      refine wl_pure (wants0 rfl) (d := 5) (v := (.int .i64 ((cntL (L.take i) d) + 1))) rfl (by kernel_rfl) ?_
      refine w_nil ?_
      refine blk_normal ?_
      refine then_normal ?_
      refine w_lit ?_
      refine wl_pure (wants0 rfl) (d := 27) (v := (.int .i64 ((i : Int) + 1))) rfl (e_int (z := (i : Int) + 1) (by kernel_rfl) (IntWalk.i64_in _ (by have q := cnt_le (L.take i) d; rw [List.length_take] at q; omega))) ?_
      refine wl_pure (wants0 rfl) (d := 12) (v := (.int .i64 ((i : Int) + 1))) rfl (by kernel_rfl) ?_
      refine w_nil ?_
      refine round_back ?_ _ ⟨(i + 1), (show ((.int .i64 ((i : Int) + 1)) : Value) = _ by first | rfl | go_num), (show ((.int .i64 ((cntL (L.take i) d) + 1)) : Value) = _ by rw [cnt_take h14, if_pos (of_decide_eq_true b15)]), by omega, H3, rfl⟩ (by omega)
      exact (same_upd rfl (same_upd rfl (same_upd rfl (same_upd rfl (same_upd rfl (same_upd rfl (same_upd rfl (same_upd rfl (same_upd rfl (same_upd rfl (same_upd rfl (same_upd rfl (same_upd rfl (same_upd rfl (same_upd rfl (same_upd rfl (same_upd rfl (same_upd rfl (same_upd rfl (same_upd rfl (same_upd rfl (same_upd rfl (same_ovr)))))))))))))))))))))))
    · have g18 := of_decide_eq_false b15
      refine wp_know 24 (.bool false) (congrArg Value.bool b15) ?_
      have g19 := of_decide_eq_false b15
      refine wp_iff rfl ?_
      refine w_skip ?_
      refine blk_normal ?_
      refine then_normal ?_
      refine w_lit ?_
      refine wl_pure (wants0 rfl) (d := 27) (v := (.int .i64 ((i : Int) + 1))) rfl (e_int (z := (i : Int) + 1) (by kernel_rfl) (IntWalk.i64_in _ (by have q := cnt_le (L.take i) d; rw [List.length_take] at q; omega))) ?_
      refine wl_pure (wants0 rfl) (d := 12) (v := (.int .i64 ((i : Int) + 1))) rfl (by kernel_rfl) ?_
      refine w_nil ?_
      refine round_back ?_ _ ⟨(i + 1), (show ((.int .i64 ((i : Int) + 1)) : Value) = _ by first | rfl | go_num), (show ((.int .i64 (cntL (L.take i) d)) : Value) = _ by rw [cnt_take h14, if_neg (of_decide_eq_false b15)]; rw [Int.add_zero]), by omega, H3, rfl⟩ (by omega)
      exact (same_upd rfl (same_upd rfl (same_upd rfl (same_upd rfl (same_upd rfl (same_upd rfl (same_upd rfl (same_upd rfl (same_upd rfl (same_upd rfl (same_upd rfl (same_upd rfl (same_upd rfl (same_upd rfl (same_upd rfl (same_upd rfl (same_upd rfl (same_upd rfl (same_upd rfl (same_ovr))))))))))))))))))))
  · have g20 := of_decide_eq_false b7
    refine wp_know 13 (.bool false) (congrArg Value.bool b7) ?_
    have g21 := of_decide_eq_false b7
    refine wp_iff rfl ?_
    refine w_exit ?_
    refine then_exit ?_
    refine back_exit ?_
    refine blk_hit ?_
    refine then_normal ?_
    refine w_seq ?_
    refine w_lit ?_
    refine wl_pure (wants0 rfl) (d := 28) (v := (.int .i64 (cntL (L.take i) d))) rfl (by kernel_rfl) ?_
    refine wl_pure (wants0 rfl) (d := 4) (v := (.int .i64 (cntL (L.take i) d))) rfl (by kernel_rfl) ?_
    refine w_nil ?_
    refine then_normal ?_
    refine w_ret ?_
    refine end1 rfl (res_tmp (v := (.int .i64 (cntL (L.take i) d))) rfl) ?_
    exact ⟨by rw [List.take_of_length_le (show L.length ≤ i by omega)], H3⟩

set_option maxRecDepth 100000 in
set_option maxHeartbeats 400000 in
theorem rItems_any (w : World) (r : Nat) (a : Option Addr) (c : Nat) (L : RegL) (hR : (rrC r a c L).ok w) (hl : L.length ≤ 64) :
    Calls Try.prog 26 #[(.pointer (some ⟨r, 0, none⟩))] w fun e w' => ∃ u, e = .returned u ∧ Sat w [cellC r 46 [.slice a L.length c], rowC 61 2 (.slice a L.length c) L.length (L.flatMap encO), rowC 9 1 u (L.map (·.1)).length ((L.map (·.1)).flatMap encS), restC w (rrC r a c L).fp] w' := by
  have H : Sat w [cellC r 46 ([(.slice a L.length c)] : List Value), rowC 61 2 (.slice a L.length c) L.length (L.flatMap encO), restC w (rrC r a c L).fp] w := Sat.start (rrL r a c L) hR
  refine calls_fr Try.func26 rfl 26 rfl (Nat.le_of_ble_eq_true rfl) ?_
  refine w_seq ?_
  refine w_lit ?_
  refine wl_pure (wants0 rfl) (d := 2) (v := (.slice none 0 0)) rfl (by kernel_rfl) ?_
  refine w_nil ?_
  refine then_normal ?_
  refine w_seq ?_
  refine w_lit ?_
  refine wl_pure (wants0 rfl) (d := 3) (v := (.slice none 0 0)) rfl (by kernel_rfl) ?_
  refine w_nil ?_
  refine then_normal ?_
  refine w_seq ?_
  refine w_seq ?_
  refine w_lit ?_
  refine wl_pure (wants0 rfl) (d := 5) (v := (.pointer (some ⟨r, 0, none⟩))) rfl (by kernel_rfl) ?_
  refine wl_pure (wants0 rfl) (d := 6) (v := (.pointer (some ⟨r, 0, none⟩))) rfl (by kernel_rfl) ?_
  refine wl_pure (wants0 rfl) (d := 7) (v := (.pointer (some ⟨r, 0, none⟩))) rfl (by kernel_rfl) ?_
  refine wl_pure (wants0 rfl) (d := 8) (v := (.slice a L.length c)) rfl (e_load1 rfl (by kernel_rfl) (H.cell 0 rfl rfl)) ?_
  refine wl_pure (wants0 rfl) (d := 9) (v := (.int .i64 ((L.length : Int)))) rfl (by kernel_rfl) ?_
  refine wl_pure (wants0 rfl) (d := 10) (v := (.int .i64 (0))) rfl (by kernel_rfl) ?_
  refine w_nil ?_
  refine then_normal ?_
  refine w_block ?_
  have H1 : Sat w [cellC r 46 ([(.slice a L.length c)] : List Value), rowC 61 2 (.slice a L.length c) L.length (L.flatMap encO), restC w (rrC r a c L).fp, rowC 9 1 (.slice none 0 0) (((L.take 0).map (·.1)).length) (((L.take 0).map (·.1)).flatMap encS)] w := H.addU (Upd.refl _ _) (World.ownsRow_nil _ 0 9 1) (fun _ h => by simp [rowC, Value.ownBlock] at h)
  refine wp_round [3, 4, 10, 11, 12, 13, 14, 15, 16, 17, 18, 19, 20, 21, 22, 23, 24] (fun F_ W_ m_ => ∃ (i : Nat) (a2 : Option Addr) (c2 : Nat), F_ 10 = (.int .i64 ((i : Int))) ∧ F_ 3 = (.slice a2 (((L.take i).map (·.1)).length) c2) ∧ (i ≤ L.length) ∧ Sat w [cellC r 46 ([(.slice a L.length c)] : List Value), rowC 61 2 (.slice a L.length c) L.length (L.flatMap encO), restC w (rrC r a c L).fp, rowC 9 1 (.slice a2 (((L.take i).map (·.1)).length) c2) (((L.take i).map (·.1)).length) (((L.take i).map (·.1)).flatMap encS)] W_ ∧ m_ = L.length + 1 - i) _ ⟨0, none, 0, (show ((.int .i64 (0)) : Value) = _ by first | rfl | go_num), rfl, by omega, H1, rfl⟩ ?_
  rintro g2 w3 _ ⟨i, a2, c2, v5, v6, hi, H4, rfl⟩
  refine wp_know 10 _ v5 ?_
  refine wp_know 3 _ v6 ?_
  have hal : ((L.take i).map (·.1)).length ≤ L.length := by first | (simp only [List.length_map, List.length_take]; omega) | exact Nat.le_trans (List.length_filter_le _ _) (by rw [List.length_take]; omega)
  refine w_seq ?_
  refine w_lit ?_
  refine wl_pure (wants0 rfl) (d := 11) (v := (.bool (decide ((i : Int) < (L.length : Int))))) rfl (by kernel_rfl) ?_
  refine w_nil ?_
  refine then_normal ?_
  refine w_seq ?_
  refine (bsplit (decide ((i : Int) < (L.length : Int)))).elim (fun b8 => ?_) (fun b8 => ?_)
  · have g9 := of_decide_eq_true b8
    refine wp_know 11 (.bool true) (congrArg Value.bool b8) ?_
    have g10 := of_decide_eq_true b8
    refine wp_ift rfl ?_
    refine w_skip ?_
    refine then_normal ?_
    refine w_seq ?_
    refine w_block ?_
    refine w_seq ?_
    refine w_lit ?_
    refine wl_pure (wants0 rfl) (d := 12) (v := (.int .i64 ((i : Int)))) rfl (by kernel_rfl) ?_
    refine wl_pure (wants0 rfl) (d := 4) (v := (.int .i64 ((i : Int)))) rfl (by kernel_rfl) ?_
    refine w_nil ?_
    refine then_normal ?_
    refine w_lit ?_
    refine wl_pure (wants0 rfl) (d := 13) (v := (.slice a2 (((L.take i).map (·.1)).length) c2)) rfl (by kernel_rfl) ?_
    refine wl_pure (wants0 rfl) (d := 14) (v := (.pointer (some ⟨r, 0, none⟩))) rfl (by kernel_rfl) ?_
    refine wl_pure (wants0 rfl) (d := 15) (v := (.pointer (some ⟨r, 0, none⟩))) rfl (by kernel_rfl) ?_
    refine wl_pure (wants0 rfl) (d := 16) (v := (.pointer (some ⟨r, 0, none⟩))) rfl (by kernel_rfl) ?_
    refine wl_pure (wants0 rfl) (d := 17) (v := (.slice a L.length c)) rfl (e_load1 rfl (by kernel_rfl) (H4.cell 0 rfl rfl)) ?_
    refine wl_pure (wants0 rfl) (d := 18) (v := (.int .i64 ((i : Int)))) rfl (by kernel_rfl) ?_
    obtain ⟨g11, c12, e13⟩ := row_shape (H4.at 1 rfl) (by omega)
    obtain ⟨x14, h15⟩ := get_at (show i < L.length by omega)
    refine wl_pure (wants0 rfl) (d := 19) (v := (.pointer (some ⟨g11, 0 + ((i : Int)).toNat * 2, none⟩))) rfl (e_indexAddrV (E := 61) (by kernel_rfl) (by kernel_rfl) (Nat.le_of_ble_eq_true rfl) rfl e13 rfl (by omega) (by omega)) ?_
    refine wl_pure (wants0 rfl) (d := 20) (v := (.pointer (some ⟨g11, 0 + ((i : Int)).toNat * 2, none⟩))) rfl (by kernel_rfl) ?_
    refine wl_pure (wants0 rfl) (d := 21) (v := (strV x14.1)) rfl (e_load1 rfl (by kernel_rfl) (rows_cell (H4.at 1 rfl) e13 encO_len h15 0 rfl (show 0 + ((i : Int)).toNat * 2 = i * 2 + 0 by omega) (by kernel_rfl))) ?_
    refine wl_do (wants0 rfl) (fun K16 hK16 => ?_)
    refine d_buildSlice (e := 9) (size := 1) (bytes := 16) (z := (strV ([] : List UInt8))) (pvs := [(0, (strV x14.1))]) (vs := ([(strV x14.1)] : List Value)) rfl H4 (by kernel_rfl) (by kernel_rfl) (by kernel_rfl) (by kernel_rfl) (by kernel_rfl) rfl rfl ?_
    intro b17 w18 (H19 : Sat w [cellC r 46 ([(.slice a L.length c)] : List Value), rowC 61 2 (.slice a L.length c) L.length (L.flatMap encO), restC w (rrC r a c L).fp, rowC 9 1 (.slice a2 (((L.take i).map (·.1)).length) c2) (((L.take i).map (·.1)).length) (((L.take i).map (·.1)).flatMap encS), rowC 9 1 (.slice (some ⟨b17, 0, none⟩) 1 1) 1 ([(strV x14.1)] : List Value)] w18)
    refine hK16 _ _ ?_
    clear hK16 K16
    refine wl_do (wants0 rfl) (fun K20 hK20 => ?_)
    refine d_append (T := 26) (e := 9) (size := 1) (bytes := 16) rfl H19 (by kernel_rfl) 3 4 rfl rfl rfl rfl (by kernel_rfl) (by omega) (by omega) ?_
    intro v21 w22 (H23 : Sat w [cellC r 46 ([(.slice a L.length c)] : List Value), rowC 61 2 (.slice a L.length c) L.length (L.flatMap encO), restC w (rrC r a c L).fp, rowC 9 1 v21 (((L.take i).map (·.1)).length + 1) ((((L.take i).map (·.1)).flatMap encS) ++ ([(strV x14.1)] : List Value)), rowC 9 1 (.slice (some ⟨b17, 0, none⟩) 1 1) 1 ([(strV x14.1)] : List Value)] w22)
    have H26 : Sat w [cellC r 46 ([(.slice a L.length c)] : List Value), rowC 61 2 (.slice a L.length c) L.length (L.flatMap encO), restC w (rrC r a c L).fp, rowC 9 1 v21 ((((L.take i).map (·.1)) ++ [x14.1]).length) ((((L.take i).map (·.1)) ++ [x14.1]).flatMap encS), rowC 9 1 (.slice (some ⟨b17, 0, none⟩) 1 1) 1 ([(strV x14.1)] : List Value)] w22 := H23.cast (by simp only [List.length_append, List.flatMap_append] <;> rfl)
    obtain ⟨a24, c25, rfl⟩ := ownsRow_shape (H26.at 3 rfl)
    refine hK20 _ _ ?_
    clear hK20 K20
    refine wl_pure (wants0 rfl) (d := 3) (v := (.slice a24 ((((L.take i).map (·.1)) ++ [x14.1]).length) c25)) rfl (by kernel_rfl) ?_
    refine w_nil ?_
    refine blk_normal ?_
    refine then_normal ?_
    refine w_lit ?_
    refine wl_pure (wants0 rfl) (d := 24) (v := (.int .i64 ((i : Int) + 1))) rfl (e_int (z := (i : Int) + 1) (by kernel_rfl) (IntWalk.i64_in _ (by omega))) ?_
    refine wl_pure (wants0 rfl) (d := 10) (v := (.int .i64 ((i : Int) + 1))) rfl (by kernel_rfl) ?_
    refine w_nil ?_
    have H27 : Sat w [cellC r 46 ([(.slice a L.length c)] : List Value), rowC 61 2 (.slice a L.length c) L.length (L.flatMap encO), restC w (rrC r a c L).fp, rowC 9 1 (.slice a24 (((L.take (i + 1)).map (·.1)).length) c25) (((L.take (i + 1)).map (·.1)).length) (((L.take (i + 1)).map (·.1)).flatMap encS), rowC 9 1 (.slice (some ⟨b17, 0, none⟩) 1 1) 1 ([(strV x14.1)] : List Value)] w22 := H26.cast (by rw [map_take h15])
    have H28 : Sat w [cellC r 46 ([(.slice a L.length c)] : List Value), rowC 61 2 (.slice a L.length c) L.length (L.flatMap encO), restC w (rrC r a c L).fp, rowC 9 1 (.slice a24 (((L.take (i + 1)).map (·.1)).length) c25) (((L.take (i + 1)).map (·.1)).length) (((L.take (i + 1)).map (·.1)).flatMap encS)] w22 := H27.pick [0, 1, 2, 3] (by decide)
    refine round_back ?_ _ ⟨(i + 1), a24, c25, (show ((.int .i64 ((i : Int) + 1)) : Value) = _ by first | rfl | go_num), (show ((.slice a24 ((((L.take i).map (·.1)) ++ [x14.1]).length) c25) : Value) = _ by exact (show ((.slice a24 ((((L.take i).map (·.1)) ++ [x14.1]).length) c25) : Value) = (.slice a24 (((L.take (i + 1)).map (·.1)).length) c25) by rw [map_take h15])), by omega, H28, rfl⟩ (by omega)
    exact (same_upd rfl (same_upd rfl (same_upd rfl (same_upd rfl (same_upd rfl (same_upd rfl (same_upd rfl (same_upd rfl (same_upd rfl (same_upd rfl (same_upd rfl (same_upd rfl (same_upd rfl (same_upd rfl (same_upd rfl (same_upd rfl (same_upd rfl (same_upd rfl (same_upd rfl (same_upd rfl (same_ovr)))))))))))))))))))))
  · have g29 := of_decide_eq_false b8
    refine wp_know 11 (.bool false) (congrArg Value.bool b8) ?_
    have g30 := of_decide_eq_false b8
    refine wp_iff rfl ?_
    refine w_exit ?_
    refine then_exit ?_
    refine back_exit ?_
    refine blk_hit ?_
    refine then_normal ?_
    refine w_seq ?_
    refine w_lit ?_
    refine wl_pure (wants0 rfl) (d := 25) (v := (.slice a2 (((L.take i).map (·.1)).length) c2)) rfl (by kernel_rfl) ?_
    refine wl_pure (wants0 rfl) (d := 2) (v := (.slice a2 (((L.take i).map (·.1)).length) c2)) rfl (by kernel_rfl) ?_
    refine w_nil ?_
    refine then_normal ?_
    refine w_ret ?_
    refine end1 rfl (res_tmp (v := (.slice a2 (((L.take i).map (·.1)).length) c2)) rfl) ?_
    have hfull : (L.take i).map (·.1) = L.map (·.1) := by rw [List.take_of_length_le (show L.length ≤ i by omega)]
    exact ⟨_, rfl, (H4.pick [0, 1, 3, 2] (by decide)).cast (by show [_, _, _, _] = _; rw [hfull])⟩

set_option maxRecDepth 100000 in
set_option maxHeartbeats 400000 in
theorem rRelease_any (w : World) (r : Nat) (a : Option Addr) (c : Nat) (L : RegL) (hR : (rrC r a c L).ok w) (hl : L.length ≤ 64) (hS : SrtK L) (s : List UInt8) (hs : s.length ≤ 9223372036854775807) (d : Int) :
    Calls Try.prog 23 #[(.pointer (some ⟨r, 0, none⟩)), (strV s), (.int .i64 (d))] w fun e w' => ∃ a' c' L', e = .returned (.int .i64 (relE L s d)) ∧ Sat w [cellC r 46 [.slice a' L'.length c'], rowC 61 2 (.slice a' L'.length c') L'.length (L'.flatMap encO), restC w (rrC r a c L).fp] w' ∧ SrtK L' ∧ L'.Perm (relL L s d) := by
  have H : Sat w [cellC r 46 ([(.slice a L.length c)] : List Value), rowC 61 2 (.slice a L.length c) L.length (L.flatMap encO), restC w (rrC r a c L).fp] w := Sat.start (rrL r a c L) hR
  refine calls_fr Try.func23 rfl 59 rfl (Nat.le_of_ble_eq_true rfl) ?_
  refine w_seq ?_
  refine w_lit ?_
  refine wl_pure (wants0 rfl) (d := 6) (v := (.int .i64 (0))) rfl (by kernel_rfl) ?_
  refine w_nil ?_
  refine then_normal ?_
  refine w_seq ?_
  refine w_seq ?_
  refine w_lit ?_
  refine wl_pure (wants0 rfl) (d := 11) (v := (strV s)) rfl (by kernel_rfl) ?_
  refine wl_pure (wants0 rfl) (d := 12) (v := (.int .i64 (d))) rfl (by kernel_rfl) ?_
  refine wl_do (wants0 rfl) (fun K1 hK1 => ?_)
  refine d_call (d := 13) rfl (by kernel_rfl) (rMay_any w s d hs) ?_
  rintro _ w2 ⟨rfl, u4⟩
  have H3 := H.keepU u4
  refine ⟨_, rfl, ?_⟩
  refine hK1 _ _ ?_
  clear hK1 K1
  refine wl_pure (wants0 rfl) (d := 14) (v := (.bool (!(mayB s d)))) rfl (by kernel_rfl) ?_
  refine w_nil ?_
  refine then_normal ?_
  refine (bsplit (!(mayB s d))).elim (fun b5 => ?_) (fun b5 => ?_)
  · have g6 := bnot_true b5
    refine wp_know 14 (.bool true) (congrArg Value.bool b5) ?_
    have g7 := bnot_true b5
    refine wp_ift rfl ?_
    refine w_seq ?_
    refine w_lit ?_
    refine wl_pure (wants0 rfl) (d := 6) (v := (.int .i64 (1))) rfl (by kernel_rfl) ?_
    refine w_nil ?_
    refine then_normal ?_
    refine w_ret ?_
    refine then_ret ?_
    refine end1 rfl (res_tmp (v := (.int .i64 (1))) rfl) ?_
    have hE : relE L s d = 1 := by
      have q0 := b5
      simp only [Bool.not_eq_true'] at q0
      unfold relE
      repeat' split
      all_goals first | rfl | omega | simp_all
    exact ⟨a, c, L, by rw [hE], H3, hS, by unfold relL; rw [hE]; exact List.Perm.refl _⟩
  · have g8 := bnot_false b5
    refine wp_know 14 (.bool false) (congrArg Value.bool b5) ?_
    have g9 := bnot_false b5
    refine wp_iff rfl ?_
    refine w_skip ?_
    refine then_normal ?_
    refine w_seq ?_
    refine w_lit ?_
    refine wl_pure (wants0 rfl) (d := 16) (v := (.pointer (some ⟨r, 0, none⟩))) rfl (by kernel_rfl) ?_
    refine wl_pure (wants0 rfl) (d := 17) (v := (strV s)) rfl (by kernel_rfl) ?_
    refine wl_do (wants0 rfl) (fun K10 hK10 => ?_)
    refine d_call (d := 18) rfl (by kernel_rfl) (rOwner_any w2 r a c L (H3.fin [0, 1] (by decide) rfl) hl s) ?_
    rintro _ w11 ⟨rfl, T12⟩
    have H13 : Sat w [cellC r 46 ([(.slice a L.length c)] : List Value), rowC 61 2 (.slice a L.length c) L.length (L.flatMap encO), restC w (rrC r a c L).fp] w11 := (Sat.turnL (L' := [cellC r 46 ([(.slice a L.length c)] : List Value), rowC 61 2 (.slice a L.length c) L.length (L.flatMap encO)]) (R := [restC w (rrC r a c L).fp]) H3 [0, 1] [2] (by decide) (by kernel_rfl) rfl T12).pick [0, 1, 2] (by decide)
    refine ⟨_, rfl, ?_⟩
    refine hK10 _ _ ?_
    clear hK10 K10
    refine wl_pure (wants0 rfl) (d := 15) (v := (.tuple #[(.int .i64 ((lookM L s).getD 0)), (.bool ((lookM L s).isSome))])) rfl (by kernel_rfl) ?_
    refine wl_pure (wants0 rfl) (d := 19) (v := (.int .i64 ((lookM L s).getD 0))) rfl (by kernel_rfl) ?_
    refine wl_pure (wants0 rfl) (d := 20) (v := (.bool ((lookM L s).isSome))) rfl (by kernel_rfl) ?_
    refine wl_pure (wants0 rfl) (d := 7) (v := (.int .i64 ((lookM L s).getD 0))) rfl (by kernel_rfl) ?_
    refine wl_pure (wants0 rfl) (d := 8) (v := (.bool ((lookM L s).isSome))) rfl (by kernel_rfl) ?_
    refine w_nil ?_
    refine then_normal ?_
    refine w_seq ?_
    refine w_seq ?_
    refine w_lit ?_
    refine wl_pure (wants0 rfl) (d := 21) (v := (.bool ((lookM L s).isSome))) rfl (by kernel_rfl) ?_
    refine wl_pure (wants0 rfl) (d := 22) (v := (.bool (!((lookM L s).isSome)))) rfl (by kernel_rfl) ?_
    refine w_nil ?_
    refine then_normal ?_
    refine (bsplit (!((lookM L s).isSome))).elim (fun b14 => ?_) (fun b14 => ?_)
    · have g15 := bnot_true b14
      refine wp_know 22 (.bool true) (congrArg Value.bool b14) ?_
      have g16 := bnot_true b14
      refine wp_ift rfl ?_
      refine w_seq ?_
      refine w_lit ?_
      refine wl_pure (wants0 rfl) (d := 6) (v := (.int .i64 (6))) rfl (by kernel_rfl) ?_
      refine w_nil ?_
      refine then_normal ?_
      refine w_ret ?_
      refine then_ret ?_
      refine end1 rfl (res_tmp (v := (.int .i64 (6))) rfl) ?_
      have hE : relE L s d = 6 := by
        have q0 := b5
        have q1 := b14
        simp only [Bool.not_eq_true', Bool.not_eq_false'] at q0 q1
        unfold relE
        repeat' split
        all_goals first | rfl | omega | simp_all
      exact ⟨a, c, L, by rw [hE], H13, hS, by unfold relL; rw [hE]; exact List.Perm.refl _⟩
    · have g17 := bnot_false b14
      refine wp_know 22 (.bool false) (congrArg Value.bool b14) ?_
      have g18 := bnot_false b14
      refine wp_iff rfl ?_
      refine w_skip ?_
      refine then_normal ?_
      refine w_seq ?_
      refine w_seq ?_
      refine w_lit ?_
      refine wl_pure (wants0 rfl) (d := 23) (v := (.int .i64 ((lookM L s).getD 0))) rfl (by kernel_rfl) ?_
      refine wl_pure (wants0 rfl) (d := 24) (v := (.int .i64 (d))) rfl (by kernel_rfl) ?_
      refine wl_pure (wants0 rfl) (d := 25) (v := (.bool (!(decide (((lookM L s).getD 0) = d))))) rfl (by kernel_rfl) ?_
      refine w_nil ?_
      refine then_normal ?_
      refine (bsplit (!(decide (((lookM L s).getD 0) = d)))).elim (fun b19 => ?_) (fun b19 => ?_)
      · have g20 := bnot_true b19
        have g21 := of_decide_eq_false g20
        refine wp_know 25 (.bool true) (congrArg Value.bool b19) ?_
        have g22 := bnot_true b19
        have g23 := of_decide_eq_false g22
        refine wp_ift rfl ?_
        refine w_seq ?_
        refine w_lit ?_
        refine wl_pure (wants0 rfl) (d := 6) (v := (.int .i64 (12))) rfl (by kernel_rfl) ?_
        refine w_nil ?_
        refine then_normal ?_
        refine w_ret ?_
        refine then_ret ?_
        refine end1 rfl (res_tmp (v := (.int .i64 (12))) rfl) ?_
        have hE : relE L s d = 12 := by
          have q0 := b5
          have q1 := b14
          have q2 := b19
          simp only [Bool.not_eq_true', Bool.not_eq_false', decide_eq_false_iff_not] at q0 q1 q2
          unfold relE
          repeat' split
          all_goals first | rfl | omega | simp_all
        exact ⟨a, c, L, by rw [hE], H13, hS, by unfold relL; rw [hE]; exact List.Perm.refl _⟩
      · have g24 := bnot_false b19
        have g25 := of_decide_eq_true g24
        refine wp_know 25 (.bool false) (congrArg Value.bool b19) ?_
        have g26 := bnot_false b19
        have g27 := of_decide_eq_true g26
        refine wp_iff rfl ?_
        refine w_skip ?_
        refine then_normal ?_
        refine w_seq ?_
        refine w_lit ?_
        refine wl_pure (wants0 rfl) (d := 9) (v := (.slice none 0 0)) rfl (by kernel_rfl) ?_
        refine w_nil ?_
        refine then_normal ?_
        refine w_seq ?_
        refine w_seq ?_
        refine w_lit ?_
        refine wl_pure (wants0 rfl) (d := 26) (v := (.pointer (some ⟨r, 0, none⟩))) rfl (by kernel_rfl) ?_
        refine wl_pure (wants0 rfl) (d := 27) (v := (.pointer (some ⟨r, 0, none⟩))) rfl (by kernel_rfl) ?_
        refine wl_pure (wants0 rfl) (d := 28) (v := (.pointer (some ⟨r, 0, none⟩))) rfl (by kernel_rfl) ?_
        refine wl_pure (wants0 rfl) (d := 29) (v := (.slice a L.length c)) rfl (e_load1 rfl (by kernel_rfl) (H13.cell 0 rfl rfl)) ?_
        refine wl_pure (wants0 rfl) (d := 30) (v := (.int .i64 ((L.length : Int)))) rfl (by kernel_rfl) ?_
        refine wl_pure (wants0 rfl) (d := 31) (v := (.int .i64 (0))) rfl (by kernel_rfl) ?_
        refine w_nil ?_
        refine then_normal ?_
        refine w_block ?_
        have H28 : Sat w [cellC r 46 ([(.slice a L.length c)] : List Value), rowC 61 2 (.slice a L.length c) L.length (L.flatMap encO), restC w (rrC r a c L).fp, rowC 61 2 (.slice none 0 0) (((L.take 0).filter (fun x => decide (x.1 ≠ s))).length) (((L.take 0).filter (fun x => decide (x.1 ≠ s))).flatMap encO)] w11 := H13.addU (Upd.refl _ _) (World.ownsRow_nil _ 0 61 2) (fun _ h => by simp [rowC, Value.ownBlock] at h)
        refine wp_round [9, 10, 31, 32, 33, 34, 35, 36, 37, 38, 39, 40, 41, 42, 43, 44, 45, 46, 47, 48, 49, 50, 51, 52, 53, 54] (fun F_ W_ m_ => ∃ (i : Nat) (a2 : Option Addr) (c2 : Nat), F_ 31 = (.int .i64 ((i : Int))) ∧ F_ 9 = (.slice a2 (((L.take i).filter (fun x => decide (x.1 ≠ s))).length) c2) ∧ (i ≤ L.length) ∧ Sat w [cellC r 46 ([(.slice a L.length c)] : List Value), rowC 61 2 (.slice a L.length c) L.length (L.flatMap encO), restC w (rrC r a c L).fp, rowC 61 2 (.slice a2 (((L.take i).filter (fun x => decide (x.1 ≠ s))).length) c2) (((L.take i).filter (fun x => decide (x.1 ≠ s))).length) (((L.take i).filter (fun x => decide (x.1 ≠ s))).flatMap encO)] W_ ∧ m_ = L.length + 1 - i) _ ⟨0, none, 0, (show ((.int .i64 (0)) : Value) = _ by first | rfl | go_num), rfl, by omega, H28, rfl⟩ ?_
        rintro g29 w30 _ ⟨i, a2, c2, v32, v33, hi, H31, rfl⟩
        refine wp_know 31 _ v32 ?_
        refine wp_know 9 _ v33 ?_
        have hal : ((L.take i).filter (fun x => decide (x.1 ≠ s))).length ≤ L.length := by first | (simp only [List.length_map, List.length_take]; omega) | exact Nat.le_trans (List.length_filter_le _ _) (by rw [List.length_take]; omega)
        refine w_seq ?_
        refine w_lit ?_
        refine wl_pure (wants0 rfl) (d := 32) (v := (.bool (decide ((i : Int) < (L.length : Int))))) rfl (by kernel_rfl) ?_
        refine w_nil ?_
        refine then_normal ?_
        refine w_seq ?_
        refine (bsplit (decide ((i : Int) < (L.length : Int)))).elim (fun b35 => ?_) (fun b35 => ?_)
        · have g36 := of_decide_eq_true b35
          refine wp_know 32 (.bool true) (congrArg Value.bool b35) ?_
          have g37 := of_decide_eq_true b35
          refine wp_ift rfl ?_
          refine w_skip ?_
          refine then_normal ?_
          refine w_seq ?_
          refine w_block ?_
          refine w_seq ?_
          refine w_lit ?_
          refine wl_pure (wants0 rfl) (d := 33) (v := (.int .i64 ((i : Int)))) rfl (by kernel_rfl) ?_
          refine wl_pure (wants0 rfl) (d := 10) (v := (.int .i64 ((i : Int)))) rfl (by kernel_rfl) ?_
          refine w_nil ?_
          refine then_normal ?_
          refine w_seq ?_
          refine w_lit ?_
          refine wl_pure (wants0 rfl) (d := 34) (v := (.pointer (some ⟨r, 0, none⟩))) rfl (by kernel_rfl) ?_
          refine wl_pure (wants0 rfl) (d := 35) (v := (.pointer (some ⟨r, 0, none⟩))) rfl (by kernel_rfl) ?_
          refine wl_pure (wants0 rfl) (d := 36) (v := (.pointer (some ⟨r, 0, none⟩))) rfl (by kernel_rfl) ?_
          refine wl_pure (wants0 rfl) (d := 37) (v := (.slice a L.length c)) rfl (e_load1 rfl (by kernel_rfl) (H31.cell 0 rfl rfl)) ?_
          refine wl_pure (wants0 rfl) (d := 38) (v := (.int .i64 ((i : Int)))) rfl (by kernel_rfl) ?_
          obtain ⟨g38, c39, e40⟩ := row_shape (H31.at 1 rfl) (by omega)
          obtain ⟨x41, h42⟩ := get_at (show i < L.length by omega)
          refine wl_pure (wants0 rfl) (d := 39) (v := (.pointer (some ⟨g38, 0 + ((i : Int)).toNat * 2, none⟩))) rfl (e_indexAddrV (E := 61) (by kernel_rfl) (by kernel_rfl) (Nat.le_of_ble_eq_true rfl) rfl e40 rfl (by omega) (by omega)) ?_
          refine wl_pure (wants0 rfl) (d := 40) (v := (.pointer (some ⟨g38, 0 + ((i : Int)).toNat * 2, none⟩))) rfl (by kernel_rfl) ?_
          refine wl_pure (wants0 rfl) (d := 41) (v := (strV x41.1)) rfl (e_load1 rfl (by kernel_rfl) (rows_cell (H31.at 1 rfl) e40 encO_len h42 0 rfl (show 0 + ((i : Int)).toNat * 2 = i * 2 + 0 by omega) (by kernel_rfl))) ?_
          refine wl_pure (wants0 rfl) (d := 42) (v := (strV s)) rfl (by kernel_rfl) ?_
          refine wl_pure (wants0 rfl) (d := 43) (v := (.bool (!(decide (x41.1 = s))))) rfl (e_neStr x41.1 s rfl rfl) ?_
          refine w_nil ?_
          refine then_normal ?_
          refine (bsplit (!(decide (x41.1 = s)))).elim (fun b43 => ?_) (fun b43 => ?_)
          · have g44 := bnot_true b43
            have g45 := of_decide_eq_false g44
            refine wp_know 43 (.bool true) (congrArg Value.bool b43) ?_
            have g46 := bnot_true b43
            have g47 := of_decide_eq_false g46
            refine wp_ift rfl ?_
            refine w_lit ?_
            refine wl_pure (wants0 rfl) (d := 44) (v := (.slice a2 (((L.take i).filter (fun x => decide (x.1 ≠ s))).length) c2)) rfl (by kernel_rfl) ?_
            refine wl_pure (wants0 rfl) (d := 45) (v := (.pointer (some ⟨r, 0, none⟩))) rfl (by kernel_rfl) ?_
            refine wl_pure (wants0 rfl) (d := 46) (v := (.pointer (some ⟨r, 0, none⟩))) rfl (by kernel_rfl) ?_
            refine wl_pure (wants0 rfl) (d := 47) (v := (.pointer (some ⟨r, 0, none⟩))) rfl (by kernel_rfl) ?_
            refine wl_pure (wants0 rfl) (d := 48) (v := (.slice a L.length c)) rfl (e_load1 rfl (by kernel_rfl) (H31.cell 0 rfl rfl)) ?_
            refine wl_pure (wants0 rfl) (d := 49) (v := (.int .i64 ((i : Int)))) rfl (by kernel_rfl) ?_
            refine wl_pure (wants0 rfl) (d := 50) (v := (.pointer (some ⟨g38, 0 + ((i : Int)).toNat * 2, none⟩))) rfl (e_indexAddrV (E := 61) (by kernel_rfl) (by kernel_rfl) (Nat.le_of_ble_eq_true rfl) rfl e40 rfl (by omega) (by omega)) ?_
            refine wl_pure (wants0 rfl) (d := 51) (v := (.agg ⟨([(strV x41.1), (.int .i64 (x41.2))] : List Value)⟩)) rfl (e_loadRun (vs := ([(strV x41.1), (.int .i64 (x41.2))] : List Value)) rfl (by kernel_rfl) (by kernel_rfl) (Nat.le_of_ble_eq_true (by kernel_rfl)) (rows_run (H31.at 1 rfl) e40 encO_len h42 0 (show 0 + ((i : Int)).toNat * 2 = i * 2 + 0 by omega) (by kernel_rfl) (by kernel_rfl))) ?_
            refine wl_do (wants0 rfl) (fun K48 hK48 => ?_)
            refine d_buildSlice (e := 61) (size := 2) (bytes := 24) (z := (.agg ⟨([(strV ([] : List UInt8)), (.int .i64 (0))] : List Value)⟩)) (pvs := [(0, (.agg ⟨([(strV x41.1), (.int .i64 (x41.2))] : List Value)⟩))]) (vs := ([(strV x41.1), (.int .i64 (x41.2))] : List Value)) rfl H31 (by kernel_rfl) (by kernel_rfl) (by kernel_rfl) (by kernel_rfl) (by kernel_rfl) rfl rfl ?_
            intro b49 w50 (H51 : Sat w [cellC r 46 ([(.slice a L.length c)] : List Value), rowC 61 2 (.slice a L.length c) L.length (L.flatMap encO), restC w (rrC r a c L).fp, rowC 61 2 (.slice a2 (((L.take i).filter (fun x => decide (x.1 ≠ s))).length) c2) (((L.take i).filter (fun x => decide (x.1 ≠ s))).length) (((L.take i).filter (fun x => decide (x.1 ≠ s))).flatMap encO), rowC 61 2 (.slice (some ⟨b49, 0, none⟩) 1 1) 1 ([(strV x41.1), (.int .i64 (x41.2))] : List Value)] w50)
            refine hK48 _ _ ?_
            clear hK48 K48
            refine wl_do (wants0 rfl) (fun K52 hK52 => ?_)
            refine d_append (T := 44) (e := 61) (size := 2) (bytes := 24) rfl H51 (by kernel_rfl) 3 4 rfl rfl rfl rfl (by kernel_rfl) (by omega) (by omega) ?_
            intro v53 w54 (H55 : Sat w [cellC r 46 ([(.slice a L.length c)] : List Value), rowC 61 2 (.slice a L.length c) L.length (L.flatMap encO), restC w (rrC r a c L).fp, rowC 61 2 v53 (((L.take i).filter (fun x => decide (x.1 ≠ s))).length + 1) ((((L.take i).filter (fun x => decide (x.1 ≠ s))).flatMap encO) ++ ([(strV x41.1), (.int .i64 (x41.2))] : List Value)), rowC 61 2 (.slice (some ⟨b49, 0, none⟩) 1 1) 1 ([(strV x41.1), (.int .i64 (x41.2))] : List Value)] w54)
            have H58 : Sat w [cellC r 46 ([(.slice a L.length c)] : List Value), rowC 61 2 (.slice a L.length c) L.length (L.flatMap encO), restC w (rrC r a c L).fp, rowC 61 2 v53 ((((L.take i).filter (fun x => decide (x.1 ≠ s))) ++ [(x41.1, x41.2)]).length) ((((L.take i).filter (fun x => decide (x.1 ≠ s))) ++ [(x41.1, x41.2)]).flatMap encO), rowC 61 2 (.slice (some ⟨b49, 0, none⟩) 1 1) 1 ([(strV x41.1), (.int .i64 (x41.2))] : List Value)] w54 := H55.cast (by simp only [List.length_append, List.flatMap_append] <;> rfl)
            obtain ⟨a56, c57, rfl⟩ := ownsRow_shape (H58.at 3 rfl)
            refine hK52 _ _ ?_
            clear hK52 K52
            refine wl_pure (wants0 rfl) (d := 9) (v := (.slice a56 ((((L.take i).filter (fun x => decide (x.1 ≠ s))) ++ [(x41.1, x41.2)]).length) c57)) rfl (by kernel_rfl) ?_
            refine w_nil ?_
            refine blk_normal ?_
            refine then_normal ?_
            refine w_lit ?_
            refine wl_pure (wants0 rfl) (d := 54) (v := (.int .i64 ((i : Int) + 1))) rfl (e_int (z := (i : Int) + 1) (by kernel_rfl) (IntWalk.i64_in _ (by omega))) ?_
            refine wl_pure (wants0 rfl) (d := 31) (v := (.int .i64 ((i : Int) + 1))) rfl (by kernel_rfl) ?_
            refine w_nil ?_
            have H59 : Sat w [cellC r 46 ([(.slice a L.length c)] : List Value), rowC 61 2 (.slice a L.length c) L.length (L.flatMap encO), restC w (rrC r a c L).fp, rowC 61 2 (.slice a56 (((L.take (i + 1)).filter (fun x => decide (x.1 ≠ s))).length) c57) (((L.take (i + 1)).filter (fun x => decide (x.1 ≠ s))).length) (((L.take (i + 1)).filter (fun x => decide (x.1 ≠ s))).flatMap encO), rowC 61 2 (.slice (some ⟨b49, 0, none⟩) 1 1) 1 ([(strV x41.1), (.int .i64 (x41.2))] : List Value)] w54 := H58.cast (by rw [filter_take h42 (of_decide_eq_false (bnot_true b43))])
            have H60 : Sat w [cellC r 46 ([(.slice a L.length c)] : List Value), rowC 61 2 (.slice a L.length c) L.length (L.flatMap encO), restC w (rrC r a c L).fp, rowC 61 2 (.slice a56 (((L.take (i + 1)).filter (fun x => decide (x.1 ≠ s))).length) c57) (((L.take (i + 1)).filter (fun x => decide (x.1 ≠ s))).length) (((L.take (i + 1)).filter (fun x => decide (x.1 ≠ s))).flatMap encO)] w54 := H59.pick [0, 1, 2, 3] (by decide)
            refine round_back ?_ _ ⟨(i + 1), a56, c57, (show ((.int .i64 ((i : Int) + 1)) : Value) = _ by first | rfl | go_num), (show ((.slice a56 ((((L.take i).filter (fun x => decide (x.1 ≠ s))) ++ [(x41.1, x41.2)]).length) c57) : Value) = _ by exact (show ((.slice a56 ((((L.take i).filter (fun x => decide (x.1 ≠ s))) ++ [(x41.1, x41.2)]).length) c57) : Value) = (.slice a56 (((L.take (i + 1)).filter (fun x => decide (x.1 ≠ s))).length) c57) by rw [filter_take h42 (of_decide_eq_false (bnot_true b43))])), by omega, H60, rfl⟩ (by omega)
            exact (same_upd rfl (same_upd rfl (same_upd rfl (same_upd rfl (same_upd rfl (same_upd rfl (same_upd rfl (same_upd rfl (same_upd rfl (same_upd rfl (same_upd rfl (same_upd rfl (same_upd rfl (same_upd rfl (same_upd rfl (same_upd rfl (same_upd rfl (same_upd rfl (same_upd rfl (same_upd rfl (same_upd rfl (same_upd rfl (same_upd rfl (same_upd rfl (same_upd rfl (same_upd rfl (same_upd rfl (same_upd rfl (same_upd rfl (same_upd rfl (same_ovr)))))))))))))))))))))))))))))))
          · have g61 := bnot_false b43
            have g62 := of_decide_eq_true g61
            refine wp_know 43 (.bool false) (congrArg Value.bool b43) ?_
            have g63 := bnot_false b43
            have g64 := of_decide_eq_true g63
            refine wp_iff rfl ?_
            refine w_skip ?_
            refine blk_normal ?_
            refine then_normal ?_
            refine w_lit ?_
            refine wl_pure (wants0 rfl) (d := 54) (v := (.int .i64 ((i : Int) + 1))) rfl (e_int (z := (i : Int) + 1) (by kernel_rfl) (IntWalk.i64_in _ (by omega))) ?_
            refine wl_pure (wants0 rfl) (d := 31) (v := (.int .i64 ((i : Int) + 1))) rfl (by kernel_rfl) ?_
            refine w_nil ?_
            have H65 : Sat w [cellC r 46 ([(.slice a L.length c)] : List Value), rowC 61 2 (.slice a L.length c) L.length (L.flatMap encO), restC w (rrC r a c L).fp, rowC 61 2 (.slice a2 (((L.take (i + 1)).filter (fun x => decide (x.1 ≠ s))).length) c2) (((L.take (i + 1)).filter (fun x => decide (x.1 ≠ s))).length) (((L.take (i + 1)).filter (fun x => decide (x.1 ≠ s))).flatMap encO)] w30 := H31.cast (by rw [filter_takeN h42 (of_decide_eq_true (bnot_false b43))])
            refine round_back ?_ _ ⟨(i + 1), a2, c2, (show ((.int .i64 ((i : Int) + 1)) : Value) = _ by first | rfl | go_num), (show ((.slice a2 (((L.take i).filter (fun x => decide (x.1 ≠ s))).length) c2) : Value) = _ by exact (show ((.slice a2 (((L.take i).filter (fun x => decide (x.1 ≠ s))).length) c2) : Value) = (.slice a2 (((L.take (i + 1)).filter (fun x => decide (x.1 ≠ s))).length) c2) by rw [filter_takeN h42 (of_decide_eq_true (bnot_false b43))])), by omega, H65, rfl⟩ (by omega)
            exact (same_upd rfl (same_upd rfl (same_upd rfl (same_upd rfl (same_upd rfl (same_upd rfl (same_upd rfl (same_upd rfl (same_upd rfl (same_upd rfl (same_upd rfl (same_upd rfl (same_upd rfl (same_upd rfl (same_upd rfl (same_upd rfl (same_upd rfl (same_upd rfl (same_upd rfl (same_ovr))))))))))))))))))))
        · have g66 := of_decide_eq_false b35
          refine wp_know 32 (.bool false) (congrArg Value.bool b35) ?_
          have g67 := of_decide_eq_false b35
          refine wp_iff rfl ?_
          refine w_exit ?_
          refine then_exit ?_
          refine back_exit ?_
          refine blk_hit ?_
          refine then_normal ?_
          refine w_seq ?_
          refine w_lit ?_
          refine wl_pure (wants0 rfl) (d := 55) (v := (.pointer (some ⟨r, 0, none⟩))) rfl (by kernel_rfl) ?_
          refine wl_pure (wants0 rfl) (d := 56) (v := (.slice a2 (((L.take i).filter (fun x => decide (x.1 ≠ s))).length) c2)) rfl (by kernel_rfl) ?_
          refine wl_pure (wants0 rfl) (d := 57) (v := (.pointer (some ⟨r, 0, none⟩))) rfl (by kernel_rfl) ?_
          refine wl_pure (wants0 rfl) (d := 58) (v := (.pointer (some ⟨r, 0, none⟩))) rfl (by kernel_rfl) ?_
          refine wl_do (wants0 rfl) (fun K68 hK68 => ?_)
          refine d_store (vs := ([(.slice a2 (((L.take i).filter (fun x => decide (x.1 ≠ s))).length) c2)] : List Value)) rfl H31 0 rfl rfl rfl rfl (by kernel_rfl) (Nat.le_of_ble_eq_true (by kernel_rfl)) (Nat.le_of_ble_eq_true (by kernel_rfl)) (by kernel_rfl) ?_
          intro w69 (H70 : Sat w [cellC r 46 ([(.slice a2 (((L.take i).filter (fun x => decide (x.1 ≠ s))).length) c2)] : List Value), rowC 61 2 (.slice a L.length c) L.length (L.flatMap encO), restC w (rrC r a c L).fp, rowC 61 2 (.slice a2 (((L.take i).filter (fun x => decide (x.1 ≠ s))).length) c2) (((L.take i).filter (fun x => decide (x.1 ≠ s))).length) (((L.take i).filter (fun x => decide (x.1 ≠ s))).flatMap encO)] w69)
          refine hK68 _ _ ?_
          clear hK68 K68
          refine w_nil ?_
          refine then_normal ?_
          refine w_seq ?_
          refine w_lit ?_
          refine wl_pure (wants0 rfl) (d := 6) (v := (.int .i64 (0))) rfl (by kernel_rfl) ?_
          refine w_nil ?_
          refine then_normal ?_
          refine w_ret ?_
          refine end1 rfl (res_tmp (v := (.int .i64 (0))) rfl) ?_
          have hE : relE L s d = 0 := by
            have q0 := b5
            have q1 := b14
            have q2 := b19
            simp only [Bool.not_eq_false', decide_eq_true_eq] at q0 q1 q2
            unfold relE
            repeat' split
            all_goals first | rfl | omega | simp_all
          have hfull : (L.take i).filter (fun x => decide (x.1 ≠ s)) = L.filter (fun x => decide (x.1 ≠ s)) := by rw [List.take_of_length_le (show L.length ≤ i by omega)]
          exact ⟨a2, c2, L.filter (fun x => decide (x.1 ≠ s)), by rw [hE], (H70.pick [0, 3, 2] (by decide)).cast (by show [_, _, _] = _; rw [hfull]), hS.sublist List.filter_sublist, by unfold relL; rw [if_pos hE, delM_filter hS.nodup]⟩

set_option maxRecDepth 100000 in
set_option maxHeartbeats 400000 in
theorem rReserve_any (w : World) (r : Nat) (a : Option Addr) (c : Nat) (L : RegL) (hR : (rrC r a c L).ok w) (hl : L.length ≤ 64) (hS : SrtK L) (s : List UInt8) (hs : s.length ≤ 9223372036854775807) (d : Int) :
    Calls Try.prog 24 #[(.pointer (some ⟨r, 0, none⟩)), (strV s), (.int .i64 (d))] w fun e w' => ∃ a' c' L', e = .returned (.int .i64 (resE L s d)) ∧ Sat w [cellC r 46 [.slice a' L'.length c'], rowC 61 2 (.slice a' L'.length c') L'.length (L'.flatMap encO), restC w (rrC r a c L).fp] w' ∧ SrtK L' ∧ L'.Perm (resL L s d) := by
  have H : Sat w [cellC r 46 ([(.slice a L.length c)] : List Value), rowC 61 2 (.slice a L.length c) L.length (L.flatMap encO), restC w (rrC r a c L).fp] w := Sat.start (rrL r a c L) hR
  refine calls_fr Try.func24 rfl 71 rfl (Nat.le_of_ble_eq_true rfl) ?_
  refine w_seq ?_
  refine w_lit ?_
  refine wl_pure (wants0 rfl) (d := 6) (v := (.int .i64 (0))) rfl (by kernel_rfl) ?_
  refine w_nil ?_
  refine then_normal ?_
  refine w_seq ?_
  refine w_seq ?_
  refine w_lit ?_
  refine wl_pure (wants0 rfl) (d := 10) (v := (strV s)) rfl (by kernel_rfl) ?_
  refine wl_pure (wants0 rfl) (d := 11) (v := (.int .i64 (d))) rfl (by kernel_rfl) ?_
  refine wl_do (wants0 rfl) (fun K1 hK1 => ?_)
  refine d_call (d := 12) rfl (by kernel_rfl) (rMay_any w s d hs) ?_
  rintro _ w2 ⟨rfl, u4⟩
  have H3 := H.keepU u4
  refine ⟨_, rfl, ?_⟩
  refine hK1 _ _ ?_
  clear hK1 K1
  refine wl_pure (wants0 rfl) (d := 13) (v := (.bool (!(mayB s d)))) rfl (by kernel_rfl) ?_
  refine w_nil ?_
  refine then_normal ?_
  refine (bsplit (!(mayB s d))).elim (fun b5 => ?_) (fun b5 => ?_)
  · have g6 := bnot_true b5
    refine wp_know 13 (.bool true) (congrArg Value.bool b5) ?_
    have g7 := bnot_true b5
    refine wp_ift rfl ?_
    refine w_seq ?_
    refine w_lit ?_
    refine wl_pure (wants0 rfl) (d := 6) (v := (.int .i64 (1))) rfl (by kernel_rfl) ?_
    refine w_nil ?_
    refine then_normal ?_
    refine w_ret ?_
    refine then_ret ?_
    refine end1 rfl (res_tmp (v := (.int .i64 (1))) rfl) ?_
    have hE : resE L s d = 1 := by
      have q0 := b5
      simp only [Bool.not_eq_true'] at q0
      unfold resE
      repeat' split
      all_goals first | rfl | omega | simp_all
    exact ⟨a, c, L, by rw [hE], H3, hS, by unfold resL; rw [hE]; exact List.Perm.refl _⟩
  · have g8 := bnot_false b5
    refine wp_know 13 (.bool false) (congrArg Value.bool b5) ?_
    have g9 := bnot_false b5
    refine wp_iff rfl ?_
    refine w_skip ?_
    refine then_normal ?_
    refine w_seq ?_
    refine w_seq ?_
    refine w_lit ?_
    refine wl_pure (wants0 rfl) (d := 15) (v := (.pointer (some ⟨r, 0, none⟩))) rfl (by kernel_rfl) ?_
    refine wl_pure (wants0 rfl) (d := 16) (v := (strV s)) rfl (by kernel_rfl) ?_
    refine wl_do (wants0 rfl) (fun K10 hK10 => ?_)
    refine d_call (d := 17) rfl (by kernel_rfl) (rOwner_any w2 r a c L (H3.fin [0, 1] (by decide) rfl) hl s) ?_
    rintro _ w11 ⟨rfl, T12⟩
    have H13 : Sat w [cellC r 46 ([(.slice a L.length c)] : List Value), rowC 61 2 (.slice a L.length c) L.length (L.flatMap encO), restC w (rrC r a c L).fp] w11 := (Sat.turnL (L' := [cellC r 46 ([(.slice a L.length c)] : List Value), rowC 61 2 (.slice a L.length c) L.length (L.flatMap encO)]) (R := [restC w (rrC r a c L).fp]) H3 [0, 1] [2] (by decide) (by kernel_rfl) rfl T12).pick [0, 1, 2] (by decide)
    refine ⟨_, rfl, ?_⟩
    refine hK10 _ _ ?_
    clear hK10 K10
    refine wl_pure (wants0 rfl) (d := 14) (v := (.tuple #[(.int .i64 ((lookM L s).getD 0)), (.bool ((lookM L s).isSome))])) rfl (by kernel_rfl) ?_
    refine wl_pure (wants0 rfl) (d := 18) (v := (.int .i64 ((lookM L s).getD 0))) rfl (by kernel_rfl) ?_
    refine wl_pure (wants0 rfl) (d := 19) (v := (.bool ((lookM L s).isSome))) rfl (by kernel_rfl) ?_
    refine wl_pure (wants0 rfl) (d := 7) (v := (.int .i64 ((lookM L s).getD 0))) rfl (by kernel_rfl) ?_
    refine wl_pure (wants0 rfl) (d := 8) (v := (.bool ((lookM L s).isSome))) rfl (by kernel_rfl) ?_
    refine w_nil ?_
    refine then_normal ?_
    refine w_seq ?_
    refine w_lit ?_
    refine wl_pure (wants0 rfl) (d := 20) (v := (.bool ((lookM L s).isSome))) rfl (by kernel_rfl) ?_
    refine w_nil ?_
    refine then_normal ?_
    refine (bsplit ((lookM L s).isSome)).elim (fun b14 => ?_) (fun b14 => ?_)
    · refine wp_know 20 (.bool true) (congrArg Value.bool b14) ?_
      refine wp_ift rfl ?_
      refine w_seq ?_
      refine w_lit ?_
      refine wl_pure (wants0 rfl) (d := 6) (v := (.int .i64 (5))) rfl (by kernel_rfl) ?_
      refine w_nil ?_
      refine then_normal ?_
      refine w_ret ?_
      refine then_ret ?_
      refine end1 rfl (res_tmp (v := (.int .i64 (5))) rfl) ?_
      have hE : resE L s d = 5 := by
        have q0 := b5
        have q1 := b14
        simp only [Bool.not_eq_false'] at q0 q1
        unfold resE
        repeat' split
        all_goals first | rfl | omega | simp_all
      exact ⟨a, c, L, by rw [hE], H13, hS, by unfold resL; rw [hE]; exact List.Perm.refl _⟩
    · refine wp_know 20 (.bool false) (congrArg Value.bool b14) ?_
      refine wp_iff rfl ?_
      refine w_skip ?_
      refine then_normal ?_
      refine w_seq ?_
      refine w_seq ?_
      refine w_lit ?_
      refine wl_pure (wants0 rfl) (d := 21) (v := (.pointer (some ⟨r, 0, none⟩))) rfl (by kernel_rfl) ?_
      refine wl_pure (wants0 rfl) (d := 22) (v := (.pointer (some ⟨r, 0, none⟩))) rfl (by kernel_rfl) ?_
      refine wl_pure (wants0 rfl) (d := 23) (v := (.pointer (some ⟨r, 0, none⟩))) rfl (by kernel_rfl) ?_
      refine wl_pure (wants0 rfl) (d := 24) (v := (.slice a L.length c)) rfl (e_load1 rfl (by kernel_rfl) (H13.cell 0 rfl rfl)) ?_
      refine wl_pure (wants0 rfl) (d := 25) (v := (.int .i64 ((L.length : Int)))) rfl (by kernel_rfl) ?_
      refine wl_pure (wants0 rfl) (d := 26) (v := (.bool (decide ((L.length : Int) ≥ 64)))) rfl (by kernel_rfl) ?_
      refine w_nil ?_
      refine then_normal ?_
      refine (bsplit (decide ((L.length : Int) ≥ 64))).elim (fun b15 => ?_) (fun b15 => ?_)
      · have g16 := of_decide_eq_true b15
        refine wp_know 26 (.bool true) (congrArg Value.bool b15) ?_
        have g17 := of_decide_eq_true b15
        refine wp_ift rfl ?_
        refine w_seq ?_
        refine w_lit ?_
        refine wl_pure (wants0 rfl) (d := 6) (v := (.int .i64 (7))) rfl (by kernel_rfl) ?_
        refine w_nil ?_
        refine then_normal ?_
        refine w_ret ?_
        refine then_ret ?_
        refine end1 rfl (res_tmp (v := (.int .i64 (7))) rfl) ?_
        have hE : resE L s d = 7 := by
          have q0 := b5
          have q1 := b14
          have q2 := b15
          simp only [Bool.not_eq_false', decide_eq_true_eq, ge_iff_le] at q0 q1 q2
          unfold resE
          repeat' split
          all_goals first | rfl | omega | simp_all
        exact ⟨a, c, L, by rw [hE], H13, hS, by unfold resL; rw [hE]; exact List.Perm.refl _⟩
      · have g18 := of_decide_eq_false b15
        refine wp_know 26 (.bool false) (congrArg Value.bool b15) ?_
        have g19 := of_decide_eq_false b15
        refine wp_iff rfl ?_
        refine w_skip ?_
        refine then_normal ?_
        refine w_seq ?_
        refine w_lit ?_
        refine wl_pure (wants0 rfl) (d := 27) (v := (.pointer (some ⟨r, 0, none⟩))) rfl (by kernel_rfl) ?_
        refine wl_pure (wants0 rfl) (d := 28) (v := (.pointer (some ⟨r, 0, none⟩))) rfl (by kernel_rfl) ?_
        refine wl_pure (wants0 rfl) (d := 29) (v := (.pointer (some ⟨r, 0, none⟩))) rfl (by kernel_rfl) ?_
        refine wl_pure (wants0 rfl) (d := 30) (v := (.slice a L.length c)) rfl (e_load1 rfl (by kernel_rfl) (H13.cell 0 rfl rfl)) ?_
        refine wl_pure (wants0 rfl) (d := 31) (v := (.int .i64 ((L.length : Int)))) rfl (by kernel_rfl) ?_
        refine wl_pure (wants0 rfl) (d := 9) (v := (.int .i64 ((L.length : Int)))) rfl (by kernel_rfl) ?_
        refine w_nil ?_
        refine then_normal ?_
        refine w_seq ?_
        refine w_block ?_
        refine wp_round [9, 32, 33, 34, 35, 36, 37, 38, 39, 40, 41, 42, 43, 44, 45, 46, 47, 48] (fun F_ W_ m_ => ∃ (k : Nat), F_ 9 = (.int .i64 ((k : Int))) ∧ (k ≤ L.length) ∧ (∀ j x, k ≤ j → L[j]? = some x → s < x.1) ∧ Sat w [cellC r 46 ([(.slice a L.length c)] : List Value), rowC 61 2 (.slice a L.length c) L.length (L.flatMap encO), restC w (rrC r a c L).fp] W_ ∧ m_ = k + 1) _ ⟨L.length, (show ((.int .i64 ((L.length : Int))) : Value) = _ by first | rfl | go_num), by omega, (fun j x hj hx => by rw [List.getElem?_eq_none hj] at hx; cases hx), H13, rfl⟩ ?_
        rintro g20 w21 _ ⟨k, v23, hk, hgt, H22, rfl⟩
        refine wp_know 9 _ v23 ?_
        refine w_seq ?_
        refine w_seq ?_
        refine w_lit ?_
        refine wl_pure (wants0 rfl) (d := 32) (v := (.int .i64 ((k : Int)))) rfl (by kernel_rfl) ?_
        refine wl_pure (wants0 rfl) (d := 33) (v := (.bool (decide ((k : Int) > 0)))) rfl (by kernel_rfl) ?_
        refine wl_pure (wants0 rfl) (d := 34) (v := (.bool (decide ((k : Int) > 0)))) rfl (by kernel_rfl) ?_
        refine (bsplit (decide ((k : Int) > 0))).elim (fun b25 => ?_) (fun b25 => ?_)
        · have g26 := of_decide_eq_true b25
          refine wl_know 34 (.bool true) (congrArg Value.bool b25) ?_
          have g27 := of_decide_eq_true b25
          refine wl_pure (wantsY 2 34 true rfl (by kernel_rfl) rfl (by kernel_rfl)) (d := 35) (v := (.pointer (some ⟨r, 0, none⟩))) rfl (by kernel_rfl) ?_
          refine wl_pure (wantsY 2 34 true rfl (by kernel_rfl) rfl (by kernel_rfl)) (d := 36) (v := (.pointer (some ⟨r, 0, none⟩))) rfl (by kernel_rfl) ?_
          refine wl_pure (wantsY 2 34 true rfl (by kernel_rfl) rfl (by kernel_rfl)) (d := 37) (v := (.pointer (some ⟨r, 0, none⟩))) rfl (by kernel_rfl) ?_
          refine wl_pure (wantsY 2 34 true rfl (by kernel_rfl) rfl (by kernel_rfl)) (d := 38) (v := (.slice a L.length c)) rfl (e_load1 rfl (by kernel_rfl) (H22.cell 0 rfl rfl)) ?_
          refine wl_pure (wantsY 2 34 true rfl (by kernel_rfl) rfl (by kernel_rfl)) (d := 39) (v := (.int .i64 ((k : Int)))) rfl (by kernel_rfl) ?_
          refine wl_pure (wantsY 2 34 true rfl (by kernel_rfl) rfl (by kernel_rfl)) (d := 40) (v := (.int .i64 ((k : Int) - 1))) rfl (e_int (z := (k : Int) - 1) (by kernel_rfl) (IntWalk.i64_in _ (by omega))) ?_
          obtain ⟨g28, c29, e30⟩ := row_shape (H22.at 1 rfl) (by omega)
          obtain ⟨x31, h32⟩ := get_at (show ((k : Int) - 1).toNat < L.length by omega)
          refine wl_pure (wantsY 2 34 true rfl (by kernel_rfl) rfl (by kernel_rfl)) (d := 41) (v := (.pointer (some ⟨g28, 0 + ((k : Int) - 1).toNat * 2, none⟩))) rfl (e_indexAddrV (E := 61) (by kernel_rfl) (by kernel_rfl) (Nat.le_of_ble_eq_true rfl) rfl e30 rfl (by omega) (by omega)) ?_
          refine wl_pure (wantsY 2 34 true rfl (by kernel_rfl) rfl (by kernel_rfl)) (d := 42) (v := (.pointer (some ⟨g28, 0 + ((k : Int) - 1).toNat * 2, none⟩))) rfl (by kernel_rfl) ?_
          refine wl_pure (wantsY 2 34 true rfl (by kernel_rfl) rfl (by kernel_rfl)) (d := 43) (v := (strV x31.1)) rfl (e_load1 rfl (by kernel_rfl) (rows_cell (H22.at 1 rfl) e30 encO_len h32 0 rfl (show 0 + ((k : Int) - 1).toNat * 2 = ((k : Int) - 1).toNat * 2 + 0 by omega) (by kernel_rfl))) ?_
          refine wl_pure (wantsY 2 34 true rfl (by kernel_rfl) rfl (by kernel_rfl)) (d := 44) (v := (strV s)) rfl (by kernel_rfl) ?_
          refine wl_pure (wantsY 2 34 true rfl (by kernel_rfl) rfl (by kernel_rfl)) (d := 45) (v := (.bool (decide (s < x31.1)))) rfl (e_gtStr x31.1 s rfl rfl) ?_
          refine wl_pure (wants0 rfl) (d := 46) (v := (.bool (decide (s < x31.1)))) rfl (by kernel_rfl) ?_
          refine w_nil ?_
          refine then_normal ?_
          refine (bsplit (decide (s < x31.1))).elim (fun b33 => ?_) (fun b33 => ?_)
          · have g34 := of_decide_eq_true b33
            refine wp_know 46 (.bool true) (congrArg Value.bool b33) ?_
            have g35 := of_decide_eq_true b33
            refine wp_ift rfl ?_
            refine w_skip ?_
            refine then_normal ?_
            refine w_block ?_
            refine w_lit ?_
            refine wl_pure (wants0 rfl) (d := 47) (v := (.int .i64 ((k : Int)))) rfl (by kernel_rfl) ?_
            refine wl_pure (wants0 rfl) (d := 48) (v := (.int .i64 ((k : Int) - 1))) rfl (e_int (z := (k : Int) - 1) (by kernel_rfl) (IntWalk.i64_in _ (by omega))) ?_
            refine wl_pure (wants0 rfl) (d := 9) (v := (.int .i64 ((k : Int) - 1))) rfl (by kernel_rfl) ?_
            refine w_nil ?_
            refine blk_normal ?_
            refine round_back ?_ _ ⟨(k - 1), (show ((.int .i64 ((k : Int) - 1)) : Value) = _ by exact (show (Value.int .i64 ((k : Int) - 1)) = Value.int .i64 ((k - 1 : Nat) : Int) by congr 1; omega)), by omega, (gt_step h32 (of_decide_eq_true b33) (by omega) hgt), H22, rfl⟩ (by omega)
            exact (same_upd rfl (same_upd rfl (same_upd rfl (same_upd rfl (same_upd rfl (same_upd rfl (same_upd rfl (same_upd rfl (same_upd rfl (same_upd rfl (same_upd rfl (same_upd rfl (same_upd rfl (same_upd rfl (same_upd rfl (same_upd rfl (same_upd rfl (same_upd rfl (same_upd rfl (same_upd rfl (same_upd rfl (same_ovr))))))))))))))))))))))
          · have g36 := of_decide_eq_false b33
            refine wp_know 46 (.bool false) (congrArg Value.bool b33) ?_
            have g37 := of_decide_eq_false b33
            refine wp_iff rfl ?_
            refine w_exit ?_
            refine then_exit ?_
            refine back_exit ?_
            refine blk_hit ?_
            refine then_normal ?_
            refine w_seq ?_
            have hnone : (lookM L s).isSome = false := b14
            have hsrt : SrtK (insL L k s d) := insL_srt hS hnone hk hgt (Or.inr ⟨_, by rw [show k - 1 = ((k : Int) - 1).toNat by omega]; exact h32, of_decide_eq_false b33⟩)
            have hcap : L.length ≤ c := ListAt.cap (ListAt.row (enc := encO) (sz := 2) encO_len (by decide) (H22.at 1 rfl))
            refine k_start H22 [cellC r 46 ([(.slice a L.length c)] : List Value), rowC 61 2 (.slice a L.length c) L.length (L.flatMap encO), restC w (rrC r a c L).fp] [22] 23 rfl (by kernel_rfl) (fun Hx => (Hx.pick [0, 1, 2] (by decide))) ?_
            intro w38 H39 S40
            refine k_pure 0 rfl (by kernel_rfl) (by kernel_rfl) (by kernel_rfl) (fun _ _ _ h => h) S40 (wants0 rfl) rfl (d := 49) (v := (.pointer (some ⟨r, 0, none⟩))) rfl (fun _ => (by kernel_rfl)) ?_
            refine k_pure 1 rfl (by kernel_rfl) (by kernel_rfl) (by kernel_rfl) (fun _ _ _ h => h) S40 (wants0 rfl) rfl (d := 50) (v := (.pointer (some ⟨r, 0, none⟩))) rfl (fun _ => (by kernel_rfl)) ?_
            refine k_pure 2 rfl (by kernel_rfl) (by kernel_rfl) (by kernel_rfl) (fun _ _ _ h => h) S40 (wants0 rfl) rfl (d := 51) (v := (.pointer (some ⟨r, 0, none⟩))) rfl (fun _ => (by kernel_rfl)) ?_
            refine k_pure 3 rfl (by kernel_rfl) (by kernel_rfl) (by kernel_rfl) (fun _ _ _ h => h) S40 (wants0 rfl) rfl (d := 52) (v := (.pointer (some ⟨r, 0, none⟩))) rfl (fun _ => (by kernel_rfl)) ?_
            refine k_val 4 rfl (by kernel_rfl) (by kernel_rfl) (by kernel_rfl) (fun _ _ _ h => h) S40 (wants0 rfl) rfl (by kernel_rfl) (d := 53) (v := (.slice a L.length c)) rfl (fun _ H' => (e_load1 rfl (by kernel_rfl) (H'.cell 0 rfl rfl))) ?_
            refine k_pure 5 rfl (by kernel_rfl) (by kernel_rfl) (by kernel_rfl) (fun _ _ _ h => h) S40 (wants0 rfl) rfl (d := 54) (v := (.int .i64 ((k : Int)))) rfl (fun _ => (by kernel_rfl)) ?_
            refine k_pure 6 rfl (by kernel_rfl) (by kernel_rfl) (by kernel_rfl) (fun _ _ _ h => h) S40 (wants0 rfl) rfl (d := 55) (v := (.int .i64 ((k : Int)))) rfl (fun _ => (by kernel_rfl)) ?_
            refine k_pure 7 rfl (by kernel_rfl) (by kernel_rfl) (by kernel_rfl) (fun _ _ _ h => h) S40 (wants0 rfl) rfl (d := 56) (v := (.slice a k k)) rfl (fun _ => (e_slice3 (E := 61) (q := k) (by kernel_rfl) (by kernel_rfl) rfl rfl rfl rfl rfl (by omega))) ?_
            refine k_pure 8 rfl (by kernel_rfl) (by kernel_rfl) (by kernel_rfl) (fun _ _ _ h => h) S40 (wants0 rfl) rfl (d := 57) (v := (strV s)) rfl (fun _ => (by kernel_rfl)) ?_
            refine k_pure 9 rfl (by kernel_rfl) (by kernel_rfl) (by kernel_rfl) (fun _ _ _ h => h) S40 (wants0 rfl) rfl (d := 58) (v := (.int .i64 (d))) rfl (fun _ => (by kernel_rfl)) ?_
            refine k_pure 10 rfl (by kernel_rfl) (by kernel_rfl) (by kernel_rfl) (fun _ _ _ h => h) S40 (wants0 rfl) rfl (d := 59) (v := (.agg ⟨([(strV s), (.int .i64 (d))] : List Value)⟩)) rfl (fun _ => (by kernel_rfl)) ?_
            refine k_pure 12 rfl (by kernel_rfl) (by kernel_rfl) (by kernel_rfl) (fun _ _ _ h => h) S40 (wants0 rfl) rfl (d := 61) (v := (.pointer (some ⟨r, 0, none⟩))) rfl (fun _ => (by kernel_rfl)) ?_
            refine k_pure 13 rfl (by kernel_rfl) (by kernel_rfl) (by kernel_rfl) (fun _ _ _ h => h) S40 (wants0 rfl) rfl (d := 62) (v := (.pointer (some ⟨r, 0, none⟩))) rfl (fun _ => (by kernel_rfl)) ?_
            refine k_pure 14 rfl (by kernel_rfl) (by kernel_rfl) (by kernel_rfl) (fun _ _ _ h => h) S40 (wants0 rfl) rfl (d := 63) (v := (.pointer (some ⟨r, 0, none⟩))) rfl (fun _ => (by kernel_rfl)) ?_
            refine k_val 15 rfl (by kernel_rfl) (by kernel_rfl) (by kernel_rfl) (fun _ _ _ h => h) S40 (wants0 rfl) rfl (by kernel_rfl) (d := 64) (v := (.slice a L.length c)) rfl (fun _ H' => (e_load1 rfl (by kernel_rfl) (H'.cell 0 rfl rfl))) ?_
            refine k_pure 16 rfl (by kernel_rfl) (by kernel_rfl) (by kernel_rfl) (fun _ _ _ h => h) S40 (wants0 rfl) rfl (d := 65) (v := (.int .i64 ((k : Int)))) rfl (fun _ => (by kernel_rfl)) ?_
            refine k_pure 17 rfl (by kernel_rfl) (by kernel_rfl) (by kernel_rfl) (fun _ _ _ h => h) S40 (wants0 rfl) rfl (d := 66) (v := (.slice (if c = k then a else a.map (·.add (k * 2))) (L.length - k) (c - k))) rfl (fun _ => (e_sliceLoG (E := 61) (q := k) (by kernel_rfl) (by kernel_rfl) rfl rfl rfl (by omega))) ?_
            refine k_do 11 rfl (by kernel_rfl) (wants0 rfl) rfl (fun K41 hK41 => ?_)
            refine d_buildSlice (e := 61) (size := 2) (bytes := 24) (z := (.agg ⟨([(strV ([] : List UInt8)), (.int .i64 (0))] : List Value)⟩)) (pvs := [(0, (.agg ⟨([(strV s), (.int .i64 (d))] : List Value)⟩))]) (vs := ([(strV s), (.int .i64 (d))] : List Value)) rfl H39 (by kernel_rfl) (by kernel_rfl) (by kernel_rfl) (by kernel_rfl) (by kernel_rfl) rfl rfl ?_
            intro b42 w43 (H44 : Sat w [cellC r 46 ([(.slice a L.length c)] : List Value), rowC 61 2 (.slice a L.length c) L.length (L.flatMap encO), restC w (rrC r a c L).fp, rowC 61 2 (.slice (some ⟨b42, 0, none⟩) 1 1) 1 ([(strV s), (.int .i64 (d))] : List Value)] w43)
            have S45 := H44.pick [0, 1, 2] (by decide)
            refine hK41 _ _ S45 ?_
            clear hK41 K41
            refine k_do 18 rfl (by kernel_rfl) (wants0 rfl) rfl (fun K46 hK46 => ?_)
            refine d_appendL (T := 44) (e := 61) (size := 2) (bytes := 24) rfl H44 (by kernel_rfl) encO_len encO_one 3 rfl (ListAt.dropG (ListAt.row (enc := encO) (sz := 2) encO_len (by decide) (H44.at 1 rfl)) (by omega)) rfl rfl (by simp only [List.length_drop]; omega) (by simp only [List.length_drop]; omega) ?_
            intro v47 w48 (H50 : Sat w [cellC r 46 ([(.slice a L.length c)] : List Value), rowC 61 2 (.slice a L.length c) L.length (L.flatMap encO), restC w (rrC r a c L).fp, rowC 61 2 v47 (([(s, d)]).length + (L.drop k).length) (([(s, d)]).flatMap encO ++ (L.drop k).flatMap encO)] w48)
            have H49 : Sat w [cellC r 46 ([(.slice a L.length c)] : List Value), rowC 61 2 (.slice a L.length c) L.length (L.flatMap encO), restC w (rrC r a c L).fp, rowC 61 2 v47 ((([(s, d)]) ++ (L.drop k)).length) ((([(s, d)]) ++ (L.drop k)).flatMap encO)] w48 := H50.cast (by simp only [List.length_append, List.flatMap_append])
            obtain ⟨a51, c52, rfl⟩ := ownsRow_shape (H49.at 3 rfl)
            have S53 := H49.pick [0, 1, 2] (by decide)
            refine hK46 _ _ S53 ?_
            clear hK46 K46
            refine k_do 19 rfl (by kernel_rfl) (wants0 rfl) rfl (fun K54 hK54 => ?_)
            refine d_appendFull (T := 44) (e := 61) (size := 2) (bytes := 24) rfl H49 (by kernel_rfl) encO_len encO_one (ListAt.take3 (ListAt.row (enc := encO) (sz := 2) encO_len (by decide) (H49.at 1 rfl)) (by omega) (by decide) encO_len) (by rw [List.length_take]; omega) (ListAt.row (enc := encO) (sz := 2) encO_len (by decide) (H49.at 3 rfl)) (by simp only [List.length_append, List.length_cons, List.length_nil, List.length_drop]; omega) rfl rfl (by simp only [List.length_append, List.length_cons, List.length_nil, List.length_drop]; omega) (by simp only [List.length_append, List.length_cons, List.length_nil, List.length_drop]; omega) ?_
            intro v55 w56 (H57 : Sat w [cellC r 46 ([(.slice a L.length c)] : List Value), rowC 61 2 (.slice a L.length c) L.length (L.flatMap encO), restC w (rrC r a c L).fp, rowC 61 2 (.slice a51 ((([(s, d)]) ++ (L.drop k)).length) c52) ((([(s, d)]) ++ (L.drop k)).length) ((([(s, d)]) ++ (L.drop k)).flatMap encO), rowC 61 2 v55 (((L.take k) ++ (([(s, d)]) ++ (L.drop k))).length) (((L.take k) ++ (([(s, d)]) ++ (L.drop k))).flatMap encO)] w56)
            obtain ⟨a58, c59, rfl⟩ := ownsRow_shape (H57.at 4 rfl)
            have S60 := H57.pick [0, 1, 2] (by decide)
            refine hK54 _ _ S60 ?_
            clear hK54 K54
            refine k_pure 20 rfl (by kernel_rfl) (by kernel_rfl) (by kernel_rfl) (fun _ _ _ h => h) S60 (wants0 rfl) rfl (d := 69) (v := (.pointer (some ⟨r, 0, none⟩))) rfl (fun _ => (by kernel_rfl)) ?_
            refine k_pure 21 rfl (by kernel_rfl) (by kernel_rfl) (by kernel_rfl) (fun _ _ _ h => h) S60 (wants0 rfl) rfl (d := 70) (v := (.pointer (some ⟨r, 0, none⟩))) rfl (fun _ => (by kernel_rfl)) ?_
            refine k_brk 22 (Sat w [rowC 61 2 (.slice a L.length c) L.length (L.flatMap encO), restC w (rrC r a c L).fp]) rfl (by kernel_rfl) (wants0 rfl) rfl (fun K61 hK61 => ?_)
            refine d_store (vs := ([(.slice a58 (((L.take k) ++ (([(s, d)]) ++ (L.drop k))).length) c59)] : List Value)) rfl H57 0 rfl rfl rfl rfl (by kernel_rfl) (Nat.le_of_ble_eq_true (by kernel_rfl)) (Nat.le_of_ble_eq_true (by kernel_rfl)) (by kernel_rfl) ?_
            intro w62 (H63 : Sat w [cellC r 46 ([(.slice a58 (((L.take k) ++ (([(s, d)]) ++ (L.drop k))).length) c59)] : List Value), rowC 61 2 (.slice a L.length c) L.length (L.flatMap encO), restC w (rrC r a c L).fp, rowC 61 2 (.slice a51 ((([(s, d)]) ++ (L.drop k)).length) c52) ((([(s, d)]) ++ (L.drop k)).length) ((([(s, d)]) ++ (L.drop k)).flatMap encO), rowC 61 2 (.slice a58 (((L.take k) ++ (([(s, d)]) ++ (L.drop k))).length) c59) (((L.take k) ++ (([(s, d)]) ++ (L.drop k))).length) (((L.take k) ++ (([(s, d)]) ++ (L.drop k))).flatMap encO)] w62)
            have S65 := H63.pick [1, 2] (by decide)
            refine hK61 _ _ S65 ?_
            clear hK61 K61
            refine h_fin (by kernel_rfl) ?_
            refine then_normal ?_
            refine w_seq ?_
            refine w_lit ?_
            refine wl_pure (wants0 rfl) (d := 6) (v := (.int .i64 (0))) rfl (by kernel_rfl) ?_
            refine w_nil ?_
            refine then_normal ?_
            refine w_ret ?_
            refine end1 rfl (res_tmp (v := (.int .i64 (0))) rfl) ?_
            have hE : resE L s d = 0 := by
              have q0 := b5
              have q1 := b14
              have q2 := b15
              simp only [Bool.not_eq_false', decide_eq_false_iff_not, ge_iff_le] at q0 q1 q2
              unfold resE
              repeat' split
              all_goals first | rfl | omega | simp_all
            exact ⟨a58, c59, insL L k s d, by rw [hE], H63.pick [0, 4, 2] (by decide), hsrt, by unfold resL; rw [if_pos hE]; exact insL_perm hnone k⟩
        · have g66 := of_decide_eq_false b25
          refine wl_know 34 (.bool false) (congrArg Value.bool b25) ?_
          have g67 := of_decide_eq_false b25
          refine wl_pass (wantsN 2 34 true rfl (by kernel_rfl) rfl (by kernel_rfl)) rfl ?_
          refine wl_pass (wantsN 2 34 true rfl (by kernel_rfl) rfl (by kernel_rfl)) rfl ?_
          refine wl_pass (wantsN 2 34 true rfl (by kernel_rfl) rfl (by kernel_rfl)) rfl ?_
          refine wl_pass (wantsN 2 34 true rfl (by kernel_rfl) rfl (by kernel_rfl)) rfl ?_
          refine wl_pass (wantsN 2 34 true rfl (by kernel_rfl) rfl (by kernel_rfl)) rfl ?_
          refine wl_pass (wantsN 2 34 true rfl (by kernel_rfl) rfl (by kernel_rfl)) rfl ?_
          refine wl_pass (wantsN 2 34 true rfl (by kernel_rfl) rfl (by kernel_rfl)) rfl ?_
          refine wl_pass (wantsN 2 34 true rfl (by kernel_rfl) rfl (by kernel_rfl)) rfl ?_
          refine wl_pass (wantsN 2 34 true rfl (by kernel_rfl) rfl (by kernel_rfl)) rfl ?_
          refine wl_pass (wantsN 2 34 true rfl (by kernel_rfl) rfl (by kernel_rfl)) rfl ?_
          refine wl_pass (wantsN 2 34 true rfl (by kernel_rfl) rfl (by kernel_rfl)) rfl ?_
          refine wl_pure (wants0 rfl) (d := 46) (v := (.bool false)) rfl (by kernel_rfl) ?_
          refine w_nil ?_
          refine then_normal ?_
          refine wp_iff rfl ?_
          refine w_exit ?_
          refine then_exit ?_
          refine back_exit ?_
          refine blk_hit ?_
          refine then_normal ?_
          refine w_seq ?_
          have hnone : (lookM L s).isSome = false := b14
          have hsrt : SrtK (insL L k s d) := insL_srt hS hnone hk hgt (Or.inl (by omega))
          have hcap : L.length ≤ c := ListAt.cap (ListAt.row (enc := encO) (sz := 2) encO_len (by decide) (H22.at 1 rfl))
          refine k_start H22 [cellC r 46 ([(.slice a L.length c)] : List Value), rowC 61 2 (.slice a L.length c) L.length (L.flatMap encO), restC w (rrC r a c L).fp] [22] 23 rfl (by kernel_rfl) (fun Hx => (Hx.pick [0, 1, 2] (by decide))) ?_
          intro w68 H69 S70
          refine k_pure 0 rfl (by kernel_rfl) (by kernel_rfl) (by kernel_rfl) (fun _ _ _ h => h) S70 (wants0 rfl) rfl (d := 49) (v := (.pointer (some ⟨r, 0, none⟩))) rfl (fun _ => (by kernel_rfl)) ?_
          refine k_pure 1 rfl (by kernel_rfl) (by kernel_rfl) (by kernel_rfl) (fun _ _ _ h => h) S70 (wants0 rfl) rfl (d := 50) (v := (.pointer (some ⟨r, 0, none⟩))) rfl (fun _ => (by kernel_rfl)) ?_
          refine k_pure 2 rfl (by kernel_rfl) (by kernel_rfl) (by kernel_rfl) (fun _ _ _ h => h) S70 (wants0 rfl) rfl (d := 51) (v := (.pointer (some ⟨r, 0, none⟩))) rfl (fun _ => (by kernel_rfl)) ?_
          refine k_pure 3 rfl (by kernel_rfl) (by kernel_rfl) (by kernel_rfl) (fun _ _ _ h => h) S70 (wants0 rfl) rfl (d := 52) (v := (.pointer (some ⟨r, 0, none⟩))) rfl (fun _ => (by kernel_rfl)) ?_
          refine k_val 4 rfl (by kernel_rfl) (by kernel_rfl) (by kernel_rfl) (fun _ _ _ h => h) S70 (wants0 rfl) rfl (by kernel_rfl) (d := 53) (v := (.slice a L.length c)) rfl (fun _ H' => (e_load1 rfl (by kernel_rfl) (H'.cell 0 rfl rfl))) ?_
          refine k_pure 5 rfl (by kernel_rfl) (by kernel_rfl) (by kernel_rfl) (fun _ _ _ h => h) S70 (wants0 rfl) rfl (d := 54) (v := (.int .i64 ((k : Int)))) rfl (fun _ => (by kernel_rfl)) ?_
          refine k_pure 6 rfl (by kernel_rfl) (by kernel_rfl) (by kernel_rfl) (fun _ _ _ h => h) S70 (wants0 rfl) rfl (d := 55) (v := (.int .i64 ((k : Int)))) rfl (fun _ => (by kernel_rfl)) ?_
          refine k_pure 7 rfl (by kernel_rfl) (by kernel_rfl) (by kernel_rfl) (fun _ _ _ h => h) S70 (wants0 rfl) rfl (d := 56) (v := (.slice a k k)) rfl (fun _ => (e_slice3 (E := 61) (q := k) (by kernel_rfl) (by kernel_rfl) rfl rfl rfl rfl rfl (by omega))) ?_
          refine k_pure 8 rfl (by kernel_rfl) (by kernel_rfl) (by kernel_rfl) (fun _ _ _ h => h) S70 (wants0 rfl) rfl (d := 57) (v := (strV s)) rfl (fun _ => (by kernel_rfl)) ?_
          refine k_pure 9 rfl (by kernel_rfl) (by kernel_rfl) (by kernel_rfl) (fun _ _ _ h => h) S70 (wants0 rfl) rfl (d := 58) (v := (.int .i64 (d))) rfl (fun _ => (by kernel_rfl)) ?_
          refine k_pure 10 rfl (by kernel_rfl) (by kernel_rfl) (by kernel_rfl) (fun _ _ _ h => h) S70 (wants0 rfl) rfl (d := 59) (v := (.agg ⟨([(strV s), (.int .i64 (d))] : List Value)⟩)) rfl (fun _ => (by kernel_rfl)) ?_
          refine k_pure 12 rfl (by kernel_rfl) (by kernel_rfl) (by kernel_rfl) (fun _ _ _ h => h) S70 (wants0 rfl) rfl (d := 61) (v := (.pointer (some ⟨r, 0, none⟩))) rfl (fun _ => (by kernel_rfl)) ?_
          refine k_pure 13 rfl (by kernel_rfl) (by kernel_rfl) (by kernel_rfl) (fun _ _ _ h => h) S70 (wants0 rfl) rfl (d := 62) (v := (.pointer (some ⟨r, 0, none⟩))) rfl (fun _ => (by kernel_rfl)) ?_
          refine k_pure 14 rfl (by kernel_rfl) (by kernel_rfl) (by kernel_rfl) (fun _ _ _ h => h) S70 (wants0 rfl) rfl (d := 63) (v := (.pointer (some ⟨r, 0, none⟩))) rfl (fun _ => (by kernel_rfl)) ?_
          refine k_val 15 rfl (by kernel_rfl) (by kernel_rfl) (by kernel_rfl) (fun _ _ _ h => h) S70 (wants0 rfl) rfl (by kernel_rfl) (d := 64) (v := (.slice a L.length c)) rfl (fun _ H' => (e_load1 rfl (by kernel_rfl) (H'.cell 0 rfl rfl))) ?_
          refine k_pure 16 rfl (by kernel_rfl) (by kernel_rfl) (by kernel_rfl) (fun _ _ _ h => h) S70 (wants0 rfl) rfl (d := 65) (v := (.int .i64 ((k : Int)))) rfl (fun _ => (by kernel_rfl)) ?_
          refine k_pure 17 rfl (by kernel_rfl) (by kernel_rfl) (by kernel_rfl) (fun _ _ _ h => h) S70 (wants0 rfl) rfl (d := 66) (v := (.slice (if c = k then a else a.map (·.add (k * 2))) (L.length - k) (c - k))) rfl (fun _ => (e_sliceLoG (E := 61) (q := k) (by kernel_rfl) (by kernel_rfl) rfl rfl rfl (by omega))) ?_
          refine k_do 11 rfl (by kernel_rfl) (wants0 rfl) rfl (fun K71 hK71 => ?_)
          refine d_buildSlice (e := 61) (size := 2) (bytes := 24) (z := (.agg ⟨([(strV ([] : List UInt8)), (.int .i64 (0))] : List Value)⟩)) (pvs := [(0, (.agg ⟨([(strV s), (.int .i64 (d))] : List Value)⟩))]) (vs := ([(strV s), (.int .i64 (d))] : List Value)) rfl H69 (by kernel_rfl) (by kernel_rfl) (by kernel_rfl) (by kernel_rfl) (by kernel_rfl) rfl rfl ?_
          intro b72 w73 (H74 : Sat w [cellC r 46 ([(.slice a L.length c)] : List Value), rowC 61 2 (.slice a L.length c) L.length (L.flatMap encO), restC w (rrC r a c L).fp, rowC 61 2 (.slice (some ⟨b72, 0, none⟩) 1 1) 1 ([(strV s), (.int .i64 (d))] : List Value)] w73)
          have S75 := H74.pick [0, 1, 2] (by decide)
          refine hK71 _ _ S75 ?_
          clear hK71 K71
          refine k_do 18 rfl (by kernel_rfl) (wants0 rfl) rfl (fun K76 hK76 => ?_)
          refine d_appendL (T := 44) (e := 61) (size := 2) (bytes := 24) rfl H74 (by kernel_rfl) encO_len encO_one 3 rfl (ListAt.dropG (ListAt.row (enc := encO) (sz := 2) encO_len (by decide) (H74.at 1 rfl)) (by omega)) rfl rfl (by simp only [List.length_drop]; omega) (by simp only [List.length_drop]; omega) ?_
          intro v77 w78 (H80 : Sat w [cellC r 46 ([(.slice a L.length c)] : List Value), rowC 61 2 (.slice a L.length c) L.length (L.flatMap encO), restC w (rrC r a c L).fp, rowC 61 2 v77 (([(s, d)]).length + (L.drop k).length) (([(s, d)]).flatMap encO ++ (L.drop k).flatMap encO)] w78)
          have H79 : Sat w [cellC r 46 ([(.slice a L.length c)] : List Value), rowC 61 2 (.slice a L.length c) L.length (L.flatMap encO), restC w (rrC r a c L).fp, rowC 61 2 v77 ((([(s, d)]) ++ (L.drop k)).length) ((([(s, d)]) ++ (L.drop k)).flatMap encO)] w78 := H80.cast (by simp only [List.length_append, List.flatMap_append])
          obtain ⟨a81, c82, rfl⟩ := ownsRow_shape (H79.at 3 rfl)
          have S83 := H79.pick [0, 1, 2] (by decide)
          refine hK76 _ _ S83 ?_
          clear hK76 K76
          refine k_do 19 rfl (by kernel_rfl) (wants0 rfl) rfl (fun K84 hK84 => ?_)
          refine d_appendFull (T := 44) (e := 61) (size := 2) (bytes := 24) rfl H79 (by kernel_rfl) encO_len encO_one (ListAt.take3 (ListAt.row (enc := encO) (sz := 2) encO_len (by decide) (H79.at 1 rfl)) (by omega) (by decide) encO_len) (by rw [List.length_take]; omega) (ListAt.row (enc := encO) (sz := 2) encO_len (by decide) (H79.at 3 rfl)) (by simp only [List.length_append, List.length_cons, List.length_nil, List.length_drop]; omega) rfl rfl (by simp only [List.length_append, List.length_cons, List.length_nil, List.length_drop]; omega) (by simp only [List.length_append, List.length_cons, List.length_nil, List.length_drop]; omega) ?_
          intro v85 w86 (H87 : Sat w [cellC r 46 ([(.slice a L.length c)] : List Value), rowC 61 2 (.slice a L.length c) L.length (L.flatMap encO), restC w (rrC r a c L).fp, rowC 61 2 (.slice a81 ((([(s, d)]) ++ (L.drop k)).length) c82) ((([(s, d)]) ++ (L.drop k)).length) ((([(s, d)]) ++ (L.drop k)).flatMap encO), rowC 61 2 v85 (((L.take k) ++ (([(s, d)]) ++ (L.drop k))).length) (((L.take k) ++ (([(s, d)]) ++ (L.drop k))).flatMap encO)] w86)
          obtain ⟨a88, c89, rfl⟩ := ownsRow_shape (H87.at 4 rfl)
          have S90 := H87.pick [0, 1, 2] (by decide)
          refine hK84 _ _ S90 ?_
          clear hK84 K84
          refine k_pure 20 rfl (by kernel_rfl) (by kernel_rfl) (by kernel_rfl) (fun _ _ _ h => h) S90 (wants0 rfl) rfl (d := 69) (v := (.pointer (some ⟨r, 0, none⟩))) rfl (fun _ => (by kernel_rfl)) ?_
          refine k_pure 21 rfl (by kernel_rfl) (by kernel_rfl) (by kernel_rfl) (fun _ _ _ h => h) S90 (wants0 rfl) rfl (d := 70) (v := (.pointer (some ⟨r, 0, none⟩))) rfl (fun _ => (by kernel_rfl)) ?_
          refine k_brk 22 (Sat w [rowC 61 2 (.slice a L.length c) L.length (L.flatMap encO), restC w (rrC r a c L).fp]) rfl (by kernel_rfl) (wants0 rfl) rfl (fun K91 hK91 => ?_)
          refine d_store (vs := ([(.slice a88 (((L.take k) ++ (([(s, d)]) ++ (L.drop k))).length) c89)] : List Value)) rfl H87 0 rfl rfl rfl rfl (by kernel_rfl) (Nat.le_of_ble_eq_true (by kernel_rfl)) (Nat.le_of_ble_eq_true (by kernel_rfl)) (by kernel_rfl) ?_
          intro w92 (H93 : Sat w [cellC r 46 ([(.slice a88 (((L.take k) ++ (([(s, d)]) ++ (L.drop k))).length) c89)] : List Value), rowC 61 2 (.slice a L.length c) L.length (L.flatMap encO), restC w (rrC r a c L).fp, rowC 61 2 (.slice a81 ((([(s, d)]) ++ (L.drop k)).length) c82) ((([(s, d)]) ++ (L.drop k)).length) ((([(s, d)]) ++ (L.drop k)).flatMap encO), rowC 61 2 (.slice a88 (((L.take k) ++ (([(s, d)]) ++ (L.drop k))).length) c89) (((L.take k) ++ (([(s, d)]) ++ (L.drop k))).length) (((L.take k) ++ (([(s, d)]) ++ (L.drop k))).flatMap encO)] w92)
          have S95 := H93.pick [1, 2] (by decide)
          refine hK91 _ _ S95 ?_
          clear hK91 K91
          refine h_fin (by kernel_rfl) ?_
          refine then_normal ?_
          refine w_seq ?_
          refine w_lit ?_
          refine wl_pure (wants0 rfl) (d := 6) (v := (.int .i64 (0))) rfl (by kernel_rfl) ?_
          refine w_nil ?_
          refine then_normal ?_
          refine w_ret ?_
          refine end1 rfl (res_tmp (v := (.int .i64 (0))) rfl) ?_
          have hE : resE L s d = 0 := by
            have q0 := b5
            have q1 := b14
            have q2 := b15
            simp only [Bool.not_eq_false', decide_eq_false_iff_not, ge_iff_le] at q0 q1 q2
            unfold resE
            repeat' split
            all_goals first | rfl | omega | simp_all
          exact ⟨a88, c89, insL L k s d, by rw [hE], H93.pick [0, 4, 2] (by decide), hsrt, by unfold resL; rw [if_pos hE]; exact insL_perm hnone k⟩

end Go.Proofs.Ytjlbabikogdknaa
