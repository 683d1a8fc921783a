/- WHAT IS PROVED: bytes: contracts. Conditions: stated with each. -/
import Derived.Test.YtjcoeokmoibppaaBkDefs
namespace Go.Proofs.Ytjcoeokmoibppaa
open Go.RowKit

set_option maxRecDepth 100000 in
set_option maxHeartbeats 400000 in
theorem spoil_row (w : World) (g n c : Nat) (A : List Int) (hT : (rowY g c c A).ok w) (_hn : n ≤ c) (hc : c ≤ 9223372036854775807) :
    Calls Try.prog 21 #[(.slice (some ⟨g, 0, none⟩) n c)] w fun e w' => ∃ B, e = .returned (.tuple #[]) ∧ Sat w [rowY g c c B, restC w (rowY g c c A).fp] w' := by
  have H : Sat w [rowY g c c A, restC w (rowY g c c A).fp] w := Sat.start1 hT
  refine calls_fr Try.func21 rfl 20 rfl (Nat.le_of_ble_eq_true rfl) ?_
  refine w_seq ?_
  refine w_lit ?_
  refine wl_pure (wants0 rfl) (d := 4) (v := (.slice (some ⟨g, 0, none⟩) n c)) rfl (by kernel_rfl) ?_
  refine wl_pure (wants0 rfl) (d := 5) (v := (.slice (some ⟨g, 0, none⟩) n c)) rfl (by kernel_rfl) ?_
  refine wl_pure (wants0 rfl) (d := 6) (v := (.int .i64 ((c : Int)))) rfl (by kernel_rfl) ?_
  refine wl_pure (wants0 rfl) (d := 7) (v := (.slice (some ⟨g, 0, none⟩) c c)) rfl (e_sliceHi (E := 5) (q := c) (by kernel_rfl) (by kernel_rfl) rfl rfl rfl (by omega)) ?_
  refine wl_pure (wants0 rfl) (d := 2) (v := (.slice (some ⟨g, 0, none⟩) c c)) rfl (by kernel_rfl) ?_
  refine w_nil ?_
  refine then_normal ?_
  refine w_seq ?_
  refine w_lit ?_
  refine wl_pure (wants0 rfl) (d := 8) (v := (.slice (some ⟨g, 0, none⟩) c c)) rfl (by kernel_rfl) ?_
  refine wl_pure (wants0 rfl) (d := 9) (v := (.int .i64 ((c : Int)))) rfl (by kernel_rfl) ?_
  refine wl_pure (wants0 rfl) (d := 10) (v := (.int .i64 (0))) rfl (by kernel_rfl) ?_
  refine w_nil ?_
  refine then_normal ?_
  refine w_block ?_
  refine wp_round [3, 10, 11, 12, 13, 14, 15, 16, 17, 18, 19] (fun F_ W_ m_ => ∃ (i : Nat) (B : List Int), F_ 10 = (.int .i64 ((i : Int))) ∧ (i ≤ c) ∧ Sat w [rowY g c c B, restC w (rowY g c c A).fp] W_ ∧ m_ = c + 1 - i) _ ⟨0, A, (show ((.int .i64 (0)) : Value) = _ by first | rfl | go_num), by omega, H, rfl⟩ ?_
  rintro g1 w2 _ ⟨i, B, v4, hi, H3, rfl⟩
  refine wp_know 10 _ v4 ?_
  have hl2 := rowY_len (H3.at 0 rfl)
  refine w_seq ?_
  refine w_lit ?_
  refine wl_pure (wants0 rfl) (d := 11) (v := (.bool (decide ((i : Int) < (c : Int))))) rfl (by kernel_rfl) ?_
  refine w_nil ?_
  refine then_normal ?_
  refine w_seq ?_
  refine (bsplit (decide ((i : Int) < (c : Int)))).elim (fun b6 => ?_) (fun b6 => ?_)
  · have g7 := of_decide_eq_true b6
    refine wp_know 11 (.bool true) (congrArg Value.bool b6) ?_
    have g8 := of_decide_eq_true b6
    refine wp_ift rfl ?_
    refine w_skip ?_
    refine then_normal ?_
    refine w_seq ?_
    refine w_block ?_
    refine w_seq ?_
    refine w_lit ?_
    refine wl_pure (wants0 rfl) (d := 12) (v := (.int .i64 ((i : Int)))) rfl (by kernel_rfl) ?_
    refine wl_pure (wants0 rfl) (d := 3) (v := (.int .i64 ((i : Int)))) rfl (by kernel_rfl) ?_
    refine w_nil ?_
    refine then_normal ?_
    refine w_lit ?_
    refine wl_pure (wants0 rfl) (d := 13) (v := (.slice (some ⟨g, 0, none⟩) c c)) rfl (by kernel_rfl) ?_
    refine wl_pure (wants0 rfl) (d := 14) (v := (.int .i64 ((i : Int)))) rfl (by kernel_rfl) ?_
    refine wl_pure (wants0 rfl) (d := 15) (v := (.pointer (some ⟨g, 0 + ((i : Int)).toNat * 1, none⟩))) rfl (e_indexAddr (E := 5) (by kernel_rfl) (by kernel_rfl) (Nat.le_of_ble_eq_true rfl) rfl rfl (by omega) (by omega)) ?_
    obtain ⟨x9, h10⟩ := get_at (show i < B.length by omega)
    refine wl_pure (wants0 rfl) (d := 16) (v := (.int .u8 (x9))) rfl (e_load1 rfl (by kernel_rfl) (rowY_cell (H3.at 0 rfl) h10 (show 0 + ((i : Int)).toNat * 1 = i by omega))) ?_
    refine wl_pure (wants0 rfl) (d := 17) (v := (.int .u8 (bXor .u8 x9 119))) rfl (by kernel_rfl) ?_
    refine wl_pure (wants0 rfl) (d := 18) (v := (.pointer (some ⟨g, 0 + ((i : Int)).toNat * 1, none⟩))) rfl (e_indexAddr (E := 5) (by kernel_rfl) (by kernel_rfl) (Nat.le_of_ble_eq_true rfl) rfl rfl (by omega) (by omega)) ?_
    refine wl_do (wants0 rfl) (fun K11 hK11 => ?_)
    refine d_storeY rfl H3 0 rfl rfl rfl (by kernel_rfl) (show 0 + ((i : Int)).toNat * 1 = i by omega) (by omega) ?_
    intro w12 (H13 : Sat w [rowY g c c (B.set i (bXor .u8 x9 119)), restC w (rowY g c c A).fp] w12)
    have hlH13 : (B.set i (bXor .u8 x9 119)).length = B.length := List.length_set
    refine hK11 _ _ ?_
    clear hK11 K11
    refine w_nil ?_
    refine blk_normal ?_
    refine then_normal ?_
    refine w_lit ?_
    refine wl_pure (wants0 rfl) (d := 19) (v := (.int .i64 ((i : Int) + 1))) rfl (e_int (z := (i : Int) + 1) (by kernel_rfl) (IntWalk.i64_in _ (by omega))) ?_
    refine wl_pure (wants0 rfl) (d := 10) (v := (.int .i64 ((i : Int) + 1))) rfl (by kernel_rfl) ?_
    refine w_nil ?_
    refine round_back ?_ _ ⟨(i + 1), (B.set i (bXor .u8 x9 119)), (show ((.int .i64 ((i : Int) + 1)) : Value) = _ by first | rfl | go_num), by omega, H13, rfl⟩ (by omega)
    exact (same_upd rfl (same_upd rfl (same_upd rfl (same_upd rfl (same_upd rfl (same_upd rfl (same_upd rfl (same_upd rfl (same_upd rfl (same_upd rfl (same_upd rfl (same_upd rfl (same_upd rfl (same_ovr))))))))))))))
  · have g14 := of_decide_eq_false b6
    refine wp_know 11 (.bool false) (congrArg Value.bool b6) ?_
    have g15 := of_decide_eq_false b6
    refine wp_iff rfl ?_
    refine w_exit ?_
    refine then_exit ?_
    refine back_exit ?_
    refine blk_hit ?_
    refine end_normal ?_
    refine end0 rfl  ?_
    exact ⟨B, rfl, H3⟩

set_option maxRecDepth 100000 in
set_option maxHeartbeats 400000 in
theorem spoil_nil (w : World) :
    Calls Try.prog 21 #[(.slice none 0 0)] w fun e w' => e = .returned (.tuple #[]) ∧ Sat w [restC w (fun _ => False)] w' := by
  have H := Sat.start0 w
  refine calls_fr Try.func21 rfl 20 rfl (Nat.le_of_ble_eq_true rfl) ?_
  refine w_seq ?_
  refine w_lit ?_
  refine wl_pure (wants0 rfl) (d := 4) (v := (.slice none 0 0)) rfl (by kernel_rfl) ?_
  refine wl_pure (wants0 rfl) (d := 5) (v := (.slice none 0 0)) rfl (by kernel_rfl) ?_
  refine wl_pure (wants0 rfl) (d := 6) (v := (.int .i64 (0))) rfl (by kernel_rfl) ?_
  refine wl_pure (wants0 rfl) (d := 7) (v := (.slice none 0 0)) rfl (e_sliceHi (E := 5) (q := 0) (by kernel_rfl) (by kernel_rfl) rfl rfl rfl (by omega)) ?_
  refine wl_pure (wants0 rfl) (d := 2) (v := (.slice none 0 0)) rfl (by kernel_rfl) ?_
  refine w_nil ?_
  refine then_normal ?_
  refine w_seq ?_
  refine w_lit ?_
  refine wl_pure (wants0 rfl) (d := 8) (v := (.slice none 0 0)) rfl (by kernel_rfl) ?_
  refine wl_pure (wants0 rfl) (d := 9) (v := (.int .i64 (0))) rfl (by kernel_rfl) ?_
  refine wl_pure (wants0 rfl) (d := 10) (v := (.int .i64 (0))) rfl (by kernel_rfl) ?_
  refine w_nil ?_
  refine then_normal ?_
  refine w_block ?_
  refine wp_round [3, 10, 11, 12, 13, 14, 15, 16, 17, 18, 19] (fun F_ W_ m_ => ∃ (i : Nat), F_ 10 = (.int .i64 ((i : Int))) ∧ (i ≤ 0) ∧ Sat w [restC w (fun _ => False)] W_ ∧ m_ = 1 - i) _ ⟨0, (show ((.int .i64 (0)) : Value) = _ by first | rfl | go_num), by omega, H, rfl⟩ ?_
  rintro g1 w2 _ ⟨i, v4, hi, H3, rfl⟩
  refine wp_know 10 _ v4 ?_
  refine w_seq ?_
  refine w_lit ?_
  refine wl_pure (wants0 rfl) (d := 11) (v := (.bool (decide ((i : Int) < 0)))) rfl (by kernel_rfl) ?_
  refine w_nil ?_
  refine then_normal ?_
  refine w_seq ?_
  refine (bsplit (decide ((i : Int) < 0))).elim (fun b6 => ?_) (fun b6 => ?_)
  · have g7 := of_decide_eq_true b6
    refine wp_know 11 (.bool true) (congrArg Value.bool b6) ?_
    have g8 := of_decide_eq_true b6
    refine wp_ift rfl ?_
    refine w_skip ?_
    refine then_normal ?_
    refine w_seq ?_
    refine w_block ?_
    refine w_seq ?_
    exact absurd b6 (by simp)
  · have g9 := of_decide_eq_false b6
    refine wp_know 11 (.bool false) (congrArg Value.bool b6) ?_
    have g10 := of_decide_eq_false b6
    refine wp_iff rfl ?_
    refine w_exit ?_
    refine then_exit ?_
    refine back_exit ?_
    refine blk_hit ?_
    refine end_normal ?_
    refine end0 rfl  ?_
    exact ⟨rfl, H3⟩

set_option maxRecDepth 100000 in
set_option maxHeartbeats 400000 in
theorem copyB_any (w : World) (v : Value) (s : List UInt8) (hv : ListAt encB 1 w v s) (hl : s.length ≤ 1000000) :
    Calls Try.prog 18 #[(v)] w fun e w' => ∃ u, e = .returned u ∧ Upd [] w w' ∧ CopyOf w s u w' := by
  have H := Sat.start0 w
  refine calls_fr Try.func18 rfl 5 rfl (Nat.le_of_ble_eq_true rfl) ?_
  refine w_seq ?_
  refine w_lit ?_
  refine wl_pure (wants0 rfl) (d := 2) (v := (.slice none 0 0)) rfl (by kernel_rfl) ?_
  refine w_nil ?_
  refine then_normal ?_
  refine w_seq ?_
  refine w_lit ?_
  refine wl_pure (wants0 rfl) (d := 3) (v := (v)) rfl (by kernel_rfl) ?_
  refine wl_do (wants0 rfl) (fun K1 hK1 => ?_)
  refine d_appendY rfl (ListAt.now H 0 rfl hv) hl rfl rfl ?_
  intro u2 w3 p4 k5
  refine hK1 _ _ ?_
  clear hK1 K1
  refine wl_pure (wants0 rfl) (d := 2) (v := (u2)) rfl (by kernel_rfl) ?_
  refine w_nil ?_
  refine then_normal ?_
  refine w_ret ?_
  refine end1 rfl (res_tmp (v := (u2)) rfl) ?_
  exact ⟨_, rfl, p4, k5⟩

set_option maxRecDepth 100000 in
set_option maxHeartbeats 400000 in
theorem cutB_any0 (w : World) (va : Option Addr) (vc : Nat) (xs : List UInt8) (hxs : ListAt encB 1 w (.slice va xs.length vc) xs) (hx : xs.length ≤ 9223372036854775807) (n : Nat) (hn : n ≤ 100000) :
    Calls Try.prog 8 #[(.slice va xs.length vc), (.int .i64 ((n : Int)))] w fun e w' => ∃ u, e = .returned u ∧ (rowC 5 1 u (xs.take n).length ((xs.take n).flatMap encB)).ok w' ∧ Upd [] w w' ∧ ∀ b, u.ownBlock = some b → w.heap.size ≤ b := by
  have hcap := ListAt.cap hxs
  have H := Sat.start0 w
  refine calls_fr Try.func8 rfl 12 rfl (Nat.le_of_ble_eq_true rfl) ?_
  refine w_seq ?_
  refine w_lit ?_
  refine wl_pure (wants0 rfl) (d := 4) (v := (.slice none 0 0)) rfl (by kernel_rfl) ?_
  refine w_nil ?_
  refine then_normal ?_
  refine w_seq ?_
  refine w_lit ?_
  refine wl_pure (wants0 rfl) (d := 5) (v := (.slice va xs.length vc)) rfl (by kernel_rfl) ?_
  refine wl_pure (wants0 rfl) (d := 6) (v := (.slice va xs.length vc)) rfl (by kernel_rfl) ?_
  refine wl_pure (wants0 rfl) (d := 7) (v := (.int .i64 ((xs.length : Int)))) rfl (by kernel_rfl) ?_
  refine wl_pure (wants0 rfl) (d := 8) (v := (.int .i64 ((n : Int)))) rfl (by kernel_rfl) ?_
  refine wl_pure (wants0 rfl) (d := 9) (v := (.int .i64 (((min xs.length n : Nat) : Int)))) rfl (e_min (k := .i64) (a := (xs.length : Int)) (b := (n : Int)) (z := ((min xs.length n : Nat) : Int)) rfl rfl (by omega)) ?_
  refine wl_pure (wants0 rfl) (d := 10) (v := (.slice va (min xs.length n) vc)) rfl (e_sliceHi (E := 5) (q := (min xs.length n)) (by kernel_rfl) (by kernel_rfl) rfl rfl (by omega) (by omega)) ?_
  refine wl_do (wants0 rfl) (fun K1 hK1 => ?_)
  refine d_call (d := 11) rfl (by kernel_rfl) (copyB_any w (.slice va (min xs.length n) vc) (xs.take (min xs.length n)) (ListAt.take (ListAt.now H 0 rfl hxs) (by omega)) (by simp only [List.length_take]; omega)) ?_
  rintro _ w2 ⟨u3, rfl, p4, k5⟩
  refine ⟨_, rfl, ?_⟩
  have H6 := H.keepU p4
  refine hK1 _ _ ?_
  clear hK1 K1
  refine wl_pure (wants0 rfl) (d := 4) (v := (u3)) rfl (by kernel_rfl) ?_
  refine w_nil ?_
  refine then_normal ?_
  refine w_ret ?_
  refine end1 rfl (res_tmp (v := (u3)) rfl) ?_
  have ht : xs.take (min xs.length n) = xs.take n := by rw [List.take_eq_take_iff]; omega
  obtain ⟨q1, q2⟩ := k5.row
  exact ⟨_, rfl, (by rw [ht] at q1; exact q1), H6.upd 0 rfl [] (fun _ h => h.elim), q2⟩

end Go.Proofs.Ytjcoeokmoibppaa
