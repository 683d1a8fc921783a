/- WHAT IS PROVED: what the document's tally answers, as a list of votes. No condition. -/
import Derived.Test.YtfhhljgjppcdlaaRefDefs
import Derived.Test.YtfhhljgjppcdlaaVotesMath
import Derived.Test.YtfhhljgjppcdlaaStrs
namespace Go.Proofs.Ytfhhljgjppcdlaa
open Go.RowKit

set_option maxRecDepth 100000 in
set_option maxHeartbeats 400000 in
theorem refFor_any (w : World) (r : Nat) (v : Value) (f c : Int) (L : List VoteD) (hT : (rtC r v f c L).ok w) (hl : L.length ≤ 1000000) (kind round : Int) (h : Hash) :
    Calls Try.prog 26 #[(.pointer (some ⟨r, 0, none⟩)), (.int .i64 (kind)), (.int .i64 (round)), (.agg ⟨(hc h)⟩)] w fun e w' => e = .returned (.int .i64 (forV L kind round h)) ∧ Upd [] w w' := by
  obtain ⟨hcell, hrow⟩ := rtC_parts hT
  have H := Sat.start0 w
  refine calls_fr Try.func26 rfl 57 rfl (Nat.le_of_ble_eq_true rfl) ?_
  refine w_seq ?_
  refine w_lit ?_
  refine wl_do (wants0 rfl) (fun K1 hK1 => ?_)
  refine d_box (vs := (hc h)) rfl H rfl rfl ?_
  intro b2 w3 (H4 : Sat w [restC w (fun _ => False), cellC b2 24 (hc h)] w3)
  refine hK1 _ _ ?_
  clear hK1 K1
  refine wl_pure (wants0 rfl) (d := 8) (v := (.int .i64 (0))) rfl (by kernel_rfl) ?_
  refine w_nil ?_
  refine then_normal ?_
  refine w_seq ?_
  refine w_lit ?_
  refine wl_pure (wants0 rfl) (d := 9) (v := (.int .i64 (0))) rfl (by kernel_rfl) ?_
  refine w_nil ?_
  refine then_normal ?_
  refine w_seq ?_
  refine w_seq ?_
  refine w_lit ?_
  refine wl_pure (wants0 rfl) (d := 11) (v := (.pointer (some ⟨r, 0, none⟩))) rfl (by kernel_rfl) ?_
  refine wl_pure (wants0 rfl) (d := 12) (v := (.pointer (some ⟨r, 0, none⟩))) rfl (by kernel_rfl) ?_
  refine wl_pure (wants0 rfl) (d := 13) (v := (.pointer (some ⟨r, 2, none⟩))) rfl (by kernel_rfl) ?_
  refine wl_pure (wants0 rfl) (d := 14) (v := v) rfl (e_load1 rfl (by kernel_rfl) (H4.roCell 0 rfl hcell (fun h => h) rfl)) ?_
  refine wl_pure (wants0 rfl) (d := 15) (v := (.int .i64 ((L.length : Int)))) rfl (e_lenRow (E := 77) (by kernel_rfl) hrow rfl) ?_
  refine wl_pure (wants0 rfl) (d := 16) (v := (.int .i64 (0))) rfl (by kernel_rfl) ?_
  refine w_nil ?_
  refine then_normal ?_
  refine w_block ?_
  refine wp_round [9, 10, 16, 17, 18, 19, 20, 21, 22, 23, 24, 25, 26, 27, 28, 29, 30, 31, 32, 33, 34, 35, 36, 37, 38, 39, 40, 41, 42, 43, 44, 45, 46, 47, 48, 49, 50, 51, 52, 53, 54, 55] (fun F_ W_ m_ => ∃ (i : Nat), F_ 16 = (.int .i64 ((i : Int))) ∧ F_ 9 = (.int .i64 ((((L.take i).countP (forP kind round h) : Nat) : Int))) ∧ (i ≤ L.length) ∧ Sat w [restC w (fun _ => False), cellC b2 24 (hc h)] W_ ∧ m_ = L.length - i) _ ⟨0, (by first | rfl | go_num), (by first | rfl | go_num), by omega, H4, rfl⟩ ?_
  rintro g5 w6 _ ⟨i, v8, v9, hi, H7, rfl⟩
  refine wp_know 16 _ v8 ?_
  refine wp_know 9 _ v9 ?_
  refine w_seq ?_
  refine w_lit ?_
  refine wl_pure (wants0 rfl) (d := 17) (v := (.bool (decide ((i : Int) < (L.length : Int))))) rfl (by kernel_rfl) ?_
  refine w_nil ?_
  refine then_normal ?_
  refine w_seq ?_
  refine (bsplit (decide ((i : Int) < (L.length : Int)))).elim (fun b11 => ?_) (fun b11 => ?_)
  · have g12 := of_decide_eq_true b11
    refine wp_know 17 (.bool true) (congrArg Value.bool b11) ?_
    refine wp_ift rfl ?_
    refine w_skip ?_
    refine then_normal ?_
    refine w_seq ?_
    refine w_block ?_
    refine w_seq ?_
    obtain ⟨g, cp, hv⟩ := row_shape hrow (by omega)
    obtain ⟨x, hx⟩ := get_at (show i < L.length by omega)
    refine w_lit ?_
    refine wl_pure (wants0 rfl) (d := 18) (v := (.int .i64 ((i : Int)))) rfl (by kernel_rfl) ?_
    refine wl_pure (wants0 rfl) (d := 10) (v := (.int .i64 ((i : Int)))) rfl (by kernel_rfl) ?_
    refine w_nil ?_
    refine then_normal ?_
    refine w_seq ?_
    refine q_start H7 (by kernel_rfl) (by kernel_rfl) ?_
    refine q_val (wants0 rfl) (d := 19) (v := (.pointer (some ⟨r, 0, none⟩))) rfl (fun _ H' => (by kernel_rfl)) ?_
    refine q_val (wants0 rfl) (d := 20) (v := (.pointer (some ⟨r, 0, none⟩))) rfl (fun _ H' => (by kernel_rfl)) ?_
    refine q_val (wants0 rfl) (d := 21) (v := (.pointer (some ⟨r, 2, none⟩))) rfl (fun _ H' => (by kernel_rfl)) ?_
    refine q_val (wants0 rfl) (d := 22) (v := v) rfl (fun _ H' => (e_load1 rfl (by kernel_rfl) (H'.roCell 0 rfl hcell (fun h => h) rfl))) ?_
    refine q_val (wants0 rfl) (d := 23) (v := (.int .i64 ((i : Int)))) rfl (fun _ H' => (by kernel_rfl)) ?_
    refine q_val (wants0 rfl) (d := 24) (v := (.pointer (some ⟨g, 0 + ((i : Int)).toNat * 35, none⟩))) rfl (fun _ H' => (e_indexAddrV (E := 77) (by kernel_rfl) (by kernel_rfl) (Nat.le_of_ble_eq_true rfl) rfl hv rfl (by omega) (by omega))) ?_
    refine q_val (wants0 rfl) (d := 25) (v := (.pointer (some ⟨g, 0 + ((i : Int)).toNat * 35, none⟩))) rfl (fun _ H' => (by kernel_rfl)) ?_
    refine q_val (wants0 rfl) (d := 26) (v := (.int .i64 (x.kind))) rfl (fun _ H' => (e_load1 rfl (by kernel_rfl) (H'.cellR 0 rfl (rows_cell hrow hv encV_len hx 0 rfl (show 0 + ((i : Int)).toNat * 35 = i * 35 + 0 by omega) rfl) (fun h => h)))) ?_
    refine q_val (wants0 rfl) (d := 27) (v := (.int .i64 (kind))) rfl (fun _ H' => (by kernel_rfl)) ?_
    refine q_val (wants0 rfl) (d := 28) (v := (.bool (decide (x.kind = kind)))) rfl (fun _ H' => (by kernel_rfl)) ?_
    refine q_val (wants0 rfl) (d := 29) (v := (.bool (decide (x.kind = kind)))) rfl (fun _ H' => (by kernel_rfl)) ?_
    refine (bsplit (decide (x.kind = kind))).elim (fun b13 => ?_) (fun b13 => ?_)
    · have g14 := of_decide_eq_true b13
      refine q_know 29 (.bool true) (congrArg Value.bool b13) ?_
      refine q_val (wantsY 10 29 true rfl (by kernel_rfl) rfl (by kernel_rfl)) (d := 30) (v := (.pointer (some ⟨r, 0, none⟩))) rfl (fun _ H' => (by kernel_rfl)) ?_
      refine q_val (wantsY 10 29 true rfl (by kernel_rfl) rfl (by kernel_rfl)) (d := 31) (v := (.pointer (some ⟨r, 0, none⟩))) rfl (fun _ H' => (by kernel_rfl)) ?_
      refine q_val (wantsY 10 29 true rfl (by kernel_rfl) rfl (by kernel_rfl)) (d := 32) (v := (.pointer (some ⟨r, 2, none⟩))) rfl (fun _ H' => (by kernel_rfl)) ?_
      refine q_val (wantsY 10 29 true rfl (by kernel_rfl) rfl (by kernel_rfl)) (d := 33) (v := v) rfl (fun _ H' => (e_load1 rfl (by kernel_rfl) (H'.roCell 0 rfl hcell (fun h => h) rfl))) ?_
      refine q_val (wantsY 10 29 true rfl (by kernel_rfl) rfl (by kernel_rfl)) (d := 34) (v := (.int .i64 ((i : Int)))) rfl (fun _ H' => (by kernel_rfl)) ?_
      refine q_val (wantsY 10 29 true rfl (by kernel_rfl) rfl (by kernel_rfl)) (d := 35) (v := (.pointer (some ⟨g, 0 + ((i : Int)).toNat * 35, none⟩))) rfl (fun _ H' => (e_indexAddrV (E := 77) (by kernel_rfl) (by kernel_rfl) (Nat.le_of_ble_eq_true rfl) rfl hv rfl (by omega) (by omega))) ?_
      refine q_val (wantsY 10 29 true rfl (by kernel_rfl) rfl (by kernel_rfl)) (d := 36) (v := (.pointer (some ⟨g, 0 + ((i : Int)).toNat * 35 + 1, none⟩))) rfl (fun _ H' => (by kernel_rfl)) ?_
      refine q_val (wantsY 10 29 true rfl (by kernel_rfl) rfl (by kernel_rfl)) (d := 37) (v := (.int .i64 (x.round))) rfl (fun _ H' => (e_load1 rfl (by kernel_rfl) (H'.cellR 0 rfl (rows_cell hrow hv encV_len hx 1 rfl (show 0 + ((i : Int)).toNat * 35 + 1 = i * 35 + 1 by omega) rfl) (fun h => h)))) ?_
      refine q_val (wantsY 10 29 true rfl (by kernel_rfl) rfl (by kernel_rfl)) (d := 38) (v := (.int .i64 (round))) rfl (fun _ H' => (by kernel_rfl)) ?_
      refine q_val (wantsY 10 29 true rfl (by kernel_rfl) rfl (by kernel_rfl)) (d := 39) (v := (.bool (decide (x.round = round)))) rfl (fun _ H' => (by kernel_rfl)) ?_
      refine q_val (wants0 rfl) (d := 40) (v := (.bool (decide (x.round = round)))) rfl (fun _ H' => (by kernel_rfl)) ?_
      refine q_val (wants0 rfl) (d := 41) (v := (.bool (decide (x.round = round)))) rfl (fun _ H' => (by kernel_rfl)) ?_
      refine (bsplit (decide (x.round = round))).elim (fun b15 => ?_) (fun b15 => ?_)
      · have g16 := of_decide_eq_true b15
        refine q_know 41 (.bool true) (congrArg Value.bool b15) ?_
        refine q_val (wantsY 22 41 true rfl (by kernel_rfl) rfl (by kernel_rfl)) (d := 42) (v := (.pointer (some ⟨r, 0, none⟩))) rfl (fun _ H' => (by kernel_rfl)) ?_
        refine q_val (wantsY 22 41 true rfl (by kernel_rfl) rfl (by kernel_rfl)) (d := 43) (v := (.pointer (some ⟨r, 0, none⟩))) rfl (fun _ H' => (by kernel_rfl)) ?_
        refine q_val (wantsY 22 41 true rfl (by kernel_rfl) rfl (by kernel_rfl)) (d := 44) (v := (.pointer (some ⟨r, 2, none⟩))) rfl (fun _ H' => (by kernel_rfl)) ?_
        refine q_val (wantsY 22 41 true rfl (by kernel_rfl) rfl (by kernel_rfl)) (d := 45) (v := v) rfl (fun _ H' => (e_load1 rfl (by kernel_rfl) (H'.roCell 0 rfl hcell (fun h => h) rfl))) ?_
        refine q_val (wantsY 22 41 true rfl (by kernel_rfl) rfl (by kernel_rfl)) (d := 46) (v := (.int .i64 ((i : Int)))) rfl (fun _ H' => (by kernel_rfl)) ?_
        refine q_val (wantsY 22 41 true rfl (by kernel_rfl) rfl (by kernel_rfl)) (d := 47) (v := (.pointer (some ⟨g, 0 + ((i : Int)).toNat * 35, none⟩))) rfl (fun _ H' => (e_indexAddrV (E := 77) (by kernel_rfl) (by kernel_rfl) (Nat.le_of_ble_eq_true rfl) rfl hv rfl (by omega) (by omega))) ?_
        refine q_val (wantsY 22 41 true rfl (by kernel_rfl) rfl (by kernel_rfl)) (d := 48) (v := (.pointer (some ⟨g, 0 + ((i : Int)).toNat * 35 + 3, none⟩))) rfl (fun _ H' => (by kernel_rfl)) ?_
        refine q_val (wantsY 22 41 true rfl (by kernel_rfl) rfl (by kernel_rfl)) (d := 49) (v := (.agg ⟨(hc x.h)⟩)) rfl (fun _ H' => (e_loadRun (vs := hc x.h) rfl (by kernel_rfl) (by kernel_rfl) (Nat.le_of_ble_eq_true (by kernel_rfl)) (fun j v hj => H'.cellR 0 rfl ((rows_run hrow hv encV_len hx 3 (show 0 + ((i : Int)).toNat * 35 + 3 = i * 35 + 3 by omega) (by kernel_rfl) (dropHash x)) j v hj) (fun h => h)))) ?_
        refine q_val (wantsY 22 41 true rfl (by kernel_rfl) rfl (by kernel_rfl)) (d := 50) (v := (.agg ⟨(hc h)⟩)) rfl (fun _ H' => (e_loadN (vs := (hc h)) rfl (by kernel_rfl) (by kernel_rfl) (by exact Nat.le_of_ble_eq_true (by kernel_rfl)) (H'.at 1 rfl) (by kernel_rfl))) ?_
        refine q_val (wantsY 22 41 true rfl (by kernel_rfl) rfl (by kernel_rfl)) (d := 51) (v := (.bool (decide (x.h = h)))) rfl (fun _ H' => (e_eqHash x.h h rfl rfl)) ?_
        refine q_val (wants0 rfl) (d := 52) (v := (.bool (decide (x.h = h)))) rfl (fun _ H' => (by kernel_rfl)) ?_
        refine q_end ?_
        intro w17 H18
        refine then_normal ?_
        refine (bsplit (decide (x.h = h))).elim (fun b19 => ?_) (fun b19 => ?_)
        · have g20 := of_decide_eq_true b19
          refine wp_know 52 (.bool true) (congrArg Value.bool b19) ?_
          refine wp_ift rfl ?_
          refine w_lit ?_
          refine wl_pure (wants0 rfl) (d := 53) (v := (.int .i64 ((((L.take i).countP (forP kind round h) : Nat) : Int)))) rfl (by kernel_rfl) ?_
          refine wl_pure (wants0 rfl) (d := 54) (v := (.int .i64 ((((L.take i).countP (forP kind round h) : Nat) : Int) + 1))) rfl (e_int (z := (((L.take i).countP (forP kind round h) : Nat) : Int) + 1) (by kernel_rfl) (IntWalk.i64_in _ (by have := take_count_le L i (forP kind round h); omega))) ?_
          refine wl_pure (wants0 rfl) (d := 9) (v := (.int .i64 ((((L.take i).countP (forP kind round h) : Nat) : Int) + 1))) rfl (by kernel_rfl) ?_
          refine w_nil ?_
          refine blk_normal ?_
          refine then_normal ?_
          refine w_lit ?_
          refine wl_pure (wants0 rfl) (d := 55) (v := (.int .i64 ((i : Int) + 1))) rfl (e_int (z := (i : Int) + 1) (by kernel_rfl) (IntWalk.i64_in _ (by have := take_count_le L i (forP kind round h); omega))) ?_
          refine wl_pure (wants0 rfl) (d := 16) (v := (.int .i64 ((i : Int) + 1))) rfl (by kernel_rfl) ?_
          refine w_nil ?_
          refine round_back ?_ _ ⟨(i + 1), (show ((.int .i64 ((i : Int) + 1)) : Value) = _ by first | rfl | go_num), (show ((.int .i64 ((((L.take i).countP (forP kind round h) : Nat) : Int) + 1)) : Value) = _ by rw [take_count hx]; simp [forP, b13, b15, b19]), by omega, H18, rfl⟩ (by omega)
          exact (same_upd rfl (same_upd rfl (same_upd rfl (same_upd rfl (same_upd rfl (same_upd rfl (same_upd rfl (same_upd rfl (same_upd rfl (same_upd rfl (same_upd rfl (same_upd rfl (same_upd rfl (same_upd rfl (same_upd rfl (same_upd rfl (same_upd rfl (same_upd rfl (same_upd rfl (same_upd rfl (same_upd rfl (same_upd rfl (same_upd rfl (same_upd rfl (same_upd rfl (same_upd rfl (same_upd rfl (same_upd rfl (same_upd rfl (same_upd rfl (same_upd rfl (same_upd rfl (same_upd rfl (same_upd rfl (same_upd rfl (same_upd rfl (same_upd rfl (same_upd rfl (same_upd rfl (same_upd rfl (same_upd rfl (same_upd rfl (same_upd rfl (same_upd rfl (same_upd rfl (same_upd rfl (same_upd rfl (same_upd rfl (same_ovr)))))))))))))))))))))))))))))))))))))))))))))))))
        · have g21 := of_decide_eq_false b19
          refine wp_know 52 (.bool false) (congrArg Value.bool b19) ?_
          refine wp_iff rfl ?_
          refine w_skip ?_
          refine blk_normal ?_
          refine then_normal ?_
          refine w_lit ?_
          refine wl_pure (wants0 rfl) (d := 55) (v := (.int .i64 ((i : Int) + 1))) rfl (e_int (z := (i : Int) + 1) (by kernel_rfl) (IntWalk.i64_in _ (by have := take_count_le L i (forP kind round h); omega))) ?_
          refine wl_pure (wants0 rfl) (d := 16) (v := (.int .i64 ((i : Int) + 1))) rfl (by kernel_rfl) ?_
          refine w_nil ?_
          refine round_back ?_ _ ⟨(i + 1), (show ((.int .i64 ((i : Int) + 1)) : Value) = _ by first | rfl | go_num), (show ((.int .i64 ((((L.take i).countP (forP kind round h) : Nat) : Int))) : Value) = _ by rw [take_count hx]; simp [forP, b13, b15, b19]), by omega, H18, rfl⟩ (by omega)
          exact (same_upd rfl (same_upd rfl (same_upd rfl (same_upd rfl (same_upd rfl (same_upd rfl (same_upd rfl (same_upd rfl (same_upd rfl (same_upd rfl (same_upd rfl (same_upd rfl (same_upd rfl (same_upd rfl (same_upd rfl (same_upd rfl (same_upd rfl (same_upd rfl (same_upd rfl (same_upd rfl (same_upd rfl (same_upd rfl (same_upd rfl (same_upd rfl (same_upd rfl (same_upd rfl (same_upd rfl (same_upd rfl (same_upd rfl (same_upd rfl (same_upd rfl (same_upd rfl (same_upd rfl (same_upd rfl (same_upd rfl (same_upd rfl (same_upd rfl (same_upd rfl (same_upd rfl (same_upd rfl (same_upd rfl (same_upd rfl (same_upd rfl (same_upd rfl (same_upd rfl (same_ovr))))))))))))))))))))))))))))))))))))))))))))))
      · have g22 := of_decide_eq_false b15
        refine q_know 41 (.bool false) (congrArg Value.bool b15) ?_
        refine q_pass (wantsN 22 41 true rfl (by kernel_rfl) rfl (by kernel_rfl)) rfl ?_
        refine q_pass (wantsN 22 41 true rfl (by kernel_rfl) rfl (by kernel_rfl)) rfl ?_
        refine q_pass (wantsN 22 41 true rfl (by kernel_rfl) rfl (by kernel_rfl)) rfl ?_
        refine q_pass (wantsN 22 41 true rfl (by kernel_rfl) rfl (by kernel_rfl)) rfl ?_
        refine q_pass (wantsN 22 41 true rfl (by kernel_rfl) rfl (by kernel_rfl)) rfl ?_
        refine q_pass (wantsN 22 41 true rfl (by kernel_rfl) rfl (by kernel_rfl)) rfl ?_
        refine q_pass (wantsN 22 41 true rfl (by kernel_rfl) rfl (by kernel_rfl)) rfl ?_
        refine q_pass (wantsN 22 41 true rfl (by kernel_rfl) rfl (by kernel_rfl)) rfl ?_
        refine q_pass (wantsN 22 41 true rfl (by kernel_rfl) rfl (by kernel_rfl)) rfl ?_
        refine q_pass (wantsN 22 41 true rfl (by kernel_rfl) rfl (by kernel_rfl)) rfl ?_
        refine q_val (wants0 rfl) (d := 52) (v := (.bool false)) rfl (fun _ H' => (by kernel_rfl)) ?_
        refine q_end ?_
        intro w23 H24
        refine then_normal ?_
        refine wp_iff rfl ?_
        refine w_skip ?_
        refine blk_normal ?_
        refine then_normal ?_
        refine w_lit ?_
        refine wl_pure (wants0 rfl) (d := 55) (v := (.int .i64 ((i : Int) + 1))) rfl (e_int (z := (i : Int) + 1) (by kernel_rfl) (IntWalk.i64_in _ (by have := take_count_le L i (forP kind round h); omega))) ?_
        refine wl_pure (wants0 rfl) (d := 16) (v := (.int .i64 ((i : Int) + 1))) rfl (by kernel_rfl) ?_
        refine w_nil ?_
        refine round_back ?_ _ ⟨(i + 1), (show ((.int .i64 ((i : Int) + 1)) : Value) = _ by first | rfl | go_num), (show ((.int .i64 ((((L.take i).countP (forP kind round h) : Nat) : Int))) : Value) = _ by rw [take_count hx]; simp [forP, b13, b15]), by omega, H24, rfl⟩ (by omega)
        exact (same_upd rfl (same_upd rfl (same_upd rfl (same_upd rfl (same_upd rfl (same_upd rfl (same_upd rfl (same_upd rfl (same_upd rfl (same_upd rfl (same_upd rfl (same_upd rfl (same_upd rfl (same_upd rfl (same_upd rfl (same_upd rfl (same_upd rfl (same_upd rfl (same_upd rfl (same_upd rfl (same_upd rfl (same_upd rfl (same_upd rfl (same_upd rfl (same_upd rfl (same_upd rfl (same_upd rfl (same_upd rfl (same_upd rfl (same_upd rfl (same_upd rfl (same_upd rfl (same_upd rfl (same_upd rfl (same_upd rfl (same_upd rfl (same_upd rfl (same_upd rfl (same_upd rfl (same_upd rfl (same_upd rfl (same_upd rfl (same_upd rfl (same_upd rfl (same_ovr)))))))))))))))))))))))))))))))))))))))))))))
    · have g25 := of_decide_eq_false b13
      refine q_know 29 (.bool false) (congrArg Value.bool b13) ?_
      refine q_pass (wantsN 10 29 true rfl (by kernel_rfl) rfl (by kernel_rfl)) rfl ?_
      refine q_pass (wantsN 10 29 true rfl (by kernel_rfl) rfl (by kernel_rfl)) rfl ?_
      refine q_pass (wantsN 10 29 true rfl (by kernel_rfl) rfl (by kernel_rfl)) rfl ?_
      refine q_pass (wantsN 10 29 true rfl (by kernel_rfl) rfl (by kernel_rfl)) rfl ?_
      refine q_pass (wantsN 10 29 true rfl (by kernel_rfl) rfl (by kernel_rfl)) rfl ?_
      refine q_pass (wantsN 10 29 true rfl (by kernel_rfl) rfl (by kernel_rfl)) rfl ?_
      refine q_pass (wantsN 10 29 true rfl (by kernel_rfl) rfl (by kernel_rfl)) rfl ?_
      refine q_pass (wantsN 10 29 true rfl (by kernel_rfl) rfl (by kernel_rfl)) rfl ?_
      refine q_pass (wantsN 10 29 true rfl (by kernel_rfl) rfl (by kernel_rfl)) rfl ?_
      refine q_pass (wantsN 10 29 true rfl (by kernel_rfl) rfl (by kernel_rfl)) rfl ?_
      refine q_val (wants0 rfl) (d := 40) (v := (.bool false)) rfl (fun _ H' => (by kernel_rfl)) ?_
      refine q_val (wants0 rfl) (d := 41) (v := (.bool false)) rfl (fun _ H' => (by kernel_rfl)) ?_
      refine q_pass (wantsN 22 41 true rfl (by kernel_rfl) rfl (by kernel_rfl)) rfl ?_
      refine q_pass (wantsN 22 41 true rfl (by kernel_rfl) rfl (by kernel_rfl)) rfl ?_
      refine q_pass (wantsN 22 41 true rfl (by kernel_rfl) rfl (by kernel_rfl)) rfl ?_
      refine q_pass (wantsN 22 41 true rfl (by kernel_rfl) rfl (by kernel_rfl)) rfl ?_
      refine q_pass (wantsN 22 41 true rfl (by kernel_rfl) rfl (by kernel_rfl)) rfl ?_
      refine q_pass (wantsN 22 41 true rfl (by kernel_rfl) rfl (by kernel_rfl)) rfl ?_
      refine q_pass (wantsN 22 41 true rfl (by kernel_rfl) rfl (by kernel_rfl)) rfl ?_
      refine q_pass (wantsN 22 41 true rfl (by kernel_rfl) rfl (by kernel_rfl)) rfl ?_
      refine q_pass (wantsN 22 41 true rfl (by kernel_rfl) rfl (by kernel_rfl)) rfl ?_
      refine q_pass (wantsN 22 41 true rfl (by kernel_rfl) rfl (by kernel_rfl)) rfl ?_
      refine q_val (wants0 rfl) (d := 52) (v := (.bool false)) rfl (fun _ H' => (by kernel_rfl)) ?_
      refine q_end ?_
      intro w26 H27
      refine then_normal ?_
      refine wp_iff rfl ?_
      refine w_skip ?_
      refine blk_normal ?_
      refine then_normal ?_
      refine w_lit ?_
      refine wl_pure (wants0 rfl) (d := 55) (v := (.int .i64 ((i : Int) + 1))) rfl (e_int (z := (i : Int) + 1) (by kernel_rfl) (IntWalk.i64_in _ (by have := take_count_le L i (forP kind round h); omega))) ?_
      refine wl_pure (wants0 rfl) (d := 16) (v := (.int .i64 ((i : Int) + 1))) rfl (by kernel_rfl) ?_
      refine w_nil ?_
      refine round_back ?_ _ ⟨(i + 1), (show ((.int .i64 ((i : Int) + 1)) : Value) = _ by first | rfl | go_num), (show ((.int .i64 ((((L.take i).countP (forP kind round h) : Nat) : Int))) : Value) = _ by rw [take_count hx]; simp [forP, b13]), by omega, H27, rfl⟩ (by omega)
      exact (same_upd rfl (same_upd rfl (same_upd rfl (same_upd rfl (same_upd rfl (same_upd rfl (same_upd rfl (same_upd rfl (same_upd rfl (same_upd rfl (same_upd rfl (same_upd rfl (same_upd rfl (same_upd rfl (same_upd rfl (same_upd rfl (same_upd rfl (same_upd rfl (same_upd rfl (same_upd rfl (same_upd rfl (same_upd rfl (same_upd rfl (same_upd rfl (same_upd rfl (same_upd rfl (same_upd rfl (same_upd rfl (same_upd rfl (same_upd rfl (same_upd rfl (same_upd rfl (same_upd rfl (same_upd rfl (same_upd rfl (same_upd rfl (same_upd rfl (same_upd rfl (same_upd rfl (same_upd rfl (same_upd rfl (same_upd rfl (same_upd rfl (same_ovr))))))))))))))))))))))))))))))))))))))))))))
  · have g28 := of_decide_eq_false b11
    refine wp_know 17 (.bool false) (congrArg Value.bool b11) ?_
    refine wp_iff rfl ?_
    refine w_exit ?_
    refine then_exit ?_
    refine back_exit ?_
    refine blk_hit ?_
    refine then_normal ?_
    refine w_seq ?_
    refine w_lit ?_
    refine wl_pure (wants0 rfl) (d := 56) (v := (.int .i64 ((((L.take i).countP (forP kind round h) : Nat) : Int)))) rfl (by kernel_rfl) ?_
    refine wl_pure (wants0 rfl) (d := 8) (v := (.int .i64 ((((L.take i).countP (forP kind round h) : Nat) : Int)))) rfl (by kernel_rfl) ?_
    refine w_nil ?_
    refine then_normal ?_
    refine w_ret ?_
    refine end1 rfl (res_tmp (v := (.int .i64 ((((L.take i).countP (forP kind round h) : Nat) : Int)))) rfl) ?_
    exact ⟨by rw [List.take_of_length_le (by omega)]; rfl, H7.upd 0 rfl [] (fun _ h => h.elim)⟩

set_option maxRecDepth 100000 in
set_option maxHeartbeats 400000 in
theorem refAll_any (w : World) (r : Nat) (v : Value) (f c : Int) (L : List VoteD) (hT : (rtC r v f c L).ok w) (hl : L.length ≤ 1000000) (kind round : Int) :
    Calls Try.prog 27 #[(.pointer (some ⟨r, 0, none⟩)), (.int .i64 (kind)), (.int .i64 (round))] w fun e w' => e = .returned (.int .i64 (allV L kind round)) ∧ Upd [] w w' := by
  obtain ⟨hcell, hrow⟩ := rtC_parts hT
  have H := Sat.start0 w
  refine calls_fr Try.func27 rfl 43 rfl (Nat.le_of_ble_eq_true rfl) ?_
  refine w_seq ?_
  refine w_lit ?_
  refine wl_pure (wants0 rfl) (d := 6) (v := (.int .i64 (0))) rfl (by kernel_rfl) ?_
  refine w_nil ?_
  refine then_normal ?_
  refine w_seq ?_
  refine w_lit ?_
  refine wl_pure (wants0 rfl) (d := 7) (v := (.int .i64 (0))) rfl (by kernel_rfl) ?_
  refine w_nil ?_
  refine then_normal ?_
  refine w_seq ?_
  refine w_seq ?_
  refine w_lit ?_
  refine wl_pure (wants0 rfl) (d := 9) (v := (.pointer (some ⟨r, 0, none⟩))) rfl (by kernel_rfl) ?_
  refine wl_pure (wants0 rfl) (d := 10) (v := (.pointer (some ⟨r, 0, none⟩))) rfl (by kernel_rfl) ?_
  refine wl_pure (wants0 rfl) (d := 11) (v := (.pointer (some ⟨r, 2, none⟩))) rfl (by kernel_rfl) ?_
  refine wl_pure (wants0 rfl) (d := 12) (v := v) rfl (e_load1 rfl (by kernel_rfl) (H.roCell 0 rfl hcell (fun h => h) rfl)) ?_
  refine wl_pure (wants0 rfl) (d := 13) (v := (.int .i64 ((L.length : Int)))) rfl (e_lenRow (E := 77) (by kernel_rfl) hrow rfl) ?_
  refine wl_pure (wants0 rfl) (d := 14) (v := (.int .i64 (0))) rfl (by kernel_rfl) ?_
  refine w_nil ?_
  refine then_normal ?_
  refine w_block ?_
  refine wp_round [7, 8, 14, 15, 16, 17, 18, 19, 20, 21, 22, 23, 24, 25, 26, 27, 28, 29, 30, 31, 32, 33, 34, 35, 36, 37, 38, 39, 40, 41] (fun F_ W_ m_ => ∃ (i : Nat), F_ 14 = (.int .i64 ((i : Int))) ∧ F_ 7 = (.int .i64 ((((L.take i).countP (allP kind round) : Nat) : Int))) ∧ (i ≤ L.length) ∧ Sat w [restC w (fun _ => False)] W_ ∧ m_ = L.length - i) _ ⟨0, (by first | rfl | go_num), (by first | rfl | go_num), by omega, H, rfl⟩ ?_
  rintro g1 w2 _ ⟨i, v4, v5, hi, H3, rfl⟩
  refine wp_know 14 _ v4 ?_
  refine wp_know 7 _ v5 ?_
  refine w_seq ?_
  refine w_lit ?_
  refine wl_pure (wants0 rfl) (d := 15) (v := (.bool (decide ((i : Int) < (L.length : Int))))) rfl (by kernel_rfl) ?_
  refine w_nil ?_
  refine then_normal ?_
  refine w_seq ?_
  refine (bsplit (decide ((i : Int) < (L.length : Int)))).elim (fun b7 => ?_) (fun b7 => ?_)
  · have g8 := of_decide_eq_true b7
    refine wp_know 15 (.bool true) (congrArg Value.bool b7) ?_
    refine wp_ift rfl ?_
    refine w_skip ?_
    refine then_normal ?_
    refine w_seq ?_
    refine w_block ?_
    refine w_seq ?_
    obtain ⟨g, cp, hv⟩ := row_shape hrow (by omega)
    obtain ⟨x, hx⟩ := get_at (show i < L.length by omega)
    refine w_lit ?_
    refine wl_pure (wants0 rfl) (d := 16) (v := (.int .i64 ((i : Int)))) rfl (by kernel_rfl) ?_
    refine wl_pure (wants0 rfl) (d := 8) (v := (.int .i64 ((i : Int)))) rfl (by kernel_rfl) ?_
    refine w_nil ?_
    refine then_normal ?_
    refine w_seq ?_
    refine w_lit ?_
    refine wl_pure (wants0 rfl) (d := 17) (v := (.pointer (some ⟨r, 0, none⟩))) rfl (by kernel_rfl) ?_
    refine wl_pure (wants0 rfl) (d := 18) (v := (.pointer (some ⟨r, 0, none⟩))) rfl (by kernel_rfl) ?_
    refine wl_pure (wants0 rfl) (d := 19) (v := (.pointer (some ⟨r, 2, none⟩))) rfl (by kernel_rfl) ?_
    refine wl_pure (wants0 rfl) (d := 20) (v := v) rfl (e_load1 rfl (by kernel_rfl) (H3.roCell 0 rfl hcell (fun h => h) rfl)) ?_
    refine wl_pure (wants0 rfl) (d := 21) (v := (.int .i64 ((i : Int)))) rfl (by kernel_rfl) ?_
    refine wl_pure (wants0 rfl) (d := 22) (v := (.pointer (some ⟨g, 0 + ((i : Int)).toNat * 35, none⟩))) rfl (e_indexAddrV (E := 77) (by kernel_rfl) (by kernel_rfl) (Nat.le_of_ble_eq_true rfl) rfl hv rfl (by omega) (by omega)) ?_
    refine wl_pure (wants0 rfl) (d := 23) (v := (.pointer (some ⟨g, 0 + ((i : Int)).toNat * 35, none⟩))) rfl (by kernel_rfl) ?_
    refine wl_pure (wants0 rfl) (d := 24) (v := (.int .i64 (x.kind))) rfl (e_load1 rfl (by kernel_rfl) (H3.cellR 0 rfl (rows_cell hrow hv encV_len hx 0 rfl (show 0 + ((i : Int)).toNat * 35 = i * 35 + 0 by omega) rfl) (fun h => h))) ?_
    refine wl_pure (wants0 rfl) (d := 25) (v := (.int .i64 (kind))) rfl (by kernel_rfl) ?_
    refine wl_pure (wants0 rfl) (d := 26) (v := (.bool (decide (x.kind = kind)))) rfl (by kernel_rfl) ?_
    refine wl_pure (wants0 rfl) (d := 27) (v := (.bool (decide (x.kind = kind)))) rfl (by kernel_rfl) ?_
    refine (bsplit (decide (x.kind = kind))).elim (fun b9 => ?_) (fun b9 => ?_)
    · have g10 := of_decide_eq_true b9
      refine wl_know 27 (.bool true) (congrArg Value.bool b9) ?_
      refine wl_pure (wantsY 10 27 true rfl (by kernel_rfl) rfl (by kernel_rfl)) (d := 28) (v := (.pointer (some ⟨r, 0, none⟩))) rfl (by kernel_rfl) ?_
      refine wl_pure (wantsY 10 27 true rfl (by kernel_rfl) rfl (by kernel_rfl)) (d := 29) (v := (.pointer (some ⟨r, 0, none⟩))) rfl (by kernel_rfl) ?_
      refine wl_pure (wantsY 10 27 true rfl (by kernel_rfl) rfl (by kernel_rfl)) (d := 30) (v := (.pointer (some ⟨r, 2, none⟩))) rfl (by kernel_rfl) ?_
      refine wl_pure (wantsY 10 27 true rfl (by kernel_rfl) rfl (by kernel_rfl)) (d := 31) (v := v) rfl (e_load1 rfl (by kernel_rfl) (H3.roCell 0 rfl hcell (fun h => h) rfl)) ?_
      refine wl_pure (wantsY 10 27 true rfl (by kernel_rfl) rfl (by kernel_rfl)) (d := 32) (v := (.int .i64 ((i : Int)))) rfl (by kernel_rfl) ?_
      refine wl_pure (wantsY 10 27 true rfl (by kernel_rfl) rfl (by kernel_rfl)) (d := 33) (v := (.pointer (some ⟨g, 0 + ((i : Int)).toNat * 35, none⟩))) rfl (e_indexAddrV (E := 77) (by kernel_rfl) (by kernel_rfl) (Nat.le_of_ble_eq_true rfl) rfl hv rfl (by omega) (by omega)) ?_
      refine wl_pure (wantsY 10 27 true rfl (by kernel_rfl) rfl (by kernel_rfl)) (d := 34) (v := (.pointer (some ⟨g, 0 + ((i : Int)).toNat * 35 + 1, none⟩))) rfl (by kernel_rfl) ?_
      refine wl_pure (wantsY 10 27 true rfl (by kernel_rfl) rfl (by kernel_rfl)) (d := 35) (v := (.int .i64 (x.round))) rfl (e_load1 rfl (by kernel_rfl) (H3.cellR 0 rfl (rows_cell hrow hv encV_len hx 1 rfl (show 0 + ((i : Int)).toNat * 35 + 1 = i * 35 + 1 by omega) rfl) (fun h => h))) ?_
      refine wl_pure (wantsY 10 27 true rfl (by kernel_rfl) rfl (by kernel_rfl)) (d := 36) (v := (.int .i64 (round))) rfl (by kernel_rfl) ?_
      refine wl_pure (wantsY 10 27 true rfl (by kernel_rfl) rfl (by kernel_rfl)) (d := 37) (v := (.bool (decide (x.round = round)))) rfl (by kernel_rfl) ?_
      refine wl_pure (wants0 rfl) (d := 38) (v := (.bool (decide (x.round = round)))) rfl (by kernel_rfl) ?_
      refine w_nil ?_
      refine then_normal ?_
      refine (bsplit (decide (x.round = round))).elim (fun b11 => ?_) (fun b11 => ?_)
      · have g12 := of_decide_eq_true b11
        refine wp_know 38 (.bool true) (congrArg Value.bool b11) ?_
        refine wp_ift rfl ?_
        refine w_lit ?_
        refine wl_pure (wants0 rfl) (d := 39) (v := (.int .i64 ((((L.take i).countP (allP kind round) : Nat) : Int)))) rfl (by kernel_rfl) ?_
        refine wl_pure (wants0 rfl) (d := 40) (v := (.int .i64 ((((L.take i).countP (allP kind round) : Nat) : Int) + 1))) rfl (e_int (z := (((L.take i).countP (allP kind round) : Nat) : Int) + 1) (by kernel_rfl) (IntWalk.i64_in _ (by have := take_count_le L i (allP kind round); omega))) ?_
        refine wl_pure (wants0 rfl) (d := 7) (v := (.int .i64 ((((L.take i).countP (allP kind round) : Nat) : Int) + 1))) rfl (by kernel_rfl) ?_
        refine w_nil ?_
        refine blk_normal ?_
        refine then_normal ?_
        refine w_lit ?_
        refine wl_pure (wants0 rfl) (d := 41) (v := (.int .i64 ((i : Int) + 1))) rfl (e_int (z := (i : Int) + 1) (by kernel_rfl) (IntWalk.i64_in _ (by have := take_count_le L i (allP kind round); omega))) ?_
        refine wl_pure (wants0 rfl) (d := 14) (v := (.int .i64 ((i : Int) + 1))) rfl (by kernel_rfl) ?_
        refine w_nil ?_
        refine round_back ?_ _ ⟨(i + 1), (show ((.int .i64 ((i : Int) + 1)) : Value) = _ by first | rfl | go_num), (show ((.int .i64 ((((L.take i).countP (allP kind round) : Nat) : Int) + 1)) : Value) = _ by rw [take_count hx]; simp [allP, b9, b11]), by omega, H3, rfl⟩ (by omega)
        exact (same_upd rfl (same_upd rfl (same_upd rfl (same_upd rfl (same_upd rfl (same_upd rfl (same_upd rfl (same_upd rfl (same_upd rfl (same_upd rfl (same_upd rfl (same_upd rfl (same_upd rfl (same_upd rfl (same_upd rfl (same_upd rfl (same_upd rfl (same_upd rfl (same_upd rfl (same_upd rfl (same_upd rfl (same_upd rfl (same_upd rfl (same_upd rfl (same_upd rfl (same_upd rfl (same_upd rfl (same_upd rfl (same_upd rfl (same_upd rfl (same_upd rfl (same_upd rfl (same_upd rfl (same_upd rfl (same_upd rfl (same_ovr))))))))))))))))))))))))))))))))))))
      · have g13 := of_decide_eq_false b11
        refine wp_know 38 (.bool false) (congrArg Value.bool b11) ?_
        refine wp_iff rfl ?_
        refine w_skip ?_
        refine blk_normal ?_
        refine then_normal ?_
        refine w_lit ?_
        refine wl_pure (wants0 rfl) (d := 41) (v := (.int .i64 ((i : Int) + 1))) rfl (e_int (z := (i : Int) + 1) (by kernel_rfl) (IntWalk.i64_in _ (by have := take_count_le L i (allP kind round); omega))) ?_
        refine wl_pure (wants0 rfl) (d := 14) (v := (.int .i64 ((i : Int) + 1))) rfl (by kernel_rfl) ?_
        refine w_nil ?_
        refine round_back ?_ _ ⟨(i + 1), (show ((.int .i64 ((i : Int) + 1)) : Value) = _ by first | rfl | go_num), (show ((.int .i64 ((((L.take i).countP (allP kind round) : Nat) : Int))) : Value) = _ by rw [take_count hx]; simp [allP, b9, b11]), by omega, H3, rfl⟩ (by omega)
        exact (same_upd rfl (same_upd rfl (same_upd rfl (same_upd rfl (same_upd rfl (same_upd rfl (same_upd rfl (same_upd rfl (same_upd rfl (same_upd rfl (same_upd rfl (same_upd rfl (same_upd rfl (same_upd rfl (same_upd rfl (same_upd rfl (same_upd rfl (same_upd rfl (same_upd rfl (same_upd rfl (same_upd rfl (same_upd rfl (same_upd rfl (same_upd rfl (same_upd rfl (same_upd rfl (same_upd rfl (same_upd rfl (same_upd rfl (same_upd rfl (same_upd rfl (same_upd rfl (same_ovr)))))))))))))))))))))))))))))))))
    · have g14 := of_decide_eq_false b9
      refine wl_know 27 (.bool false) (congrArg Value.bool b9) ?_
      refine wl_pass (wantsN 10 27 true rfl (by kernel_rfl) rfl (by kernel_rfl)) rfl ?_
      refine wl_pass (wantsN 10 27 true rfl (by kernel_rfl) rfl (by kernel_rfl)) rfl ?_
      refine wl_pass (wantsN 10 27 true rfl (by kernel_rfl) rfl (by kernel_rfl)) rfl ?_
      refine wl_pass (wantsN 10 27 true rfl (by kernel_rfl) rfl (by kernel_rfl)) rfl ?_
      refine wl_pass (wantsN 10 27 true rfl (by kernel_rfl) rfl (by kernel_rfl)) rfl ?_
      refine wl_pass (wantsN 10 27 true rfl (by kernel_rfl) rfl (by kernel_rfl)) rfl ?_
      refine wl_pass (wantsN 10 27 true rfl (by kernel_rfl) rfl (by kernel_rfl)) rfl ?_
      refine wl_pass (wantsN 10 27 true rfl (by kernel_rfl) rfl (by kernel_rfl)) rfl ?_
      refine wl_pass (wantsN 10 27 true rfl (by kernel_rfl) rfl (by kernel_rfl)) rfl ?_
      refine wl_pass (wantsN 10 27 true rfl (by kernel_rfl) rfl (by kernel_rfl)) rfl ?_
      refine wl_pure (wants0 rfl) (d := 38) (v := (.bool false)) rfl (by kernel_rfl) ?_
      refine w_nil ?_
      refine then_normal ?_
      refine wp_iff rfl ?_
      refine w_skip ?_
      refine blk_normal ?_
      refine then_normal ?_
      refine w_lit ?_
      refine wl_pure (wants0 rfl) (d := 41) (v := (.int .i64 ((i : Int) + 1))) rfl (e_int (z := (i : Int) + 1) (by kernel_rfl) (IntWalk.i64_in _ (by have := take_count_le L i (allP kind round); omega))) ?_
      refine wl_pure (wants0 rfl) (d := 14) (v := (.int .i64 ((i : Int) + 1))) rfl (by kernel_rfl) ?_
      refine w_nil ?_
      refine round_back ?_ _ ⟨(i + 1), (show ((.int .i64 ((i : Int) + 1)) : Value) = _ by first | rfl | go_num), (show ((.int .i64 ((((L.take i).countP (allP kind round) : Nat) : Int))) : Value) = _ by rw [take_count hx]; simp [allP, b9]), by omega, H3, rfl⟩ (by omega)
      exact (same_upd rfl (same_upd rfl (same_upd rfl (same_upd rfl (same_upd rfl (same_upd rfl (same_upd rfl (same_upd rfl (same_upd rfl (same_upd rfl (same_upd rfl (same_upd rfl (same_upd rfl (same_upd rfl (same_upd rfl (same_upd rfl (same_upd rfl (same_upd rfl (same_upd rfl (same_upd rfl (same_upd rfl (same_upd rfl (same_upd rfl (same_upd rfl (same_upd rfl (same_upd rfl (same_upd rfl (same_upd rfl (same_upd rfl (same_upd rfl (same_upd rfl (same_ovr))))))))))))))))))))))))))))))))
  · have g15 := of_decide_eq_false b7
    refine wp_know 15 (.bool false) (congrArg Value.bool b7) ?_
    refine wp_iff rfl ?_
    refine w_exit ?_
    refine then_exit ?_
    refine back_exit ?_
    refine blk_hit ?_
    refine then_normal ?_
    refine w_seq ?_
    refine w_lit ?_
    refine wl_pure (wants0 rfl) (d := 42) (v := (.int .i64 ((((L.take i).countP (allP kind round) : Nat) : Int)))) rfl (by kernel_rfl) ?_
    refine wl_pure (wants0 rfl) (d := 6) (v := (.int .i64 ((((L.take i).countP (allP kind round) : Nat) : Int)))) rfl (by kernel_rfl) ?_
    refine w_nil ?_
    refine then_normal ?_
    refine w_ret ?_
    refine end1 rfl (res_tmp (v := (.int .i64 ((((L.take i).countP (allP kind round) : Nat) : Int)))) rfl) ?_
    exact ⟨by rw [List.take_of_length_le (by omega)]; rfl, H3.upd 0 rfl [] (fun _ h => h.elim)⟩

set_option maxRecDepth 100000 in
set_option maxHeartbeats 400000 in
theorem refCopy_any (w : World) (r : Nat) (v : Value) (f c : Int) (L : List VoteD) (hT : (rtC r v f c L).ok w) (hl : L.length ≤ 1000000) :
    Calls Try.prog 21 #[(.pointer (some ⟨r, 0, none⟩))] w fun e w' => ∃ q u, e = .returned (.pointer (some ⟨q, 0, none⟩)) ∧ (rtC q u f c L).ok w' ∧ Upd [] w w' ∧ ∀ b, (rtC q u f c L).fp b → w.heap.size ≤ b := by
  obtain ⟨hcell, hrow⟩ := rtC_parts hT
  have H := Sat.start0 w
  refine calls_fr Try.func21 rfl 14 rfl (Nat.le_of_ble_eq_true rfl) ?_
  refine w_seq ?_
  refine w_lit ?_
  refine wl_pure (wants0 rfl) (d := 2) (v := (.pointer none)) rfl (by kernel_rfl) ?_
  refine w_nil ?_
  refine then_normal ?_
  refine w_seq ?_
  refine h_start H [restC w (fun _ => False)] 12 rfl (by kernel_rfl) (fun Hx => (Hx.pick [0] (by decide))) ?_
  intro w1 H2 S3
  refine h_val 0 rfl (by kernel_rfl) (by kernel_rfl) (by kernel_rfl) (fun _ _ _ h => h) S3 (wants0 rfl) (d := 3) (v := (.pointer (some ⟨r, 0, none⟩))) rfl (fun _ H' => (by kernel_rfl)) ?_
  refine h_val 1 rfl (by kernel_rfl) (by kernel_rfl) (by kernel_rfl) (fun _ _ _ h => h) S3 (wants0 rfl) (d := 4) (v := (.pointer (some ⟨r, 0, none⟩))) rfl (fun _ H' => (by kernel_rfl)) ?_
  refine h_val 2 rfl (by kernel_rfl) (by kernel_rfl) (by kernel_rfl) (fun _ _ _ h => h) S3 (wants0 rfl) (d := 5) (v := (.pointer (some ⟨r, 0, none⟩))) rfl (fun _ H' => (by kernel_rfl)) ?_
  refine h_val 3 rfl (by kernel_rfl) (by kernel_rfl) (by kernel_rfl) (fun _ _ _ h => h) S3 (wants0 rfl) (d := 6) (v := (.agg ⟨([(.int .i64 (f)), (.int .i64 (c))] : List Value)⟩)) rfl (fun _ H' => (e_loadN (vs := ([(.int .i64 (f)), (.int .i64 (c))] : List Value)) rfl (by kernel_rfl) (by kernel_rfl) (by exact Nat.le_of_ble_eq_true (by kernel_rfl)) (H'.roCells 0 rfl hcell (fun h => h)) (by kernel_rfl))) ?_
  refine h_val 4 rfl (by kernel_rfl) (by kernel_rfl) (by kernel_rfl) (fun _ _ _ h => h) S3 (wants0 rfl) (d := 7) (v := (.pointer (some ⟨r, 0, none⟩))) rfl (fun _ H' => (by kernel_rfl)) ?_
  refine h_val 5 rfl (by kernel_rfl) (by kernel_rfl) (by kernel_rfl) (fun _ _ _ h => h) S3 (wants0 rfl) (d := 8) (v := (.pointer (some ⟨r, 0, none⟩))) rfl (fun _ H' => (by kernel_rfl)) ?_
  refine h_val 6 rfl (by kernel_rfl) (by kernel_rfl) (by kernel_rfl) (fun _ _ _ h => h) S3 (wants0 rfl) (d := 9) (v := (.pointer (some ⟨r, 2, none⟩))) rfl (fun _ H' => (by kernel_rfl)) ?_
  refine h_val 7 rfl (by kernel_rfl) (by kernel_rfl) (by kernel_rfl) (fun _ _ _ h => h) S3 (wants0 rfl) (d := 10) (v := v) rfl (fun _ H' => (e_load1 rfl (by kernel_rfl) (H'.roCell 0 rfl hcell (fun h => h) rfl))) ?_
  refine h_do 8 rfl (by kernel_rfl) (wants0 rfl) (fun K4 hK4 => ?_)
  refine d_appendNil (T := 48) (e := 77) (size := 35) (bytes := 56) rfl H2 (by kernel_rfl) (H2.roCk 0 rfl hrow (fun _ _ h => h)) rfl rfl (flat_one encV encV_one L) (by omega) (by omega) ?_
  intro v5 w6 (H7 : Sat w [restC w (fun _ => False), rowC 77 35 v5 L.length (L.flatMap encV)] w6)
  obtain ⟨a8, c9, rfl⟩ := ownsRow_shape (H7.at 1 rfl)
  have S10 := H7.pick [0] (by decide)
  refine hK4 _ _ S10 ?_
  clear hK4 K4
  refine h_val 9 rfl (by kernel_rfl) (by kernel_rfl) (by kernel_rfl) (fun _ _ _ h => h) S10 (wants0 rfl) (d := 12) (v := (.agg ⟨([(.int .i64 (f)), (.int .i64 (c)), (.slice a8 L.length c9)] : List Value)⟩)) rfl (fun _ H' => (by kernel_rfl)) ?_
  refine h_do 10 rfl (by kernel_rfl) (wants0 rfl) (fun K11 hK11 => ?_)
  refine d_box (vs := ([(.int .i64 (f)), (.int .i64 (c)), (.slice a8 L.length c9)] : List Value)) rfl H7 rfl rfl ?_
  intro b12 w13 (H14 : Sat w [restC w (fun _ => False), rowC 77 35 (.slice a8 L.length c9) L.length (L.flatMap encV), cellC b12 50 ([(.int .i64 (f)), (.int .i64 (c)), (.slice a8 L.length c9)] : List Value)] w13)
  have S15 := H14.pick [0] (by decide)
  refine hK11 _ _ S15 ?_
  clear hK11 K11
  refine h_val 11 rfl (by kernel_rfl) (by kernel_rfl) (by kernel_rfl) (fun _ _ _ h => h) S15 (wants0 rfl) (d := 2) (v := (.pointer (some ⟨b12, 0, none⟩))) rfl (fun _ H' => (by kernel_rfl)) ?_
  refine h_fin (by kernel_rfl) ?_
  refine then_normal ?_
  refine w_ret ?_
  refine end1 rfl (res_tmp (v := (.pointer (some ⟨b12, 0, none⟩))) rfl) ?_
  exact ⟨_, _, rfl, H14.fin [2, 1] (by decide) rfl, H14.upd 0 rfl [] (fun _ h => h.elim), H14.freshS 0 rfl (fun _ h => h) [2, 1] rfl rfl⟩

set_option maxRecDepth 100000 in
set_option maxHeartbeats 1000000 in
theorem refAdd_any (w : World) (r : Nat) (v : Value) (f c : Int) (L : List VoteD) (hT : (rtC r v f c L).ok w) (hl : L.length ≤ 1000000) (hf : 1 ≤ f ∧ f ≤ 21) (kind round replica : Int) (h : Hash) :
    Calls Try.prog 25 #[(.pointer (some ⟨r, 0, none⟩)), (.int .i64 (kind)), (.int .i64 (round)), (.int .i64 (replica)), (.agg ⟨(hc h)⟩)] w fun e w' => e = .returned (.bool (okV f L kind round replica)) ∧ ∃ u, (rtC r u f c (addV f L (⟨kind, round, replica, h⟩ : VoteD))).ok w' ∧ Upd [r] w w' ∧ ∀ b, (rtC r u f c (addV f L (⟨kind, round, replica, h⟩ : VoteD))).fp b → (rtC r v f c L).fp b ∨ w.heap.size ≤ b := by
  obtain ⟨hcell, hrow⟩ := rtC_parts hT
  have hdis := rtC_dis hT
  have H : Sat w [cellC r 50 ([(.int .i64 (f)), (.int .i64 (c)), v] : List Value), restC w (cellC r 50 ([(.int .i64 (f)), (.int .i64 (c)), v] : List Value)).fp] w := Sat.start1 hcell
  refine calls_fr Try.func25 rfl 97 rfl (Nat.le_of_ble_eq_true rfl) ?_
  refine w_seq ?_
  refine w_lit ?_
  refine wl_do (wants0 rfl) (fun K1 hK1 => ?_)
  refine d_box (vs := (hc h)) rfl H rfl rfl ?_
  intro b2 w3 (H4 : Sat w [cellC r 50 ([(.int .i64 (f)), (.int .i64 (c)), v] : List Value), restC w (cellC r 50 ([(.int .i64 (f)), (.int .i64 (c)), v] : List Value)).fp, cellC b2 24 (hc h)] w3)
  refine hK1 _ _ ?_
  clear hK1 K1
  refine wl_pure (wants0 rfl) (d := 10) (v := (.bool false)) rfl (by kernel_rfl) ?_
  refine w_nil ?_
  refine then_normal ?_
  refine w_seq ?_
  refine wp_meetR [12, 13, 14, 15, 16, 17, 18, 19, 20, 21, 22, 23, 24, 25, 26, 27, 28, 29, 30, 31, 32, 33, 34, 35, 36, 37, 38] (fun G_ W_ => G_ 38 = (.bool (badArg f kind round replica)) ∧ Sat w [cellC r 50 ([(.int .i64 (f)), (.int .i64 (c)), v] : List Value), restC w (cellC r 50 ([(.int .i64 (f)), (.int .i64 (c)), v] : List Value)).fp, cellC b2 24 (hc h)] W_) ?_ ?_
  · refine w_lit ?_
    refine wl_pure (wants0 rfl) (d := 12) (v := (.int .i64 (kind))) rfl (by kernel_rfl) ?_
    refine wl_pure (wants0 rfl) (d := 13) (v := (.bool (decide (kind < 1)))) rfl (by kernel_rfl) ?_
    refine wl_pure (wants0 rfl) (d := 14) (v := (.bool (decide (kind < 1)))) rfl (by kernel_rfl) ?_
    refine (bsplit (decide (kind < 1))).elim (fun b6 => ?_) (fun b6 => ?_)
    · have g7 := of_decide_eq_true b6
      refine wl_know 14 (.bool true) (congrArg Value.bool b6) ?_
      refine wl_pass (wantsN 2 14 false rfl (by kernel_rfl) rfl (by kernel_rfl)) rfl ?_
      refine wl_pass (wantsN 2 14 false rfl (by kernel_rfl) rfl (by kernel_rfl)) rfl ?_
      refine wl_pure (wants0 rfl) (d := 17) (v := (.bool true)) rfl (by kernel_rfl) ?_
      refine wl_pure (wants0 rfl) (d := 18) (v := (.bool true)) rfl (by kernel_rfl) ?_
      refine wl_pass (wantsN 6 18 false rfl (by kernel_rfl) rfl (by kernel_rfl)) rfl ?_
      refine wl_pass (wantsN 6 18 false rfl (by kernel_rfl) rfl (by kernel_rfl)) rfl ?_
      refine wl_pure (wants0 rfl) (d := 21) (v := (.bool true)) rfl (by kernel_rfl) ?_
      refine wl_pure (wants0 rfl) (d := 22) (v := (.bool true)) rfl (by kernel_rfl) ?_
      refine wl_pass (wantsN 10 22 false rfl (by kernel_rfl) rfl (by kernel_rfl)) rfl ?_
      refine wl_pass (wantsN 10 22 false rfl (by kernel_rfl) rfl (by kernel_rfl)) rfl ?_
      refine wl_pure (wants0 rfl) (d := 25) (v := (.bool true)) rfl (by kernel_rfl) ?_
      refine wl_pure (wants0 rfl) (d := 26) (v := (.bool true)) rfl (by kernel_rfl) ?_
      refine wl_pass (wantsN 14 26 false rfl (by kernel_rfl) rfl (by kernel_rfl)) rfl ?_
      refine wl_pass (wantsN 14 26 false rfl (by kernel_rfl) rfl (by kernel_rfl)) rfl ?_
      refine wl_pure (wants0 rfl) (d := 29) (v := (.bool true)) rfl (by kernel_rfl) ?_
      refine wl_pure (wants0 rfl) (d := 30) (v := (.bool true)) rfl (by kernel_rfl) ?_
      refine wl_pass (wantsN 18 30 false rfl (by kernel_rfl) rfl (by kernel_rfl)) rfl ?_
      refine wl_pass (wantsN 18 30 false rfl (by kernel_rfl) rfl (by kernel_rfl)) rfl ?_
      refine wl_pass (wantsN 18 30 false rfl (by kernel_rfl) rfl (by kernel_rfl)) rfl ?_
      refine wl_pass (wantsN 18 30 false rfl (by kernel_rfl) rfl (by kernel_rfl)) rfl ?_
      refine wl_pass (wantsN 18 30 false rfl (by kernel_rfl) rfl (by kernel_rfl)) rfl ?_
      refine wl_pass (wantsN 18 30 false rfl (by kernel_rfl) rfl (by kernel_rfl)) rfl ?_
      refine wl_pass (wantsN 18 30 false rfl (by kernel_rfl) rfl (by kernel_rfl)) rfl ?_
      refine wl_pure (wants0 rfl) (d := 38) (v := (.bool true)) rfl (by kernel_rfl) ?_
      refine w_nil ?_
      refine meetR_at ?_ ⟨(congrArg Value.bool (show true = (badArg f kind round replica) by (cases hq : badArg f kind round replica <;> simp [badArg, inB] at hq <;> first | rfl | (exfalso; omega) | (simp; omega)))), H4⟩
      exact (same_upd rfl (same_upd rfl (same_upd rfl (same_upd rfl (same_upd rfl (same_upd rfl (same_upd rfl (same_upd rfl (same_upd rfl (same_upd rfl (same_upd rfl (same_upd rfl (same_upd rfl (same_upd rfl (same_upd rfl (same_upd rfl (same_upd rfl (same_upd rfl (same_upd rfl (same_upd rfl (same_upd rfl (same_upd rfl (same_upd rfl (same_upd rfl (same_upd rfl (same_upd rfl (same_upd rfl (same_upd rfl (same_refl)))))))))))))))))))))))))))))
    · have g8 := of_decide_eq_false b6
      refine wl_know 14 (.bool false) (congrArg Value.bool b6) ?_
      refine wl_pure (wantsY 2 14 false rfl (by kernel_rfl) rfl (by kernel_rfl)) (d := 15) (v := (.int .i64 (kind))) rfl (by kernel_rfl) ?_
      refine wl_pure (wantsY 2 14 false rfl (by kernel_rfl) rfl (by kernel_rfl)) (d := 16) (v := (.bool (decide (kind > 2)))) rfl (by kernel_rfl) ?_
      refine wl_pure (wants0 rfl) (d := 17) (v := (.bool (decide (kind > 2)))) rfl (by kernel_rfl) ?_
      refine wl_pure (wants0 rfl) (d := 18) (v := (.bool (decide (kind > 2)))) rfl (by kernel_rfl) ?_
      refine (bsplit (decide (kind > 2))).elim (fun b9 => ?_) (fun b9 => ?_)
      · have g10 := of_decide_eq_true b9
        refine wl_know 18 (.bool true) (congrArg Value.bool b9) ?_
        refine wl_pass (wantsN 6 18 false rfl (by kernel_rfl) rfl (by kernel_rfl)) rfl ?_
        refine wl_pass (wantsN 6 18 false rfl (by kernel_rfl) rfl (by kernel_rfl)) rfl ?_
        refine wl_pure (wants0 rfl) (d := 21) (v := (.bool true)) rfl (by kernel_rfl) ?_
        refine wl_pure (wants0 rfl) (d := 22) (v := (.bool true)) rfl (by kernel_rfl) ?_
        refine wl_pass (wantsN 10 22 false rfl (by kernel_rfl) rfl (by kernel_rfl)) rfl ?_
        refine wl_pass (wantsN 10 22 false rfl (by kernel_rfl) rfl (by kernel_rfl)) rfl ?_
        refine wl_pure (wants0 rfl) (d := 25) (v := (.bool true)) rfl (by kernel_rfl) ?_
        refine wl_pure (wants0 rfl) (d := 26) (v := (.bool true)) rfl (by kernel_rfl) ?_
        refine wl_pass (wantsN 14 26 false rfl (by kernel_rfl) rfl (by kernel_rfl)) rfl ?_
        refine wl_pass (wantsN 14 26 false rfl (by kernel_rfl) rfl (by kernel_rfl)) rfl ?_
        refine wl_pure (wants0 rfl) (d := 29) (v := (.bool true)) rfl (by kernel_rfl) ?_
        refine wl_pure (wants0 rfl) (d := 30) (v := (.bool true)) rfl (by kernel_rfl) ?_
        refine wl_pass (wantsN 18 30 false rfl (by kernel_rfl) rfl (by kernel_rfl)) rfl ?_
        refine wl_pass (wantsN 18 30 false rfl (by kernel_rfl) rfl (by kernel_rfl)) rfl ?_
        refine wl_pass (wantsN 18 30 false rfl (by kernel_rfl) rfl (by kernel_rfl)) rfl ?_
        refine wl_pass (wantsN 18 30 false rfl (by kernel_rfl) rfl (by kernel_rfl)) rfl ?_
        refine wl_pass (wantsN 18 30 false rfl (by kernel_rfl) rfl (by kernel_rfl)) rfl ?_
        refine wl_pass (wantsN 18 30 false rfl (by kernel_rfl) rfl (by kernel_rfl)) rfl ?_
        refine wl_pass (wantsN 18 30 false rfl (by kernel_rfl) rfl (by kernel_rfl)) rfl ?_
        refine wl_pure (wants0 rfl) (d := 38) (v := (.bool true)) rfl (by kernel_rfl) ?_
        refine w_nil ?_
        refine meetR_at ?_ ⟨(congrArg Value.bool (show true = (badArg f kind round replica) by (cases hq : badArg f kind round replica <;> simp [badArg, inB] at hq <;> first | rfl | (exfalso; omega) | (simp; omega)))), H4⟩
        exact (same_upd rfl (same_upd rfl (same_upd rfl (same_upd rfl (same_upd rfl (same_upd rfl (same_upd rfl (same_upd rfl (same_upd rfl (same_upd rfl (same_upd rfl (same_upd rfl (same_upd rfl (same_upd rfl (same_upd rfl (same_upd rfl (same_upd rfl (same_upd rfl (same_upd rfl (same_upd rfl (same_upd rfl (same_upd rfl (same_upd rfl (same_upd rfl (same_upd rfl (same_upd rfl (same_upd rfl (same_upd rfl (same_upd rfl (same_refl))))))))))))))))))))))))))))))
      · have g11 := of_decide_eq_false b9
        refine wl_know 18 (.bool false) (congrArg Value.bool b9) ?_
        refine wl_pure (wantsY 6 18 false rfl (by kernel_rfl) rfl (by kernel_rfl)) (d := 19) (v := (.int .i64 (round))) rfl (by kernel_rfl) ?_
        refine wl_pure (wantsY 6 18 false rfl (by kernel_rfl) rfl (by kernel_rfl)) (d := 20) (v := (.bool (decide (round < 0)))) rfl (by kernel_rfl) ?_
        refine wl_pure (wants0 rfl) (d := 21) (v := (.bool (decide (round < 0)))) rfl (by kernel_rfl) ?_
        refine wl_pure (wants0 rfl) (d := 22) (v := (.bool (decide (round < 0)))) rfl (by kernel_rfl) ?_
        refine (bsplit (decide (round < 0))).elim (fun b12 => ?_) (fun b12 => ?_)
        · have g13 := of_decide_eq_true b12
          refine wl_know 22 (.bool true) (congrArg Value.bool b12) ?_
          refine wl_pass (wantsN 10 22 false rfl (by kernel_rfl) rfl (by kernel_rfl)) rfl ?_
          refine wl_pass (wantsN 10 22 false rfl (by kernel_rfl) rfl (by kernel_rfl)) rfl ?_
          refine wl_pure (wants0 rfl) (d := 25) (v := (.bool true)) rfl (by kernel_rfl) ?_
          refine wl_pure (wants0 rfl) (d := 26) (v := (.bool true)) rfl (by kernel_rfl) ?_
          refine wl_pass (wantsN 14 26 false rfl (by kernel_rfl) rfl (by kernel_rfl)) rfl ?_
          refine wl_pass (wantsN 14 26 false rfl (by kernel_rfl) rfl (by kernel_rfl)) rfl ?_
          refine wl_pure (wants0 rfl) (d := 29) (v := (.bool true)) rfl (by kernel_rfl) ?_
          refine wl_pure (wants0 rfl) (d := 30) (v := (.bool true)) rfl (by kernel_rfl) ?_
          refine wl_pass (wantsN 18 30 false rfl (by kernel_rfl) rfl (by kernel_rfl)) rfl ?_
          refine wl_pass (wantsN 18 30 false rfl (by kernel_rfl) rfl (by kernel_rfl)) rfl ?_
          refine wl_pass (wantsN 18 30 false rfl (by kernel_rfl) rfl (by kernel_rfl)) rfl ?_
          refine wl_pass (wantsN 18 30 false rfl (by kernel_rfl) rfl (by kernel_rfl)) rfl ?_
          refine wl_pass (wantsN 18 30 false rfl (by kernel_rfl) rfl (by kernel_rfl)) rfl ?_
          refine wl_pass (wantsN 18 30 false rfl (by kernel_rfl) rfl (by kernel_rfl)) rfl ?_
          refine wl_pass (wantsN 18 30 false rfl (by kernel_rfl) rfl (by kernel_rfl)) rfl ?_
          refine wl_pure (wants0 rfl) (d := 38) (v := (.bool true)) rfl (by kernel_rfl) ?_
          refine w_nil ?_
          refine meetR_at ?_ ⟨(congrArg Value.bool (show true = (badArg f kind round replica) by (cases hq : badArg f kind round replica <;> simp [badArg, inB] at hq <;> first | rfl | (exfalso; omega) | (simp; omega)))), H4⟩
          exact (same_upd rfl (same_upd rfl (same_upd rfl (same_upd rfl (same_upd rfl (same_upd rfl (same_upd rfl (same_upd rfl (same_upd rfl (same_upd rfl (same_upd rfl (same_upd rfl (same_upd rfl (same_upd rfl (same_upd rfl (same_upd rfl (same_upd rfl (same_upd rfl (same_upd rfl (same_upd rfl (same_upd rfl (same_upd rfl (same_upd rfl (same_upd rfl (same_upd rfl (same_upd rfl (same_upd rfl (same_upd rfl (same_upd rfl (same_upd rfl (same_refl)))))))))))))))))))))))))))))))
        · have g14 := of_decide_eq_false b12
          refine wl_know 22 (.bool false) (congrArg Value.bool b12) ?_
          refine wl_pure (wantsY 10 22 false rfl (by kernel_rfl) rfl (by kernel_rfl)) (d := 23) (v := (.int .i64 (round))) rfl (by kernel_rfl) ?_
          refine wl_pure (wantsY 10 22 false rfl (by kernel_rfl) rfl (by kernel_rfl)) (d := 24) (v := (.bool (decide (round > 1048576)))) rfl (by kernel_rfl) ?_
          refine wl_pure (wants0 rfl) (d := 25) (v := (.bool (decide (round > 1048576)))) rfl (by kernel_rfl) ?_
          refine wl_pure (wants0 rfl) (d := 26) (v := (.bool (decide (round > 1048576)))) rfl (by kernel_rfl) ?_
          refine (bsplit (decide (round > 1048576))).elim (fun b15 => ?_) (fun b15 => ?_)
          · have g16 := of_decide_eq_true b15
            refine wl_know 26 (.bool true) (congrArg Value.bool b15) ?_
            refine wl_pass (wantsN 14 26 false rfl (by kernel_rfl) rfl (by kernel_rfl)) rfl ?_
            refine wl_pass (wantsN 14 26 false rfl (by kernel_rfl) rfl (by kernel_rfl)) rfl ?_
            refine wl_pure (wants0 rfl) (d := 29) (v := (.bool true)) rfl (by kernel_rfl) ?_
            refine wl_pure (wants0 rfl) (d := 30) (v := (.bool true)) rfl (by kernel_rfl) ?_
            refine wl_pass (wantsN 18 30 false rfl (by kernel_rfl) rfl (by kernel_rfl)) rfl ?_
            refine wl_pass (wantsN 18 30 false rfl (by kernel_rfl) rfl (by kernel_rfl)) rfl ?_
            refine wl_pass (wantsN 18 30 false rfl (by kernel_rfl) rfl (by kernel_rfl)) rfl ?_
            refine wl_pass (wantsN 18 30 false rfl (by kernel_rfl) rfl (by kernel_rfl)) rfl ?_
            refine wl_pass (wantsN 18 30 false rfl (by kernel_rfl) rfl (by kernel_rfl)) rfl ?_
            refine wl_pass (wantsN 18 30 false rfl (by kernel_rfl) rfl (by kernel_rfl)) rfl ?_
            refine wl_pass (wantsN 18 30 false rfl (by kernel_rfl) rfl (by kernel_rfl)) rfl ?_
            refine wl_pure (wants0 rfl) (d := 38) (v := (.bool true)) rfl (by kernel_rfl) ?_
            refine w_nil ?_
            refine meetR_at ?_ ⟨(congrArg Value.bool (show true = (badArg f kind round replica) by (cases hq : badArg f kind round replica <;> simp [badArg, inB] at hq <;> first | rfl | (exfalso; omega) | (simp; omega)))), H4⟩
            exact (same_upd rfl (same_upd rfl (same_upd rfl (same_upd rfl (same_upd rfl (same_upd rfl (same_upd rfl (same_upd rfl (same_upd rfl (same_upd rfl (same_upd rfl (same_upd rfl (same_upd rfl (same_upd rfl (same_upd rfl (same_upd rfl (same_upd rfl (same_upd rfl (same_upd rfl (same_upd rfl (same_upd rfl (same_upd rfl (same_upd rfl (same_upd rfl (same_upd rfl (same_upd rfl (same_upd rfl (same_upd rfl (same_upd rfl (same_upd rfl (same_upd rfl (same_refl))))))))))))))))))))))))))))))))
          · have g17 := of_decide_eq_false b15
            refine wl_know 26 (.bool false) (congrArg Value.bool b15) ?_
            refine wl_pure (wantsY 14 26 false rfl (by kernel_rfl) rfl (by kernel_rfl)) (d := 27) (v := (.int .i64 (replica))) rfl (by kernel_rfl) ?_
            refine wl_pure (wantsY 14 26 false rfl (by kernel_rfl) rfl (by kernel_rfl)) (d := 28) (v := (.bool (decide (replica < 0)))) rfl (by kernel_rfl) ?_
            refine wl_pure (wants0 rfl) (d := 29) (v := (.bool (decide (replica < 0)))) rfl (by kernel_rfl) ?_
            refine wl_pure (wants0 rfl) (d := 30) (v := (.bool (decide (replica < 0)))) rfl (by kernel_rfl) ?_
            refine (bsplit (decide (replica < 0))).elim (fun b18 => ?_) (fun b18 => ?_)
            · have g19 := of_decide_eq_true b18
              refine wl_know 30 (.bool true) (congrArg Value.bool b18) ?_
              refine wl_pass (wantsN 18 30 false rfl (by kernel_rfl) rfl (by kernel_rfl)) rfl ?_
              refine wl_pass (wantsN 18 30 false rfl (by kernel_rfl) rfl (by kernel_rfl)) rfl ?_
              refine wl_pass (wantsN 18 30 false rfl (by kernel_rfl) rfl (by kernel_rfl)) rfl ?_
              refine wl_pass (wantsN 18 30 false rfl (by kernel_rfl) rfl (by kernel_rfl)) rfl ?_
              refine wl_pass (wantsN 18 30 false rfl (by kernel_rfl) rfl (by kernel_rfl)) rfl ?_
              refine wl_pass (wantsN 18 30 false rfl (by kernel_rfl) rfl (by kernel_rfl)) rfl ?_
              refine wl_pass (wantsN 18 30 false rfl (by kernel_rfl) rfl (by kernel_rfl)) rfl ?_
              refine wl_pure (wants0 rfl) (d := 38) (v := (.bool true)) rfl (by kernel_rfl) ?_
              refine w_nil ?_
              refine meetR_at ?_ ⟨(congrArg Value.bool (show true = (badArg f kind round replica) by (cases hq : badArg f kind round replica <;> simp [badArg, inB] at hq <;> first | rfl | (exfalso; omega) | (simp; omega)))), H4⟩
              exact (same_upd rfl (same_upd rfl (same_upd rfl (same_upd rfl (same_upd rfl (same_upd rfl (same_upd rfl (same_upd rfl (same_upd rfl (same_upd rfl (same_upd rfl (same_upd rfl (same_upd rfl (same_upd rfl (same_upd rfl (same_upd rfl (same_upd rfl (same_upd rfl (same_upd rfl (same_upd rfl (same_upd rfl (same_upd rfl (same_upd rfl (same_upd rfl (same_upd rfl (same_upd rfl (same_upd rfl (same_upd rfl (same_upd rfl (same_upd rfl (same_upd rfl (same_upd rfl (same_refl)))))))))))))))))))))))))))))))))
            · have g20 := of_decide_eq_false b18
              refine wl_know 30 (.bool false) (congrArg Value.bool b18) ?_
              refine wl_pure (wantsY 18 30 false rfl (by kernel_rfl) rfl (by kernel_rfl)) (d := 31) (v := (.int .i64 (replica))) rfl (by kernel_rfl) ?_
              refine wl_pure (wantsY 18 30 false rfl (by kernel_rfl) rfl (by kernel_rfl)) (d := 32) (v := (.pointer (some ⟨r, 0, none⟩))) rfl (by kernel_rfl) ?_
              refine wl_pure (wantsY 18 30 false rfl (by kernel_rfl) rfl (by kernel_rfl)) (d := 33) (v := (.pointer (some ⟨r, 0, none⟩))) rfl (by kernel_rfl) ?_
              refine wl_pure (wantsY 18 30 false rfl (by kernel_rfl) rfl (by kernel_rfl)) (d := 34) (v := (.pointer (some ⟨r, 0, none⟩))) rfl (by kernel_rfl) ?_
              refine wl_pure (wantsY 18 30 false rfl (by kernel_rfl) rfl (by kernel_rfl)) (d := 35) (v := (.agg ⟨([(.int .i64 (f)), (.int .i64 (c))] : List Value)⟩)) rfl (e_loadN (vs := ([(.int .i64 (f)), (.int .i64 (c))] : List Value)) rfl (by kernel_rfl) (by kernel_rfl) (by exact Nat.le_of_ble_eq_true (by kernel_rfl)) (H4.at 0 rfl) (by kernel_rfl)) ?_
              refine wl_do (wantsY 18 30 false rfl (by kernel_rfl) rfl (by kernel_rfl)) (fun K21 hK21 => ?_)
              refine d_call (d := 36) rfl (by kernel_rfl) (refN_any w3 f c (by omega)) ?_
              rintro _ w22 ⟨rfl, u24⟩
              have H23 := H4.keepU u24
              refine ⟨_, rfl, ?_⟩
              refine hK21 _ _ ?_
              clear hK21 K21
              refine wl_pure (wantsY 18 30 false rfl (by kernel_rfl) rfl (by kernel_rfl)) (d := 37) (v := (.bool (decide (replica ≥ (3 * f + 1))))) rfl (by kernel_rfl) ?_
              refine wl_pure (wants0 rfl) (d := 38) (v := (.bool (decide (replica ≥ (3 * f + 1))))) rfl (by kernel_rfl) ?_
              refine w_nil ?_
              refine meetR_at ?_ ⟨(congrArg Value.bool (show (decide (replica ≥ (3 * f + 1))) = (badArg f kind round replica) by (cases hq : badArg f kind round replica <;> simp [badArg, inB] at hq <;> first | rfl | (exfalso; omega) | (simp; omega)))), H23⟩
              exact (same_upd rfl (same_upd rfl (same_upd rfl (same_upd rfl (same_upd rfl (same_upd rfl (same_upd rfl (same_upd rfl (same_upd rfl (same_upd rfl (same_upd rfl (same_upd rfl (same_upd rfl (same_upd rfl (same_upd rfl (same_upd rfl (same_upd rfl (same_upd rfl (same_upd rfl (same_upd rfl (same_upd rfl (same_upd rfl (same_upd rfl (same_upd rfl (same_upd rfl (same_upd rfl (same_upd rfl (same_upd rfl (same_upd rfl (same_upd rfl (same_upd rfl (same_upd rfl (same_refl)))))))))))))))))))))))))))))))))
  · rintro f25 w26 ⟨v28, H27⟩
    refine wp_know 38 _ v28 ?_
    refine (bsplit (badArg f kind round replica)).elim (fun b29 => ?_) (fun b29 => ?_)
    · refine wp_know 38 (.bool true) (congrArg Value.bool b29) ?_
      refine wp_ift rfl ?_
      refine w_seq ?_
      refine w_lit ?_
      refine wl_pure (wants0 rfl) (d := 10) (v := (.bool false)) rfl (by kernel_rfl) ?_
      refine w_nil ?_
      refine then_normal ?_
      refine w_ret ?_
      refine then_ret ?_
      refine end1 rfl (res_tmp (v := (.bool false)) rfl) ?_
      have hok : okV f L kind round replica = false := by rw [okV_eq, b29]; rfl
      refine ⟨by rw [hok], v, ?_, H27.upd 1 rfl [r] (fun _ h => by simpa [cellC] using h), fun b hb => .inl ?_⟩
      · rw [addV_no (v := (⟨kind, round, replica, h⟩ : VoteD)) hok]; exact rt_keep hT H27 0 1 rfl rfl
      · rwa [addV_no (v := (⟨kind, round, replica, h⟩ : VoteD)) hok] at hb
    · refine wp_know 38 (.bool false) (congrArg Value.bool b29) ?_
      refine wp_iff rfl ?_
      refine w_skip ?_
      refine then_normal ?_
      refine w_seq ?_
      refine w_seq ?_
      refine w_lit ?_
      refine wl_pure (wants0 rfl) (d := 39) (v := (.pointer (some ⟨r, 0, none⟩))) rfl (by kernel_rfl) ?_
      refine wl_pure (wants0 rfl) (d := 40) (v := (.pointer (some ⟨r, 0, none⟩))) rfl (by kernel_rfl) ?_
      refine wl_pure (wants0 rfl) (d := 41) (v := (.pointer (some ⟨r, 2, none⟩))) rfl (by kernel_rfl) ?_
      refine wl_pure (wants0 rfl) (d := 42) (v := v) rfl (e_load1 rfl (by kernel_rfl) (H27.cell 0 rfl rfl)) ?_
      refine wl_pure (wants0 rfl) (d := 43) (v := (.int .i64 ((L.length : Int)))) rfl (e_lenRow (E := 77) (by kernel_rfl) hrow rfl) ?_
      refine wl_pure (wants0 rfl) (d := 44) (v := (.int .i64 (0))) rfl (by kernel_rfl) ?_
      refine w_nil ?_
      refine then_normal ?_
      refine w_block ?_
      refine wp_round [10, 11, 44, 45, 46, 47, 48, 49, 50, 51, 52, 53, 54, 55, 56, 57, 58, 59, 60, 61, 62, 63, 64, 65, 66, 67, 68, 69, 70, 71, 72, 73, 74, 75, 76, 77, 78, 79, 80, 81] (fun F_ W_ m_ => ∃ (i : Nat), F_ 44 = (.int .i64 ((i : Int))) ∧ (i ≤ L.length) ∧ ((L.take i).any (isP kind round replica) = false) ∧ Sat w [cellC r 50 ([(.int .i64 (f)), (.int .i64 (c)), v] : List Value), restC w (cellC r 50 ([(.int .i64 (f)), (.int .i64 (c)), v] : List Value)).fp, cellC b2 24 (hc h)] W_ ∧ m_ = L.length - i) _ ⟨0, (by first | rfl | go_num), by omega, rfl, H27, rfl⟩ ?_
      rintro g30 w31 _ ⟨i, v33, hi, hany, H32, rfl⟩
      refine wp_know 44 _ v33 ?_
      refine w_seq ?_
      refine w_lit ?_
      refine wl_pure (wants0 rfl) (d := 45) (v := (.bool (decide ((i : Int) < (L.length : Int))))) rfl (by kernel_rfl) ?_
      refine w_nil ?_
      refine then_normal ?_
      refine w_seq ?_
      refine (bsplit (decide ((i : Int) < (L.length : Int)))).elim (fun b35 => ?_) (fun b35 => ?_)
      · have g36 := of_decide_eq_true b35
        refine wp_know 45 (.bool true) (congrArg Value.bool b35) ?_
        refine wp_ift rfl ?_
        refine w_skip ?_
        refine then_normal ?_
        refine w_seq ?_
        refine w_block ?_
        refine w_seq ?_
        obtain ⟨g, cp, hv⟩ := row_shape hrow (by omega)
        obtain ⟨x, hx⟩ := get_at (show i < L.length by omega)
        have hgr := hdis g (by rw [hv]; rfl)
        refine w_lit ?_
        refine wl_pure (wants0 rfl) (d := 46) (v := (.int .i64 ((i : Int)))) rfl (by kernel_rfl) ?_
        refine wl_pure (wants0 rfl) (d := 11) (v := (.int .i64 ((i : Int)))) rfl (by kernel_rfl) ?_
        refine w_nil ?_
        refine then_normal ?_
        refine w_seq ?_
        refine w_lit ?_
        refine wl_pure (wants0 rfl) (d := 47) (v := (.pointer (some ⟨r, 0, none⟩))) rfl (by kernel_rfl) ?_
        refine wl_pure (wants0 rfl) (d := 48) (v := (.pointer (some ⟨r, 0, none⟩))) rfl (by kernel_rfl) ?_
        refine wl_pure (wants0 rfl) (d := 49) (v := (.pointer (some ⟨r, 2, none⟩))) rfl (by kernel_rfl) ?_
        refine wl_pure (wants0 rfl) (d := 50) (v := v) rfl (e_load1 rfl (by kernel_rfl) (H32.cell 0 rfl rfl)) ?_
        refine wl_pure (wants0 rfl) (d := 51) (v := (.int .i64 ((i : Int)))) rfl (by kernel_rfl) ?_
        refine wl_pure (wants0 rfl) (d := 52) (v := (.pointer (some ⟨g, 0 + ((i : Int)).toNat * 35, none⟩))) rfl (e_indexAddrV (E := 77) (by kernel_rfl) (by kernel_rfl) (Nat.le_of_ble_eq_true rfl) rfl hv rfl (by omega) (by omega)) ?_
        refine wl_pure (wants0 rfl) (d := 53) (v := (.pointer (some ⟨g, 0 + ((i : Int)).toNat * 35, none⟩))) rfl (by kernel_rfl) ?_
        refine wl_pure (wants0 rfl) (d := 54) (v := (.int .i64 (x.kind))) rfl (e_load1 rfl (by kernel_rfl) (H32.cellR 1 rfl (rows_cell hrow hv encV_len hx 0 rfl (show 0 + ((i : Int)).toNat * 35 = i * 35 + 0 by omega) rfl) hgr)) ?_
        refine wl_pure (wants0 rfl) (d := 55) (v := (.int .i64 (kind))) rfl (by kernel_rfl) ?_
        refine wl_pure (wants0 rfl) (d := 56) (v := (.bool (decide (x.kind = kind)))) rfl (by kernel_rfl) ?_
        refine wl_pure (wants0 rfl) (d := 57) (v := (.bool (decide (x.kind = kind)))) rfl (by kernel_rfl) ?_
        refine (bsplit (decide (x.kind = kind))).elim (fun b37 => ?_) (fun b37 => ?_)
        · have g38 := of_decide_eq_true b37
          refine wl_know 57 (.bool true) (congrArg Value.bool b37) ?_
          refine wl_pure (wantsY 10 57 true rfl (by kernel_rfl) rfl (by kernel_rfl)) (d := 58) (v := (.pointer (some ⟨r, 0, none⟩))) rfl (by kernel_rfl) ?_
          refine wl_pure (wantsY 10 57 true rfl (by kernel_rfl) rfl (by kernel_rfl)) (d := 59) (v := (.pointer (some ⟨r, 0, none⟩))) rfl (by kernel_rfl) ?_
          refine wl_pure (wantsY 10 57 true rfl (by kernel_rfl) rfl (by kernel_rfl)) (d := 60) (v := (.pointer (some ⟨r, 2, none⟩))) rfl (by kernel_rfl) ?_
          refine wl_pure (wantsY 10 57 true rfl (by kernel_rfl) rfl (by kernel_rfl)) (d := 61) (v := v) rfl (e_load1 rfl (by kernel_rfl) (H32.cell 0 rfl rfl)) ?_
          refine wl_pure (wantsY 10 57 true rfl (by kernel_rfl) rfl (by kernel_rfl)) (d := 62) (v := (.int .i64 ((i : Int)))) rfl (by kernel_rfl) ?_
          refine wl_pure (wantsY 10 57 true rfl (by kernel_rfl) rfl (by kernel_rfl)) (d := 63) (v := (.pointer (some ⟨g, 0 + ((i : Int)).toNat * 35, none⟩))) rfl (e_indexAddrV (E := 77) (by kernel_rfl) (by kernel_rfl) (Nat.le_of_ble_eq_true rfl) rfl hv rfl (by omega) (by omega)) ?_
          refine wl_pure (wantsY 10 57 true rfl (by kernel_rfl) rfl (by kernel_rfl)) (d := 64) (v := (.pointer (some ⟨g, 0 + ((i : Int)).toNat * 35 + 1, none⟩))) rfl (by kernel_rfl) ?_
          refine wl_pure (wantsY 10 57 true rfl (by kernel_rfl) rfl (by kernel_rfl)) (d := 65) (v := (.int .i64 (x.round))) rfl (e_load1 rfl (by kernel_rfl) (H32.cellR 1 rfl (rows_cell hrow hv encV_len hx 1 rfl (show 0 + ((i : Int)).toNat * 35 + 1 = i * 35 + 1 by omega) rfl) hgr)) ?_
          refine wl_pure (wantsY 10 57 true rfl (by kernel_rfl) rfl (by kernel_rfl)) (d := 66) (v := (.int .i64 (round))) rfl (by kernel_rfl) ?_
          refine wl_pure (wantsY 10 57 true rfl (by kernel_rfl) rfl (by kernel_rfl)) (d := 67) (v := (.bool (decide (x.round = round)))) rfl (by kernel_rfl) ?_
          refine wl_pure (wants0 rfl) (d := 68) (v := (.bool (decide (x.round = round)))) rfl (by kernel_rfl) ?_
          refine wl_pure (wants0 rfl) (d := 69) (v := (.bool (decide (x.round = round)))) rfl (by kernel_rfl) ?_
          refine (bsplit (decide (x.round = round))).elim (fun b39 => ?_) (fun b39 => ?_)
          · have g40 := of_decide_eq_true b39
            refine wl_know 69 (.bool true) (congrArg Value.bool b39) ?_
            refine wl_pure (wantsY 22 69 true rfl (by kernel_rfl) rfl (by kernel_rfl)) (d := 70) (v := (.pointer (some ⟨r, 0, none⟩))) rfl (by kernel_rfl) ?_
            refine wl_pure (wantsY 22 69 true rfl (by kernel_rfl) rfl (by kernel_rfl)) (d := 71) (v := (.pointer (some ⟨r, 0, none⟩))) rfl (by kernel_rfl) ?_
            refine wl_pure (wantsY 22 69 true rfl (by kernel_rfl) rfl (by kernel_rfl)) (d := 72) (v := (.pointer (some ⟨r, 2, none⟩))) rfl (by kernel_rfl) ?_
            refine wl_pure (wantsY 22 69 true rfl (by kernel_rfl) rfl (by kernel_rfl)) (d := 73) (v := v) rfl (e_load1 rfl (by kernel_rfl) (H32.cell 0 rfl rfl)) ?_
            refine wl_pure (wantsY 22 69 true rfl (by kernel_rfl) rfl (by kernel_rfl)) (d := 74) (v := (.int .i64 ((i : Int)))) rfl (by kernel_rfl) ?_
            refine wl_pure (wantsY 22 69 true rfl (by kernel_rfl) rfl (by kernel_rfl)) (d := 75) (v := (.pointer (some ⟨g, 0 + ((i : Int)).toNat * 35, none⟩))) rfl (e_indexAddrV (E := 77) (by kernel_rfl) (by kernel_rfl) (Nat.le_of_ble_eq_true rfl) rfl hv rfl (by omega) (by omega)) ?_
            refine wl_pure (wantsY 22 69 true rfl (by kernel_rfl) rfl (by kernel_rfl)) (d := 76) (v := (.pointer (some ⟨g, 0 + ((i : Int)).toNat * 35 + 2, none⟩))) rfl (by kernel_rfl) ?_
            refine wl_pure (wantsY 22 69 true rfl (by kernel_rfl) rfl (by kernel_rfl)) (d := 77) (v := (.int .i64 (x.replica))) rfl (e_load1 rfl (by kernel_rfl) (H32.cellR 1 rfl (rows_cell hrow hv encV_len hx 2 rfl (show 0 + ((i : Int)).toNat * 35 + 2 = i * 35 + 2 by omega) rfl) hgr)) ?_
            refine wl_pure (wantsY 22 69 true rfl (by kernel_rfl) rfl (by kernel_rfl)) (d := 78) (v := (.int .i64 (replica))) rfl (by kernel_rfl) ?_
            refine wl_pure (wantsY 22 69 true rfl (by kernel_rfl) rfl (by kernel_rfl)) (d := 79) (v := (.bool (decide (x.replica = replica)))) rfl (by kernel_rfl) ?_
            refine wl_pure (wants0 rfl) (d := 80) (v := (.bool (decide (x.replica = replica)))) rfl (by kernel_rfl) ?_
            refine w_nil ?_
            refine then_normal ?_
            refine (bsplit (decide (x.replica = replica))).elim (fun b41 => ?_) (fun b41 => ?_)
            · have g42 := of_decide_eq_true b41
              refine wp_know 80 (.bool true) (congrArg Value.bool b41) ?_
              refine wp_ift rfl ?_
              refine w_seq ?_
              refine w_lit ?_
              refine wl_pure (wants0 rfl) (d := 10) (v := (.bool false)) rfl (by kernel_rfl) ?_
              refine w_nil ?_
              refine then_normal ?_
              refine w_ret ?_
              refine blk_ret ?_
              refine then_ret ?_
              refine back_ret ?_
              refine blk_ret ?_
              refine then_ret ?_
              refine end1 rfl (res_tmp (v := (.bool false)) rfl) ?_
              have hok : okV f L kind round replica = false := by rw [okV_eq, any_of hx (p := (isP kind round replica)) (by simp [isP, b37, b39, b41])]; simp
              refine ⟨by rw [hok], v, ?_, H32.upd 1 rfl [r] (fun _ h => by simpa [cellC] using h), fun b hb => .inl ?_⟩
              · rw [addV_no (v := (⟨kind, round, replica, h⟩ : VoteD)) hok]; exact rt_keep hT H32 0 1 rfl rfl
              · rwa [addV_no (v := (⟨kind, round, replica, h⟩ : VoteD)) hok] at hb
            · have g43 := of_decide_eq_false b41
              refine wp_know 80 (.bool false) (congrArg Value.bool b41) ?_
              refine wp_iff rfl ?_
              refine w_skip ?_
              refine blk_normal ?_
              refine then_normal ?_
              refine w_lit ?_
              refine wl_pure (wants0 rfl) (d := 81) (v := (.int .i64 ((i : Int) + 1))) rfl (e_int (z := (i : Int) + 1) (by kernel_rfl) (IntWalk.i64_in _ (by omega))) ?_
              refine wl_pure (wants0 rfl) (d := 44) (v := (.int .i64 ((i : Int) + 1))) rfl (by kernel_rfl) ?_
              refine w_nil ?_
              refine round_back ?_ _ ⟨(i + 1), (show ((.int .i64 ((i : Int) + 1)) : Value) = _ by first | rfl | go_num), by omega, by rw [take_any hx, hany]; simp [isP, b37, b39, b41], H32, rfl⟩ (by omega)
              exact (same_upd rfl (same_upd rfl (same_upd rfl (same_upd rfl (same_upd rfl (same_upd rfl (same_upd rfl (same_upd rfl (same_upd rfl (same_upd rfl (same_upd rfl (same_upd rfl (same_upd rfl (same_upd rfl (same_upd rfl (same_upd rfl (same_upd rfl (same_upd rfl (same_upd rfl (same_upd rfl (same_upd rfl (same_upd rfl (same_upd rfl (same_upd rfl (same_upd rfl (same_upd rfl (same_upd rfl (same_upd rfl (same_upd rfl (same_upd rfl (same_upd rfl (same_upd rfl (same_upd rfl (same_upd rfl (same_upd rfl (same_upd rfl (same_upd rfl (same_upd rfl (same_upd rfl (same_upd rfl (same_upd rfl (same_upd rfl (same_upd rfl (same_upd rfl (same_ovr)))))))))))))))))))))))))))))))))))))))))))))
          · have g44 := of_decide_eq_false b39
            refine wl_know 69 (.bool false) (congrArg Value.bool b39) ?_
            refine wl_pass (wantsN 22 69 true rfl (by kernel_rfl) rfl (by kernel_rfl)) rfl ?_
            refine wl_pass (wantsN 22 69 true rfl (by kernel_rfl) rfl (by kernel_rfl)) rfl ?_
            refine wl_pass (wantsN 22 69 true rfl (by kernel_rfl) rfl (by kernel_rfl)) rfl ?_
            refine wl_pass (wantsN 22 69 true rfl (by kernel_rfl) rfl (by kernel_rfl)) rfl ?_
            refine wl_pass (wantsN 22 69 true rfl (by kernel_rfl) rfl (by kernel_rfl)) rfl ?_
            refine wl_pass (wantsN 22 69 true rfl (by kernel_rfl) rfl (by kernel_rfl)) rfl ?_
            refine wl_pass (wantsN 22 69 true rfl (by kernel_rfl) rfl (by kernel_rfl)) rfl ?_
            refine wl_pass (wantsN 22 69 true rfl (by kernel_rfl) rfl (by kernel_rfl)) rfl ?_
            refine wl_pass (wantsN 22 69 true rfl (by kernel_rfl) rfl (by kernel_rfl)) rfl ?_
            refine wl_pass (wantsN 22 69 true rfl (by kernel_rfl) rfl (by kernel_rfl)) rfl ?_
            refine wl_pure (wants0 rfl) (d := 80) (v := (.bool false)) rfl (by kernel_rfl) ?_
            refine w_nil ?_
            refine then_normal ?_
            refine wp_iff rfl ?_
            refine w_skip ?_
            refine blk_normal ?_
            refine then_normal ?_
            refine w_lit ?_
            refine wl_pure (wants0 rfl) (d := 81) (v := (.int .i64 ((i : Int) + 1))) rfl (e_int (z := (i : Int) + 1) (by kernel_rfl) (IntWalk.i64_in _ (by omega))) ?_
            refine wl_pure (wants0 rfl) (d := 44) (v := (.int .i64 ((i : Int) + 1))) rfl (by kernel_rfl) ?_
            refine w_nil ?_
            refine round_back ?_ _ ⟨(i + 1), (show ((.int .i64 ((i : Int) + 1)) : Value) = _ by first | rfl | go_num), by omega, by rw [take_any hx, hany]; simp [isP, b37, b39], H32, rfl⟩ (by omega)
            exact (same_upd rfl (same_upd rfl (same_upd rfl (same_upd rfl (same_upd rfl (same_upd rfl (same_upd rfl (same_upd rfl (same_upd rfl (same_upd rfl (same_upd rfl (same_upd rfl (same_upd rfl (same_upd rfl (same_upd rfl (same_upd rfl (same_upd rfl (same_upd rfl (same_upd rfl (same_upd rfl (same_upd rfl (same_upd rfl (same_upd rfl (same_upd rfl (same_upd rfl (same_upd rfl (same_upd rfl (same_upd rfl (same_upd rfl (same_upd rfl (same_upd rfl (same_upd rfl (same_upd rfl (same_upd rfl (same_upd rfl (same_upd rfl (same_upd rfl (same_upd rfl (same_upd rfl (same_upd rfl (same_upd rfl (same_upd rfl (same_upd rfl (same_ovr))))))))))))))))))))))))))))))))))))))))))))
        · have g45 := of_decide_eq_false b37
          refine wl_know 57 (.bool false) (congrArg Value.bool b37) ?_
          refine wl_pass (wantsN 10 57 true rfl (by kernel_rfl) rfl (by kernel_rfl)) rfl ?_
          refine wl_pass (wantsN 10 57 true rfl (by kernel_rfl) rfl (by kernel_rfl)) rfl ?_
          refine wl_pass (wantsN 10 57 true rfl (by kernel_rfl) rfl (by kernel_rfl)) rfl ?_
          refine wl_pass (wantsN 10 57 true rfl (by kernel_rfl) rfl (by kernel_rfl)) rfl ?_
          refine wl_pass (wantsN 10 57 true rfl (by kernel_rfl) rfl (by kernel_rfl)) rfl ?_
          refine wl_pass (wantsN 10 57 true rfl (by kernel_rfl) rfl (by kernel_rfl)) rfl ?_
          refine wl_pass (wantsN 10 57 true rfl (by kernel_rfl) rfl (by kernel_rfl)) rfl ?_
          refine wl_pass (wantsN 10 57 true rfl (by kernel_rfl) rfl (by kernel_rfl)) rfl ?_
          refine wl_pass (wantsN 10 57 true rfl (by kernel_rfl) rfl (by kernel_rfl)) rfl ?_
          refine wl_pass (wantsN 10 57 true rfl (by kernel_rfl) rfl (by kernel_rfl)) rfl ?_
          refine wl_pure (wants0 rfl) (d := 68) (v := (.bool false)) rfl (by kernel_rfl) ?_
          refine wl_pure (wants0 rfl) (d := 69) (v := (.bool false)) rfl (by kernel_rfl) ?_
          refine wl_pass (wantsN 22 69 true rfl (by kernel_rfl) rfl (by kernel_rfl)) rfl ?_
          refine wl_pass (wantsN 22 69 true rfl (by kernel_rfl) rfl (by kernel_rfl)) rfl ?_
          refine wl_pass (wantsN 22 69 true rfl (by kernel_rfl) rfl (by kernel_rfl)) rfl ?_
          refine wl_pass (wantsN 22 69 true rfl (by kernel_rfl) rfl (by kernel_rfl)) rfl ?_
          refine wl_pass (wantsN 22 69 true rfl (by kernel_rfl) rfl (by kernel_rfl)) rfl ?_
          refine wl_pass (wantsN 22 69 true rfl (by kernel_rfl) rfl (by kernel_rfl)) rfl ?_
          refine wl_pass (wantsN 22 69 true rfl (by kernel_rfl) rfl (by kernel_rfl)) rfl ?_
          refine wl_pass (wantsN 22 69 true rfl (by kernel_rfl) rfl (by kernel_rfl)) rfl ?_
          refine wl_pass (wantsN 22 69 true rfl (by kernel_rfl) rfl (by kernel_rfl)) rfl ?_
          refine wl_pass (wantsN 22 69 true rfl (by kernel_rfl) rfl (by kernel_rfl)) rfl ?_
          refine wl_pure (wants0 rfl) (d := 80) (v := (.bool false)) rfl (by kernel_rfl) ?_
          refine w_nil ?_
          refine then_normal ?_
          refine wp_iff rfl ?_
          refine w_skip ?_
          refine blk_normal ?_
          refine then_normal ?_
          refine w_lit ?_
          refine wl_pure (wants0 rfl) (d := 81) (v := (.int .i64 ((i : Int) + 1))) rfl (e_int (z := (i : Int) + 1) (by kernel_rfl) (IntWalk.i64_in _ (by omega))) ?_
          refine wl_pure (wants0 rfl) (d := 44) (v := (.int .i64 ((i : Int) + 1))) rfl (by kernel_rfl) ?_
          refine w_nil ?_
          refine round_back ?_ _ ⟨(i + 1), (show ((.int .i64 ((i : Int) + 1)) : Value) = _ by first | rfl | go_num), by omega, by rw [take_any hx, hany]; simp [isP, b37], H32, rfl⟩ (by omega)
          exact (same_upd rfl (same_upd rfl (same_upd rfl (same_upd rfl (same_upd rfl (same_upd rfl (same_upd rfl (same_upd rfl (same_upd rfl (same_upd rfl (same_upd rfl (same_upd rfl (same_upd rfl (same_upd rfl (same_upd rfl (same_upd rfl (same_upd rfl (same_upd rfl (same_upd rfl (same_upd rfl (same_upd rfl (same_upd rfl (same_upd rfl (same_upd rfl (same_upd rfl (same_upd rfl (same_upd rfl (same_upd rfl (same_upd rfl (same_upd rfl (same_upd rfl (same_upd rfl (same_upd rfl (same_upd rfl (same_upd rfl (same_upd rfl (same_upd rfl (same_upd rfl (same_upd rfl (same_upd rfl (same_upd rfl (same_upd rfl (same_ovr)))))))))))))))))))))))))))))))))))))))))))
      · have g46 := of_decide_eq_false b35
        refine wp_know 45 (.bool false) (congrArg Value.bool b35) ?_
        refine wp_iff rfl ?_
        refine w_exit ?_
        refine then_exit ?_
        refine back_exit ?_
        refine blk_hit ?_
        refine then_normal ?_
        refine w_seq ?_
        refine k_start H32 [cellC r 50 ([(.int .i64 (f)), (.int .i64 (c)), v] : List Value), restC w (cellC r 50 ([(.int .i64 (f)), (.int .i64 (c)), v] : List Value)).fp, cellC b2 24 (hc h)] [15] 16 rfl (by kernel_rfl) (fun Hx => (Hx.pick [0, 1, 2] (by decide))) ?_
        intro w47 H48 S49
        refine k_pure 0 rfl (by kernel_rfl) (by kernel_rfl) (by kernel_rfl) (fun _ _ _ h => h) S49 (wants0 rfl) rfl (d := 82) (v := (.pointer (some ⟨r, 0, none⟩))) rfl (fun _ => (by kernel_rfl)) ?_
        refine k_pure 1 rfl (by kernel_rfl) (by kernel_rfl) (by kernel_rfl) (fun _ _ _ h => h) S49 (wants0 rfl) rfl (d := 83) (v := (.pointer (some ⟨r, 0, none⟩))) rfl (fun _ => (by kernel_rfl)) ?_
        refine k_pure 2 rfl (by kernel_rfl) (by kernel_rfl) (by kernel_rfl) (fun _ _ _ h => h) S49 (wants0 rfl) rfl (d := 84) (v := (.pointer (some ⟨r, 0, none⟩))) rfl (fun _ => (by kernel_rfl)) ?_
        refine k_pure 3 rfl (by kernel_rfl) (by kernel_rfl) (by kernel_rfl) (fun _ _ _ h => h) S49 (wants0 rfl) rfl (d := 85) (v := (.pointer (some ⟨r, 2, none⟩))) rfl (fun _ => (by kernel_rfl)) ?_
        refine k_val 4 rfl (by kernel_rfl) (by kernel_rfl) (by kernel_rfl) (fun _ _ _ h => h) S49 (wants0 rfl) rfl (by kernel_rfl) (d := 86) (v := v) rfl (fun _ H' => (e_load1 rfl (by kernel_rfl) (H'.cell 0 rfl rfl))) ?_
        refine k_pure 6 rfl (by kernel_rfl) (by kernel_rfl) (by kernel_rfl) (fun _ _ _ h => h) S49 (wants0 rfl) rfl (d := 88) (v := (.int .i64 (kind))) rfl (fun _ => (by kernel_rfl)) ?_
        refine k_pure 7 rfl (by kernel_rfl) (by kernel_rfl) (by kernel_rfl) (fun _ _ _ h => h) S49 (wants0 rfl) rfl (d := 89) (v := (.int .i64 (round))) rfl (fun _ => (by kernel_rfl)) ?_
        refine k_pure 8 rfl (by kernel_rfl) (by kernel_rfl) (by kernel_rfl) (fun _ _ _ h => h) S49 (wants0 rfl) rfl (d := 90) (v := (.int .i64 (replica))) rfl (fun _ => (by kernel_rfl)) ?_
        refine k_val 9 rfl (by kernel_rfl) (by kernel_rfl) (by kernel_rfl) (fun _ _ _ h => h) S49 (wants0 rfl) rfl (by kernel_rfl) (d := 91) (v := (.agg ⟨(hc h)⟩)) rfl (fun _ H' => (e_loadN (vs := (hc h)) rfl (by kernel_rfl) (by kernel_rfl) (by exact Nat.le_of_ble_eq_true (by kernel_rfl)) (H'.at 2 rfl) (by kernel_rfl))) ?_
        refine k_pure 10 rfl (by kernel_rfl) (by kernel_rfl) (by kernel_rfl) (fun _ _ _ h => h) S49 (wants0 rfl) rfl (d := 92) (v := (.agg ⟨(([(.int .i64 (kind)), (.int .i64 (round)), (.int .i64 (replica))] : List Value) ++ hc h)⟩)) rfl (fun _ => (by kernel_rfl)) ?_
        refine k_do2 5 11 rfl rfl (by kernel_rfl) (wants0 rfl) (wants0 rfl) rfl rfl (fun K50 hK50 => ?_) (fun K50 hK50 => ?_)
        · refine d_appendNil (T := 48) (e := 77) (size := 35) (bytes := 56) rfl H48 (by kernel_rfl) (H48.roCk 1 rfl hrow hdis) rfl rfl (flat_one encV encV_one L) (by omega) (by omega) ?_
          intro v51 w52 (H53 : Sat w [cellC r 50 ([(.int .i64 (f)), (.int .i64 (c)), v] : List Value), restC w (cellC r 50 ([(.int .i64 (f)), (.int .i64 (c)), v] : List Value)).fp, cellC b2 24 (hc h), rowC 77 35 v51 L.length (L.flatMap encV)] w52)
          obtain ⟨a54, c55, rfl⟩ := ownsRow_shape (H53.at 3 rfl)
          have S56 := H53.pick [0, 1, 2] (by decide)
          refine hK50 _ _ S56 ?_
          clear hK50 K50
          refine k_do 11 rfl (by kernel_rfl) (wants0 rfl) rfl (fun K57 hK57 => ?_)
          refine d_buildSlice (e := 77) (size := 35) (bytes := 56) (z := (.agg ⟨(([(.int .i64 (0)), (.int .i64 (0)), (.int .i64 (0))] : List Value) ++ hc hash0)⟩)) (pvs := [(0, (.agg ⟨(([(.int .i64 (kind)), (.int .i64 (round)), (.int .i64 (replica))] : List Value) ++ hc h)⟩))]) (vs := (([(.int .i64 (kind)), (.int .i64 (round)), (.int .i64 (replica))] : List Value) ++ hc h)) rfl H53 (by kernel_rfl) (by kernel_rfl) (by kernel_rfl) (by kernel_rfl) (by kernel_rfl) rfl rfl ?_
          intro b58 w59 (H60 : Sat w [cellC r 50 ([(.int .i64 (f)), (.int .i64 (c)), v] : List Value), restC w (cellC r 50 ([(.int .i64 (f)), (.int .i64 (c)), v] : List Value)).fp, cellC b2 24 (hc h), rowC 77 35 (.slice a54 L.length c55) L.length (L.flatMap encV), rowC 77 35 (.slice (some ⟨b58, 0, none⟩) 1 1) 1 (([(.int .i64 (kind)), (.int .i64 (round)), (.int .i64 (replica))] : List Value) ++ hc h)] w59)
          have S61 := H60.pick [0, 1, 2] (by decide)
          refine hK57 _ _ S61 ?_
          clear hK57 K57
          refine k_do 12 rfl (by kernel_rfl) (wants0 rfl) rfl (fun K62 hK62 => ?_)
          refine d_append (T := 48) (e := 77) (size := 35) (bytes := 56) rfl H60 (by kernel_rfl) 3 4 rfl rfl rfl rfl (by kernel_rfl) (by omega) (by omega) ?_
          intro v63 w64 (H65 : Sat w [cellC r 50 ([(.int .i64 (f)), (.int .i64 (c)), v] : List Value), restC w (cellC r 50 ([(.int .i64 (f)), (.int .i64 (c)), v] : List Value)).fp, cellC b2 24 (hc h), rowC 77 35 v63 (L.length + 1) ((L.flatMap encV) ++ (([(.int .i64 (kind)), (.int .i64 (round)), (.int .i64 (replica))] : List Value) ++ hc h)), rowC 77 35 (.slice (some ⟨b58, 0, none⟩) 1 1) 1 (([(.int .i64 (kind)), (.int .i64 (round)), (.int .i64 (replica))] : List Value) ++ hc h)] w64)
          obtain ⟨a66, c67, rfl⟩ := ownsRow_shape (H65.at 3 rfl)
          have S68 := H65.pick [0, 1, 2] (by decide)
          refine hK62 _ _ S68 ?_
          clear hK62 K62
          refine k_pure 13 rfl (by kernel_rfl) (by kernel_rfl) (by kernel_rfl) (fun _ _ _ h => h) S68 (wants0 rfl) rfl (d := 95) (v := (.pointer (some ⟨r, 0, none⟩))) rfl (fun _ => (by kernel_rfl)) ?_
          refine k_pure 14 rfl (by kernel_rfl) (by kernel_rfl) (by kernel_rfl) (fun _ _ _ h => h) S68 (wants0 rfl) rfl (d := 96) (v := (.pointer (some ⟨r, 2, none⟩))) rfl (fun _ => (by kernel_rfl)) ?_
          refine k_brk 15 (Sat w [restC w (cellC r 50 ([(.int .i64 (f)), (.int .i64 (c)), v] : List Value)).fp, cellC b2 24 (hc h)]) rfl (by kernel_rfl) (wants0 rfl) rfl (fun K69 hK69 => ?_)
          refine d_store (vs := ([(.slice a66 (L.length + 1) c67)] : List Value)) rfl H65 0 rfl rfl rfl rfl (by kernel_rfl) (Nat.le_of_ble_eq_true (by kernel_rfl)) (Nat.le_of_ble_eq_true (by kernel_rfl)) (by kernel_rfl) ?_
          intro w70 (H71 : Sat w [cellC r 50 ([(.int .i64 (f)), (.int .i64 (c)), (.slice a66 (L.length + 1) c67)] : List Value), restC w (cellC r 50 ([(.int .i64 (f)), (.int .i64 (c)), v] : List Value)).fp, cellC b2 24 (hc h), rowC 77 35 (.slice a66 (L.length + 1) c67) (L.length + 1) ((L.flatMap encV) ++ (([(.int .i64 (kind)), (.int .i64 (round)), (.int .i64 (replica))] : List Value) ++ hc h)), rowC 77 35 (.slice (some ⟨b58, 0, none⟩) 1 1) 1 (([(.int .i64 (kind)), (.int .i64 (round)), (.int .i64 (replica))] : List Value) ++ hc h)] w70)
          have S73 := H71.pick [1, 2] (by decide)
          refine hK69 _ _ S73 ?_
          clear hK69 K69
          refine h_fin (by kernel_rfl) ?_
          refine then_normal ?_
          refine w_seq ?_
          refine w_lit ?_
          refine wl_pure (wants0 rfl) (d := 10) (v := (.bool true)) rfl (by kernel_rfl) ?_
          refine w_nil ?_
          refine then_normal ?_
          refine w_ret ?_
          refine end1 rfl (res_tmp (v := (.bool true)) rfl) ?_
          have hok : okV f L kind round replica = true := by
            rw [okV_eq, b29]; rw [List.take_of_length_le (by omega)] at hany; rw [hany]; rfl
          have H74 : Sat w [cellC r 50 ([(.int .i64 (f)), (.int .i64 (c)), (.slice a66 (L.length + 1) c67)] : List Value), restC w (cellC r 50 ([(.int .i64 (f)), (.int .i64 (c)), v] : List Value)).fp, cellC b2 24 (hc h), rowC 77 35 (.slice a66 (L.length + 1) c67) ((L ++ [(⟨kind, round, replica, h⟩ : VoteD)]).length) ((L ++ [(⟨kind, round, replica, h⟩ : VoteD)]).flatMap encV), rowC 77 35 (.slice (some ⟨b58, 0, none⟩) 1 1) 1 (([(.int .i64 (kind)), (.int .i64 (round)), (.int .i64 (replica))] : List Value) ++ hc h)] w70 := by rw [← row_snoc]; exact H71
          refine ⟨by rw [hok], (.slice a66 (L.length + 1) c67), ?_, H74.upd 1 rfl [r] (fun _ h => by simpa [cellC] using h), ?_⟩
          · rw [addV_yes (v := (⟨kind, round, replica, h⟩ : VoteD)) hok]; exact H74.fin [0, 3] (by decide) rfl
          · rw [addV_yes (v := (⟨kind, round, replica, h⟩ : VoteD)) hok]; exact rt_fp H74 0 3 1 rfl rfl rfl rfl rfl
        · refine d_buildSlice (e := 77) (size := 35) (bytes := 56) (z := (.agg ⟨(([(.int .i64 (0)), (.int .i64 (0)), (.int .i64 (0))] : List Value) ++ hc hash0)⟩)) (pvs := [(0, (.agg ⟨(([(.int .i64 (kind)), (.int .i64 (round)), (.int .i64 (replica))] : List Value) ++ hc h)⟩))]) (vs := (([(.int .i64 (kind)), (.int .i64 (round)), (.int .i64 (replica))] : List Value) ++ hc h)) rfl H48 (by kernel_rfl) (by kernel_rfl) (by kernel_rfl) (by kernel_rfl) (by kernel_rfl) rfl rfl ?_
          intro b75 w76 (H77 : Sat w [cellC r 50 ([(.int .i64 (f)), (.int .i64 (c)), v] : List Value), restC w (cellC r 50 ([(.int .i64 (f)), (.int .i64 (c)), v] : List Value)).fp, cellC b2 24 (hc h), rowC 77 35 (.slice (some ⟨b75, 0, none⟩) 1 1) 1 (([(.int .i64 (kind)), (.int .i64 (round)), (.int .i64 (replica))] : List Value) ++ hc h)] w76)
          have S78 := H77.pick [0, 1, 2] (by decide)
          refine hK50 _ _ S78 ?_
          clear hK50 K50
          refine k_do 5 rfl (by kernel_rfl) (wants0 rfl) rfl (fun K79 hK79 => ?_)
          refine d_appendNil (T := 48) (e := 77) (size := 35) (bytes := 56) rfl H77 (by kernel_rfl) (H77.roCk 1 rfl hrow hdis) rfl rfl (flat_one encV encV_one L) (by omega) (by omega) ?_
          intro v80 w81 (H82 : Sat w [cellC r 50 ([(.int .i64 (f)), (.int .i64 (c)), v] : List Value), restC w (cellC r 50 ([(.int .i64 (f)), (.int .i64 (c)), v] : List Value)).fp, cellC b2 24 (hc h), rowC 77 35 (.slice (some ⟨b75, 0, none⟩) 1 1) 1 (([(.int .i64 (kind)), (.int .i64 (round)), (.int .i64 (replica))] : List Value) ++ hc h), rowC 77 35 v80 L.length (L.flatMap encV)] w81)
          obtain ⟨a83, c84, rfl⟩ := ownsRow_shape (H82.at 4 rfl)
          have S85 := H82.pick [0, 1, 2] (by decide)
          refine hK79 _ _ S85 ?_
          clear hK79 K79
          refine k_do 12 rfl (by kernel_rfl) (wants0 rfl) rfl (fun K86 hK86 => ?_)
          refine d_append (T := 48) (e := 77) (size := 35) (bytes := 56) rfl H82 (by kernel_rfl) 4 3 rfl rfl rfl rfl (by kernel_rfl) (by omega) (by omega) ?_
          intro v87 w88 (H89 : Sat w [cellC r 50 ([(.int .i64 (f)), (.int .i64 (c)), v] : List Value), restC w (cellC r 50 ([(.int .i64 (f)), (.int .i64 (c)), v] : List Value)).fp, cellC b2 24 (hc h), rowC 77 35 (.slice (some ⟨b75, 0, none⟩) 1 1) 1 (([(.int .i64 (kind)), (.int .i64 (round)), (.int .i64 (replica))] : List Value) ++ hc h), rowC 77 35 v87 (L.length + 1) ((L.flatMap encV) ++ (([(.int .i64 (kind)), (.int .i64 (round)), (.int .i64 (replica))] : List Value) ++ hc h))] w88)
          obtain ⟨a90, c91, rfl⟩ := ownsRow_shape (H89.at 4 rfl)
          have S92 := H89.pick [0, 1, 2] (by decide)
          refine hK86 _ _ S92 ?_
          clear hK86 K86
          refine k_pure 13 rfl (by kernel_rfl) (by kernel_rfl) (by kernel_rfl) (fun _ _ _ h => h) S92 (wants0 rfl) rfl (d := 95) (v := (.pointer (some ⟨r, 0, none⟩))) rfl (fun _ => (by kernel_rfl)) ?_
          refine k_pure 14 rfl (by kernel_rfl) (by kernel_rfl) (by kernel_rfl) (fun _ _ _ h => h) S92 (wants0 rfl) rfl (d := 96) (v := (.pointer (some ⟨r, 2, none⟩))) rfl (fun _ => (by kernel_rfl)) ?_
          refine k_brk 15 (Sat w [restC w (cellC r 50 ([(.int .i64 (f)), (.int .i64 (c)), v] : List Value)).fp, cellC b2 24 (hc h)]) rfl (by kernel_rfl) (wants0 rfl) rfl (fun K93 hK93 => ?_)
          refine d_store (vs := ([(.slice a90 (L.length + 1) c91)] : List Value)) rfl H89 0 rfl rfl rfl rfl (by kernel_rfl) (Nat.le_of_ble_eq_true (by kernel_rfl)) (Nat.le_of_ble_eq_true (by kernel_rfl)) (by kernel_rfl) ?_
          intro w94 (H95 : Sat w [cellC r 50 ([(.int .i64 (f)), (.int .i64 (c)), (.slice a90 (L.length + 1) c91)] : List Value), restC w (cellC r 50 ([(.int .i64 (f)), (.int .i64 (c)), v] : List Value)).fp, cellC b2 24 (hc h), rowC 77 35 (.slice (some ⟨b75, 0, none⟩) 1 1) 1 (([(.int .i64 (kind)), (.int .i64 (round)), (.int .i64 (replica))] : List Value) ++ hc h), rowC 77 35 (.slice a90 (L.length + 1) c91) (L.length + 1) ((L.flatMap encV) ++ (([(.int .i64 (kind)), (.int .i64 (round)), (.int .i64 (replica))] : List Value) ++ hc h))] w94)
          have S97 := H95.pick [1, 2] (by decide)
          refine hK93 _ _ S97 ?_
          clear hK93 K93
          refine h_fin (by kernel_rfl) ?_
          refine then_normal ?_
          refine w_seq ?_
          refine w_lit ?_
          refine wl_pure (wants0 rfl) (d := 10) (v := (.bool true)) rfl (by kernel_rfl) ?_
          refine w_nil ?_
          refine then_normal ?_
          refine w_ret ?_
          refine end1 rfl (res_tmp (v := (.bool true)) rfl) ?_
          have hok : okV f L kind round replica = true := by
            rw [okV_eq, b29]; rw [List.take_of_length_le (by omega)] at hany; rw [hany]; rfl
          have H98 : Sat w [cellC r 50 ([(.int .i64 (f)), (.int .i64 (c)), (.slice a90 (L.length + 1) c91)] : List Value), restC w (cellC r 50 ([(.int .i64 (f)), (.int .i64 (c)), v] : List Value)).fp, cellC b2 24 (hc h), rowC 77 35 (.slice (some ⟨b75, 0, none⟩) 1 1) 1 (([(.int .i64 (kind)), (.int .i64 (round)), (.int .i64 (replica))] : List Value) ++ hc h), rowC 77 35 (.slice a90 (L.length + 1) c91) ((L ++ [(⟨kind, round, replica, h⟩ : VoteD)]).length) ((L ++ [(⟨kind, round, replica, h⟩ : VoteD)]).flatMap encV)] w94 := by rw [← row_snoc]; exact H95
          refine ⟨by rw [hok], (.slice a90 (L.length + 1) c91), ?_, H98.upd 1 rfl [r] (fun _ h => by simpa [cellC] using h), ?_⟩
          · rw [addV_yes (v := (⟨kind, round, replica, h⟩ : VoteD)) hok]; exact H98.fin [0, 4] (by decide) rfl
          · rw [addV_yes (v := (⟨kind, round, replica, h⟩ : VoteD)) hok]; exact rt_fp H98 0 4 1 rfl rfl rfl rfl rfl

set_option maxRecDepth 100000 in
set_option maxHeartbeats 1000000 in
theorem refHeard_any (w : World) (r : Nat) (v : Value) (f c : Int) (L : List VoteD) (hT : (rtC r v f c L).ok w) (hl : L.length ≤ 1000000) (round : Int) :
    Calls Try.prog 28 #[(.pointer (some ⟨r, 0, none⟩)), (.int .i64 (round))] w fun e w' => e = .returned (.int .i64 ((heardF round L).length : Int)) ∧ Upd [] w w' := by
  obtain ⟨hcell, hrow⟩ := rtC_parts hT
  have H := Sat.start0 w
  refine calls_fr Try.func28 rfl 67 rfl (Nat.le_of_ble_eq_true rfl) ?_
  refine w_seq ?_
  refine w_lit ?_
  refine wl_pure (wants0 rfl) (d := 4) (v := (.int .i64 (0))) rfl (by kernel_rfl) ?_
  refine w_nil ?_
  refine then_normal ?_
  refine w_seq ?_
  refine w_lit ?_
  refine wl_pure (wants0 rfl) (d := 5) (v := (.slice none 0 0)) rfl (by kernel_rfl) ?_
  refine w_nil ?_
  refine then_normal ?_
  refine w_seq ?_
  refine w_seq ?_
  refine w_lit ?_
  refine wl_pure (wants0 rfl) (d := 9) (v := (.pointer (some ⟨r, 0, none⟩))) rfl (by kernel_rfl) ?_
  refine wl_pure (wants0 rfl) (d := 10) (v := (.pointer (some ⟨r, 0, none⟩))) rfl (by kernel_rfl) ?_
  refine wl_pure (wants0 rfl) (d := 11) (v := (.pointer (some ⟨r, 2, none⟩))) rfl (by kernel_rfl) ?_
  refine wl_pure (wants0 rfl) (d := 12) (v := v) rfl (e_load1 rfl (by kernel_rfl) (H.roCell 0 rfl hcell (fun h => h) rfl)) ?_
  refine wl_pure (wants0 rfl) (d := 13) (v := (.int .i64 ((L.length : Int)))) rfl (e_lenRow (E := 77) (by kernel_rfl) hrow rfl) ?_
  refine wl_pure (wants0 rfl) (d := 14) (v := (.int .i64 (0))) rfl (by kernel_rfl) ?_
  refine w_nil ?_
  have Hn := H.addNil 3 1
  refine then_normal ?_
  refine w_block ?_
  refine wp_round [5, 6, 7, 8, 14, 15, 16, 17, 18, 19, 20, 21, 22, 23, 24, 25, 26, 27, 28, 29, 30, 31, 32, 33, 34, 35, 36, 37, 38, 39, 40, 41, 42, 43, 44, 45, 46, 47, 48, 49, 50, 51, 52, 53, 54, 55, 56, 57, 58, 59, 60, 61, 62, 63, 64] (fun F_ W_ m_ => ∃ (i : Nat) (u : Value) (hs : List Int), F_ 14 = (.int .i64 ((i : Int))) ∧ F_ 5 = u ∧ (i ≤ L.length) ∧ (hs = heardF round (L.take i)) ∧ (hs.length ≤ i) ∧ Sat w [restC w (fun _ => False), rowC 3 1 u hs.length (hs.flatMap enc1)] W_ ∧ m_ = L.length - i) _ ⟨0, (.slice none 0 0), [], (by first | rfl | go_num), (by first | rfl | go_num), by omega, rfl, by simp, Hn, rfl⟩ ?_
  rintro g1 w2 _ ⟨i, u, hs, v4, v5, hi, hhs, hhl, H3, rfl⟩
  refine wp_know 14 _ v4 ?_
  refine wp_know 5 _ v5 ?_
  refine w_seq ?_
  refine w_lit ?_
  refine wl_pure (wants0 rfl) (d := 15) (v := (.bool (decide ((i : Int) < (L.length : Int))))) rfl (by kernel_rfl) ?_
  refine w_nil ?_
  refine then_normal ?_
  refine w_seq ?_
  refine (bsplit (decide ((i : Int) < (L.length : Int)))).elim (fun b7 => ?_) (fun b7 => ?_)
  · have g8 := of_decide_eq_true b7
    refine wp_know 15 (.bool true) (congrArg Value.bool b7) ?_
    refine wp_ift rfl ?_
    refine w_skip ?_
    refine then_normal ?_
    refine w_seq ?_
    refine w_block ?_
    refine w_seq ?_
    obtain ⟨g, cp, hv⟩ := row_shape hrow (by omega)
    obtain ⟨x, hx⟩ := get_at (show i < L.length by omega)
    refine w_lit ?_
    refine wl_pure (wants0 rfl) (d := 16) (v := (.int .i64 ((i : Int)))) rfl (by kernel_rfl) ?_
    refine wl_pure (wants0 rfl) (d := 6) (v := (.int .i64 ((i : Int)))) rfl (by kernel_rfl) ?_
    refine w_nil ?_
    refine then_normal ?_
    refine w_seq ?_
    refine w_lit ?_
    refine wl_pure (wants0 rfl) (d := 7) (v := (.bool false)) rfl (by kernel_rfl) ?_
    refine w_nil ?_
    refine then_normal ?_
    refine w_seq ?_
    refine w_seq ?_
    refine w_lit ?_
    refine wl_pure (wants0 rfl) (d := 17) (v := u) rfl (by kernel_rfl) ?_
    refine wl_pure (wants0 rfl) (d := 18) (v := (.int .i64 ((hs.length : Int)))) rfl (e_lenRow (E := 3) (by kernel_rfl) (H3.at 1 rfl) rfl) ?_
    refine wl_pure (wants0 rfl) (d := 19) (v := (.int .i64 (0))) rfl (by kernel_rfl) ?_
    refine w_nil ?_
    refine then_normal ?_
    refine w_block ?_
    refine wp_round [7, 8, 19, 20, 21, 22, 23, 24, 25, 26, 27, 28, 29, 30, 31, 32, 33, 34, 35, 36, 37, 38] (fun F_ W_ m_ => ∃ (k : Nat), F_ 19 = (.int .i64 ((k : Int))) ∧ F_ 7 = (.bool ((hs.take k).any fun y => decide (y = x.replica))) ∧ (k ≤ hs.length) ∧ Sat w [restC w (fun _ => False), rowC 3 1 u hs.length (hs.flatMap enc1)] W_ ∧ m_ = hs.length - k) _ ⟨0, (by first | rfl | go_num), (by first | rfl | go_num), by omega, H3, rfl⟩ ?_
    rintro g9 w10 _ ⟨k, v12, v13, hk, H11, rfl⟩
    refine wp_know 19 _ v12 ?_
    refine wp_know 7 _ v13 ?_
    refine w_seq ?_
    refine w_lit ?_
    refine wl_pure (wants0 rfl) (d := 20) (v := (.bool (decide ((k : Int) < (hs.length : Int))))) rfl (by kernel_rfl) ?_
    refine w_nil ?_
    refine then_normal ?_
    refine w_seq ?_
    refine (bsplit (decide ((k : Int) < (hs.length : Int)))).elim (fun b15 => ?_) (fun b15 => ?_)
    · have g16 := of_decide_eq_true b15
      refine wp_know 20 (.bool true) (congrArg Value.bool b15) ?_
      refine wp_ift rfl ?_
      refine w_skip ?_
      refine then_normal ?_
      refine w_seq ?_
      refine w_block ?_
      refine w_seq ?_
      obtain ⟨g2, cp2, hv2⟩ := row_shape (H11.at 1 rfl) (by omega)
      obtain ⟨z, hz⟩ := get_at (show k < hs.length by omega)
      refine w_lit ?_
      refine wl_pure (wants0 rfl) (d := 21) (v := (.int .i64 ((k : Int)))) rfl (by kernel_rfl) ?_
      refine wl_pure (wants0 rfl) (d := 8) (v := (.int .i64 ((k : Int)))) rfl (by kernel_rfl) ?_
      refine w_nil ?_
      refine then_normal ?_
      refine q_start H11 (by kernel_rfl) (by kernel_rfl) ?_
      refine q_val (wants0 rfl) (d := 22) (v := (.bool ((hs.take k).any fun y => decide (y = x.replica)))) rfl (fun _ H' => (by kernel_rfl)) ?_
      refine q_val (wants0 rfl) (d := 23) (v := (.bool ((hs.take k).any fun y => decide (y = x.replica)))) rfl (fun _ H' => (by kernel_rfl)) ?_
      refine (bsplit ((hs.take k).any fun y => decide (y = x.replica))).elim (fun b17 => ?_) (fun b17 => ?_)
      · refine q_know 23 (.bool true) (congrArg Value.bool b17) ?_
        refine q_pass (wantsN 1 23 false rfl (by kernel_rfl) rfl (by kernel_rfl)) rfl ?_
        refine q_pass (wantsN 1 23 false rfl (by kernel_rfl) rfl (by kernel_rfl)) rfl ?_
        refine q_pass (wantsN 1 23 false rfl (by kernel_rfl) rfl (by kernel_rfl)) rfl ?_
        refine q_pass (wantsN 1 23 false rfl (by kernel_rfl) rfl (by kernel_rfl)) rfl ?_
        refine q_pass (wantsN 1 23 false rfl (by kernel_rfl) rfl (by kernel_rfl)) rfl ?_
        refine q_pass (wantsN 1 23 false rfl (by kernel_rfl) rfl (by kernel_rfl)) rfl ?_
        refine q_pass (wantsN 1 23 false rfl (by kernel_rfl) rfl (by kernel_rfl)) rfl ?_
        refine q_pass (wantsN 1 23 false rfl (by kernel_rfl) rfl (by kernel_rfl)) rfl ?_
        refine q_pass (wantsN 1 23 false rfl (by kernel_rfl) rfl (by kernel_rfl)) rfl ?_
        refine q_pass (wantsN 1 23 false rfl (by kernel_rfl) rfl (by kernel_rfl)) rfl ?_
        refine q_pass (wantsN 1 23 false rfl (by kernel_rfl) rfl (by kernel_rfl)) rfl ?_
        refine q_pass (wantsN 1 23 false rfl (by kernel_rfl) rfl (by kernel_rfl)) rfl ?_
        refine q_pass (wantsN 1 23 false rfl (by kernel_rfl) rfl (by kernel_rfl)) rfl ?_
        refine q_val (wants0 rfl) (d := 37) (v := (.bool true)) rfl (fun _ H' => (by kernel_rfl)) ?_
        refine q_val (wants0 rfl) (d := 7) (v := (.bool true)) rfl (fun _ H' => (by kernel_rfl)) ?_
        refine q_end ?_
        intro w18 H19
        refine blk_normal ?_
        refine then_normal ?_
        refine w_lit ?_
        refine wl_pure (wants0 rfl) (d := 38) (v := (.int .i64 ((k : Int) + 1))) rfl (e_int (z := (k : Int) + 1) (by kernel_rfl) (IntWalk.i64_in _ (by omega))) ?_
        refine wl_pure (wants0 rfl) (d := 19) (v := (.int .i64 ((k : Int) + 1))) rfl (by kernel_rfl) ?_
        refine w_nil ?_
        refine round_back ?_ _ ⟨(k + 1), (show ((.int .i64 ((k : Int) + 1)) : Value) = _ by first | rfl | go_num), (show ((.bool true) : Value) = _ by rw [take_any hz, b17]; simp), by omega, H19, rfl⟩ (by omega)
        exact (same_upd rfl (same_upd rfl (same_upd rfl (same_upd rfl (same_upd rfl (same_upd rfl (same_upd rfl (same_upd rfl (same_upd rfl (same_upd rfl (same_upd rfl (same_upd rfl (same_upd rfl (same_upd rfl (same_upd rfl (same_upd rfl (same_upd rfl (same_upd rfl (same_upd rfl (same_upd rfl (same_upd rfl (same_upd rfl (same_upd rfl (same_upd rfl (same_upd rfl (same_upd rfl (same_ovr)))))))))))))))))))))))))))
      · refine q_know 23 (.bool false) (congrArg Value.bool b17) ?_
        refine q_val (wantsY 1 23 false rfl (by kernel_rfl) rfl (by kernel_rfl)) (d := 24) (v := u) rfl (fun _ H' => (by kernel_rfl)) ?_
        refine q_val (wantsY 1 23 false rfl (by kernel_rfl) rfl (by kernel_rfl)) (d := 25) (v := (.int .i64 ((k : Int)))) rfl (fun _ H' => (by kernel_rfl)) ?_
        refine q_val (wantsY 1 23 false rfl (by kernel_rfl) rfl (by kernel_rfl)) (d := 26) (v := (.pointer (some ⟨g2, 0 + ((k : Int)).toNat * 1, none⟩))) rfl (fun _ H' => (e_indexAddrV (E := 3) (by kernel_rfl) (by kernel_rfl) (Nat.le_of_ble_eq_true rfl) rfl hv2 rfl (by omega) (by omega))) ?_
        refine q_val (wantsY 1 23 false rfl (by kernel_rfl) rfl (by kernel_rfl)) (d := 27) (v := (.int .i64 (z))) rfl (fun _ H' => (e_load1 rfl (by kernel_rfl) (rows_cell (H'.at 1 rfl) hv2 (fun _ => rfl) hz 0 rfl (show 0 + ((k : Int)).toNat * 1 = k * 1 + 0 by omega) rfl))) ?_
        refine q_val (wantsY 1 23 false rfl (by kernel_rfl) rfl (by kernel_rfl)) (d := 28) (v := (.pointer (some ⟨r, 0, none⟩))) rfl (fun _ H' => (by kernel_rfl)) ?_
        refine q_val (wantsY 1 23 false rfl (by kernel_rfl) rfl (by kernel_rfl)) (d := 29) (v := (.pointer (some ⟨r, 0, none⟩))) rfl (fun _ H' => (by kernel_rfl)) ?_
        refine q_val (wantsY 1 23 false rfl (by kernel_rfl) rfl (by kernel_rfl)) (d := 30) (v := (.pointer (some ⟨r, 2, none⟩))) rfl (fun _ H' => (by kernel_rfl)) ?_
        refine q_val (wantsY 1 23 false rfl (by kernel_rfl) rfl (by kernel_rfl)) (d := 31) (v := v) rfl (fun _ H' => (e_load1 rfl (by kernel_rfl) (H'.roCell 0 rfl hcell (fun h => h) rfl))) ?_
        refine q_val (wantsY 1 23 false rfl (by kernel_rfl) rfl (by kernel_rfl)) (d := 32) (v := (.int .i64 ((i : Int)))) rfl (fun _ H' => (by kernel_rfl)) ?_
        refine q_val (wantsY 1 23 false rfl (by kernel_rfl) rfl (by kernel_rfl)) (d := 33) (v := (.pointer (some ⟨g, 0 + ((i : Int)).toNat * 35, none⟩))) rfl (fun _ H' => (e_indexAddrV (E := 77) (by kernel_rfl) (by kernel_rfl) (Nat.le_of_ble_eq_true rfl) rfl hv rfl (by omega) (by omega))) ?_
        refine q_val (wantsY 1 23 false rfl (by kernel_rfl) rfl (by kernel_rfl)) (d := 34) (v := (.pointer (some ⟨g, 0 + ((i : Int)).toNat * 35 + 2, none⟩))) rfl (fun _ H' => (by kernel_rfl)) ?_
        refine q_val (wantsY 1 23 false rfl (by kernel_rfl) rfl (by kernel_rfl)) (d := 35) (v := (.int .i64 (x.replica))) rfl (fun _ H' => (e_load1 rfl (by kernel_rfl) (H'.cellR 0 rfl (rows_cell hrow hv encV_len hx 2 rfl (show 0 + ((i : Int)).toNat * 35 + 2 = i * 35 + 2 by omega) rfl) (fun h => h)))) ?_
        refine q_val (wantsY 1 23 false rfl (by kernel_rfl) rfl (by kernel_rfl)) (d := 36) (v := (.bool (decide (z = x.replica)))) rfl (fun _ H' => (by kernel_rfl)) ?_
        refine q_val (wants0 rfl) (d := 37) (v := (.bool (decide (z = x.replica)))) rfl (fun _ H' => (by kernel_rfl)) ?_
        refine q_val (wants0 rfl) (d := 7) (v := (.bool (decide (z = x.replica)))) rfl (fun _ H' => (by kernel_rfl)) ?_
        refine q_end ?_
        intro w20 H21
        refine blk_normal ?_
        refine then_normal ?_
        refine w_lit ?_
        refine wl_pure (wants0 rfl) (d := 38) (v := (.int .i64 ((k : Int) + 1))) rfl (e_int (z := (k : Int) + 1) (by kernel_rfl) (IntWalk.i64_in _ (by omega))) ?_
        refine wl_pure (wants0 rfl) (d := 19) (v := (.int .i64 ((k : Int) + 1))) rfl (by kernel_rfl) ?_
        refine w_nil ?_
        refine round_back ?_ _ ⟨(k + 1), (show ((.int .i64 ((k : Int) + 1)) : Value) = _ by first | rfl | go_num), (show ((.bool (decide (z = x.replica))) : Value) = _ by rw [take_any hz, b17]; simp), by omega, H21, rfl⟩ (by omega)
        exact (same_upd rfl (same_upd rfl (same_upd rfl (same_upd rfl (same_upd rfl (same_upd rfl (same_upd rfl (same_upd rfl (same_upd rfl (same_upd rfl (same_upd rfl (same_upd rfl (same_upd rfl (same_upd rfl (same_upd rfl (same_upd rfl (same_upd rfl (same_upd rfl (same_upd rfl (same_upd rfl (same_upd rfl (same_upd rfl (same_upd rfl (same_upd rfl (same_upd rfl (same_upd rfl (same_ovr)))))))))))))))))))))))))))
    · have g22 := of_decide_eq_false b15
      refine wp_know 20 (.bool false) (congrArg Value.bool b15) ?_
      refine wp_iff rfl ?_
      refine w_exit ?_
      refine then_exit ?_
      refine back_exit ?_
      refine blk_hit ?_
      refine then_normal ?_
      refine w_seq ?_
      refine w_lit ?_
      refine wl_pure (wants0 rfl) (d := 39) (v := (.pointer (some ⟨r, 0, none⟩))) rfl (by kernel_rfl) ?_
      refine wl_pure (wants0 rfl) (d := 40) (v := (.pointer (some ⟨r, 0, none⟩))) rfl (by kernel_rfl) ?_
      refine wl_pure (wants0 rfl) (d := 41) (v := (.pointer (some ⟨r, 2, none⟩))) rfl (by kernel_rfl) ?_
      refine wl_pure (wants0 rfl) (d := 42) (v := v) rfl (e_load1 rfl (by kernel_rfl) (H11.roCell 0 rfl hcell (fun h => h) rfl)) ?_
      refine wl_pure (wants0 rfl) (d := 43) (v := (.int .i64 ((i : Int)))) rfl (by kernel_rfl) ?_
      refine wl_pure (wants0 rfl) (d := 44) (v := (.pointer (some ⟨g, 0 + ((i : Int)).toNat * 35, none⟩))) rfl (e_indexAddrV (E := 77) (by kernel_rfl) (by kernel_rfl) (Nat.le_of_ble_eq_true rfl) rfl hv rfl (by omega) (by omega)) ?_
      refine wl_pure (wants0 rfl) (d := 45) (v := (.pointer (some ⟨g, 0 + ((i : Int)).toNat * 35 + 1, none⟩))) rfl (by kernel_rfl) ?_
      refine wl_pure (wants0 rfl) (d := 46) (v := (.int .i64 (x.round))) rfl (e_load1 rfl (by kernel_rfl) (H11.cellR 0 rfl (rows_cell hrow hv encV_len hx 1 rfl (show 0 + ((i : Int)).toNat * 35 + 1 = i * 35 + 1 by omega) rfl) (fun h => h))) ?_
      refine wl_pure (wants0 rfl) (d := 47) (v := (.int .i64 (round))) rfl (by kernel_rfl) ?_
      refine wl_pure (wants0 rfl) (d := 48) (v := (.bool (decide (x.round ≥ round)))) rfl (by kernel_rfl) ?_
      refine wl_pure (wants0 rfl) (d := 49) (v := (.bool (decide (x.round ≥ round)))) rfl (by kernel_rfl) ?_
      refine (bsplit (decide (x.round ≥ round))).elim (fun b23 => ?_) (fun b23 => ?_)
      · have g24 := of_decide_eq_true b23
        refine wl_know 49 (.bool true) (congrArg Value.bool b23) ?_
        refine wl_pure (wantsY 10 49 true rfl (by kernel_rfl) rfl (by kernel_rfl)) (d := 50) (v := (.bool ((hs.take k).any fun y => decide (y = x.replica)))) rfl (by kernel_rfl) ?_
        refine wl_pure (wantsY 10 49 true rfl (by kernel_rfl) rfl (by kernel_rfl)) (d := 51) (v := (.bool (!((hs.take k).any fun y => decide (y = x.replica))))) rfl (by kernel_rfl) ?_
        refine wl_pure (wants0 rfl) (d := 52) (v := (.bool (!((hs.take k).any fun y => decide (y = x.replica))))) rfl (by kernel_rfl) ?_
        refine w_nil ?_
        refine then_normal ?_
        refine (bsplit (!((hs.take k).any fun y => decide (y = x.replica)))).elim (fun b25 => ?_) (fun b25 => ?_)
        · have g26 := bnot_true b25
          refine wp_know 52 (.bool true) (congrArg Value.bool b25) ?_
          refine wp_ift rfl ?_
          refine w_lit ?_
          refine wl_pure (wants0 rfl) (d := 53) (v := u) rfl (by kernel_rfl) ?_
          refine wl_pure (wants0 rfl) (d := 54) (v := (.pointer (some ⟨r, 0, none⟩))) rfl (by kernel_rfl) ?_
          refine wl_pure (wants0 rfl) (d := 55) (v := (.pointer (some ⟨r, 0, none⟩))) rfl (by kernel_rfl) ?_
          refine wl_pure (wants0 rfl) (d := 56) (v := (.pointer (some ⟨r, 2, none⟩))) rfl (by kernel_rfl) ?_
          refine wl_pure (wants0 rfl) (d := 57) (v := v) rfl (e_load1 rfl (by kernel_rfl) (H11.roCell 0 rfl hcell (fun h => h) rfl)) ?_
          refine wl_pure (wants0 rfl) (d := 58) (v := (.int .i64 ((i : Int)))) rfl (by kernel_rfl) ?_
          refine wl_pure (wants0 rfl) (d := 59) (v := (.pointer (some ⟨g, 0 + ((i : Int)).toNat * 35, none⟩))) rfl (e_indexAddrV (E := 77) (by kernel_rfl) (by kernel_rfl) (Nat.le_of_ble_eq_true rfl) rfl hv rfl (by omega) (by omega)) ?_
          refine wl_pure (wants0 rfl) (d := 60) (v := (.pointer (some ⟨g, 0 + ((i : Int)).toNat * 35 + 2, none⟩))) rfl (by kernel_rfl) ?_
          refine wl_pure (wants0 rfl) (d := 61) (v := (.int .i64 (x.replica))) rfl (e_load1 rfl (by kernel_rfl) (H11.cellR 0 rfl (rows_cell hrow hv encV_len hx 2 rfl (show 0 + ((i : Int)).toNat * 35 + 2 = i * 35 + 2 by omega) rfl) (fun h => h))) ?_
          refine wl_do (wants0 rfl) (fun K27 hK27 => ?_)
          refine d_buildSlice (e := 3) (size := 1) (bytes := 8) (z := (.int .i64 (0))) (pvs := [(0, (.int .i64 (x.replica)))]) (vs := ([(.int .i64 (x.replica))] : List Value)) rfl H11 (by kernel_rfl) (by kernel_rfl) (by kernel_rfl) (by kernel_rfl) (by kernel_rfl) rfl rfl ?_
          intro b28 w29 (H30 : Sat w [restC w (fun _ => False), rowC 3 1 u hs.length (hs.flatMap enc1), rowC 3 1 (.slice (some ⟨b28, 0, none⟩) 1 1) 1 ([(.int .i64 (x.replica))] : List Value)] w29)
          refine hK27 _ _ ?_
          clear hK27 K27
          refine wl_do (wants0 rfl) (fun K31 hK31 => ?_)
          refine d_append (T := 22) (e := 3) (size := 1) (bytes := 8) rfl H30 (by kernel_rfl) 1 2 rfl rfl rfl rfl (by kernel_rfl) (by omega) (by omega) ?_
          intro v32 w33 (H34 : Sat w [restC w (fun _ => False), rowC 3 1 v32 (hs.length + 1) ((hs.flatMap enc1) ++ ([(.int .i64 (x.replica))] : List Value)), rowC 3 1 (.slice (some ⟨b28, 0, none⟩) 1 1) 1 ([(.int .i64 (x.replica))] : List Value)] w33)
          obtain ⟨a35, c36, rfl⟩ := ownsRow_shape (H34.at 1 rfl)
          refine hK31 _ _ ?_
          clear hK31 K31
          refine wl_pure (wants0 rfl) (d := 5) (v := (.slice a35 (hs.length + 1) c36)) rfl (by kernel_rfl) ?_
          refine w_nil ?_
          refine blk_normal ?_
          refine then_normal ?_
          refine w_lit ?_
          refine wl_pure (wants0 rfl) (d := 64) (v := (.int .i64 ((i : Int) + 1))) rfl (e_int (z := (i : Int) + 1) (by kernel_rfl) (IntWalk.i64_in _ (by omega))) ?_
          refine wl_pure (wants0 rfl) (d := 14) (v := (.int .i64 ((i : Int) + 1))) rfl (by kernel_rfl) ?_
          refine w_nil ?_
          have H37 : Sat w [restC w (fun _ => False), rowC 3 1 (.slice a35 (hs.length + 1) c36) ((hs ++ [x.replica]).length) ((hs ++ [x.replica]).flatMap enc1), rowC 3 1 (.slice (some ⟨b28, 0, none⟩) 1 1) 1 ([(.int .i64 (x.replica))] : List Value)] w33 := by rw [← row_snoc1]; exact H34
          have H38 : Sat w [restC w (fun _ => False), rowC 3 1 (.slice a35 (hs.length + 1) c36) ((hs ++ [x.replica]).length) ((hs ++ [x.replica]).flatMap enc1)] w33 := H37.pick [0, 1] (by decide)
          refine round_back ?_ _ ⟨(i + 1), (.slice a35 (hs.length + 1) c36), (hs ++ [x.replica]), (show ((.int .i64 ((i : Int) + 1)) : Value) = _ by first | rfl | go_num), (show ((.slice a35 (hs.length + 1) c36) : Value) = _ by first | rfl | go_num), by omega, by rw [heardF_take hx, ← hhs, heardStep_yes (of_decide_eq_true b23) (bnot_true b25) (by omega)], by simp; omega, H38, rfl⟩ (by omega)
          exact (same_upd rfl (same_upd rfl (same_upd rfl (same_upd rfl (same_upd rfl (same_upd rfl (same_upd rfl (same_upd rfl (same_upd rfl (same_upd rfl (same_upd rfl (same_upd rfl (same_upd rfl (same_upd rfl (same_upd rfl (same_upd rfl (same_upd rfl (same_upd rfl (same_upd rfl (same_upd rfl (same_upd rfl (same_upd rfl (same_upd rfl (same_upd rfl (same_upd rfl (same_upd rfl (same_upd rfl (same_upd rfl (same_upd rfl (same_upd rfl (same_upd rfl (same_upd rfl (same_upd rfl (same_upd rfl (same_ovr2 rfl (same_upd rfl (same_upd rfl (same_upd rfl (same_upd rfl (same_upd rfl (same_upd rfl (same_upd rfl (same_upd rfl (same_upd rfl (same_upd rfl (same_ovr))))))))))))))))))))))))))))))))))))))))))))))
        · have g39 := bnot_false b25
          refine wp_know 52 (.bool false) (congrArg Value.bool b25) ?_
          refine wp_iff rfl ?_
          refine w_skip ?_
          refine blk_normal ?_
          refine then_normal ?_
          refine w_lit ?_
          refine wl_pure (wants0 rfl) (d := 64) (v := (.int .i64 ((i : Int) + 1))) rfl (e_int (z := (i : Int) + 1) (by kernel_rfl) (IntWalk.i64_in _ (by omega))) ?_
          refine wl_pure (wants0 rfl) (d := 14) (v := (.int .i64 ((i : Int) + 1))) rfl (by kernel_rfl) ?_
          refine w_nil ?_
          refine round_back ?_ _ ⟨(i + 1), u, hs, (show ((.int .i64 ((i : Int) + 1)) : Value) = _ by first | rfl | go_num), (show (u : Value) = _ by first | rfl | go_num), by omega, by rw [heardF_take hx, ← hhs, heardStep_no2 (bnot_false b25)], by omega, H11, rfl⟩ (by omega)
          exact (same_upd rfl (same_upd rfl (same_upd rfl (same_upd rfl (same_upd rfl (same_upd rfl (same_upd rfl (same_upd rfl (same_upd rfl (same_upd rfl (same_upd rfl (same_upd rfl (same_upd rfl (same_upd rfl (same_upd rfl (same_upd rfl (same_upd rfl (same_upd rfl (same_upd rfl (same_upd rfl (same_upd rfl (same_upd rfl (same_ovr2 rfl (same_upd rfl (same_upd rfl (same_upd rfl (same_upd rfl (same_upd rfl (same_upd rfl (same_upd rfl (same_upd rfl (same_upd rfl (same_upd rfl (same_ovr))))))))))))))))))))))))))))))))))
      · have g40 := of_decide_eq_false b23
        refine wl_know 49 (.bool false) (congrArg Value.bool b23) ?_
        refine wl_pass (wantsN 10 49 true rfl (by kernel_rfl) rfl (by kernel_rfl)) rfl ?_
        refine wl_pass (wantsN 10 49 true rfl (by kernel_rfl) rfl (by kernel_rfl)) rfl ?_
        refine wl_pure (wants0 rfl) (d := 52) (v := (.bool false)) rfl (by kernel_rfl) ?_
        refine w_nil ?_
        refine then_normal ?_
        refine wp_iff rfl ?_
        refine w_skip ?_
        refine blk_normal ?_
        refine then_normal ?_
        refine w_lit ?_
        refine wl_pure (wants0 rfl) (d := 64) (v := (.int .i64 ((i : Int) + 1))) rfl (e_int (z := (i : Int) + 1) (by kernel_rfl) (IntWalk.i64_in _ (by omega))) ?_
        refine wl_pure (wants0 rfl) (d := 14) (v := (.int .i64 ((i : Int) + 1))) rfl (by kernel_rfl) ?_
        refine w_nil ?_
        refine round_back ?_ _ ⟨(i + 1), u, hs, (show ((.int .i64 ((i : Int) + 1)) : Value) = _ by first | rfl | go_num), (show (u : Value) = _ by first | rfl | go_num), by omega, by rw [heardF_take hx, ← hhs, heardStep_no1 (of_decide_eq_false b23)], by omega, H11, rfl⟩ (by omega)
        exact (same_upd rfl (same_upd rfl (same_upd rfl (same_upd rfl (same_upd rfl (same_upd rfl (same_upd rfl (same_upd rfl (same_upd rfl (same_upd rfl (same_upd rfl (same_upd rfl (same_upd rfl (same_upd rfl (same_upd rfl (same_upd rfl (same_upd rfl (same_upd rfl (same_upd rfl (same_upd rfl (same_upd rfl (same_ovr2 rfl (same_upd rfl (same_upd rfl (same_upd rfl (same_upd rfl (same_upd rfl (same_upd rfl (same_upd rfl (same_upd rfl (same_upd rfl (same_upd rfl (same_ovr)))))))))))))))))))))))))))))))))
  · have g41 := of_decide_eq_false b7
    refine wp_know 15 (.bool false) (congrArg Value.bool b7) ?_
    refine wp_iff rfl ?_
    refine w_exit ?_
    refine then_exit ?_
    refine back_exit ?_
    refine blk_hit ?_
    refine then_normal ?_
    refine w_seq ?_
    refine w_lit ?_
    refine wl_pure (wants0 rfl) (d := 65) (v := u) rfl (by kernel_rfl) ?_
    refine wl_pure (wants0 rfl) (d := 66) (v := (.int .i64 ((hs.length : Int)))) rfl (e_lenRow (E := 3) (by kernel_rfl) (H3.at 1 rfl) rfl) ?_
    refine wl_pure (wants0 rfl) (d := 4) (v := (.int .i64 ((hs.length : Int)))) rfl (by kernel_rfl) ?_
    refine w_nil ?_
    refine then_normal ?_
    refine w_ret ?_
    refine end1 rfl (res_tmp (v := (.int .i64 ((hs.length : Int)))) rfl) ?_
    exact ⟨by rw [hhs, List.take_of_length_le (by omega)], H3.upd 0 rfl [] (fun _ h => h.elim)⟩

set_option maxRecDepth 100000 in
set_option maxHeartbeats 1000000 in
theorem refMost_any (w : World) (r : Nat) (v : Value) (f c : Int) (L : List VoteD) (hT : (rtC r v f c L).ok w) (hl : L.length ≤ 1000000) (kind round : Int) :
    Calls Try.prog 29 #[(.pointer (some ⟨r, 0, none⟩)), (.int .i64 (kind)), (.int .i64 (round))] w fun e w' => e = .returned (.tuple #[.agg ⟨hc (rmF L kind round L).1⟩, .int .i64 (rmF L kind round L).2]) ∧ Upd [] w w' := by
  obtain ⟨hcell, hrow⟩ := rtC_parts hT
  have H := Sat.start0 w
  refine calls_fr Try.func29 rfl 66 rfl (Nat.le_of_ble_eq_true rfl) ?_
  refine w_seq ?_
  refine w_lit ?_
  refine wl_do (wants0 rfl) (fun K1 hK1 => ?_)
  refine d_alloc (zs := (hc hash0)) (z := (.agg ⟨(hc hash0)⟩)) rfl H (by kernel_rfl) (by kernel_rfl) ?_
  intro b2 w3 (H4 : Sat w [restC w (fun _ => False), cellC b2 24 (hc hash0)] w3)
  refine hK1 _ _ ?_
  clear hK1 K1
  refine wl_pure (wants0 rfl) (d := 7) (v := (.int .i64 (0))) rfl (by kernel_rfl) ?_
  refine w_nil ?_
  refine then_normal ?_
  refine w_seq ?_
  refine w_lit ?_
  refine wl_do (wants0 rfl) (fun K5 hK5 => ?_)
  refine d_alloc (zs := (hc hash0)) (z := (.agg ⟨(hc hash0)⟩)) rfl H4 (by kernel_rfl) (by kernel_rfl) ?_
  intro b6 w7 (H8 : Sat w [restC w (fun _ => False), cellC b2 24 (hc hash0), cellC b6 24 (hc hash0)] w7)
  refine hK5 _ _ ?_
  clear hK5 K5
  refine w_nil ?_
  refine then_normal ?_
  refine w_seq ?_
  refine w_lit ?_
  refine wl_pure (wants0 rfl) (d := 9) (v := (.int .i64 (0))) rfl (by kernel_rfl) ?_
  refine w_nil ?_
  refine then_normal ?_
  refine w_seq ?_
  refine w_seq ?_
  refine w_lit ?_
  refine wl_pure (wants0 rfl) (d := 13) (v := (.pointer (some ⟨r, 0, none⟩))) rfl (by kernel_rfl) ?_
  refine wl_pure (wants0 rfl) (d := 14) (v := (.pointer (some ⟨r, 0, none⟩))) rfl (by kernel_rfl) ?_
  refine wl_pure (wants0 rfl) (d := 15) (v := (.pointer (some ⟨r, 2, none⟩))) rfl (by kernel_rfl) ?_
  refine wl_pure (wants0 rfl) (d := 16) (v := v) rfl (e_load1 rfl (by kernel_rfl) (H8.roCell 0 rfl hcell (fun h => h) rfl)) ?_
  refine wl_pure (wants0 rfl) (d := 17) (v := (.int .i64 ((L.length : Int)))) rfl (e_lenRow (E := 77) (by kernel_rfl) hrow rfl) ?_
  refine wl_pure (wants0 rfl) (d := 18) (v := (.int .i64 (0))) rfl (by kernel_rfl) ?_
  refine w_nil ?_
  refine then_normal ?_
  refine w_block ?_
  refine wp_round [9, 10, 11, 12, 18, 19, 20, 21, 22, 23, 24, 25, 26, 27, 28, 29, 30, 31, 32, 33, 34, 35, 36, 37, 38, 39, 40, 41, 42, 43, 44, 45, 46, 47, 48, 49, 50, 51, 52, 53, 54, 55, 56, 57, 58, 59, 60, 61, 62, 63] (fun F_ W_ m_ => ∃ (i : Nat), F_ 18 = (.int .i64 ((i : Int))) ∧ F_ 9 = (.int .i64 ((rmF L kind round (L.take i)).2)) ∧ (i ≤ L.length) ∧ Sat w [restC w (fun _ => False), cellC b2 24 (hc hash0), cellC b6 24 (hc (rmF L kind round (L.take i)).1)] W_ ∧ m_ = L.length - i) _ ⟨0, (by first | rfl | go_num), (by first | rfl | go_num), by omega, H8, rfl⟩ ?_
  rintro g9 w10 _ ⟨i, v12, v13, hi, H11, rfl⟩
  refine wp_know 18 _ v12 ?_
  refine wp_know 9 _ v13 ?_
  refine w_seq ?_
  refine w_lit ?_
  refine wl_pure (wants0 rfl) (d := 19) (v := (.bool (decide ((i : Int) < (L.length : Int))))) rfl (by kernel_rfl) ?_
  refine w_nil ?_
  refine then_normal ?_
  refine w_seq ?_
  refine (bsplit (decide ((i : Int) < (L.length : Int)))).elim (fun b15 => ?_) (fun b15 => ?_)
  · have g16 := of_decide_eq_true b15
    refine wp_know 19 (.bool true) (congrArg Value.bool b15) ?_
    refine wp_ift rfl ?_
    refine w_skip ?_
    refine then_normal ?_
    refine w_seq ?_
    refine w_block ?_
    refine w_seq ?_
    obtain ⟨g, cp, hv⟩ := row_shape hrow (by omega)
    obtain ⟨x, hx⟩ := get_at (show i < L.length by omega)
    refine w_lit ?_
    refine wl_pure (wants0 rfl) (d := 20) (v := (.int .i64 ((i : Int)))) rfl (by kernel_rfl) ?_
    refine wl_pure (wants0 rfl) (d := 10) (v := (.int .i64 ((i : Int)))) rfl (by kernel_rfl) ?_
    refine w_nil ?_
    refine then_normal ?_
    refine w_seq ?_
    refine w_lit ?_
    refine wl_pure (wants0 rfl) (d := 21) (v := (.pointer (some ⟨r, 0, none⟩))) rfl (by kernel_rfl) ?_
    refine wl_pure (wants0 rfl) (d := 22) (v := (.pointer (some ⟨r, 0, none⟩))) rfl (by kernel_rfl) ?_
    refine wl_pure (wants0 rfl) (d := 23) (v := (.pointer (some ⟨r, 2, none⟩))) rfl (by kernel_rfl) ?_
    refine wl_pure (wants0 rfl) (d := 24) (v := v) rfl (e_load1 rfl (by kernel_rfl) (H11.roCell 0 rfl hcell (fun h => h) rfl)) ?_
    refine wl_pure (wants0 rfl) (d := 25) (v := (.int .i64 ((i : Int)))) rfl (by kernel_rfl) ?_
    refine wl_pure (wants0 rfl) (d := 26) (v := (.pointer (some ⟨g, 0 + ((i : Int)).toNat * 35, none⟩))) rfl (e_indexAddrV (E := 77) (by kernel_rfl) (by kernel_rfl) (Nat.le_of_ble_eq_true rfl) rfl hv rfl (by omega) (by omega)) ?_
    refine wl_pure (wants0 rfl) (d := 27) (v := (.agg ⟨(([(.int .i64 (x.kind)), (.int .i64 (x.round)), (.int .i64 (x.replica))] : List Value) ++ hc x.h)⟩)) rfl (e_loadRun (vs := encV x) rfl (by kernel_rfl) (by kernel_rfl) (Nat.le_of_ble_eq_true (by kernel_rfl)) (fun j v hj => H11.cellR 0 rfl ((rows_run hrow hv encV_len hx 0 (show 0 + ((i : Int)).toNat * 35 = i * 35 + 0 by omega) (by kernel_rfl) (by kernel_rfl)) j v hj) (fun h => h))) ?_
    refine wl_do (wants0 rfl) (fun K17 hK17 => ?_)
    refine d_alloc (zs := (([(.int .i64 (0)), (.int .i64 (0)), (.int .i64 (0))] : List Value) ++ hc hash0)) (z := (.agg ⟨(([(.int .i64 (0)), (.int .i64 (0)), (.int .i64 (0))] : List Value) ++ hc hash0)⟩)) rfl H11 (by kernel_rfl) (by kernel_rfl) ?_
    intro b18 w19 (H20 : Sat w [restC w (fun _ => False), cellC b2 24 (hc hash0), cellC b6 24 (hc (rmF L kind round (L.take i)).1), cellC b18 77 (([(.int .i64 (0)), (.int .i64 (0)), (.int .i64 (0))] : List Value) ++ hc hash0)] w19)
    refine hK17 _ _ ?_
    clear hK17 K17
    refine wl_do (wants0 rfl) (fun K21 hK21 => ?_)
    refine d_store (vs := (([(.int .i64 (x.kind)), (.int .i64 (x.round)), (.int .i64 (x.replica))] : List Value) ++ hc x.h)) rfl H20 3 rfl rfl rfl rfl (by kernel_rfl) (Nat.le_of_ble_eq_true (by kernel_rfl)) (Nat.le_of_ble_eq_true (by kernel_rfl)) (by kernel_rfl) ?_
    intro w22 (H23 : Sat w [restC w (fun _ => False), cellC b2 24 (hc hash0), cellC b6 24 (hc (rmF L kind round (L.take i)).1), cellC b18 77 (([(.int .i64 (x.kind)), (.int .i64 (x.round)), (.int .i64 (x.replica))] : List Value) ++ hc x.h)] w22)
    refine hK21 _ _ ?_
    clear hK21 K21
    refine w_nil ?_
    refine then_normal ?_
    refine w_seq ?_
    refine w_seq ?_
    refine w_lit ?_
    refine wl_pure (wants0 rfl) (d := 28) (v := (.pointer (some ⟨b18, 0, none⟩))) rfl (by kernel_rfl) ?_
    refine wl_pure (wants0 rfl) (d := 29) (v := (.int .i64 (x.kind))) rfl (e_load1 rfl (by kernel_rfl) (H23.cell 3 rfl (by kernel_rfl))) ?_
    refine wl_pure (wants0 rfl) (d := 30) (v := (.int .i64 (kind))) rfl (by kernel_rfl) ?_
    refine wl_pure (wants0 rfl) (d := 31) (v := (.bool (!(decide (x.kind = kind))))) rfl (by kernel_rfl) ?_
    refine wl_pure (wants0 rfl) (d := 32) (v := (.bool (!(decide (x.kind = kind))))) rfl (by kernel_rfl) ?_
    refine (bsplit (!(decide (x.kind = kind)))).elim (fun b25 => ?_) (fun b25 => ?_)
    · have g26 := bnot_true b25
      have g27 := of_decide_eq_false g26
      refine wl_know 32 (.bool true) (congrArg Value.bool b25) ?_
      refine wl_pass (wantsN 4 32 false rfl (by kernel_rfl) rfl (by kernel_rfl)) rfl ?_
      refine wl_pass (wantsN 4 32 false rfl (by kernel_rfl) rfl (by kernel_rfl)) rfl ?_
      refine wl_pass (wantsN 4 32 false rfl (by kernel_rfl) rfl (by kernel_rfl)) rfl ?_
      refine wl_pass (wantsN 4 32 false rfl (by kernel_rfl) rfl (by kernel_rfl)) rfl ?_
      refine wl_pure (wants0 rfl) (d := 37) (v := (.bool true)) rfl (by kernel_rfl) ?_
      refine w_nil ?_
      refine then_normal ?_
      refine wp_ift rfl ?_
      refine w_exit ?_
      refine then_exit ?_
      refine blk_hit ?_
      refine then_normal ?_
      refine w_lit ?_
      refine wl_pure (wants0 rfl) (d := 63) (v := (.int .i64 ((i : Int) + 1))) rfl (e_int (z := (i : Int) + 1) (by kernel_rfl) (IntWalk.i64_in _ (by omega))) ?_
      refine wl_pure (wants0 rfl) (d := 18) (v := (.int .i64 ((i : Int) + 1))) rfl (by kernel_rfl) ?_
      refine w_nil ?_
      have e29 : (rmF L kind round (L.take (i + 1))) = (rmF L kind round (L.take i)) := by rw [rmF_take hx]; simp [rmStep, bnot_true b25]
      have H28 : Sat w [restC w (fun _ => False), cellC b2 24 (hc hash0), cellC b6 24 (hc (rmF L kind round (L.take (i + 1))).1), cellC b18 77 (([(.int .i64 (x.kind)), (.int .i64 (x.round)), (.int .i64 (x.replica))] : List Value) ++ hc x.h)] w22 := by rw [e29]; exact H23
      have H30 : Sat w [restC w (fun _ => False), cellC b2 24 (hc hash0), cellC b6 24 (hc (rmF L kind round (L.take (i + 1))).1)] w22 := H28.pick [0, 1, 2] (by decide)
      refine round_back ?_ _ ⟨(i + 1), (show ((.int .i64 ((i : Int) + 1)) : Value) = _ by first | rfl | go_num), (show ((.int .i64 ((rmF L kind round (L.take i)).2)) : Value) = _ by rw [e29]), by omega, H30, rfl⟩ (by omega)
      exact (same_upd rfl (same_upd rfl (same_upd rfl (same_upd rfl (same_upd rfl (same_upd rfl (same_upd rfl (same_upd rfl (same_upd rfl (same_upd rfl (same_upd rfl (same_upd rfl (same_upd rfl (same_upd rfl (same_upd rfl (same_upd rfl (same_upd rfl (same_upd rfl (same_upd rfl (same_upd rfl (same_upd rfl (same_upd rfl (same_upd rfl (same_upd rfl (same_upd rfl (same_upd rfl (same_upd rfl (same_ovr))))))))))))))))))))))))))))
    · have g31 := bnot_false b25
      have g32 := of_decide_eq_true g31
      refine wl_know 32 (.bool false) (congrArg Value.bool b25) ?_
      refine wl_pure (wantsY 4 32 false rfl (by kernel_rfl) rfl (by kernel_rfl)) (d := 33) (v := (.pointer (some ⟨b18, 1, none⟩))) rfl (by kernel_rfl) ?_
      refine wl_pure (wantsY 4 32 false rfl (by kernel_rfl) rfl (by kernel_rfl)) (d := 34) (v := (.int .i64 (x.round))) rfl (e_load1 rfl (by kernel_rfl) (H23.cell 3 rfl (by kernel_rfl))) ?_
      refine wl_pure (wantsY 4 32 false rfl (by kernel_rfl) rfl (by kernel_rfl)) (d := 35) (v := (.int .i64 (round))) rfl (by kernel_rfl) ?_
      refine wl_pure (wantsY 4 32 false rfl (by kernel_rfl) rfl (by kernel_rfl)) (d := 36) (v := (.bool (!(decide (x.round = round))))) rfl (by kernel_rfl) ?_
      refine wl_pure (wants0 rfl) (d := 37) (v := (.bool (!(decide (x.round = round))))) rfl (by kernel_rfl) ?_
      refine w_nil ?_
      refine then_normal ?_
      refine (bsplit (!(decide (x.round = round)))).elim (fun b33 => ?_) (fun b33 => ?_)
      · have g34 := bnot_true b33
        have g35 := of_decide_eq_false g34
        refine wp_know 37 (.bool true) (congrArg Value.bool b33) ?_
        refine wp_ift rfl ?_
        refine w_exit ?_
        refine then_exit ?_
        refine blk_hit ?_
        refine then_normal ?_
        refine w_lit ?_
        refine wl_pure (wants0 rfl) (d := 63) (v := (.int .i64 ((i : Int) + 1))) rfl (e_int (z := (i : Int) + 1) (by kernel_rfl) (IntWalk.i64_in _ (by omega))) ?_
        refine wl_pure (wants0 rfl) (d := 18) (v := (.int .i64 ((i : Int) + 1))) rfl (by kernel_rfl) ?_
        refine w_nil ?_
        have e37 : (rmF L kind round (L.take (i + 1))) = (rmF L kind round (L.take i)) := by rw [rmF_take hx]; simp [rmStep, bnot_false b25, bnot_true b33]
        have H36 : Sat w [restC w (fun _ => False), cellC b2 24 (hc hash0), cellC b6 24 (hc (rmF L kind round (L.take (i + 1))).1), cellC b18 77 (([(.int .i64 (x.kind)), (.int .i64 (x.round)), (.int .i64 (x.replica))] : List Value) ++ hc x.h)] w22 := by rw [e37]; exact H23
        have H38 : Sat w [restC w (fun _ => False), cellC b2 24 (hc hash0), cellC b6 24 (hc (rmF L kind round (L.take (i + 1))).1)] w22 := H36.pick [0, 1, 2] (by decide)
        refine round_back ?_ _ ⟨(i + 1), (show ((.int .i64 ((i : Int) + 1)) : Value) = _ by first | rfl | go_num), (show ((.int .i64 ((rmF L kind round (L.take i)).2)) : Value) = _ by rw [e37]), by omega, H38, rfl⟩ (by omega)
        exact (same_upd rfl (same_upd rfl (same_upd rfl (same_upd rfl (same_upd rfl (same_upd rfl (same_upd rfl (same_upd rfl (same_upd rfl (same_upd rfl (same_upd rfl (same_upd rfl (same_upd rfl (same_upd rfl (same_upd rfl (same_upd rfl (same_upd rfl (same_upd rfl (same_upd rfl (same_upd rfl (same_upd rfl (same_upd rfl (same_upd rfl (same_upd rfl (same_upd rfl (same_upd rfl (same_upd rfl (same_upd rfl (same_ovr)))))))))))))))))))))))))))))
      · have g39 := bnot_false b33
        have g40 := of_decide_eq_true g39
        refine wp_know 37 (.bool false) (congrArg Value.bool b33) ?_
        refine wp_iff rfl ?_
        refine w_skip ?_
        refine then_normal ?_
        refine w_seq ?_
        refine w_lit ?_
        refine wl_pure (wants0 rfl) (d := 38) (v := (.pointer (some ⟨r, 0, none⟩))) rfl (by kernel_rfl) ?_
        refine wl_pure (wants0 rfl) (d := 39) (v := (.int .i64 (kind))) rfl (by kernel_rfl) ?_
        refine wl_pure (wants0 rfl) (d := 40) (v := (.int .i64 (round))) rfl (by kernel_rfl) ?_
        refine wl_pure (wants0 rfl) (d := 41) (v := (.pointer (some ⟨b18, 3, none⟩))) rfl (by kernel_rfl) ?_
        refine wl_pure (wants0 rfl) (d := 42) (v := (.agg ⟨(hc x.h)⟩)) rfl (e_loadN (vs := (hc x.h)) rfl (by kernel_rfl) (by kernel_rfl) (by exact Nat.le_of_ble_eq_true (by kernel_rfl)) (H23.at 3 rfl) (by kernel_rfl)) ?_
        refine wl_do (wants0 rfl) (fun K41 hK41 => ?_)
        refine d_call (d := 43) rfl (by kernel_rfl) (refFor_any w22 r v f c L (H23.roCk 0 rfl hT (fun _ _ h => h)) hl kind round x.h) ?_
        rintro _ w42 ⟨rfl, u44⟩
        have H43 := H23.keepU u44
        refine ⟨_, rfl, ?_⟩
        refine hK41 _ _ ?_
        clear hK41 K41
        refine wl_pure (wants0 rfl) (d := 12) (v := (.int .i64 (forV L kind round x.h))) rfl (by kernel_rfl) ?_
        refine w_nil ?_
        refine then_normal ?_
        refine w_seq ?_
        refine q_start H43 (by kernel_rfl) (by kernel_rfl) ?_
        refine q_val (wants0 rfl) (d := 44) (v := (.int .i64 (forV L kind round x.h))) rfl (fun _ H' => (by kernel_rfl)) ?_
        refine q_val (wants0 rfl) (d := 45) (v := (.int .i64 ((rmF L kind round (L.take i)).2))) rfl (fun _ H' => (by kernel_rfl)) ?_
        refine q_val (wants0 rfl) (d := 46) (v := (.bool (decide ((forV L kind round x.h) > ((rmF L kind round (L.take i)).2))))) rfl (fun _ H' => (by kernel_rfl)) ?_
        refine q_val (wants0 rfl) (d := 47) (v := (.bool (decide ((forV L kind round x.h) > ((rmF L kind round (L.take i)).2))))) rfl (fun _ H' => (by kernel_rfl)) ?_
        refine (bsplit (decide ((forV L kind round x.h) > ((rmF L kind round (L.take i)).2)))).elim (fun b45 => ?_) (fun b45 => ?_)
        · have g46 := of_decide_eq_true b45
          refine q_know 47 (.bool true) (congrArg Value.bool b45) ?_
          refine q_pass (wantsN 3 47 false rfl (by kernel_rfl) rfl (by kernel_rfl)) rfl ?_
          refine q_pass (wantsN 3 47 false rfl (by kernel_rfl) rfl (by kernel_rfl)) rfl ?_
          refine q_pass (wantsN 3 47 false rfl (by kernel_rfl) rfl (by kernel_rfl)) rfl ?_
          refine q_pass (wantsN 3 47 false rfl (by kernel_rfl) rfl (by kernel_rfl)) rfl ?_
          refine q_pass (wantsU 7 51 true rfl (by kernel_rfl) rfl (by kernel_rfl)) rfl ?_
          refine q_pass (wantsU 7 51 true rfl (by kernel_rfl) rfl (by kernel_rfl)) rfl ?_
          refine q_pass (wantsU 7 51 true rfl (by kernel_rfl) rfl (by kernel_rfl)) rfl ?_
          refine q_pass (wantsU 7 51 true rfl (by kernel_rfl) rfl (by kernel_rfl)) rfl ?_
          refine q_pass (wantsU 7 51 true rfl (by kernel_rfl) rfl (by kernel_rfl)) rfl ?_
          refine q_pass (wantsU 7 51 true rfl (by kernel_rfl) rfl (by kernel_rfl)) rfl ?_
          refine q_pass (wantsN 3 47 false rfl (by kernel_rfl) rfl (by kernel_rfl)) rfl ?_
          refine q_val (wants0 rfl) (d := 59) (v := (.bool true)) rfl (fun _ H' => (by kernel_rfl)) ?_
          refine q_end ?_
          intro w47 H48
          refine then_normal ?_
          refine wp_ift rfl ?_
          refine w_lit ?_
          refine wl_pure (wants0 rfl) (d := 60) (v := (.pointer (some ⟨b18, 3, none⟩))) rfl (by kernel_rfl) ?_
          refine wl_pure (wants0 rfl) (d := 61) (v := (.agg ⟨(hc x.h)⟩)) rfl (e_loadN (vs := (hc x.h)) rfl (by kernel_rfl) (by kernel_rfl) (by exact Nat.le_of_ble_eq_true (by kernel_rfl)) (H48.at 3 rfl) (by kernel_rfl)) ?_
          refine wl_pure (wants0 rfl) (d := 62) (v := (.int .i64 (forV L kind round x.h))) rfl (by kernel_rfl) ?_
          refine wl_do (wants0 rfl) (fun K49 hK49 => ?_)
          refine d_store (vs := (hc x.h)) rfl H48 2 rfl rfl rfl rfl (by kernel_rfl) (Nat.le_of_ble_eq_true (by kernel_rfl)) (Nat.le_of_ble_eq_true (by kernel_rfl)) (by kernel_rfl) ?_
          intro w50 (H51 : Sat w [restC w (fun _ => False), cellC b2 24 (hc hash0), cellC b6 24 (hc x.h), cellC b18 77 (([(.int .i64 (x.kind)), (.int .i64 (x.round)), (.int .i64 (x.replica))] : List Value) ++ hc x.h)] w50)
          refine hK49 _ _ ?_
          clear hK49 K49
          refine wl_pure (wants0 rfl) (d := 9) (v := (.int .i64 (forV L kind round x.h))) rfl (by kernel_rfl) ?_
          refine w_nil ?_
          refine blk_normal ?_
          refine then_normal ?_
          refine w_lit ?_
          refine wl_pure (wants0 rfl) (d := 63) (v := (.int .i64 ((i : Int) + 1))) rfl (e_int (z := (i : Int) + 1) (by kernel_rfl) (IntWalk.i64_in _ (by omega))) ?_
          refine wl_pure (wants0 rfl) (d := 18) (v := (.int .i64 ((i : Int) + 1))) rfl (by kernel_rfl) ?_
          refine w_nil ?_
          have e54 : (rmF L kind round (L.take (i + 1))) = (x.h, forV L kind round x.h) := by rw [rmF_take hx]; simp [rmStep, bnot_false b25, bnot_false b33, b45]
          have H53 : Sat w [restC w (fun _ => False), cellC b2 24 (hc hash0), cellC b6 24 (hc (rmF L kind round (L.take (i + 1))).1), cellC b18 77 (([(.int .i64 (x.kind)), (.int .i64 (x.round)), (.int .i64 (x.replica))] : List Value) ++ hc x.h)] w50 := by rw [e54]; exact H51
          have H55 : Sat w [restC w (fun _ => False), cellC b2 24 (hc hash0), cellC b6 24 (hc (rmF L kind round (L.take (i + 1))).1)] w50 := H53.pick [0, 1, 2] (by decide)
          refine round_back ?_ _ ⟨(i + 1), (show ((.int .i64 ((i : Int) + 1)) : Value) = _ by first | rfl | go_num), (show ((.int .i64 (forV L kind round x.h)) : Value) = _ by rw [e54]), by omega, H55, rfl⟩ (by omega)
          exact (same_upd rfl (same_upd rfl (same_upd rfl (same_upd rfl (same_upd rfl (same_upd rfl (same_upd rfl (same_upd rfl (same_upd rfl (same_upd rfl (same_upd rfl (same_upd rfl (same_upd rfl (same_upd rfl (same_upd rfl (same_upd rfl (same_upd rfl (same_upd rfl (same_upd rfl (same_upd rfl (same_upd rfl (same_upd rfl (same_upd rfl (same_upd rfl (same_upd rfl (same_upd rfl (same_upd rfl (same_upd rfl (same_upd rfl (same_upd rfl (same_upd rfl (same_upd rfl (same_upd rfl (same_upd rfl (same_upd rfl (same_upd rfl (same_upd rfl (same_upd rfl (same_upd rfl (same_upd rfl (same_upd rfl (same_upd rfl (same_upd rfl (same_upd rfl (same_upd rfl (same_upd rfl (same_upd rfl (same_upd rfl (same_upd rfl (same_upd rfl (same_upd rfl (same_upd rfl (same_upd rfl (same_upd rfl (same_upd rfl (same_upd rfl (same_ovr)))))))))))))))))))))))))))))))))))))))))))))))))))))))))
        · have g56 := of_decide_eq_false b45
          refine q_know 47 (.bool false) (congrArg Value.bool b45) ?_
          refine q_val (wantsY 3 47 false rfl (by kernel_rfl) rfl (by kernel_rfl)) (d := 48) (v := (.int .i64 (forV L kind round x.h))) rfl (fun _ H' => (by kernel_rfl)) ?_
          refine q_val (wantsY 3 47 false rfl (by kernel_rfl) rfl (by kernel_rfl)) (d := 49) (v := (.int .i64 ((rmF L kind round (L.take i)).2))) rfl (fun _ H' => (by kernel_rfl)) ?_
          refine q_val (wantsY 3 47 false rfl (by kernel_rfl) rfl (by kernel_rfl)) (d := 50) (v := (.bool (decide ((forV L kind round x.h) = ((rmF L kind round (L.take i)).2))))) rfl (fun _ H' => (by kernel_rfl)) ?_
          refine q_val (wantsY 3 47 false rfl (by kernel_rfl) rfl (by kernel_rfl)) (d := 51) (v := (.bool (decide ((forV L kind round x.h) = ((rmF L kind round (L.take i)).2))))) rfl (fun _ H' => (by kernel_rfl)) ?_
          refine (bsplit (decide ((forV L kind round x.h) = ((rmF L kind round (L.take i)).2)))).elim (fun b57 => ?_) (fun b57 => ?_)
          · have g58 := of_decide_eq_true b57
            refine q_know 51 (.bool true) (congrArg Value.bool b57) ?_
            refine q_val (wantsY 7 51 true rfl (by kernel_rfl) rfl (by kernel_rfl)) (d := 52) (v := (.pointer (some ⟨b18, 3, none⟩))) rfl (fun _ H' => (by kernel_rfl)) ?_
            refine q_val (wantsY 7 51 true rfl (by kernel_rfl) rfl (by kernel_rfl)) (d := 53) (v := (.slice (some ⟨b18, 3, none⟩) 32 32)) rfl (fun _ H' => (by kernel_rfl)) ?_
            refine q_val (wantsY 7 51 true rfl (by kernel_rfl) rfl (by kernel_rfl)) (d := 54) (v := (strH x.h)) rfl (fun _ H' => (e_convHash (e := 5) x.h (by kernel_rfl) (by kernel_rfl) (by kernel_rfl) rfl (cell_run (H'.at 3 rfl) (by kernel_rfl)))) ?_
            refine q_val (wantsY 7 51 true rfl (by kernel_rfl) rfl (by kernel_rfl)) (d := 55) (v := (.slice (some ⟨b6, 0, none⟩) 32 32)) rfl (fun _ H' => (by kernel_rfl)) ?_
            refine q_val (wantsY 7 51 true rfl (by kernel_rfl) rfl (by kernel_rfl)) (d := 56) (v := (strH ((rmF L kind round (L.take i)).1))) rfl (fun _ H' => (e_convHash (e := 5) ((rmF L kind round (L.take i)).1) (by kernel_rfl) (by kernel_rfl) (by kernel_rfl) rfl (cell_run (H'.at 2 rfl) (by kernel_rfl)))) ?_
            refine q_val (wantsY 7 51 true rfl (by kernel_rfl) rfl (by kernel_rfl)) (d := 57) (v := (.bool (lessB x.h ((rmF L kind round (L.take i)).1)))) rfl (fun _ H' => (e_lssStr x.h ((rmF L kind round (L.take i)).1) rfl rfl)) ?_
            refine q_val (wantsY 3 47 false rfl (by kernel_rfl) rfl (by kernel_rfl)) (d := 58) (v := (.bool (lessB x.h ((rmF L kind round (L.take i)).1)))) rfl (fun _ H' => (by kernel_rfl)) ?_
            refine q_val (wants0 rfl) (d := 59) (v := (.bool (lessB x.h ((rmF L kind round (L.take i)).1)))) rfl (fun _ H' => (by kernel_rfl)) ?_
            refine q_end ?_
            intro w59 H60
            refine then_normal ?_
            refine (bsplit (lessB x.h ((rmF L kind round (L.take i)).1))).elim (fun b61 => ?_) (fun b61 => ?_)
            · refine wp_know 59 (.bool true) (congrArg Value.bool b61) ?_
              refine wp_ift rfl ?_
              refine w_lit ?_
              refine wl_pure (wants0 rfl) (d := 60) (v := (.pointer (some ⟨b18, 3, none⟩))) rfl (by kernel_rfl) ?_
              refine wl_pure (wants0 rfl) (d := 61) (v := (.agg ⟨(hc x.h)⟩)) rfl (e_loadN (vs := (hc x.h)) rfl (by kernel_rfl) (by kernel_rfl) (by exact Nat.le_of_ble_eq_true (by kernel_rfl)) (H60.at 3 rfl) (by kernel_rfl)) ?_
              refine wl_pure (wants0 rfl) (d := 62) (v := (.int .i64 (forV L kind round x.h))) rfl (by kernel_rfl) ?_
              refine wl_do (wants0 rfl) (fun K62 hK62 => ?_)
              refine d_store (vs := (hc x.h)) rfl H60 2 rfl rfl rfl rfl (by kernel_rfl) (Nat.le_of_ble_eq_true (by kernel_rfl)) (Nat.le_of_ble_eq_true (by kernel_rfl)) (by kernel_rfl) ?_
              intro w63 (H64 : Sat w [restC w (fun _ => False), cellC b2 24 (hc hash0), cellC b6 24 (hc x.h), cellC b18 77 (([(.int .i64 (x.kind)), (.int .i64 (x.round)), (.int .i64 (x.replica))] : List Value) ++ hc x.h)] w63)
              refine hK62 _ _ ?_
              clear hK62 K62
              refine wl_pure (wants0 rfl) (d := 9) (v := (.int .i64 (forV L kind round x.h))) rfl (by kernel_rfl) ?_
              refine w_nil ?_
              refine blk_normal ?_
              refine then_normal ?_
              refine w_lit ?_
              refine wl_pure (wants0 rfl) (d := 63) (v := (.int .i64 ((i : Int) + 1))) rfl (e_int (z := (i : Int) + 1) (by kernel_rfl) (IntWalk.i64_in _ (by omega))) ?_
              refine wl_pure (wants0 rfl) (d := 18) (v := (.int .i64 ((i : Int) + 1))) rfl (by kernel_rfl) ?_
              refine w_nil ?_
              have e67 : (rmF L kind round (L.take (i + 1))) = (x.h, forV L kind round x.h) := by rw [rmF_take hx]; simp [rmStep, bnot_false b25, bnot_false b33, b45, b57, b61]
              have H66 : Sat w [restC w (fun _ => False), cellC b2 24 (hc hash0), cellC b6 24 (hc (rmF L kind round (L.take (i + 1))).1), cellC b18 77 (([(.int .i64 (x.kind)), (.int .i64 (x.round)), (.int .i64 (x.replica))] : List Value) ++ hc x.h)] w63 := by rw [e67]; exact H64
              have H68 : Sat w [restC w (fun _ => False), cellC b2 24 (hc hash0), cellC b6 24 (hc (rmF L kind round (L.take (i + 1))).1)] w63 := H66.pick [0, 1, 2] (by decide)
              refine round_back ?_ _ ⟨(i + 1), (show ((.int .i64 ((i : Int) + 1)) : Value) = _ by first | rfl | go_num), (show ((.int .i64 (forV L kind round x.h)) : Value) = _ by rw [e67]), by omega, H68, rfl⟩ (by omega)
              exact (same_upd rfl (same_upd rfl (same_upd rfl (same_upd rfl (same_upd rfl (same_upd rfl (same_upd rfl (same_upd rfl (same_upd rfl (same_upd rfl (same_upd rfl (same_upd rfl (same_upd rfl (same_upd rfl (same_upd rfl (same_upd rfl (same_upd rfl (same_upd rfl (same_upd rfl (same_upd rfl (same_upd rfl (same_upd rfl (same_upd rfl (same_upd rfl (same_upd rfl (same_upd rfl (same_upd rfl (same_upd rfl (same_upd rfl (same_upd rfl (same_upd rfl (same_upd rfl (same_upd rfl (same_upd rfl (same_upd rfl (same_upd rfl (same_upd rfl (same_upd rfl (same_upd rfl (same_upd rfl (same_upd rfl (same_upd rfl (same_upd rfl (same_upd rfl (same_upd rfl (same_upd rfl (same_upd rfl (same_upd rfl (same_upd rfl (same_upd rfl (same_upd rfl (same_upd rfl (same_upd rfl (same_upd rfl (same_upd rfl (same_upd rfl (same_upd rfl (same_upd rfl (same_ovr)))))))))))))))))))))))))))))))))))))))))))))))))))))))))))
            · refine wp_know 59 (.bool false) (congrArg Value.bool b61) ?_
              refine wp_iff rfl ?_
              refine w_skip ?_
              refine blk_normal ?_
              refine then_normal ?_
              refine w_lit ?_
              refine wl_pure (wants0 rfl) (d := 63) (v := (.int .i64 ((i : Int) + 1))) rfl (e_int (z := (i : Int) + 1) (by kernel_rfl) (IntWalk.i64_in _ (by omega))) ?_
              refine wl_pure (wants0 rfl) (d := 18) (v := (.int .i64 ((i : Int) + 1))) rfl (by kernel_rfl) ?_
              refine w_nil ?_
              have e70 : (rmF L kind round (L.take (i + 1))) = (rmF L kind round (L.take i)) := by rw [rmF_take hx]; simp [rmStep, bnot_false b25, bnot_false b33, b45, b57, b61]
              have H69 : Sat w [restC w (fun _ => False), cellC b2 24 (hc hash0), cellC b6 24 (hc (rmF L kind round (L.take (i + 1))).1), cellC b18 77 (([(.int .i64 (x.kind)), (.int .i64 (x.round)), (.int .i64 (x.replica))] : List Value) ++ hc x.h)] w59 := by rw [e70]; exact H60
              have H71 : Sat w [restC w (fun _ => False), cellC b2 24 (hc hash0), cellC b6 24 (hc (rmF L kind round (L.take (i + 1))).1)] w59 := H69.pick [0, 1, 2] (by decide)
              refine round_back ?_ _ ⟨(i + 1), (show ((.int .i64 ((i : Int) + 1)) : Value) = _ by first | rfl | go_num), (show ((.int .i64 ((rmF L kind round (L.take i)).2)) : Value) = _ by rw [e70]), by omega, H71, rfl⟩ (by omega)
              exact (same_upd rfl (same_upd rfl (same_upd rfl (same_upd rfl (same_upd rfl (same_upd rfl (same_upd rfl (same_upd rfl (same_upd rfl (same_upd rfl (same_upd rfl (same_upd rfl (same_upd rfl (same_upd rfl (same_upd rfl (same_upd rfl (same_upd rfl (same_upd rfl (same_upd rfl (same_upd rfl (same_upd rfl (same_upd rfl (same_upd rfl (same_upd rfl (same_upd rfl (same_upd rfl (same_upd rfl (same_upd rfl (same_upd rfl (same_upd rfl (same_upd rfl (same_upd rfl (same_upd rfl (same_upd rfl (same_upd rfl (same_upd rfl (same_upd rfl (same_upd rfl (same_upd rfl (same_upd rfl (same_upd rfl (same_upd rfl (same_upd rfl (same_upd rfl (same_upd rfl (same_upd rfl (same_upd rfl (same_upd rfl (same_upd rfl (same_upd rfl (same_upd rfl (same_upd rfl (same_upd rfl (same_upd rfl (same_ovr)))))))))))))))))))))))))))))))))))))))))))))))))))))))
          · have g72 := of_decide_eq_false b57
            refine q_know 51 (.bool false) (congrArg Value.bool b57) ?_
            refine q_pass (wantsN 7 51 true rfl (by kernel_rfl) rfl (by kernel_rfl)) rfl ?_
            refine q_pass (wantsN 7 51 true rfl (by kernel_rfl) rfl (by kernel_rfl)) rfl ?_
            refine q_pass (wantsN 7 51 true rfl (by kernel_rfl) rfl (by kernel_rfl)) rfl ?_
            refine q_pass (wantsN 7 51 true rfl (by kernel_rfl) rfl (by kernel_rfl)) rfl ?_
            refine q_pass (wantsN 7 51 true rfl (by kernel_rfl) rfl (by kernel_rfl)) rfl ?_
            refine q_pass (wantsN 7 51 true rfl (by kernel_rfl) rfl (by kernel_rfl)) rfl ?_
            refine q_val (wantsY 3 47 false rfl (by kernel_rfl) rfl (by kernel_rfl)) (d := 58) (v := (.bool false)) rfl (fun _ H' => (by kernel_rfl)) ?_
            refine q_val (wants0 rfl) (d := 59) (v := (.bool false)) rfl (fun _ H' => (by kernel_rfl)) ?_
            refine q_end ?_
            intro w73 H74
            refine then_normal ?_
            refine wp_iff rfl ?_
            refine w_skip ?_
            refine blk_normal ?_
            refine then_normal ?_
            refine w_lit ?_
            refine wl_pure (wants0 rfl) (d := 63) (v := (.int .i64 ((i : Int) + 1))) rfl (e_int (z := (i : Int) + 1) (by kernel_rfl) (IntWalk.i64_in _ (by omega))) ?_
            refine wl_pure (wants0 rfl) (d := 18) (v := (.int .i64 ((i : Int) + 1))) rfl (by kernel_rfl) ?_
            refine w_nil ?_
            have e76 : (rmF L kind round (L.take (i + 1))) = (rmF L kind round (L.take i)) := by rw [rmF_take hx]; simp [rmStep, bnot_false b25, bnot_false b33, b45, b57]
            have H75 : Sat w [restC w (fun _ => False), cellC b2 24 (hc hash0), cellC b6 24 (hc (rmF L kind round (L.take (i + 1))).1), cellC b18 77 (([(.int .i64 (x.kind)), (.int .i64 (x.round)), (.int .i64 (x.replica))] : List Value) ++ hc x.h)] w73 := by rw [e76]; exact H74
            have H77 : Sat w [restC w (fun _ => False), cellC b2 24 (hc hash0), cellC b6 24 (hc (rmF L kind round (L.take (i + 1))).1)] w73 := H75.pick [0, 1, 2] (by decide)
            refine round_back ?_ _ ⟨(i + 1), (show ((.int .i64 ((i : Int) + 1)) : Value) = _ by first | rfl | go_num), (show ((.int .i64 ((rmF L kind round (L.take i)).2)) : Value) = _ by rw [e76]), by omega, H77, rfl⟩ (by omega)
            exact (same_upd rfl (same_upd rfl (same_upd rfl (same_upd rfl (same_upd rfl (same_upd rfl (same_upd rfl (same_upd rfl (same_upd rfl (same_upd rfl (same_upd rfl (same_upd rfl (same_upd rfl (same_upd rfl (same_upd rfl (same_upd rfl (same_upd rfl (same_upd rfl (same_upd rfl (same_upd rfl (same_upd rfl (same_upd rfl (same_upd rfl (same_upd rfl (same_upd rfl (same_upd rfl (same_upd rfl (same_upd rfl (same_upd rfl (same_upd rfl (same_upd rfl (same_upd rfl (same_upd rfl (same_upd rfl (same_upd rfl (same_upd rfl (same_upd rfl (same_upd rfl (same_upd rfl (same_upd rfl (same_upd rfl (same_upd rfl (same_upd rfl (same_upd rfl (same_upd rfl (same_upd rfl (same_upd rfl (same_upd rfl (same_upd rfl (same_upd rfl (same_upd rfl (same_upd rfl (same_upd rfl (same_ovr))))))))))))))))))))))))))))))))))))))))))))))))))))))
  · have g78 := of_decide_eq_false b15
    refine wp_know 19 (.bool false) (congrArg Value.bool b15) ?_
    refine wp_iff rfl ?_
    refine w_exit ?_
    refine then_exit ?_
    refine back_exit ?_
    refine blk_hit ?_
    refine then_normal ?_
    refine w_seq ?_
    refine w_lit ?_
    refine wl_pure (wants0 rfl) (d := 64) (v := (.agg ⟨(hc (rmF L kind round (L.take i)).1)⟩)) rfl (e_loadN (vs := (hc (rmF L kind round (L.take i)).1)) rfl (by kernel_rfl) (by kernel_rfl) (by exact Nat.le_of_ble_eq_true (by kernel_rfl)) (H11.at 2 rfl) (by kernel_rfl)) ?_
    refine wl_pure (wants0 rfl) (d := 65) (v := (.int .i64 ((rmF L kind round (L.take i)).2))) rfl (by kernel_rfl) ?_
    refine wl_do (wants0 rfl) (fun K79 hK79 => ?_)
    refine d_store (vs := (hc (rmF L kind round (L.take i)).1)) rfl H11 1 rfl rfl rfl rfl (by kernel_rfl) (Nat.le_of_ble_eq_true (by kernel_rfl)) (Nat.le_of_ble_eq_true (by kernel_rfl)) (by kernel_rfl) ?_
    intro w80 (H81 : Sat w [restC w (fun _ => False), cellC b2 24 (hc (rmF L kind round (L.take i)).1), cellC b6 24 (hc (rmF L kind round (L.take i)).1)] w80)
    refine hK79 _ _ ?_
    clear hK79 K79
    refine wl_pure (wants0 rfl) (d := 7) (v := (.int .i64 ((rmF L kind round (L.take i)).2))) rfl (by kernel_rfl) ?_
    refine w_nil ?_
    refine then_normal ?_
    refine w_ret ?_
    refine end2 rfl (res_cellN (vs := (hc (rmF L kind round (L.take i)).1)) rfl (by kernel_rfl) (by kernel_rfl) (by exact Nat.le_of_ble_eq_true (by kernel_rfl)) (H81.at 1 rfl) (by kernel_rfl)) (res_tmp (v := (.int .i64 ((rmF L kind round (L.take i)).2))) rfl) ?_
    exact ⟨by rw [List.take_of_length_le (by omega)], H81.upd 0 rfl [] (fun _ h => h.elim)⟩

end Go.Proofs.Ytfhhljgjppcdlaa
