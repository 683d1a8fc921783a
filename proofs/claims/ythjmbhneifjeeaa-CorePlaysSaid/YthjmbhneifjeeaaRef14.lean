/- WHAT IS PROVED: what the document's tally answers, as a list of votes. No condition. -/
import Derived.Test.YthjmbhneifjeeaaShort
import Derived.Test.YthjmbhneifjeeaaRefDefs14
namespace Go.Proofs.Ythjmbhneifjeeaa
open Go.RowKit

set_option maxRecDepth 100000 in
set_option maxHeartbeats 400000 in
theorem refFor_any (w : World) (r : Nat) (v : Value) (f c : Int) (L : List VoteD) (hT : (rtC r v f c L).ok w) (hl : L.length ≤ 1000000000) (kind round : Int) (h : Hash) :
  Calls Try.prog 69 #[(.pointer (some ⟨r, 0, none⟩)), (.int .i64 (kind)), (.int .i64 (round)), (.agg ⟨(hc h)⟩)] w fun e w' => e = .returned (.int .i64 (forV L kind round h)) ∧ Upd [] w w' := by
 obtain ⟨hcell, hrow⟩ := rtC_parts hT
 have H := Sat.start0 w
 refine calls_fr Try.func69 rfl 57 rfl (Nat.le_of_ble_eq_true rfl) ?_
 refine w_seq ?_
 refine w_lit ?_
 refine wl_do (wants0 rfl) (fun K1 hK1 => ?_)
 refine d_box (vs := (hc h)) rfl H rfl rfl ?_
 intro b2 w3 (H4 : Sat w [restC w (fun _ => False), cellC b2 36 (hc h)] w3)
 refine hK1 _ _ ?_
 clear hK1 K1
 refine wv 8 (.int .i64 (0)) ?_
 refine w_nil ?_
 refine then_normal ?_
 refine w_seq ?_
 refine w_lit ?_
 refine wv 9 (.int .i64 (0)) ?_
 refine w_nil ?_
 refine then_normal ?_
 iterate 2 refine w_seq ?_
 refine w_lit ?_
 refine wv 11 (pt r 0) ?_
 refine wv 12 (pt r 0) ?_
 refine wv 13 (pt r 2) ?_
 refine wv 14 (v) ?_ (hr := e_load1 rfl (by kernel_rfl) (H4.roCell 0 rfl hcell (fun h => h) rfl))
 refine wv 15 (.int .i64 ((L.length : Int))) ?_ (hr := e_lenRow (E := 143) (by kernel_rfl) hrow rfl)
 refine wv 16 (.int .i64 (0)) ?_
 refine w_nil ?_
 refine then_normal ?_
 refine w_block ?_
 refine wp_round [9, 10, 16, 17, 18, 19, 20, 21, 22, 23, 24, 25, 26, 27, 28, 29, 30, 31, 32, 33, 34, 35, 36, 37, 38, 39, 40, 41, 42, 43, 44, 45, 46, 47, 48, 49, 50, 51, 52, 53, 54, 55] (fun F_ W_ m_ => ∃ (i : Nat), F_ 16 = (.int .i64 ((i : Int))) ∧ F_ 9 = (.int .i64 ((((L.take i).countP (forP kind round h) : Nat) : Int))) ∧ (i ≤ L.length) ∧ Sat w [restC w (fun _ => False), cellC b2 36 (hc h)] W_ ∧ m_ = L.length - i) _ ⟨0, (show ((.int .i64 (0)) : Value) = _ by first | rfl | go_num), (show ((.int .i64 (0)) : Value) = _ by first | rfl | go_num), by omega, H4, rfl⟩ ?_
 rintro g5 w6 _ ⟨i, v8, v9, hi, H7, rfl⟩
 refine wp_know 16 _ v8 ?_
 refine wp_know 9 _ v9 ?_
 refine w_seq ?_
 refine w_lit ?_
 refine wv 17 (.bool (decide ((i : Int) < (L.length : Int)))) ?_
 refine w_nil ?_
 refine then_normal ?_
 refine w_seq ?_
 refine (bsplit (decide ((i : Int) < (L.length : Int)))).elim (fun b11 => ?_) (fun b11 => ?_)
 ·have g12 := of_decide_eq_true b11
  refine wp_know 17 (.bool true) (congrArg Value.bool b11) ?_
  refine wp_ift rfl ?_
  refine w_skip ?_
  refine then_normal ?_
  refine w_seq ?_
  refine w_block ?_
  refine w_seq ?_
  obtain ⟨g, cp, hv⟩ := row_shape hrow (by omega)
  obtain ⟨x, hx⟩ := get_at (show i < L.length by omega)
  refine w_lit ?_
  refine wv 18 (.int .i64 ((i : Int))) ?_
  refine wv 10 (.int .i64 ((i : Int))) ?_
  refine w_nil ?_
  refine then_normal ?_
  refine w_seq ?_
  refine q_start H7 (by kernel_rfl) (by kernel_rfl) ?_
  refine qv 19 (pt r 0) ?_
  refine qv 20 (pt r 0) ?_
  refine qv 21 (pt r 2) ?_
  refine qv 22 (v) ?_ (hr := fun _ H' => (e_load1 rfl (by kernel_rfl) (H'.roCell 0 rfl hcell (fun h => h) rfl)))
  refine qv 23 (.int .i64 ((i : Int))) ?_
  refine qv 24 (.pointer (some ⟨g, 0 + ((i : Int)).toNat * 35, none⟩)) ?_ (hr := fun _ H' => (e_indexAddrV (E := 143) (by kernel_rfl) (by kernel_rfl) (Nat.le_of_ble_eq_true rfl) rfl hv rfl (by omega) (by omega)))
  refine qv 25 (.pointer (some ⟨g, 0 + ((i : Int)).toNat * 35, none⟩)) ?_
  refine qv 26 (.int .i64 (x.kind)) ?_ (hr := fun _ H' => (e_load1 rfl (by kernel_rfl) (H'.cellR 0 rfl (rows_cell hrow hv encV_len hx 0 rfl (show 0 + ((i : Int)).toNat * 35 = i * 35 + 0 by omega) rfl) (fun h => h))))
  refine qv 27 (.int .i64 (kind)) ?_
  refine qv 28 (.bool (decide (x.kind = kind))) ?_
  refine qv 29 (.bool (decide (x.kind = kind))) ?_
  refine (bsplit (decide (x.kind = kind))).elim (fun b13 => ?_) (fun b13 => ?_)
  ·have g14 := of_decide_eq_true b13
   refine q_know 29 (.bool true) (congrArg Value.bool b13) ?_
   refine qy 10 29 true 30 (pt r 0) ?_
   refine qy 10 29 true 31 (pt r 0) ?_
   refine qy 10 29 true 32 (pt r 2) ?_
   refine qy 10 29 true 33 (v) ?_ (hr := fun _ H' => (e_load1 rfl (by kernel_rfl) (H'.roCell 0 rfl hcell (fun h => h) rfl)))
   refine qy 10 29 true 34 (.int .i64 ((i : Int))) ?_
   refine qy 10 29 true 35 (.pointer (some ⟨g, 0 + ((i : Int)).toNat * 35, none⟩)) ?_ (hr := fun _ H' => (e_indexAddrV (E := 143) (by kernel_rfl) (by kernel_rfl) (Nat.le_of_ble_eq_true rfl) rfl hv rfl (by omega) (by omega)))
   refine qy 10 29 true 36 (.pointer (some ⟨g, 0 + ((i : Int)).toNat * 35 + 1, none⟩)) ?_
   refine qy 10 29 true 37 (.int .i64 (x.round)) ?_ (hr := fun _ H' => (e_load1 rfl (by kernel_rfl) (H'.cellR 0 rfl (rows_cell hrow hv encV_len hx 1 rfl (show 0 + ((i : Int)).toNat * 35 + 1 = i * 35 + 1 by omega) rfl) (fun h => h))))
   refine qy 10 29 true 38 (.int .i64 (round)) ?_
   refine qy 10 29 true 39 (.bool (decide (x.round = round))) ?_
   refine qv 40 (.bool (decide (x.round = round))) ?_
   refine qv 41 (.bool (decide (x.round = round))) ?_
   refine (bsplit (decide (x.round = round))).elim (fun b15 => ?_) (fun b15 => ?_)
   ·have g16 := of_decide_eq_true b15
    refine q_know 41 (.bool true) (congrArg Value.bool b15) ?_
    refine qy 22 41 true 42 (pt r 0) ?_
    refine qy 22 41 true 43 (pt r 0) ?_
    refine qy 22 41 true 44 (pt r 2) ?_
    refine qy 22 41 true 45 (v) ?_ (hr := fun _ H' => (e_load1 rfl (by kernel_rfl) (H'.roCell 0 rfl hcell (fun h => h) rfl)))
    refine qy 22 41 true 46 (.int .i64 ((i : Int))) ?_
    refine qy 22 41 true 47 (.pointer (some ⟨g, 0 + ((i : Int)).toNat * 35, none⟩)) ?_ (hr := fun _ H' => (e_indexAddrV (E := 143) (by kernel_rfl) (by kernel_rfl) (Nat.le_of_ble_eq_true rfl) rfl hv rfl (by omega) (by omega)))
    refine qy 22 41 true 48 (.pointer (some ⟨g, 0 + ((i : Int)).toNat * 35 + 3, none⟩)) ?_
    refine qy 22 41 true 49 (.agg ⟨(hc x.h)⟩) ?_ (hr := fun _ H' => (e_loadRun (vs := hc x.h) rfl (by kernel_rfl) (by kernel_rfl) (Nat.le_of_ble_eq_true (by kernel_rfl)) (fun j v hj => H'.cellR 0 rfl ((rows_run hrow hv encV_len hx 3 (show 0 + ((i : Int)).toNat * 35 + 3 = i * 35 + 3 by omega) (by kernel_rfl) (dropHash x)) j v hj) (fun h => h))))
    refine qy 22 41 true 50 (.agg ⟨(hc h)⟩) ?_ (hr := fun _ H' => (e_loadN (vs := (hc h)) rfl (by kernel_rfl) (by kernel_rfl) (by exact Nat.le_of_ble_eq_true (by kernel_rfl)) (H'.at 1 rfl) (by kernel_rfl)))
    refine qy 22 41 true 51 (.bool (decide (x.h = h))) ?_ (hr := fun _ H' => (e_eqHash x.h h rfl rfl))
    refine qv 52 (.bool (decide (x.h = h))) ?_
    refine q_end ?_
    intro w17 H18
    refine then_normal ?_
    refine (bsplit (decide (x.h = h))).elim (fun b19 => ?_) (fun b19 => ?_)
    ·have g20 := of_decide_eq_true b19
     refine wp_know 52 (.bool true) (congrArg Value.bool b19) ?_
     refine wp_ift rfl ?_
     refine w_lit ?_
     refine wv 53 (.int .i64 ((((L.take i).countP (forP kind round h) : Nat) : Int))) ?_
     refine wv 54 (.int .i64 ((((L.take i).countP (forP kind round h) : Nat) : Int) + 1)) ?_ (hr := e_int (z := (((L.take i).countP (forP kind round h) : Nat) : Int) + 1) (by kernel_rfl) (IntWalk.i64_in _ (by have := take_count_le L i (forP kind round h); omega)))
     refine wv 9 (.int .i64 ((((L.take i).countP (forP kind round h) : Nat) : Int) + 1)) ?_
     refine w_nil ?_
     refine blk_normal ?_
     refine then_normal ?_
     refine w_lit ?_
     refine wv 55 (.int .i64 ((i : Int) + 1)) ?_ (hr := e_int (z := (i : Int) + 1) (by kernel_rfl) (IntWalk.i64_in _ (by have := take_count_le L i (forP kind round h); omega)))
     refine wv 16 (.int .i64 ((i : Int) + 1)) ?_
     refine w_nil ?_
     refine round_back ?_ _ ⟨(i + 1), (show ((.int .i64 ((i : Int) + 1)) : Value) = _ by first | rfl | go_num), (show ((.int .i64 ((((L.take i).countP (forP kind round h) : Nat) : Int) + 1)) : Value) = _ by rw [take_count hx]; simp [forP, b13, b15, b19]), by omega, H18, rfl⟩ (by omega)
     iterate 48 refine same_upd rfl ?_
     exact same_ovr
    ·have g21 := of_decide_eq_false b19
     refine wp_know 52 (.bool false) (congrArg Value.bool b19) ?_
     refine wp_iff rfl ?_
     refine w_skip ?_
     refine blk_normal ?_
     refine then_normal ?_
     refine w_lit ?_
     refine wv 55 (.int .i64 ((i : Int) + 1)) ?_ (hr := e_int (z := (i : Int) + 1) (by kernel_rfl) (IntWalk.i64_in _ (by have := take_count_le L i (forP kind round h); omega)))
     refine wv 16 (.int .i64 ((i : Int) + 1)) ?_
     refine w_nil ?_
     refine round_back ?_ _ ⟨(i + 1), (show ((.int .i64 ((i : Int) + 1)) : Value) = _ by first | rfl | go_num), (show ((.int .i64 ((((L.take i).countP (forP kind round h) : Nat) : Int))) : Value) = _ by rw [take_count hx]; simp [forP, b13, b15, b19]), by omega, H18, rfl⟩ (by omega)
     iterate 45 refine same_upd rfl ?_
     exact same_ovr
   ·have g22 := of_decide_eq_false b15
    refine q_know 41 (.bool false) (congrArg Value.bool b15) ?_
    iterate 10 refine qn 22 41 true ?_
    refine qv 52 (.bool false) ?_
    refine q_end ?_
    intro w23 H24
    refine then_normal ?_
    refine wp_iff rfl ?_
    refine w_skip ?_
    refine blk_normal ?_
    refine then_normal ?_
    refine w_lit ?_
    refine wv 55 (.int .i64 ((i : Int) + 1)) ?_ (hr := e_int (z := (i : Int) + 1) (by kernel_rfl) (IntWalk.i64_in _ (by have := take_count_le L i (forP kind round h); omega)))
    refine wv 16 (.int .i64 ((i : Int) + 1)) ?_
    refine w_nil ?_
    refine round_back ?_ _ ⟨(i + 1), (show ((.int .i64 ((i : Int) + 1)) : Value) = _ by first | rfl | go_num), (show ((.int .i64 ((((L.take i).countP (forP kind round h) : Nat) : Int))) : Value) = _ by rw [take_count hx]; simp [forP, b13, b15]), by omega, H24, rfl⟩ (by omega)
    iterate 44 refine same_upd rfl ?_
    exact same_ovr
  ·have g25 := of_decide_eq_false b13
   refine q_know 29 (.bool false) (congrArg Value.bool b13) ?_
   iterate 10 refine qn 10 29 true ?_
   refine qv 40 (.bool false) ?_
   refine qv 41 (.bool false) ?_
   iterate 10 refine qn 22 41 true ?_
   refine qv 52 (.bool false) ?_
   refine q_end ?_
   intro w26 H27
   refine then_normal ?_
   refine wp_iff rfl ?_
   refine w_skip ?_
   refine blk_normal ?_
   refine then_normal ?_
   refine w_lit ?_
   refine wv 55 (.int .i64 ((i : Int) + 1)) ?_ (hr := e_int (z := (i : Int) + 1) (by kernel_rfl) (IntWalk.i64_in _ (by have := take_count_le L i (forP kind round h); omega)))
   refine wv 16 (.int .i64 ((i : Int) + 1)) ?_
   refine w_nil ?_
   refine round_back ?_ _ ⟨(i + 1), (show ((.int .i64 ((i : Int) + 1)) : Value) = _ by first | rfl | go_num), (show ((.int .i64 ((((L.take i).countP (forP kind round h) : Nat) : Int))) : Value) = _ by rw [take_count hx]; simp [forP, b13]), by omega, H27, rfl⟩ (by omega)
   iterate 43 refine same_upd rfl ?_
   exact same_ovr
 ·have g28 := of_decide_eq_false b11
  refine wp_know 17 (.bool false) (congrArg Value.bool b11) ?_
  refine wp_iff rfl ?_
  refine w_exit ?_
  refine then_exit ?_
  refine back_exit ?_
  refine blk_hit ?_
  refine then_normal ?_
  refine w_seq ?_
  refine w_lit ?_
  refine wv 56 (.int .i64 ((((L.take i).countP (forP kind round h) : Nat) : Int))) ?_
  refine wv 8 (.int .i64 ((((L.take i).countP (forP kind round h) : Nat) : Int))) ?_
  refine w_nil ?_
  refine then_normal ?_
  refine w_ret ?_
  refine end1 rfl (res_tmp (v := (.int .i64 ((((L.take i).countP (forP kind round h) : Nat) : Int)))) rfl) ?_
  exact ⟨by rw [List.take_of_length_le (by omega)]; rfl, H7.upd 0 rfl [] (fun _ h => h.elim)⟩

set_option maxRecDepth 100000 in
set_option maxHeartbeats 400000 in
theorem refAll_any (w : World) (r : Nat) (v : Value) (f c : Int) (L : List VoteD) (hT : (rtC r v f c L).ok w) (hl : L.length ≤ 1000000000) (kind round : Int) :
  Calls Try.prog 71 #[(.pointer (some ⟨r, 0, none⟩)), (.int .i64 (kind)), (.int .i64 (round))] w fun e w' => e = .returned (.int .i64 (allV L kind round)) ∧ Upd [] w w' := by
 obtain ⟨hcell, hrow⟩ := rtC_parts hT
 have H := Sat.start0 w
 refine calls_fr Try.func71 rfl 43 rfl (Nat.le_of_ble_eq_true rfl) ?_
 refine w_seq ?_
 refine w_lit ?_
 refine wv 6 (.int .i64 (0)) ?_
 refine w_nil ?_
 refine then_normal ?_
 refine w_seq ?_
 refine w_lit ?_
 refine wv 7 (.int .i64 (0)) ?_
 refine w_nil ?_
 refine then_normal ?_
 iterate 2 refine w_seq ?_
 refine w_lit ?_
 refine wv 9 (pt r 0) ?_
 refine wv 10 (pt r 0) ?_
 refine wv 11 (pt r 2) ?_
 refine wv 12 (v) ?_ (hr := e_load1 rfl (by kernel_rfl) (H.roCell 0 rfl hcell (fun h => h) rfl))
 refine wv 13 (.int .i64 ((L.length : Int))) ?_ (hr := e_lenRow (E := 143) (by kernel_rfl) hrow rfl)
 refine wv 14 (.int .i64 (0)) ?_
 refine w_nil ?_
 refine then_normal ?_
 refine w_block ?_
 refine wp_round [7, 8, 14, 15, 16, 17, 18, 19, 20, 21, 22, 23, 24, 25, 26, 27, 28, 29, 30, 31, 32, 33, 34, 35, 36, 37, 38, 39, 40, 41] (fun F_ W_ m_ => ∃ (i : Nat), F_ 14 = (.int .i64 ((i : Int))) ∧ F_ 7 = (.int .i64 ((((L.take i).countP (allP kind round) : Nat) : Int))) ∧ (i ≤ L.length) ∧ Sat w [restC w (fun _ => False)] W_ ∧ m_ = L.length - i) _ ⟨0, (show ((.int .i64 (0)) : Value) = _ by first | rfl | go_num), (show ((.int .i64 (0)) : Value) = _ by first | rfl | go_num), by omega, H, rfl⟩ ?_
 rintro g1 w2 _ ⟨i, v4, v5, hi, H3, rfl⟩
 refine wp_know 14 _ v4 ?_
 refine wp_know 7 _ v5 ?_
 refine w_seq ?_
 refine w_lit ?_
 refine wv 15 (.bool (decide ((i : Int) < (L.length : Int)))) ?_
 refine w_nil ?_
 refine then_normal ?_
 refine w_seq ?_
 refine (bsplit (decide ((i : Int) < (L.length : Int)))).elim (fun b7 => ?_) (fun b7 => ?_)
 ·have g8 := of_decide_eq_true b7
  refine wp_know 15 (.bool true) (congrArg Value.bool b7) ?_
  refine wp_ift rfl ?_
  refine w_skip ?_
  refine then_normal ?_
  refine w_seq ?_
  refine w_block ?_
  refine w_seq ?_
  obtain ⟨g, cp, hv⟩ := row_shape hrow (by omega)
  obtain ⟨x, hx⟩ := get_at (show i < L.length by omega)
  refine w_lit ?_
  refine wv 16 (.int .i64 ((i : Int))) ?_
  refine wv 8 (.int .i64 ((i : Int))) ?_
  refine w_nil ?_
  refine then_normal ?_
  refine w_seq ?_
  refine w_lit ?_
  refine wv 17 (pt r 0) ?_
  refine wv 18 (pt r 0) ?_
  refine wv 19 (pt r 2) ?_
  refine wv 20 (v) ?_ (hr := e_load1 rfl (by kernel_rfl) (H3.roCell 0 rfl hcell (fun h => h) rfl))
  refine wv 21 (.int .i64 ((i : Int))) ?_
  refine wv 22 (.pointer (some ⟨g, 0 + ((i : Int)).toNat * 35, none⟩)) ?_ (hr := e_indexAddrV (E := 143) (by kernel_rfl) (by kernel_rfl) (Nat.le_of_ble_eq_true rfl) rfl hv rfl (by omega) (by omega))
  refine wv 23 (.pointer (some ⟨g, 0 + ((i : Int)).toNat * 35, none⟩)) ?_
  refine wv 24 (.int .i64 (x.kind)) ?_ (hr := e_load1 rfl (by kernel_rfl) (H3.cellR 0 rfl (rows_cell hrow hv encV_len hx 0 rfl (show 0 + ((i : Int)).toNat * 35 = i * 35 + 0 by omega) rfl) (fun h => h)))
  refine wv 25 (.int .i64 (kind)) ?_
  refine wv 26 (.bool (decide (x.kind = kind))) ?_
  refine wv 27 (.bool (decide (x.kind = kind))) ?_
  refine (bsplit (decide (x.kind = kind))).elim (fun b9 => ?_) (fun b9 => ?_)
  ·have g10 := of_decide_eq_true b9
   refine wl_know 27 (.bool true) (congrArg Value.bool b9) ?_
   refine wy 10 27 true 28 (pt r 0) ?_
   refine wy 10 27 true 29 (pt r 0) ?_
   refine wy 10 27 true 30 (pt r 2) ?_
   refine wy 10 27 true 31 (v) ?_ (hr := e_load1 rfl (by kernel_rfl) (H3.roCell 0 rfl hcell (fun h => h) rfl))
   refine wy 10 27 true 32 (.int .i64 ((i : Int))) ?_
   refine wy 10 27 true 33 (.pointer (some ⟨g, 0 + ((i : Int)).toNat * 35, none⟩)) ?_ (hr := e_indexAddrV (E := 143) (by kernel_rfl) (by kernel_rfl) (Nat.le_of_ble_eq_true rfl) rfl hv rfl (by omega) (by omega))
   refine wy 10 27 true 34 (.pointer (some ⟨g, 0 + ((i : Int)).toNat * 35 + 1, none⟩)) ?_
   refine wy 10 27 true 35 (.int .i64 (x.round)) ?_ (hr := e_load1 rfl (by kernel_rfl) (H3.cellR 0 rfl (rows_cell hrow hv encV_len hx 1 rfl (show 0 + ((i : Int)).toNat * 35 + 1 = i * 35 + 1 by omega) rfl) (fun h => h)))
   refine wy 10 27 true 36 (.int .i64 (round)) ?_
   refine wy 10 27 true 37 (.bool (decide (x.round = round))) ?_
   refine wv 38 (.bool (decide (x.round = round))) ?_
   refine w_nil ?_
   refine then_normal ?_
   refine (bsplit (decide (x.round = round))).elim (fun b11 => ?_) (fun b11 => ?_)
   ·have g12 := of_decide_eq_true b11
    refine wp_know 38 (.bool true) (congrArg Value.bool b11) ?_
    refine wp_ift rfl ?_
    refine w_lit ?_
    refine wv 39 (.int .i64 ((((L.take i).countP (allP kind round) : Nat) : Int))) ?_
    refine wv 40 (.int .i64 ((((L.take i).countP (allP kind round) : Nat) : Int) + 1)) ?_ (hr := e_int (z := (((L.take i).countP (allP kind round) : Nat) : Int) + 1) (by kernel_rfl) (IntWalk.i64_in _ (by have := take_count_le L i (allP kind round); omega)))
    refine wv 7 (.int .i64 ((((L.take i).countP (allP kind round) : Nat) : Int) + 1)) ?_
    refine w_nil ?_
    refine blk_normal ?_
    refine then_normal ?_
    refine w_lit ?_
    refine wv 41 (.int .i64 ((i : Int) + 1)) ?_ (hr := e_int (z := (i : Int) + 1) (by kernel_rfl) (IntWalk.i64_in _ (by have := take_count_le L i (allP kind round); omega)))
    refine wv 14 (.int .i64 ((i : Int) + 1)) ?_
    refine w_nil ?_
    refine round_back ?_ _ ⟨(i + 1), (show ((.int .i64 ((i : Int) + 1)) : Value) = _ by first | rfl | go_num), (show ((.int .i64 ((((L.take i).countP (allP kind round) : Nat) : Int) + 1)) : Value) = _ by rw [take_count hx]; simp [allP, b9, b11]), by omega, H3, rfl⟩ (by omega)
    iterate 35 refine same_upd rfl ?_
    exact same_ovr
   ·have g13 := of_decide_eq_false b11
    refine wp_know 38 (.bool false) (congrArg Value.bool b11) ?_
    refine wp_iff rfl ?_
    refine w_skip ?_
    refine blk_normal ?_
    refine then_normal ?_
    refine w_lit ?_
    refine wv 41 (.int .i64 ((i : Int) + 1)) ?_ (hr := e_int (z := (i : Int) + 1) (by kernel_rfl) (IntWalk.i64_in _ (by have := take_count_le L i (allP kind round); omega)))
    refine wv 14 (.int .i64 ((i : Int) + 1)) ?_
    refine w_nil ?_
    refine round_back ?_ _ ⟨(i + 1), (show ((.int .i64 ((i : Int) + 1)) : Value) = _ by first | rfl | go_num), (show ((.int .i64 ((((L.take i).countP (allP kind round) : Nat) : Int))) : Value) = _ by rw [take_count hx]; simp [allP, b9, b11]), by omega, H3, rfl⟩ (by omega)
    iterate 32 refine same_upd rfl ?_
    exact same_ovr
  ·have g14 := of_decide_eq_false b9
   refine wl_know 27 (.bool false) (congrArg Value.bool b9) ?_
   iterate 10 refine wn 10 27 true ?_
   refine wv 38 (.bool false) ?_
   refine w_nil ?_
   refine then_normal ?_
   refine wp_iff rfl ?_
   refine w_skip ?_
   refine blk_normal ?_
   refine then_normal ?_
   refine w_lit ?_
   refine wv 41 (.int .i64 ((i : Int) + 1)) ?_ (hr := e_int (z := (i : Int) + 1) (by kernel_rfl) (IntWalk.i64_in _ (by have := take_count_le L i (allP kind round); omega)))
   refine wv 14 (.int .i64 ((i : Int) + 1)) ?_
   refine w_nil ?_
   refine round_back ?_ _ ⟨(i + 1), (show ((.int .i64 ((i : Int) + 1)) : Value) = _ by first | rfl | go_num), (show ((.int .i64 ((((L.take i).countP (allP kind round) : Nat) : Int))) : Value) = _ by rw [take_count hx]; simp [allP, b9]), by omega, H3, rfl⟩ (by omega)
   iterate 31 refine same_upd rfl ?_
   exact same_ovr
 ·have g15 := of_decide_eq_false b7
  refine wp_know 15 (.bool false) (congrArg Value.bool b7) ?_
  refine wp_iff rfl ?_
  refine w_exit ?_
  refine then_exit ?_
  refine back_exit ?_
  refine blk_hit ?_
  refine then_normal ?_
  refine w_seq ?_
  refine w_lit ?_
  refine wv 42 (.int .i64 ((((L.take i).countP (allP kind round) : Nat) : Int))) ?_
  refine wv 6 (.int .i64 ((((L.take i).countP (allP kind round) : Nat) : Int))) ?_
  refine w_nil ?_
  refine then_normal ?_
  refine w_ret ?_
  refine end1 rfl (res_tmp (v := (.int .i64 ((((L.take i).countP (allP kind round) : Nat) : Int)))) rfl) ?_
  exact ⟨by rw [List.take_of_length_le (by omega)]; rfl, H3.upd 0 rfl [] (fun _ h => h.elim)⟩

set_option maxRecDepth 100000 in
set_option maxHeartbeats 400000 in
theorem refCopy_any (w : World) (r : Nat) (v : Value) (f c : Int) (L : List VoteD) (hT : (rtC r v f c L).ok w) (hl : L.length ≤ 1000000000) :
  Calls Try.prog 49 #[(.pointer (some ⟨r, 0, none⟩))] w fun e w' => ∃ q u, e = .returned (.pointer (some ⟨q, 0, none⟩)) ∧ (rtC q u f c L).ok w' ∧ Upd [] w w' ∧ ∀ b, (rtC q u f c L).fp b → w.heap.size ≤ b := by
 obtain ⟨hcell, hrow⟩ := rtC_parts hT
 have H := Sat.start0 w
 refine calls_fr Try.func49 rfl 14 rfl (Nat.le_of_ble_eq_true rfl) ?_
 refine w_seq ?_
 refine w_lit ?_
 refine wv 2 (.pointer none) ?_
 refine w_nil ?_
 refine then_normal ?_
 refine w_seq ?_
 refine h_start H [restC w (fun _ => False)] 12 rfl (by kernel_rfl) (fun Hx => (Hx.pick [0] (by decide))) ?_
 intro w1 H2 S3
 refine hv0 0 S3 3 (pt r 0) ?_
 refine hv0 1 S3 4 (pt r 0) ?_
 refine hv0 2 S3 5 (pt r 0) ?_
 refine hv0 3 S3 6 (.agg ⟨([(.int .i64 (f)), (.int .i64 (c))] : List Value)⟩) ?_ (he := fun _ H' => (e_loadN (vs := ([(.int .i64 (f)), (.int .i64 (c))] : List Value)) rfl (by kernel_rfl) (by kernel_rfl) (by exact Nat.le_of_ble_eq_true (by kernel_rfl)) (H'.roCells 0 rfl hcell (fun h => h)) (by kernel_rfl)))
 refine hv0 4 S3 7 (pt r 0) ?_
 refine hv0 5 S3 8 (pt r 0) ?_
 refine hv0 6 S3 9 (pt r 2) ?_
 refine hv0 7 S3 10 (v) ?_ (he := fun _ H' => (e_load1 rfl (by kernel_rfl) (H'.roCell 0 rfl hcell (fun h => h) rfl)))
 refine h_do 8 rfl (by kernel_rfl) (wants0 rfl) (fun K4 hK4 => ?_)
 refine d_appendNil (T := 99) (e := 143) (size := 35) (bytes := 56) rfl H2 (by kernel_rfl) (H2.roCk 0 rfl hrow (fun _ _ h => h)) rfl rfl (flat_one encV encV_one L) (by omega) (by omega) ?_
 intro v5 w6 (H7 : Sat w [restC w (fun _ => False), rowC 143 35 v5 L.length (L.flatMap encV)] w6)
 obtain ⟨a8, c9, rfl⟩ := ownsRow_shape (H7.at 1 rfl)
 have S10 := H7.pick [0] (by decide)
 refine hK4 _ _ S10 ?_
 clear hK4 K4
 refine h_val 9 rfl (by kernel_rfl) (by kernel_rfl) (by kernel_rfl) (fun _ _ _ h => h) S10 (wants0 rfl) (d := 12) (v := (.agg ⟨([(.int .i64 (f)), (.int .i64 (c)), (.slice a8 L.length c9)] : List Value)⟩)) rfl (fun _ H' => (by kernel_rfl)) ?_
 refine h_do 10 rfl (by kernel_rfl) (wants0 rfl) (fun K11 hK11 => ?_)
 refine d_box (vs := ([(.int .i64 (f)), (.int .i64 (c)), (.slice a8 L.length c9)] : List Value)) rfl H7 rfl rfl ?_
 intro b12 w13 (H14 : Sat w [restC w (fun _ => False), rowC 143 35 (.slice a8 L.length c9) L.length (L.flatMap encV), cellC b12 101 ([(.int .i64 (f)), (.int .i64 (c)), (.slice a8 L.length c9)] : List Value)] w13)
 have S15 := H14.pick [0] (by decide)
 refine hK11 _ _ S15 ?_
 clear hK11 K11
 refine hv0 11 S15 2 (pt b12 0) ?_
 refine h_fin (by kernel_rfl) ?_
 refine then_normal ?_
 refine w_ret ?_
 refine end1 rfl (res_tmp (v := (pt b12 0)) rfl) ?_
 exact ⟨_, _, rfl, H14.fin [2, 1] (by decide) rfl, H14.upd 0 rfl [] (fun _ h => h.elim), H14.freshS 0 rfl (fun _ h => h) [2, 1] rfl rfl⟩

set_option maxRecDepth 100000 in
set_option maxHeartbeats 1000000 in
theorem refAdd_any (w : World) (r : Nat) (v : Value) (f c : Int) (L : List VoteD) (hT : (rtC r v f c L).ok w) (hl : L.length ≤ 1000000000) (hf : 1 ≤ f ∧ f ≤ 21) (kind round replica : Int) (h : Hash) :
  Calls Try.prog 57 #[(.pointer (some ⟨r, 0, none⟩)), (.int .i64 (kind)), (.int .i64 (round)), (.int .i64 (replica)), (.agg ⟨(hc h)⟩)] w fun e w' => e = .returned (.bool (okV f L kind round replica)) ∧ ∃ u, (rtC r u f c (addV f L (⟨kind, round, replica, h⟩ : VoteD))).ok w' ∧ Upd [r] w w' ∧ ∀ b, (rtC r u f c (addV f L (⟨kind, round, replica, h⟩ : VoteD))).fp b → (rtC r v f c L).fp b ∨ w.heap.size ≤ b := by
 obtain ⟨hcell, hrow⟩ := rtC_parts hT
 have hdis := rtC_dis hT
 have H : Sat w [cellC r 101 ([(.int .i64 (f)), (.int .i64 (c)), v] : List Value), restC w (cellC r 101 ([(.int .i64 (f)), (.int .i64 (c)), v] : List Value)).fp] w := Sat.start1 hcell
 refine calls_fr Try.func57 rfl 97 rfl (Nat.le_of_ble_eq_true rfl) ?_
 refine w_seq ?_
 refine w_lit ?_
 refine wl_do (wants0 rfl) (fun K1 hK1 => ?_)
 refine d_box (vs := (hc h)) rfl H rfl rfl ?_
 intro b2 w3 (H4 : Sat w [cellC r 101 ([(.int .i64 (f)), (.int .i64 (c)), v] : List Value), restC w (cellC r 101 ([(.int .i64 (f)), (.int .i64 (c)), v] : List Value)).fp, cellC b2 36 (hc h)] w3)
 refine hK1 _ _ ?_
 clear hK1 K1
 refine wv 10 (.bool false) ?_
 refine w_nil ?_
 refine then_normal ?_
 refine w_seq ?_
 refine wp_meetR [12, 13, 14, 15, 16, 17, 18, 19, 20, 21, 22, 23, 24, 25, 26, 27, 28, 29, 30, 31, 32, 33, 34, 35, 36, 37, 38] (fun G_ W_ => G_ 38 = (.bool (badArg f kind round replica)) ∧ Sat w [cellC r 101 ([(.int .i64 (f)), (.int .i64 (c)), v] : List Value), restC w (cellC r 101 ([(.int .i64 (f)), (.int .i64 (c)), v] : List Value)).fp, cellC b2 36 (hc h)] W_) ?_ ?_
 ·refine w_lit ?_
  refine wv 12 (.int .i64 (kind)) ?_
  refine wv 13 (.bool (decide (kind < 1))) ?_
  refine wv 14 (.bool (decide (kind < 1))) ?_
  refine (bsplit (decide (kind < 1))).elim (fun b6 => ?_) (fun b6 => ?_)
  ·have g7 := of_decide_eq_true b6
   refine wl_know 14 (.bool true) (congrArg Value.bool b6) ?_
   iterate 2 refine wn 2 14 false ?_
   refine wv 17 (.bool true) ?_
   refine wv 18 (.bool true) ?_
   iterate 2 refine wn 6 18 false ?_
   refine wv 21 (.bool true) ?_
   refine wv 22 (.bool true) ?_
   iterate 2 refine wn 10 22 false ?_
   refine wv 25 (.bool true) ?_
   refine wv 26 (.bool true) ?_
   iterate 2 refine wn 14 26 false ?_
   refine wv 29 (.bool true) ?_
   refine wv 30 (.bool true) ?_
   iterate 7 refine wn 18 30 false ?_
   refine wv 38 (.bool true) ?_
   refine w_nil ?_
   refine meetR_at ?_ ⟨(congrArg Value.bool (show true = (badArg f kind round replica) by (cases hq : badArg f kind round replica <;> simp [badArg, inB] at hq <;> first | rfl | (exfalso; omega) | (simp; omega)))), H4⟩
   exact (same_upd rfl (same_upd rfl (same_upd rfl (same_upd rfl (same_upd rfl (same_upd rfl (same_upd rfl (same_upd rfl (same_upd rfl (same_upd rfl (same_upd rfl (same_upd rfl (same_upd rfl (same_upd rfl (same_upd rfl (same_upd rfl (same_upd rfl (same_upd rfl (same_upd rfl (same_upd rfl (same_upd rfl (same_upd rfl (same_upd rfl (same_upd rfl (same_upd rfl (same_upd rfl (same_upd rfl (same_upd rfl (same_refl)))))))))))))))))))))))))))))
  ·have g8 := of_decide_eq_false b6
   refine wl_know 14 (.bool false) (congrArg Value.bool b6) ?_
   refine wy 2 14 false 15 (.int .i64 (kind)) ?_
   refine wy 2 14 false 16 (.bool (decide (kind > 2))) ?_
   refine wv 17 (.bool (decide (kind > 2))) ?_
   refine wv 18 (.bool (decide (kind > 2))) ?_
   refine (bsplit (decide (kind > 2))).elim (fun b9 => ?_) (fun b9 => ?_)
   ·have g10 := of_decide_eq_true b9
    refine wl_know 18 (.bool true) (congrArg Value.bool b9) ?_
    iterate 2 refine wn 6 18 false ?_
    refine wv 21 (.bool true) ?_
    refine wv 22 (.bool true) ?_
    iterate 2 refine wn 10 22 false ?_
    refine wv 25 (.bool true) ?_
    refine wv 26 (.bool true) ?_
    iterate 2 refine wn 14 26 false ?_
    refine wv 29 (.bool true) ?_
    refine wv 30 (.bool true) ?_
    iterate 7 refine wn 18 30 false ?_
    refine wv 38 (.bool true) ?_
    refine w_nil ?_
    refine meetR_at ?_ ⟨(congrArg Value.bool (show true = (badArg f kind round replica) by (cases hq : badArg f kind round replica <;> simp [badArg, inB] at hq <;> first | rfl | (exfalso; omega) | (simp; omega)))), H4⟩
    exact (same_upd rfl (same_upd rfl (same_upd rfl (same_upd rfl (same_upd rfl (same_upd rfl (same_upd rfl (same_upd rfl (same_upd rfl (same_upd rfl (same_upd rfl (same_upd rfl (same_upd rfl (same_upd rfl (same_upd rfl (same_upd rfl (same_upd rfl (same_upd rfl (same_upd rfl (same_upd rfl (same_upd rfl (same_upd rfl (same_upd rfl (same_upd rfl (same_upd rfl (same_upd rfl (same_upd rfl (same_upd rfl (same_upd rfl (same_refl))))))))))))))))))))))))))))))
   ·have g11 := of_decide_eq_false b9
    refine wl_know 18 (.bool false) (congrArg Value.bool b9) ?_
    refine wy 6 18 false 19 (.int .i64 (round)) ?_
    refine wy 6 18 false 20 (.bool (decide (round < 0))) ?_
    refine wv 21 (.bool (decide (round < 0))) ?_
    refine wv 22 (.bool (decide (round < 0))) ?_
    refine (bsplit (decide (round < 0))).elim (fun b12 => ?_) (fun b12 => ?_)
    ·have g13 := of_decide_eq_true b12
     refine wl_know 22 (.bool true) (congrArg Value.bool b12) ?_
     iterate 2 refine wn 10 22 false ?_
     refine wv 25 (.bool true) ?_
     refine wv 26 (.bool true) ?_
     iterate 2 refine wn 14 26 false ?_
     refine wv 29 (.bool true) ?_
     refine wv 30 (.bool true) ?_
     iterate 7 refine wn 18 30 false ?_
     refine wv 38 (.bool true) ?_
     refine w_nil ?_
     refine meetR_at ?_ ⟨(congrArg Value.bool (show true = (badArg f kind round replica) by (cases hq : badArg f kind round replica <;> simp [badArg, inB] at hq <;> first | rfl | (exfalso; omega) | (simp; omega)))), H4⟩
     exact (same_upd rfl (same_upd rfl (same_upd rfl (same_upd rfl (same_upd rfl (same_upd rfl (same_upd rfl (same_upd rfl (same_upd rfl (same_upd rfl (same_upd rfl (same_upd rfl (same_upd rfl (same_upd rfl (same_upd rfl (same_upd rfl (same_upd rfl (same_upd rfl (same_upd rfl (same_upd rfl (same_upd rfl (same_upd rfl (same_upd rfl (same_upd rfl (same_upd rfl (same_upd rfl (same_upd rfl (same_upd rfl (same_upd rfl (same_upd rfl (same_refl)))))))))))))))))))))))))))))))
    ·have g14 := of_decide_eq_false b12
     refine wl_know 22 (.bool false) (congrArg Value.bool b12) ?_
     refine wy 10 22 false 23 (.int .i64 (round)) ?_
     refine wy 10 22 false 24 (.bool (decide (round > 1048576))) ?_
     refine wv 25 (.bool (decide (round > 1048576))) ?_
     refine wv 26 (.bool (decide (round > 1048576))) ?_
     refine (bsplit (decide (round > 1048576))).elim (fun b15 => ?_) (fun b15 => ?_)
     ·have g16 := of_decide_eq_true b15
      refine wl_know 26 (.bool true) (congrArg Value.bool b15) ?_
      iterate 2 refine wn 14 26 false ?_
      refine wv 29 (.bool true) ?_
      refine wv 30 (.bool true) ?_
      iterate 7 refine wn 18 30 false ?_
      refine wv 38 (.bool true) ?_
      refine w_nil ?_
      refine meetR_at ?_ ⟨(congrArg Value.bool (show true = (badArg f kind round replica) by (cases hq : badArg f kind round replica <;> simp [badArg, inB] at hq <;> first | rfl | (exfalso; omega) | (simp; omega)))), H4⟩
      exact (same_upd rfl (same_upd rfl (same_upd rfl (same_upd rfl (same_upd rfl (same_upd rfl (same_upd rfl (same_upd rfl (same_upd rfl (same_upd rfl (same_upd rfl (same_upd rfl (same_upd rfl (same_upd rfl (same_upd rfl (same_upd rfl (same_upd rfl (same_upd rfl (same_upd rfl (same_upd rfl (same_upd rfl (same_upd rfl (same_upd rfl (same_upd rfl (same_upd rfl (same_upd rfl (same_upd rfl (same_upd rfl (same_upd rfl (same_upd rfl (same_upd rfl (same_refl))))))))))))))))))))))))))))))))
     ·have g17 := of_decide_eq_false b15
      refine wl_know 26 (.bool false) (congrArg Value.bool b15) ?_
      refine wy 14 26 false 27 (.int .i64 (replica)) ?_
      refine wy 14 26 false 28 (.bool (decide (replica < 0))) ?_
      refine wv 29 (.bool (decide (replica < 0))) ?_
      refine wv 30 (.bool (decide (replica < 0))) ?_
      refine (bsplit (decide (replica < 0))).elim (fun b18 => ?_) (fun b18 => ?_)
      ·have g19 := of_decide_eq_true b18
       refine wl_know 30 (.bool true) (congrArg Value.bool b18) ?_
       iterate 7 refine wn 18 30 false ?_
       refine wv 38 (.bool true) ?_
       refine w_nil ?_
       refine meetR_at ?_ ⟨(congrArg Value.bool (show true = (badArg f kind round replica) by (cases hq : badArg f kind round replica <;> simp [badArg, inB] at hq <;> first | rfl | (exfalso; omega) | (simp; omega)))), H4⟩
       exact (same_upd rfl (same_upd rfl (same_upd rfl (same_upd rfl (same_upd rfl (same_upd rfl (same_upd rfl (same_upd rfl (same_upd rfl (same_upd rfl (same_upd rfl (same_upd rfl (same_upd rfl (same_upd rfl (same_upd rfl (same_upd rfl (same_upd rfl (same_upd rfl (same_upd rfl (same_upd rfl (same_upd rfl (same_upd rfl (same_upd rfl (same_upd rfl (same_upd rfl (same_upd rfl (same_upd rfl (same_upd rfl (same_upd rfl (same_upd rfl (same_upd rfl (same_upd rfl (same_refl)))))))))))))))))))))))))))))))))
      ·have g20 := of_decide_eq_false b18
       refine wl_know 30 (.bool false) (congrArg Value.bool b18) ?_
       refine wy 18 30 false 31 (.int .i64 (replica)) ?_
       refine wy 18 30 false 32 (pt r 0) ?_
       refine wy 18 30 false 33 (pt r 0) ?_
       refine wy 18 30 false 34 (pt r 0) ?_
       refine wy 18 30 false 35 (.agg ⟨([(.int .i64 (f)), (.int .i64 (c))] : List Value)⟩) ?_ (hr := e_loadN (vs := ([(.int .i64 (f)), (.int .i64 (c))] : List Value)) rfl (by kernel_rfl) (by kernel_rfl) (by exact Nat.le_of_ble_eq_true (by kernel_rfl)) (H4.at 0 rfl) (by kernel_rfl))
       refine wl_do (wantsY 18 30 false rfl (by kernel_rfl) rfl (by kernel_rfl)) (fun K21 hK21 => ?_)
       refine d_call (d := 36) rfl (by kernel_rfl) (refN_any w3 f c (by omega)) ?_
       rintro _ w22 ⟨rfl, u24⟩
       have H23 := H4.keepU u24
       refine ⟨_, rfl, ?_⟩
       refine hK21 _ _ ?_
       clear hK21 K21
       refine wy 18 30 false 37 (.bool (decide (replica ≥ (3 * f + 1)))) ?_
       refine wv 38 (.bool (decide (replica ≥ (3 * f + 1)))) ?_
       refine w_nil ?_
       refine meetR_at ?_ ⟨(congrArg Value.bool (show (decide (replica ≥ (3 * f + 1))) = (badArg f kind round replica) by (cases hq : badArg f kind round replica <;> simp [badArg, inB] at hq <;> first | rfl | (exfalso; omega) | (simp; omega)))), H23⟩
       exact (same_upd rfl (same_upd rfl (same_upd rfl (same_upd rfl (same_upd rfl (same_upd rfl (same_upd rfl (same_upd rfl (same_upd rfl (same_upd rfl (same_upd rfl (same_upd rfl (same_upd rfl (same_upd rfl (same_upd rfl (same_upd rfl (same_upd rfl (same_upd rfl (same_upd rfl (same_upd rfl (same_upd rfl (same_upd rfl (same_upd rfl (same_upd rfl (same_upd rfl (same_upd rfl (same_upd rfl (same_upd rfl (same_upd rfl (same_upd rfl (same_upd rfl (same_upd rfl (same_refl)))))))))))))))))))))))))))))))))
 ·rintro f25 w26 ⟨v28, H27⟩
  refine wp_know 38 _ v28 ?_
  refine (bsplit (badArg f kind round replica)).elim (fun b29 => ?_) (fun b29 => ?_)
  ·refine wp_know 38 (.bool true) (congrArg Value.bool b29) ?_
   refine wp_ift rfl ?_
   refine w_seq ?_
   refine w_lit ?_
   refine wv 10 (.bool false) ?_
   refine w_nil ?_
   refine then_normal ?_
   refine w_ret ?_
   refine then_ret ?_
   refine end1 rfl (res_tmp (v := (.bool false)) rfl) ?_
   have hok : okV f L kind round replica = false := by rw [okV_eq, b29]; rfl
   refine ⟨by rw [hok], v, ?_, H27.upd 1 rfl [r] (fun _ h => by simpa [cellC] using h), fun b hb => .inl ?_⟩
   ·rw [addV_no (v := (⟨kind, round, replica, h⟩ : VoteD)) hok]; exact rt_keep hT H27 0 1 rfl rfl
   ·rwa [addV_no (v := (⟨kind, round, replica, h⟩ : VoteD)) hok] at hb
  ·refine wp_know 38 (.bool false) (congrArg Value.bool b29) ?_
   refine wp_iff rfl ?_
   refine w_skip ?_
   refine then_normal ?_
   iterate 2 refine w_seq ?_
   refine w_lit ?_
   refine wv 39 (pt r 0) ?_
   refine wv 40 (pt r 0) ?_
   refine wv 41 (pt r 2) ?_
   refine wv 42 (v) ?_ (hr := e_load1 rfl (by kernel_rfl) (H27.cell 0 rfl rfl))
   refine wv 43 (.int .i64 ((L.length : Int))) ?_ (hr := e_lenRow (E := 143) (by kernel_rfl) hrow rfl)
   refine wv 44 (.int .i64 (0)) ?_
   refine w_nil ?_
   refine then_normal ?_
   refine w_block ?_
   refine wp_round [10, 11, 44, 45, 46, 47, 48, 49, 50, 51, 52, 53, 54, 55, 56, 57, 58, 59, 60, 61, 62, 63, 64, 65, 66, 67, 68, 69, 70, 71, 72, 73, 74, 75, 76, 77, 78, 79, 80, 81] (fun F_ W_ m_ => ∃ (i : Nat), F_ 44 = (.int .i64 ((i : Int))) ∧ (i ≤ L.length) ∧ ((L.take i).any (isP kind round replica) = false) ∧ Sat w [cellC r 101 ([(.int .i64 (f)), (.int .i64 (c)), v] : List Value), restC w (cellC r 101 ([(.int .i64 (f)), (.int .i64 (c)), v] : List Value)).fp, cellC b2 36 (hc h)] W_ ∧ m_ = L.length - i) _ ⟨0, (show ((.int .i64 (0)) : Value) = _ by first | rfl | go_num), by omega, rfl, H27, rfl⟩ ?_
   rintro g30 w31 _ ⟨i, v33, hi, hany, H32, rfl⟩
   refine wp_know 44 _ v33 ?_
   refine w_seq ?_
   refine w_lit ?_
   refine wv 45 (.bool (decide ((i : Int) < (L.length : Int)))) ?_
   refine w_nil ?_
   refine then_normal ?_
   refine w_seq ?_
   refine (bsplit (decide ((i : Int) < (L.length : Int)))).elim (fun b35 => ?_) (fun b35 => ?_)
   ·have g36 := of_decide_eq_true b35
    refine wp_know 45 (.bool true) (congrArg Value.bool b35) ?_
    refine wp_ift rfl ?_
    refine w_skip ?_
    refine then_normal ?_
    refine w_seq ?_
    refine w_block ?_
    refine w_seq ?_
    obtain ⟨g, cp, hv⟩ := row_shape hrow (by omega)
    obtain ⟨x, hx⟩ := get_at (show i < L.length by omega)
    have hgr := hdis g (by rw [hv]; rfl)
    refine w_lit ?_
    refine wv 46 (.int .i64 ((i : Int))) ?_
    refine wv 11 (.int .i64 ((i : Int))) ?_
    refine w_nil ?_
    refine then_normal ?_
    refine w_seq ?_
    refine w_lit ?_
    refine wv 47 (pt r 0) ?_
    refine wv 48 (pt r 0) ?_
    refine wv 49 (pt r 2) ?_
    refine wv 50 (v) ?_ (hr := e_load1 rfl (by kernel_rfl) (H32.cell 0 rfl rfl))
    refine wv 51 (.int .i64 ((i : Int))) ?_
    refine wv 52 (.pointer (some ⟨g, 0 + ((i : Int)).toNat * 35, none⟩)) ?_ (hr := e_indexAddrV (E := 143) (by kernel_rfl) (by kernel_rfl) (Nat.le_of_ble_eq_true rfl) rfl hv rfl (by omega) (by omega))
    refine wv 53 (.pointer (some ⟨g, 0 + ((i : Int)).toNat * 35, none⟩)) ?_
    refine wv 54 (.int .i64 (x.kind)) ?_ (hr := e_load1 rfl (by kernel_rfl) (H32.cellR 1 rfl (rows_cell hrow hv encV_len hx 0 rfl (show 0 + ((i : Int)).toNat * 35 = i * 35 + 0 by omega) rfl) hgr))
    refine wv 55 (.int .i64 (kind)) ?_
    refine wv 56 (.bool (decide (x.kind = kind))) ?_
    refine wv 57 (.bool (decide (x.kind = kind))) ?_
    refine (bsplit (decide (x.kind = kind))).elim (fun b37 => ?_) (fun b37 => ?_)
    ·have g38 := of_decide_eq_true b37
     refine wl_know 57 (.bool true) (congrArg Value.bool b37) ?_
     refine wy 10 57 true 58 (pt r 0) ?_
     refine wy 10 57 true 59 (pt r 0) ?_
     refine wy 10 57 true 60 (pt r 2) ?_
     refine wy 10 57 true 61 (v) ?_ (hr := e_load1 rfl (by kernel_rfl) (H32.cell 0 rfl rfl))
     refine wy 10 57 true 62 (.int .i64 ((i : Int))) ?_
     refine wy 10 57 true 63 (.pointer (some ⟨g, 0 + ((i : Int)).toNat * 35, none⟩)) ?_ (hr := e_indexAddrV (E := 143) (by kernel_rfl) (by kernel_rfl) (Nat.le_of_ble_eq_true rfl) rfl hv rfl (by omega) (by omega))
     refine wy 10 57 true 64 (.pointer (some ⟨g, 0 + ((i : Int)).toNat * 35 + 1, none⟩)) ?_
     refine wy 10 57 true 65 (.int .i64 (x.round)) ?_ (hr := e_load1 rfl (by kernel_rfl) (H32.cellR 1 rfl (rows_cell hrow hv encV_len hx 1 rfl (show 0 + ((i : Int)).toNat * 35 + 1 = i * 35 + 1 by omega) rfl) hgr))
     refine wy 10 57 true 66 (.int .i64 (round)) ?_
     refine wy 10 57 true 67 (.bool (decide (x.round = round))) ?_
     refine wv 68 (.bool (decide (x.round = round))) ?_
     refine wv 69 (.bool (decide (x.round = round))) ?_
     refine (bsplit (decide (x.round = round))).elim (fun b39 => ?_) (fun b39 => ?_)
     ·have g40 := of_decide_eq_true b39
      refine wl_know 69 (.bool true) (congrArg Value.bool b39) ?_
      refine wy 22 69 true 70 (pt r 0) ?_
      refine wy 22 69 true 71 (pt r 0) ?_
      refine wy 22 69 true 72 (pt r 2) ?_
      refine wy 22 69 true 73 (v) ?_ (hr := e_load1 rfl (by kernel_rfl) (H32.cell 0 rfl rfl))
      refine wy 22 69 true 74 (.int .i64 ((i : Int))) ?_
      refine wy 22 69 true 75 (.pointer (some ⟨g, 0 + ((i : Int)).toNat * 35, none⟩)) ?_ (hr := e_indexAddrV (E := 143) (by kernel_rfl) (by kernel_rfl) (Nat.le_of_ble_eq_true rfl) rfl hv rfl (by omega) (by omega))
      refine wy 22 69 true 76 (.pointer (some ⟨g, 0 + ((i : Int)).toNat * 35 + 2, none⟩)) ?_
      refine wy 22 69 true 77 (.int .i64 (x.replica)) ?_ (hr := e_load1 rfl (by kernel_rfl) (H32.cellR 1 rfl (rows_cell hrow hv encV_len hx 2 rfl (show 0 + ((i : Int)).toNat * 35 + 2 = i * 35 + 2 by omega) rfl) hgr))
      refine wy 22 69 true 78 (.int .i64 (replica)) ?_
      refine wy 22 69 true 79 (.bool (decide (x.replica = replica))) ?_
      refine wv 80 (.bool (decide (x.replica = replica))) ?_
      refine w_nil ?_
      refine then_normal ?_
      refine (bsplit (decide (x.replica = replica))).elim (fun b41 => ?_) (fun b41 => ?_)
      ·have g42 := of_decide_eq_true b41
       refine wp_know 80 (.bool true) (congrArg Value.bool b41) ?_
       refine wp_ift rfl ?_
       refine w_seq ?_
       refine w_lit ?_
       refine wv 10 (.bool false) ?_
       refine w_nil ?_
       refine then_normal ?_
       refine w_ret ?_
       refine blk_ret ?_
       refine then_ret ?_
       refine back_ret ?_
       refine blk_ret ?_
       refine then_ret ?_
       refine end1 rfl (res_tmp (v := (.bool false)) rfl) ?_
       have hok : okV f L kind round replica = false := by rw [okV_eq, any_of hx (p := (isP kind round replica)) (by simp [isP, b37, b39, b41])]; simp
       refine ⟨by rw [hok], v, ?_, H32.upd 1 rfl [r] (fun _ h => by simpa [cellC] using h), fun b hb => .inl ?_⟩
       ·rw [addV_no (v := (⟨kind, round, replica, h⟩ : VoteD)) hok]; exact rt_keep hT H32 0 1 rfl rfl
       ·rwa [addV_no (v := (⟨kind, round, replica, h⟩ : VoteD)) hok] at hb
      ·have g43 := of_decide_eq_false b41
       refine wp_know 80 (.bool false) (congrArg Value.bool b41) ?_
       refine wp_iff rfl ?_
       refine w_skip ?_
       refine blk_normal ?_
       refine then_normal ?_
       refine w_lit ?_
       refine wv 81 (.int .i64 ((i : Int) + 1)) ?_ (hr := e_int (z := (i : Int) + 1) (by kernel_rfl) (IntWalk.i64_in _ (by omega)))
       refine wv 44 (.int .i64 ((i : Int) + 1)) ?_
       refine w_nil ?_
       refine round_back ?_ _ ⟨(i + 1), (show ((.int .i64 ((i : Int) + 1)) : Value) = _ by first | rfl | go_num), by omega, by rw [take_any hx, hany]; simp [isP, b37, b39, b41], H32, rfl⟩ (by omega)
       iterate 44 refine same_upd rfl ?_
       exact same_ovr
     ·have g44 := of_decide_eq_false b39
      refine wl_know 69 (.bool false) (congrArg Value.bool b39) ?_
      iterate 10 refine wn 22 69 true ?_
      refine wv 80 (.bool false) ?_
      refine w_nil ?_
      refine then_normal ?_
      refine wp_iff rfl ?_
      refine w_skip ?_
      refine blk_normal ?_
      refine then_normal ?_
      refine w_lit ?_
      refine wv 81 (.int .i64 ((i : Int) + 1)) ?_ (hr := e_int (z := (i : Int) + 1) (by kernel_rfl) (IntWalk.i64_in _ (by omega)))
      refine wv 44 (.int .i64 ((i : Int) + 1)) ?_
      refine w_nil ?_
      refine round_back ?_ _ ⟨(i + 1), (show ((.int .i64 ((i : Int) + 1)) : Value) = _ by first | rfl | go_num), by omega, by rw [take_any hx, hany]; simp [isP, b37, b39], H32, rfl⟩ (by omega)
      iterate 43 refine same_upd rfl ?_
      exact same_ovr
    ·have g45 := of_decide_eq_false b37
     refine wl_know 57 (.bool false) (congrArg Value.bool b37) ?_
     iterate 10 refine wn 10 57 true ?_
     refine wv 68 (.bool false) ?_
     refine wv 69 (.bool false) ?_
     iterate 10 refine wn 22 69 true ?_
     refine wv 80 (.bool false) ?_
     refine w_nil ?_
     refine then_normal ?_
     refine wp_iff rfl ?_
     refine w_skip ?_
     refine blk_normal ?_
     refine then_normal ?_
     refine w_lit ?_
     refine wv 81 (.int .i64 ((i : Int) + 1)) ?_ (hr := e_int (z := (i : Int) + 1) (by kernel_rfl) (IntWalk.i64_in _ (by omega)))
     refine wv 44 (.int .i64 ((i : Int) + 1)) ?_
     refine w_nil ?_
     refine round_back ?_ _ ⟨(i + 1), (show ((.int .i64 ((i : Int) + 1)) : Value) = _ by first | rfl | go_num), by omega, by rw [take_any hx, hany]; simp [isP, b37], H32, rfl⟩ (by omega)
     iterate 42 refine same_upd rfl ?_
     exact same_ovr
   ·have g46 := of_decide_eq_false b35
    refine wp_know 45 (.bool false) (congrArg Value.bool b35) ?_
    refine wp_iff rfl ?_
    refine w_exit ?_
    refine then_exit ?_
    refine back_exit ?_
    refine blk_hit ?_
    refine then_normal ?_
    refine w_seq ?_
    refine k_start H32 [cellC r 101 ([(.int .i64 (f)), (.int .i64 (c)), v] : List Value), restC w (cellC r 101 ([(.int .i64 (f)), (.int .i64 (c)), v] : List Value)).fp, cellC b2 36 (hc h)] [15] 16 rfl (by kernel_rfl) (fun Hx => (Hx.pick [0, 1, 2] (by decide))) ?_
    intro w47 H48 S49
    refine k_pure 0 rfl (by kernel_rfl) (by kernel_rfl) (by kernel_rfl) (fun _ _ _ h => h) S49 (wants0 rfl) rfl (d := 82) (v := (pt r 0)) rfl (fun _ => (by kernel_rfl)) ?_
    refine k_pure 1 rfl (by kernel_rfl) (by kernel_rfl) (by kernel_rfl) (fun _ _ _ h => h) S49 (wants0 rfl) rfl (d := 83) (v := (pt r 0)) rfl (fun _ => (by kernel_rfl)) ?_
    refine k_pure 2 rfl (by kernel_rfl) (by kernel_rfl) (by kernel_rfl) (fun _ _ _ h => h) S49 (wants0 rfl) rfl (d := 84) (v := (pt r 0)) rfl (fun _ => (by kernel_rfl)) ?_
    refine k_pure 3 rfl (by kernel_rfl) (by kernel_rfl) (by kernel_rfl) (fun _ _ _ h => h) S49 (wants0 rfl) rfl (d := 85) (v := (pt r 2)) rfl (fun _ => (by kernel_rfl)) ?_
    refine k_val 4 rfl (by kernel_rfl) (by kernel_rfl) (by kernel_rfl) (fun _ _ _ h => h) S49 (wants0 rfl) rfl (by kernel_rfl) (d := 86) (v := v) rfl (fun _ H' => (e_load1 rfl (by kernel_rfl) (H'.cell 0 rfl rfl))) ?_
    refine k_pure 6 rfl (by kernel_rfl) (by kernel_rfl) (by kernel_rfl) (fun _ _ _ h => h) S49 (wants0 rfl) rfl (d := 88) (v := (.int .i64 (kind))) rfl (fun _ => (by kernel_rfl)) ?_
    refine k_pure 7 rfl (by kernel_rfl) (by kernel_rfl) (by kernel_rfl) (fun _ _ _ h => h) S49 (wants0 rfl) rfl (d := 89) (v := (.int .i64 (round))) rfl (fun _ => (by kernel_rfl)) ?_
    refine k_pure 8 rfl (by kernel_rfl) (by kernel_rfl) (by kernel_rfl) (fun _ _ _ h => h) S49 (wants0 rfl) rfl (d := 90) (v := (.int .i64 (replica))) rfl (fun _ => (by kernel_rfl)) ?_
    refine k_val 9 rfl (by kernel_rfl) (by kernel_rfl) (by kernel_rfl) (fun _ _ _ h => h) S49 (wants0 rfl) rfl (by kernel_rfl) (d := 91) (v := (.agg ⟨(hc h)⟩)) rfl (fun _ H' => (e_loadN (vs := (hc h)) rfl (by kernel_rfl) (by kernel_rfl) (by exact Nat.le_of_ble_eq_true (by kernel_rfl)) (H'.at 2 rfl) (by kernel_rfl))) ?_
    refine k_pure 10 rfl (by kernel_rfl) (by kernel_rfl) (by kernel_rfl) (fun _ _ _ h => h) S49 (wants0 rfl) rfl (d := 92) (v := (.agg ⟨(([(.int .i64 (kind)), (.int .i64 (round)), (.int .i64 (replica))] : List Value) ++ hc h)⟩)) rfl (fun _ => (by kernel_rfl)) ?_
    refine k_do2 5 11 rfl rfl (by kernel_rfl) (wants0 rfl) (wants0 rfl) rfl rfl (fun K50 hK50 => ?_) (fun K50 hK50 => ?_)
    ·refine d_appendNil (T := 99) (e := 143) (size := 35) (bytes := 56) rfl H48 (by kernel_rfl) (H48.roCk 1 rfl hrow hdis) rfl rfl (flat_one encV encV_one L) (by omega) (by omega) ?_
     intro v51 w52 (H53 : Sat w [cellC r 101 ([(.int .i64 (f)), (.int .i64 (c)), v] : List Value), restC w (cellC r 101 ([(.int .i64 (f)), (.int .i64 (c)), v] : List Value)).fp, cellC b2 36 (hc h), rowC 143 35 v51 L.length (L.flatMap encV)] w52)
     obtain ⟨a54, c55, rfl⟩ := ownsRow_shape (H53.at 3 rfl)
     have S56 := H53.pick [0, 1, 2] (by decide)
     refine hK50 _ _ S56 ?_
     clear hK50 K50
     refine k_do 11 rfl (by kernel_rfl) (wants0 rfl) rfl (fun K57 hK57 => ?_)
     refine d_buildSlice (e := 143) (size := 35) (bytes := 56) (z := (.agg ⟨(([(.int .i64 (0)), (.int .i64 (0)), (.int .i64 (0))] : List Value) ++ hc hash0)⟩)) (pvs := [(0, (.agg ⟨(([(.int .i64 (kind)), (.int .i64 (round)), (.int .i64 (replica))] : List Value) ++ hc h)⟩))]) (vs := (([(.int .i64 (kind)), (.int .i64 (round)), (.int .i64 (replica))] : List Value) ++ hc h)) rfl H53 (by kernel_rfl) (by kernel_rfl) (by kernel_rfl) (by kernel_rfl) (by kernel_rfl) rfl rfl ?_
     intro b58 w59 (H60 : Sat w [cellC r 101 ([(.int .i64 (f)), (.int .i64 (c)), v] : List Value), restC w (cellC r 101 ([(.int .i64 (f)), (.int .i64 (c)), v] : List Value)).fp, cellC b2 36 (hc h), rowC 143 35 (.slice a54 L.length c55) L.length (L.flatMap encV), rowC 143 35 (.slice (some ⟨b58, 0, none⟩) 1 1) 1 (([(.int .i64 (kind)), (.int .i64 (round)), (.int .i64 (replica))] : List Value) ++ hc h)] w59)
     have S61 := H60.pick [0, 1, 2] (by decide)
     refine hK57 _ _ S61 ?_
     clear hK57 K57
     refine k_do 12 rfl (by kernel_rfl) (wants0 rfl) rfl (fun K62 hK62 => ?_)
     refine d_append (T := 99) (e := 143) (size := 35) (bytes := 56) rfl H60 (by kernel_rfl) 3 4 rfl rfl rfl rfl (by kernel_rfl) (by omega) (by omega) ?_
     intro v63 w64 (H65 : Sat w [cellC r 101 ([(.int .i64 (f)), (.int .i64 (c)), v] : List Value), restC w (cellC r 101 ([(.int .i64 (f)), (.int .i64 (c)), v] : List Value)).fp, cellC b2 36 (hc h), rowC 143 35 v63 (L.length + 1) ((L.flatMap encV) ++ (([(.int .i64 (kind)), (.int .i64 (round)), (.int .i64 (replica))] : List Value) ++ hc h)), rowC 143 35 (.slice (some ⟨b58, 0, none⟩) 1 1) 1 (([(.int .i64 (kind)), (.int .i64 (round)), (.int .i64 (replica))] : List Value) ++ hc h)] w64)
     obtain ⟨a66, c67, rfl⟩ := ownsRow_shape (H65.at 3 rfl)
     have S68 := H65.pick [0, 1, 2] (by decide)
     refine hK62 _ _ S68 ?_
     clear hK62 K62
     refine k_pure 13 rfl (by kernel_rfl) (by kernel_rfl) (by kernel_rfl) (fun _ _ _ h => h) S68 (wants0 rfl) rfl (d := 95) (v := (pt r 0)) rfl (fun _ => (by kernel_rfl)) ?_
     refine k_pure 14 rfl (by kernel_rfl) (by kernel_rfl) (by kernel_rfl) (fun _ _ _ h => h) S68 (wants0 rfl) rfl (d := 96) (v := (pt r 2)) rfl (fun _ => (by kernel_rfl)) ?_
     refine k_brk 15 (Sat w [restC w (cellC r 101 ([(.int .i64 (f)), (.int .i64 (c)), v] : List Value)).fp, cellC b2 36 (hc h)]) rfl (by kernel_rfl) (wants0 rfl) rfl (fun K69 hK69 => ?_)
     refine d_store (vs := ([(.slice a66 (L.length + 1) c67)] : List Value)) rfl H65 0 rfl rfl rfl rfl (by kernel_rfl) (Nat.le_of_ble_eq_true (by kernel_rfl)) (Nat.le_of_ble_eq_true (by kernel_rfl)) (by kernel_rfl) ?_
     intro w70 (H71 : Sat w [cellC r 101 ([(.int .i64 (f)), (.int .i64 (c)), (.slice a66 (L.length + 1) c67)] : List Value), restC w (cellC r 101 ([(.int .i64 (f)), (.int .i64 (c)), v] : List Value)).fp, cellC b2 36 (hc h), rowC 143 35 (.slice a66 (L.length + 1) c67) (L.length + 1) ((L.flatMap encV) ++ (([(.int .i64 (kind)), (.int .i64 (round)), (.int .i64 (replica))] : List Value) ++ hc h)), rowC 143 35 (.slice (some ⟨b58, 0, none⟩) 1 1) 1 (([(.int .i64 (kind)), (.int .i64 (round)), (.int .i64 (replica))] : List Value) ++ hc h)] w70)
     have S73 := H71.pick [1, 2] (by decide)
     refine hK69 _ _ S73 ?_
     clear hK69 K69
     refine h_fin (by kernel_rfl) ?_
     refine then_normal ?_
     refine w_seq ?_
     refine w_lit ?_
     refine wv 10 (.bool true) ?_
     refine w_nil ?_
     refine then_normal ?_
     refine w_ret ?_
     refine end1 rfl (res_tmp (v := (.bool true)) rfl) ?_
     have hok : okV f L kind round replica = true := by
      rw [okV_eq, b29]; rw [List.take_of_length_le (by omega)] at hany; rw [hany]; rfl
     have H74 : Sat w [cellC r 101 ([(.int .i64 (f)), (.int .i64 (c)), (.slice a66 (L.length + 1) c67)] : List Value), restC w (cellC r 101 ([(.int .i64 (f)), (.int .i64 (c)), v] : List Value)).fp, cellC b2 36 (hc h), rowC 143 35 (.slice a66 (L.length + 1) c67) ((L ++ [(⟨kind, round, replica, h⟩ : VoteD)]).length) ((L ++ [(⟨kind, round, replica, h⟩ : VoteD)]).flatMap encV), rowC 143 35 (.slice (some ⟨b58, 0, none⟩) 1 1) 1 (([(.int .i64 (kind)), (.int .i64 (round)), (.int .i64 (replica))] : List Value) ++ hc h)] w70 := by rw [← row_snoc]; exact H71
     refine ⟨by rw [hok], (.slice a66 (L.length + 1) c67), ?_, H74.upd 1 rfl [r] (fun _ h => by simpa [cellC] using h), ?_⟩
     ·rw [addV_yes (v := (⟨kind, round, replica, h⟩ : VoteD)) hok]; exact H74.fin [0, 3] (by decide) rfl
     ·rw [addV_yes (v := (⟨kind, round, replica, h⟩ : VoteD)) hok]; exact rt_fp H74 0 3 1 rfl rfl rfl rfl rfl
    ·refine d_buildSlice (e := 143) (size := 35) (bytes := 56) (z := (.agg ⟨(([(.int .i64 (0)), (.int .i64 (0)), (.int .i64 (0))] : List Value) ++ hc hash0)⟩)) (pvs := [(0, (.agg ⟨(([(.int .i64 (kind)), (.int .i64 (round)), (.int .i64 (replica))] : List Value) ++ hc h)⟩))]) (vs := (([(.int .i64 (kind)), (.int .i64 (round)), (.int .i64 (replica))] : List Value) ++ hc h)) rfl H48 (by kernel_rfl) (by kernel_rfl) (by kernel_rfl) (by kernel_rfl) (by kernel_rfl) rfl rfl ?_
     intro b75 w76 (H77 : Sat w [cellC r 101 ([(.int .i64 (f)), (.int .i64 (c)), v] : List Value), restC w (cellC r 101 ([(.int .i64 (f)), (.int .i64 (c)), v] : List Value)).fp, cellC b2 36 (hc h), rowC 143 35 (.slice (some ⟨b75, 0, none⟩) 1 1) 1 (([(.int .i64 (kind)), (.int .i64 (round)), (.int .i64 (replica))] : List Value) ++ hc h)] w76)
     have S78 := H77.pick [0, 1, 2] (by decide)
     refine hK50 _ _ S78 ?_
     clear hK50 K50
     refine k_do 5 rfl (by kernel_rfl) (wants0 rfl) rfl (fun K79 hK79 => ?_)
     refine d_appendNil (T := 99) (e := 143) (size := 35) (bytes := 56) rfl H77 (by kernel_rfl) (H77.roCk 1 rfl hrow hdis) rfl rfl (flat_one encV encV_one L) (by omega) (by omega) ?_
     intro v80 w81 (H82 : Sat w [cellC r 101 ([(.int .i64 (f)), (.int .i64 (c)), v] : List Value), restC w (cellC r 101 ([(.int .i64 (f)), (.int .i64 (c)), v] : List Value)).fp, cellC b2 36 (hc h), rowC 143 35 (.slice (some ⟨b75, 0, none⟩) 1 1) 1 (([(.int .i64 (kind)), (.int .i64 (round)), (.int .i64 (replica))] : List Value) ++ hc h), rowC 143 35 v80 L.length (L.flatMap encV)] w81)
     obtain ⟨a83, c84, rfl⟩ := ownsRow_shape (H82.at 4 rfl)
     have S85 := H82.pick [0, 1, 2] (by decide)
     refine hK79 _ _ S85 ?_
     clear hK79 K79
     refine k_do 12 rfl (by kernel_rfl) (wants0 rfl) rfl (fun K86 hK86 => ?_)
     refine d_append (T := 99) (e := 143) (size := 35) (bytes := 56) rfl H82 (by kernel_rfl) 4 3 rfl rfl rfl rfl (by kernel_rfl) (by omega) (by omega) ?_
     intro v87 w88 (H89 : Sat w [cellC r 101 ([(.int .i64 (f)), (.int .i64 (c)), v] : List Value), restC w (cellC r 101 ([(.int .i64 (f)), (.int .i64 (c)), v] : List Value)).fp, cellC b2 36 (hc h), rowC 143 35 (.slice (some ⟨b75, 0, none⟩) 1 1) 1 (([(.int .i64 (kind)), (.int .i64 (round)), (.int .i64 (replica))] : List Value) ++ hc h), rowC 143 35 v87 (L.length + 1) ((L.flatMap encV) ++ (([(.int .i64 (kind)), (.int .i64 (round)), (.int .i64 (replica))] : List Value) ++ hc h))] w88)
     obtain ⟨a90, c91, rfl⟩ := ownsRow_shape (H89.at 4 rfl)
     have S92 := H89.pick [0, 1, 2] (by decide)
     refine hK86 _ _ S92 ?_
     clear hK86 K86
     refine k_pure 13 rfl (by kernel_rfl) (by kernel_rfl) (by kernel_rfl) (fun _ _ _ h => h) S92 (wants0 rfl) rfl (d := 95) (v := (pt r 0)) rfl (fun _ => (by kernel_rfl)) ?_
     refine k_pure 14 rfl (by kernel_rfl) (by kernel_rfl) (by kernel_rfl) (fun _ _ _ h => h) S92 (wants0 rfl) rfl (d := 96) (v := (pt r 2)) rfl (fun _ => (by kernel_rfl)) ?_
     refine k_brk 15 (Sat w [restC w (cellC r 101 ([(.int .i64 (f)), (.int .i64 (c)), v] : List Value)).fp, cellC b2 36 (hc h)]) rfl (by kernel_rfl) (wants0 rfl) rfl (fun K93 hK93 => ?_)
     refine d_store (vs := ([(.slice a90 (L.length + 1) c91)] : List Value)) rfl H89 0 rfl rfl rfl rfl (by kernel_rfl) (Nat.le_of_ble_eq_true (by kernel_rfl)) (Nat.le_of_ble_eq_true (by kernel_rfl)) (by kernel_rfl) ?_
     intro w94 (H95 : Sat w [cellC r 101 ([(.int .i64 (f)), (.int .i64 (c)), (.slice a90 (L.length + 1) c91)] : List Value), restC w (cellC r 101 ([(.int .i64 (f)), (.int .i64 (c)), v] : List Value)).fp, cellC b2 36 (hc h), rowC 143 35 (.slice (some ⟨b75, 0, none⟩) 1 1) 1 (([(.int .i64 (kind)), (.int .i64 (round)), (.int .i64 (replica))] : List Value) ++ hc h), rowC 143 35 (.slice a90 (L.length + 1) c91) (L.length + 1) ((L.flatMap encV) ++ (([(.int .i64 (kind)), (.int .i64 (round)), (.int .i64 (replica))] : List Value) ++ hc h))] w94)
     have S97 := H95.pick [1, 2] (by decide)
     refine hK93 _ _ S97 ?_
     clear hK93 K93
     refine h_fin (by kernel_rfl) ?_
     refine then_normal ?_
     refine w_seq ?_
     refine w_lit ?_
     refine wv 10 (.bool true) ?_
     refine w_nil ?_
     refine then_normal ?_
     refine w_ret ?_
     refine end1 rfl (res_tmp (v := (.bool true)) rfl) ?_
     have hok : okV f L kind round replica = true := by
      rw [okV_eq, b29]; rw [List.take_of_length_le (by omega)] at hany; rw [hany]; rfl
     have H98 : Sat w [cellC r 101 ([(.int .i64 (f)), (.int .i64 (c)), (.slice a90 (L.length + 1) c91)] : List Value), restC w (cellC r 101 ([(.int .i64 (f)), (.int .i64 (c)), v] : List Value)).fp, cellC b2 36 (hc h), rowC 143 35 (.slice (some ⟨b75, 0, none⟩) 1 1) 1 (([(.int .i64 (kind)), (.int .i64 (round)), (.int .i64 (replica))] : List Value) ++ hc h), rowC 143 35 (.slice a90 (L.length + 1) c91) ((L ++ [(⟨kind, round, replica, h⟩ : VoteD)]).length) ((L ++ [(⟨kind, round, replica, h⟩ : VoteD)]).flatMap encV)] w94 := by rw [← row_snoc]; exact H95
     refine ⟨by rw [hok], (.slice a90 (L.length + 1) c91), ?_, H98.upd 1 rfl [r] (fun _ h => by simpa [cellC] using h), ?_⟩
     ·rw [addV_yes (v := (⟨kind, round, replica, h⟩ : VoteD)) hok]; exact H98.fin [0, 4] (by decide) rfl
     ·rw [addV_yes (v := (⟨kind, round, replica, h⟩ : VoteD)) hok]; exact rt_fp H98 0 4 1 rfl rfl rfl rfl rfl

set_option maxRecDepth 100000 in
set_option maxHeartbeats 1000000 in
theorem refHeard_any (w : World) (r : Nat) (v : Value) (f c : Int) (L : List VoteD) (hT : (rtC r v f c L).ok w) (hl : L.length ≤ 1000000000) (round : Int) :
  Calls Try.prog 70 #[(.pointer (some ⟨r, 0, none⟩)), (.int .i64 (round))] w fun e w' => e = .returned (.int .i64 ((heardF round L).length : Int)) ∧ Upd [] w w' := by
 obtain ⟨hcell, hrow⟩ := rtC_parts hT
 have H := Sat.start0 w
 refine calls_fr Try.func70 rfl 67 rfl (Nat.le_of_ble_eq_true rfl) ?_
 refine w_seq ?_
 refine w_lit ?_
 refine wv 4 (.int .i64 (0)) ?_
 refine w_nil ?_
 refine then_normal ?_
 refine w_seq ?_
 refine w_lit ?_
 refine wv 5 (.slice none 0 0) ?_
 refine w_nil ?_
 refine then_normal ?_
 iterate 2 refine w_seq ?_
 refine w_lit ?_
 refine wv 9 (pt r 0) ?_
 refine wv 10 (pt r 0) ?_
 refine wv 11 (pt r 2) ?_
 refine wv 12 (v) ?_ (hr := e_load1 rfl (by kernel_rfl) (H.roCell 0 rfl hcell (fun h => h) rfl))
 refine wv 13 (.int .i64 ((L.length : Int))) ?_ (hr := e_lenRow (E := 143) (by kernel_rfl) hrow rfl)
 refine wv 14 (.int .i64 (0)) ?_
 refine w_nil ?_
 have Hn := H.addNil 3 1
 refine then_normal ?_
 refine w_block ?_
 refine wp_round [5, 6, 7, 8, 14, 15, 16, 17, 18, 19, 20, 21, 22, 23, 24, 25, 26, 27, 28, 29, 30, 31, 32, 33, 34, 35, 36, 37, 38, 39, 40, 41, 42, 43, 44, 45, 46, 47, 48, 49, 50, 51, 52, 53, 54, 55, 56, 57, 58, 59, 60, 61, 62, 63, 64] (fun F_ W_ m_ => ∃ (i : Nat) (u : Value) (hs : List Int), F_ 14 = (.int .i64 ((i : Int))) ∧ F_ 5 = u ∧ (i ≤ L.length) ∧ (hs = heardF round (L.take i)) ∧ (hs.length ≤ i) ∧ Sat w [restC w (fun _ => False), rowC 3 1 u hs.length (hs.flatMap enc1)] W_ ∧ m_ = L.length - i) _ ⟨0, (.slice none 0 0), [], (show ((.int .i64 (0)) : Value) = _ by first | rfl | go_num), (by first | rfl | go_num), by omega, rfl, by simp, Hn, rfl⟩ ?_
 rintro g1 w2 _ ⟨i, u, hs, v4, v5, hi, hhs, hhl, H3, rfl⟩
 refine wp_know 14 _ v4 ?_
 refine wp_know 5 _ v5 ?_
 refine w_seq ?_
 refine w_lit ?_
 refine wv 15 (.bool (decide ((i : Int) < (L.length : Int)))) ?_
 refine w_nil ?_
 refine then_normal ?_
 refine w_seq ?_
 refine (bsplit (decide ((i : Int) < (L.length : Int)))).elim (fun b7 => ?_) (fun b7 => ?_)
 ·have g8 := of_decide_eq_true b7
  refine wp_know 15 (.bool true) (congrArg Value.bool b7) ?_
  refine wp_ift rfl ?_
  refine w_skip ?_
  refine then_normal ?_
  refine w_seq ?_
  refine w_block ?_
  refine w_seq ?_
  obtain ⟨g, cp, hv⟩ := row_shape hrow (by omega)
  obtain ⟨x, hx⟩ := get_at (show i < L.length by omega)
  refine w_lit ?_
  refine wv 16 (.int .i64 ((i : Int))) ?_
  refine wv 6 (.int .i64 ((i : Int))) ?_
  refine w_nil ?_
  refine then_normal ?_
  refine w_seq ?_
  refine w_lit ?_
  refine wv 7 (.bool false) ?_
  refine w_nil ?_
  refine then_normal ?_
  iterate 2 refine w_seq ?_
  refine w_lit ?_
  refine wv 17 (u) ?_
  refine wv 18 (.int .i64 ((hs.length : Int))) ?_ (hr := e_lenRow (E := 3) (by kernel_rfl) (H3.at 1 rfl) rfl)
  refine wv 19 (.int .i64 (0)) ?_
  refine w_nil ?_
  refine then_normal ?_
  refine w_block ?_
  refine wp_round [7, 8, 19, 20, 21, 22, 23, 24, 25, 26, 27, 28, 29, 30, 31, 32, 33, 34, 35, 36, 37, 38] (fun F_ W_ m_ => ∃ (k : Nat), F_ 19 = (.int .i64 ((k : Int))) ∧ F_ 7 = (.bool ((hs.take k).any fun y => decide (y = x.replica))) ∧ (k ≤ hs.length) ∧ Sat w [restC w (fun _ => False), rowC 3 1 u hs.length (hs.flatMap enc1)] W_ ∧ m_ = hs.length - k) _ ⟨0, (show ((.int .i64 (0)) : Value) = _ by first | rfl | go_num), (by first | rfl | go_num), by omega, H3, rfl⟩ ?_
  rintro g9 w10 _ ⟨k, v12, v13, hk, H11, rfl⟩
  refine wp_know 19 _ v12 ?_
  refine wp_know 7 _ v13 ?_
  refine w_seq ?_
  refine w_lit ?_
  refine wv 20 (.bool (decide ((k : Int) < (hs.length : Int)))) ?_
  refine w_nil ?_
  refine then_normal ?_
  refine w_seq ?_
  refine (bsplit (decide ((k : Int) < (hs.length : Int)))).elim (fun b15 => ?_) (fun b15 => ?_)
  ·have g16 := of_decide_eq_true b15
   refine wp_know 20 (.bool true) (congrArg Value.bool b15) ?_
   refine wp_ift rfl ?_
   refine w_skip ?_
   refine then_normal ?_
   refine w_seq ?_
   refine w_block ?_
   refine w_seq ?_
   obtain ⟨g2, cp2, hv2⟩ := row_shape (H11.at 1 rfl) (by omega)
   obtain ⟨z, hz⟩ := get_at (show k < hs.length by omega)
   refine w_lit ?_
   refine wv 21 (.int .i64 ((k : Int))) ?_
   refine wv 8 (.int .i64 ((k : Int))) ?_
   refine w_nil ?_
   refine then_normal ?_
   refine q_start H11 (by kernel_rfl) (by kernel_rfl) ?_
   refine qv 22 (.bool ((hs.take k).any fun y => decide (y = x.replica))) ?_
   refine qv 23 (.bool ((hs.take k).any fun y => decide (y = x.replica))) ?_
   refine (bsplit ((hs.take k).any fun y => decide (y = x.replica))).elim (fun b17 => ?_) (fun b17 => ?_)
   ·refine q_know 23 (.bool true) (congrArg Value.bool b17) ?_
    iterate 13 refine qn 1 23 false ?_
    refine qv 37 (.bool true) ?_
    refine qv 7 (.bool true) ?_
    refine q_end ?_
    intro w18 H19
    refine blk_normal ?_
    refine then_normal ?_
    refine w_lit ?_
    refine wv 38 (.int .i64 ((k : Int) + 1)) ?_ (hr := e_int (z := (k : Int) + 1) (by kernel_rfl) (IntWalk.i64_in _ (by omega)))
    refine wv 19 (.int .i64 ((k : Int) + 1)) ?_
    refine w_nil ?_
    refine round_back ?_ _ ⟨(k + 1), (show ((.int .i64 ((k : Int) + 1)) : Value) = _ by first | rfl | go_num), (show ((.bool true) : Value) = _ by rw [take_any hz, b17]; simp), by omega, H19, rfl⟩ (by omega)
    iterate 26 refine same_upd rfl ?_
    exact same_ovr
   ·refine q_know 23 (.bool false) (congrArg Value.bool b17) ?_
    refine qy 1 23 false 24 (u) ?_
    refine qy 1 23 false 25 (.int .i64 ((k : Int))) ?_
    refine qy 1 23 false 26 (.pointer (some ⟨g2, 0 + ((k : Int)).toNat * 1, none⟩)) ?_ (hr := fun _ H' => (e_indexAddrV (E := 3) (by kernel_rfl) (by kernel_rfl) (Nat.le_of_ble_eq_true rfl) rfl hv2 rfl (by omega) (by omega)))
    refine qy 1 23 false 27 (.int .i64 (z)) ?_ (hr := fun _ H' => (e_load1 rfl (by kernel_rfl) (rows_cell (H'.at 1 rfl) hv2 (fun _ => rfl) hz 0 rfl (show 0 + ((k : Int)).toNat * 1 = k * 1 + 0 by omega) rfl)))
    refine qy 1 23 false 28 (pt r 0) ?_
    refine qy 1 23 false 29 (pt r 0) ?_
    refine qy 1 23 false 30 (pt r 2) ?_
    refine qy 1 23 false 31 (v) ?_ (hr := fun _ H' => (e_load1 rfl (by kernel_rfl) (H'.roCell 0 rfl hcell (fun h => h) rfl)))
    refine qy 1 23 false 32 (.int .i64 ((i : Int))) ?_
    refine qy 1 23 false 33 (.pointer (some ⟨g, 0 + ((i : Int)).toNat * 35, none⟩)) ?_ (hr := fun _ H' => (e_indexAddrV (E := 143) (by kernel_rfl) (by kernel_rfl) (Nat.le_of_ble_eq_true rfl) rfl hv rfl (by omega) (by omega)))
    refine qy 1 23 false 34 (.pointer (some ⟨g, 0 + ((i : Int)).toNat * 35 + 2, none⟩)) ?_
    refine qy 1 23 false 35 (.int .i64 (x.replica)) ?_ (hr := fun _ H' => (e_load1 rfl (by kernel_rfl) (H'.cellR 0 rfl (rows_cell hrow hv encV_len hx 2 rfl (show 0 + ((i : Int)).toNat * 35 + 2 = i * 35 + 2 by omega) rfl) (fun h => h))))
    refine qy 1 23 false 36 (.bool (decide (z = x.replica))) ?_
    refine qv 37 (.bool (decide (z = x.replica))) ?_
    refine qv 7 (.bool (decide (z = x.replica))) ?_
    refine q_end ?_
    intro w20 H21
    refine blk_normal ?_
    refine then_normal ?_
    refine w_lit ?_
    refine wv 38 (.int .i64 ((k : Int) + 1)) ?_ (hr := e_int (z := (k : Int) + 1) (by kernel_rfl) (IntWalk.i64_in _ (by omega)))
    refine wv 19 (.int .i64 ((k : Int) + 1)) ?_
    refine w_nil ?_
    refine round_back ?_ _ ⟨(k + 1), (show ((.int .i64 ((k : Int) + 1)) : Value) = _ by first | rfl | go_num), (show ((.bool (decide (z = x.replica))) : Value) = _ by rw [take_any hz, b17]; simp), by omega, H21, rfl⟩ (by omega)
    iterate 26 refine same_upd rfl ?_
    exact same_ovr
  ·have g22 := of_decide_eq_false b15
   refine wp_know 20 (.bool false) (congrArg Value.bool b15) ?_
   refine wp_iff rfl ?_
   refine w_exit ?_
   refine then_exit ?_
   refine back_exit ?_
   refine blk_hit ?_
   refine then_normal ?_
   refine w_seq ?_
   refine w_lit ?_
   refine wv 39 (pt r 0) ?_
   refine wv 40 (pt r 0) ?_
   refine wv 41 (pt r 2) ?_
   refine wv 42 (v) ?_ (hr := e_load1 rfl (by kernel_rfl) (H11.roCell 0 rfl hcell (fun h => h) rfl))
   refine wv 43 (.int .i64 ((i : Int))) ?_
   refine wv 44 (.pointer (some ⟨g, 0 + ((i : Int)).toNat * 35, none⟩)) ?_ (hr := e_indexAddrV (E := 143) (by kernel_rfl) (by kernel_rfl) (Nat.le_of_ble_eq_true rfl) rfl hv rfl (by omega) (by omega))
   refine wv 45 (.pointer (some ⟨g, 0 + ((i : Int)).toNat * 35 + 1, none⟩)) ?_
   refine wv 46 (.int .i64 (x.round)) ?_ (hr := e_load1 rfl (by kernel_rfl) (H11.cellR 0 rfl (rows_cell hrow hv encV_len hx 1 rfl (show 0 + ((i : Int)).toNat * 35 + 1 = i * 35 + 1 by omega) rfl) (fun h => h)))
   refine wv 47 (.int .i64 (round)) ?_
   refine wv 48 (.bool (decide (x.round ≥ round))) ?_
   refine wv 49 (.bool (decide (x.round ≥ round))) ?_
   refine (bsplit (decide (x.round ≥ round))).elim (fun b23 => ?_) (fun b23 => ?_)
   ·have g24 := of_decide_eq_true b23
    refine wl_know 49 (.bool true) (congrArg Value.bool b23) ?_
    refine wy 10 49 true 50 (.bool ((hs.take k).any fun y => decide (y = x.replica))) ?_
    refine wy 10 49 true 51 (.bool (!((hs.take k).any fun y => decide (y = x.replica)))) ?_
    refine wv 52 (.bool (!((hs.take k).any fun y => decide (y = x.replica)))) ?_
    refine w_nil ?_
    refine then_normal ?_
    refine (bsplit (!((hs.take k).any fun y => decide (y = x.replica)))).elim (fun b25 => ?_) (fun b25 => ?_)
    ·have g26 := bnot_true b25
     refine wp_know 52 (.bool true) (congrArg Value.bool b25) ?_
     refine wp_ift rfl ?_
     refine w_lit ?_
     refine wv 53 (u) ?_
     refine wv 54 (pt r 0) ?_
     refine wv 55 (pt r 0) ?_
     refine wv 56 (pt r 2) ?_
     refine wv 57 (v) ?_ (hr := e_load1 rfl (by kernel_rfl) (H11.roCell 0 rfl hcell (fun h => h) rfl))
     refine wv 58 (.int .i64 ((i : Int))) ?_
     refine wv 59 (.pointer (some ⟨g, 0 + ((i : Int)).toNat * 35, none⟩)) ?_ (hr := e_indexAddrV (E := 143) (by kernel_rfl) (by kernel_rfl) (Nat.le_of_ble_eq_true rfl) rfl hv rfl (by omega) (by omega))
     refine wv 60 (.pointer (some ⟨g, 0 + ((i : Int)).toNat * 35 + 2, none⟩)) ?_
     refine wv 61 (.int .i64 (x.replica)) ?_ (hr := e_load1 rfl (by kernel_rfl) (H11.cellR 0 rfl (rows_cell hrow hv encV_len hx 2 rfl (show 0 + ((i : Int)).toNat * 35 + 2 = i * 35 + 2 by omega) rfl) (fun h => h)))
     refine wl_do (wants0 rfl) (fun K27 hK27 => ?_)
     refine d_buildSlice (e := 3) (size := 1) (bytes := 8) (z := (.int .i64 (0))) (pvs := [(0, (.int .i64 (x.replica)))]) (vs := ([(.int .i64 (x.replica))] : List Value)) rfl H11 (by kernel_rfl) (by kernel_rfl) (by kernel_rfl) (by kernel_rfl) (by kernel_rfl) rfl rfl ?_
     intro b28 w29 (H30 : Sat w [restC w (fun _ => False), rowC 3 1 u hs.length (hs.flatMap enc1), rowC 3 1 (.slice (some ⟨b28, 0, none⟩) 1 1) 1 ([(.int .i64 (x.replica))] : List Value)] w29)
     refine hK27 _ _ ?_
     clear hK27 K27
     refine wl_do (wants0 rfl) (fun K31 hK31 => ?_)
     refine d_append (T := 22) (e := 3) (size := 1) (bytes := 8) rfl H30 (by kernel_rfl) 1 2 rfl rfl rfl rfl (by kernel_rfl) (by omega) (by omega) ?_
     intro v32 w33 (H34 : Sat w [restC w (fun _ => False), rowC 3 1 v32 (hs.length + 1) ((hs.flatMap enc1) ++ ([(.int .i64 (x.replica))] : List Value)), rowC 3 1 (.slice (some ⟨b28, 0, none⟩) 1 1) 1 ([(.int .i64 (x.replica))] : List Value)] w33)
     obtain ⟨a35, c36, rfl⟩ := ownsRow_shape (H34.at 1 rfl)
     refine hK31 _ _ ?_
     clear hK31 K31
     refine wv 5 (.slice a35 (hs.length + 1) c36) ?_
     refine w_nil ?_
     refine blk_normal ?_
     refine then_normal ?_
     refine w_lit ?_
     refine wv 64 (.int .i64 ((i : Int) + 1)) ?_ (hr := e_int (z := (i : Int) + 1) (by kernel_rfl) (IntWalk.i64_in _ (by omega)))
     refine wv 14 (.int .i64 ((i : Int) + 1)) ?_
     refine w_nil ?_
     have H37 : Sat w [restC w (fun _ => False), rowC 3 1 (.slice a35 (hs.length + 1) c36) ((hs ++ [x.replica]).length) ((hs ++ [x.replica]).flatMap enc1), rowC 3 1 (.slice (some ⟨b28, 0, none⟩) 1 1) 1 ([(.int .i64 (x.replica))] : List Value)] w33 := by rw [← row_snoc1]; exact H34
     have H38 : Sat w [restC w (fun _ => False), rowC 3 1 (.slice a35 (hs.length + 1) c36) ((hs ++ [x.replica]).length) ((hs ++ [x.replica]).flatMap enc1)] w33 := H37.pick [0, 1] (by decide)
     refine round_back ?_ _ ⟨(i + 1), (.slice a35 (hs.length + 1) c36), (hs ++ [x.replica]), (show ((.int .i64 ((i : Int) + 1)) : Value) = _ by first | rfl | go_num), (show ((.slice a35 (hs.length + 1) c36) : Value) = _ by first | rfl | go_num), by omega, by rw [heardF_take hx, ← hhs, heardStep_yes (of_decide_eq_true b23) (bnot_true b25) (by omega)], by simp; omega, H38, rfl⟩ (by omega)
     exact (same_upd rfl (same_upd rfl (same_upd rfl (same_upd rfl (same_upd rfl (same_upd rfl (same_upd rfl (same_upd rfl (same_upd rfl (same_upd rfl (same_upd rfl (same_upd rfl (same_upd rfl (same_upd rfl (same_upd rfl (same_upd rfl (same_upd rfl (same_upd rfl (same_upd rfl (same_upd rfl (same_upd rfl (same_upd rfl (same_upd rfl (same_upd rfl (same_upd rfl (same_upd rfl (same_upd rfl (same_upd rfl (same_upd rfl (same_upd rfl (same_upd rfl (same_upd rfl (same_upd rfl (same_upd rfl (same_ovr2 rfl (same_upd rfl (same_upd rfl (same_upd rfl (same_upd rfl (same_upd rfl (same_upd rfl (same_upd rfl (same_upd rfl (same_upd rfl (same_upd rfl (same_ovr))))))))))))))))))))))))))))))))))))))))))))))
    ·have g39 := bnot_false b25
     refine wp_know 52 (.bool false) (congrArg Value.bool b25) ?_
     refine wp_iff rfl ?_
     refine w_skip ?_
     refine blk_normal ?_
     refine then_normal ?_
     refine w_lit ?_
     refine wv 64 (.int .i64 ((i : Int) + 1)) ?_ (hr := e_int (z := (i : Int) + 1) (by kernel_rfl) (IntWalk.i64_in _ (by omega)))
     refine wv 14 (.int .i64 ((i : Int) + 1)) ?_
     refine w_nil ?_
     refine round_back ?_ _ ⟨(i + 1), u, hs, (show ((.int .i64 ((i : Int) + 1)) : Value) = _ by first | rfl | go_num), (show (u : Value) = _ by first | rfl | go_num), by omega, by rw [heardF_take hx, ← hhs, heardStep_no2 (bnot_false b25)], by omega, H11, rfl⟩ (by omega)
     exact (same_upd rfl (same_upd rfl (same_upd rfl (same_upd rfl (same_upd rfl (same_upd rfl (same_upd rfl (same_upd rfl (same_upd rfl (same_upd rfl (same_upd rfl (same_upd rfl (same_upd rfl (same_upd rfl (same_upd rfl (same_upd rfl (same_upd rfl (same_upd rfl (same_upd rfl (same_upd rfl (same_upd rfl (same_upd rfl (same_ovr2 rfl (same_upd rfl (same_upd rfl (same_upd rfl (same_upd rfl (same_upd rfl (same_upd rfl (same_upd rfl (same_upd rfl (same_upd rfl (same_upd rfl (same_ovr))))))))))))))))))))))))))))))))))
   ·have g40 := of_decide_eq_false b23
    refine wl_know 49 (.bool false) (congrArg Value.bool b23) ?_
    iterate 2 refine wn 10 49 true ?_
    refine wv 52 (.bool false) ?_
    refine w_nil ?_
    refine then_normal ?_
    refine wp_iff rfl ?_
    refine w_skip ?_
    refine blk_normal ?_
    refine then_normal ?_
    refine w_lit ?_
    refine wv 64 (.int .i64 ((i : Int) + 1)) ?_ (hr := e_int (z := (i : Int) + 1) (by kernel_rfl) (IntWalk.i64_in _ (by omega)))
    refine wv 14 (.int .i64 ((i : Int) + 1)) ?_
    refine w_nil ?_
    refine round_back ?_ _ ⟨(i + 1), u, hs, (show ((.int .i64 ((i : Int) + 1)) : Value) = _ by first | rfl | go_num), (show (u : Value) = _ by first | rfl | go_num), by omega, by rw [heardF_take hx, ← hhs, heardStep_no1 (of_decide_eq_false b23)], by omega, H11, rfl⟩ (by omega)
    exact (same_upd rfl (same_upd rfl (same_upd rfl (same_upd rfl (same_upd rfl (same_upd rfl (same_upd rfl (same_upd rfl (same_upd rfl (same_upd rfl (same_upd rfl (same_upd rfl (same_upd rfl (same_upd rfl (same_upd rfl (same_upd rfl (same_upd rfl (same_upd rfl (same_upd rfl (same_upd rfl (same_upd rfl (same_ovr2 rfl (same_upd rfl (same_upd rfl (same_upd rfl (same_upd rfl (same_upd rfl (same_upd rfl (same_upd rfl (same_upd rfl (same_upd rfl (same_upd rfl (same_ovr)))))))))))))))))))))))))))))))))
 ·have g41 := of_decide_eq_false b7
  refine wp_know 15 (.bool false) (congrArg Value.bool b7) ?_
  refine wp_iff rfl ?_
  refine w_exit ?_
  refine then_exit ?_
  refine back_exit ?_
  refine blk_hit ?_
  refine then_normal ?_
  refine w_seq ?_
  refine w_lit ?_
  refine wv 65 (u) ?_
  refine wv 66 (.int .i64 ((hs.length : Int))) ?_ (hr := e_lenRow (E := 3) (by kernel_rfl) (H3.at 1 rfl) rfl)
  refine wv 4 (.int .i64 ((hs.length : Int))) ?_
  refine w_nil ?_
  refine then_normal ?_
  refine w_ret ?_
  refine end1 rfl (res_tmp (v := (.int .i64 ((hs.length : Int)))) rfl) ?_
  exact ⟨by rw [hhs, List.take_of_length_le (by omega)], H3.upd 0 rfl [] (fun _ h => h.elim)⟩

end Go.Proofs.Ythjmbhneifjeeaa
