/- WHAT IS PROVED: the document's example, which every statement of this chapter asks at its end, answers true. Conditions: stated with each. -/
import Derived.Test.YthjmbhneifjeeaaShort
import Derived.Test.YthjmbhneifjeeaaCore4
import Derived.Test.YthjmbhneifjeeaaWakes14M
namespace Go.Proofs.Ythjmbhneifjeeaa
open Go.RowKit

set_option maxRecDepth 100000 in
set_option maxHeartbeats 400000 in
theorem wakes_any (w : World) :
  Calls Try.prog 19 #[] w fun e w' => e = .returned (.bool true) ∧ Upd [] w w' := by
 have H := Sat.start0 w
 refine calls_fr Try.func19 rfl 34 rfl (Nat.le_of_ble_eq_true rfl) ?_
 refine w_seq ?_
 refine w_lit ?_
 refine wv 0 (.bool false) ?_
 refine w_nil ?_
 refine then_normal ?_
 refine w_seq ?_
 refine w_lit ?_
 refine wv 5 (.agg ⟨([(.int .i64 (1)), (.int .i64 (1))] : List Value)⟩) ?_
 refine wl_do (wants0 rfl) (fun K1 hK1 => ?_)
 refine d_call (d := 6) rfl (by kernel_rfl) (coreNew_any w 1 1 0 0 (by omega)) ?_
 rintro _ w2 (⟨_, k7, t8, hb9, cb10, ab11, lb12, pb13, rfl, k5, u4, q6⟩ | ⟨hno, _⟩)
 rotate_left
 ·exact absurd hno (by rw [show newOk 1 1 0 0 = true from rfl]; simp)
 have H14 : Sat w [restC w (fun _ => False), coreC k7 t8 hb9 cb10 ab11 lb12 pb13 (newD 1 1 0 0)] w2 := H.addU u4 k5 q6
 have H3 : Sat w [restC w (fun _ => False), cellC k7 92 (coreL t8 pb13 (newD 1 1 0 0)), talC t8 hb9 cb10 ab11 lb12 (newD 1 1 0 0).f (newD 1 1 0 0).c (newD 1 1 0 0).L, mapC pb13 (Value.int .i64) propV (newD 1 1 0 0).P] w2 := H14.open 1 rfl
 refine ⟨_, rfl, ?_⟩
 refine hK1 _ _ ?_
 clear hK1 K1
 refine wv 4 (.tuple #[(pt k7 0), (.int .i64 (0))]) ?_
 refine wv 7 (pt k7 0) ?_
 refine wv 8 (.int .i64 (0)) ?_
 refine wv 1 (pt k7 0) ?_
 refine wv 2 (.int .i64 (0)) ?_
 refine w_nil ?_
 refine then_normal ?_
 iterate 2 refine w_seq ?_
 refine w_lit ?_
 refine wv 9 (.int .i64 (0)) ?_
 refine wv 10 (.bool false) ?_
 refine wv 11 (.bool false) ?_
 refine wy 2 11 false 12 (pt k7 0) ?_
 refine wy 2 11 false 13 (.bool false) ?_
 refine wv 14 (.bool false) ?_
 refine w_nil ?_
 refine then_normal ?_
 refine wp_iff rfl ?_
 refine w_skip ?_
 refine then_normal ?_
 refine w_seq ?_
 refine w_lit ?_
 refine wv 15 (pt k7 0) ?_
 refine wl_do (wants0 rfl) (fun K15 hK15 => ?_)
 refine d_call (d := 16) rfl (by kernel_rfl) (coreStart_any w2 k7 t8 hb9 cb10 ab11 lb12 pb13 (newD 1 1 0 0) (ok_of (by kernel_rfl) (H3.fin [1, 2, 3] (by decide) rfl)) wakesCI ) ?_
 rintro _ w17 ⟨v16, rfl, S18⟩
 rw [wakes_start] at S18
 replace S18 := Sat.cast (G' := [cellC k7 92 (coreL t8 pb13 wakesD), talC t8 hb9 cb10 ab11 lb12 wakesD.f wakesD.c wakesD.L, mapC pb13 (Value.int .i64) propV wakesD.P, rowC 45 35 v16 1 (([(.int .i64 (1)), (.int .i64 (0)), (.int .i64 (-1))] : List Value) ++ hc hash0), restC w2 (coreC k7 t8 hb9 cb10 ab11 lb12 pb13 (newD 1 1 0 0)).fp]) S18 (by kernel_rfl)
 have H20 : Sat w [restC w (fun _ => False), cellC k7 92 (coreL t8 pb13 wakesD), talC t8 hb9 cb10 ab11 lb12 wakesD.f wakesD.c wakesD.L, mapC pb13 (Value.int .i64) propV wakesD.P, rowC 45 35 v16 1 (([(.int .i64 (1)), (.int .i64 (0)), (.int .i64 (-1))] : List Value) ++ hc hash0)] w17 := (Sat.turnL (L' := [cellC k7 92 (coreL t8 pb13 wakesD), talC t8 hb9 cb10 ab11 lb12 wakesD.f wakesD.c wakesD.L, mapC pb13 (Value.int .i64) propV wakesD.P, rowC 45 35 v16 1 (([(.int .i64 (1)), (.int .i64 (0)), (.int .i64 (-1))] : List Value) ++ hc hash0)]) (R := [restC w (fun _ => False)]) H3 [1, 2, 3] [0] (by decide) (by kernel_rfl) rfl S18).pick [4, 0, 1, 2, 3] (by decide)
 obtain ⟨g21, c22, rfl⟩ := row_shape (H20.at 4 rfl) (Nat.le_of_ble_eq_true rfl)
 refine ⟨_, rfl, ?_⟩
 refine hK15 _ _ ?_
 clear hK15 K15
 refine wv 3 (.slice (some ⟨g21, 0, none⟩) 1 c22) ?_
 refine w_nil ?_
 refine then_normal ?_
 refine w_seq ?_
 refine w_lit ?_
 refine wv 17 (.slice (some ⟨g21, 0, none⟩) 1 c22) ?_
 refine wv 18 (.int .i64 (1)) ?_
 refine wv 19 (.bool true) ?_
 refine wv 20 (.bool true) ?_
 refine wy 3 20 true 21 (.slice (some ⟨g21, 0, none⟩) 1 c22) ?_
 refine wy 3 20 true 22 (pt g21 0) ?_ (hr := e_indexAddr (E := 45) (z := 0) (o := 0) (len := 1) (sz := 35) (by kernel_rfl) (by kernel_rfl) (Nat.le_of_ble_eq_true rfl) rfl rfl (by decide) (by decide))
 refine wy 3 20 true 23 (pt g21 0) ?_
 refine wy 3 20 true 24 (.int .i64 (1)) ?_ (hr := e_load1 rfl (by kernel_rfl) (row_cell (H20.at 4 rfl) rfl (by kernel_rfl)))
 refine wy 3 20 true 25 (.bool true) ?_
 refine wv 26 (.bool true) ?_
 refine wv 27 (.bool true) ?_
 refine wy 10 27 true 28 (.slice (some ⟨g21, 0, none⟩) 1 c22) ?_
 refine wy 10 27 true 29 (pt g21 0) ?_ (hr := e_indexAddr (E := 45) (z := 0) (o := 0) (len := 1) (sz := 35) (by kernel_rfl) (by kernel_rfl) (Nat.le_of_ble_eq_true rfl) rfl rfl (by decide) (by decide))
 refine wy 10 27 true 30 (pt g21 2) ?_
 refine wy 10 27 true 31 (.int .i64 (-1)) ?_ (hr := e_load1 rfl (by kernel_rfl) (row_cell (H20.at 4 rfl) rfl (by kernel_rfl)))
 refine wy 10 27 true 32 (.bool true) ?_
 refine wv 33 (.bool true) ?_
 refine wv 0 (.bool true) ?_
 refine w_nil ?_
 refine then_normal ?_
 refine w_ret ?_
 refine end1 rfl (res_tmp (v := (.bool true)) rfl) ?_
 exact ⟨rfl, H20.upd 0 rfl [] (fun _ h => h.elim)⟩

end Go.Proofs.Ythjmbhneifjeeaa
