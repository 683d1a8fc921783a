/- WHAT IS PROVED: the document's example, which every statement of this chapter asks at its end, answers true. Conditions: stated with each. -/
import Derived.Test.YthjmbhneifjeeaaCore4
import Derived.Test.YthjmbhneifjeeaaWakes14M
namespace Go.Proofs.Ythjmbhneifjeeaa
open Go.RowKit

set_option maxRecDepth 100000 in
set_option maxHeartbeats 400000 in
theorem wakes_any (w : World) :
    Calls Try.prog 19 #[] w fun e w' => e = .returned (.bool true) ∧ Upd [] w w' := by
  have H := Sat.start0 w
  refine calls_fr Try.func19 rfl 34 rfl (Nat.le_of_ble_eq_true rfl) ?_
  refine w_seq ?_
  refine w_lit ?_
  refine wl_pure (wants0 rfl) (d := 0) (v := (.bool false)) rfl (by kernel_rfl) ?_
  refine w_nil ?_
  refine then_normal ?_
  refine w_seq ?_
  refine w_lit ?_
  refine wl_pure (wants0 rfl) (d := 5) (v := (.agg ⟨([(.int .i64 (1)), (.int .i64 (1))] : List Value)⟩)) rfl (by kernel_rfl) ?_
  refine wl_do (wants0 rfl) (fun K1 hK1 => ?_)
  refine d_call (d := 6) rfl (by kernel_rfl) (coreNew_any w 1 1 0 0 (by omega)) ?_
  rintro _ w2 (⟨_, k7, t8, hb9, cb10, ab11, lb12, pb13, rfl, k5, u4, q6⟩ | ⟨hno, _⟩)
  rotate_left
  · exact absurd hno (by rw [show newOk 1 1 0 0 = true from rfl]; simp)
  have H14 : Sat w [restC w (fun _ => False), coreC k7 t8 hb9 cb10 ab11 lb12 pb13 (newD 1 1 0 0)] w2 := H.addU u4 k5 q6
  have H3 : Sat w [restC w (fun _ => False), cellC k7 92 (([(.int .i64 ((newD 1 1 0 0).f)), (.int .i64 ((newD 1 1 0 0).c)), (.int .i64 ((newD 1 1 0 0).epoch)), (.int .i64 ((newD 1 1 0 0).replica)), (.int .i64 ((newD 1 1 0 0).s.round)), (.int .i64 ((newD 1 1 0 0).s.step)), (.int .i64 ((newD 1 1 0 0).s.lr)), (.int .i64 ((newD 1 1 0 0).s.vr))] : List Value) ++ hc (newD 1 1 0 0).s.locked ++ hc (newD 1 1 0 0).s.valid ++ ([(.bool ((newD 1 1 0 0).s.decided))] : List Value) ++ hc (newD 1 1 0 0).s.decision ++ ([(.pointer (some ⟨t8, 0, none⟩)), (.map (some pb13)), (.bool ((newD 1 1 0 0).wv)), (.bool ((newD 1 1 0 0).sp)), (.bool ((newD 1 1 0 0).sc))] : List Value)), talC t8 hb9 cb10 ab11 lb12 (newD 1 1 0 0).f (newD 1 1 0 0).c (newD 1 1 0 0).L, mapC pb13 (Value.int .i64) propV (newD 1 1 0 0).P] w2 := H14.open 1 rfl
  refine ⟨_, rfl, ?_⟩
  refine hK1 _ _ ?_
  clear hK1 K1
  refine wl_pure (wants0 rfl) (d := 4) (v := (.tuple #[(.pointer (some ⟨k7, 0, none⟩)), (.int .i64 (0))])) rfl (by kernel_rfl) ?_
  refine wl_pure (wants0 rfl) (d := 7) (v := (.pointer (some ⟨k7, 0, none⟩))) rfl (by kernel_rfl) ?_
  refine wl_pure (wants0 rfl) (d := 8) (v := (.int .i64 (0))) rfl (by kernel_rfl) ?_
  refine wl_pure (wants0 rfl) (d := 1) (v := (.pointer (some ⟨k7, 0, none⟩))) rfl (by kernel_rfl) ?_
  refine wl_pure (wants0 rfl) (d := 2) (v := (.int .i64 (0))) rfl (by kernel_rfl) ?_
  refine w_nil ?_
  refine then_normal ?_
  refine w_seq ?_
  refine w_seq ?_
  refine w_lit ?_
  refine wl_pure (wants0 rfl) (d := 9) (v := (.int .i64 (0))) rfl (by kernel_rfl) ?_
  refine wl_pure (wants0 rfl) (d := 10) (v := (.bool false)) rfl (by kernel_rfl) ?_
  refine wl_pure (wants0 rfl) (d := 11) (v := (.bool false)) rfl (by kernel_rfl) ?_
  refine wl_pure (wantsY 2 11 false rfl (by kernel_rfl) rfl (by kernel_rfl)) (d := 12) (v := (.pointer (some ⟨k7, 0, none⟩))) rfl (by kernel_rfl) ?_
  refine wl_pure (wantsY 2 11 false rfl (by kernel_rfl) rfl (by kernel_rfl)) (d := 13) (v := (.bool false)) rfl (by kernel_rfl) ?_
  refine wl_pure (wants0 rfl) (d := 14) (v := (.bool false)) rfl (by kernel_rfl) ?_
  refine w_nil ?_
  refine then_normal ?_
  refine wp_iff rfl ?_
  refine w_skip ?_
  refine then_normal ?_
  refine w_seq ?_
  refine w_lit ?_
  refine wl_pure (wants0 rfl) (d := 15) (v := (.pointer (some ⟨k7, 0, none⟩))) rfl (by kernel_rfl) ?_
  refine wl_do (wants0 rfl) (fun K15 hK15 => ?_)
  refine d_call (d := 16) rfl (by kernel_rfl) (coreStart_any w2 k7 t8 hb9 cb10 ab11 lb12 pb13 (newD 1 1 0 0) (ok_of (by kernel_rfl) (H3.fin [1, 2, 3] (by decide) rfl)) wakesCI ) ?_
  rintro _ w17 ⟨v16, rfl, S18⟩
  rw [wakes_start] at S18
  replace S18 := Sat.cast (G' := [cellC k7 92 (([(.int .i64 (wakesD.f)), (.int .i64 (wakesD.c)), (.int .i64 (wakesD.epoch)), (.int .i64 (wakesD.replica)), (.int .i64 (wakesD.s.round)), (.int .i64 (wakesD.s.step)), (.int .i64 (wakesD.s.lr)), (.int .i64 (wakesD.s.vr))] : List Value) ++ hc wakesD.s.locked ++ hc wakesD.s.valid ++ ([(.bool (wakesD.s.decided))] : List Value) ++ hc wakesD.s.decision ++ ([(.pointer (some ⟨t8, 0, none⟩)), (.map (some pb13)), (.bool (wakesD.wv)), (.bool (wakesD.sp)), (.bool (wakesD.sc))] : List Value)), talC t8 hb9 cb10 ab11 lb12 wakesD.f wakesD.c wakesD.L, mapC pb13 (Value.int .i64) propV wakesD.P, rowC 45 35 v16 1 (([(.int .i64 (1)), (.int .i64 (0)), (.int .i64 (-1))] : List Value) ++ hc hash0), restC w2 (coreC k7 t8 hb9 cb10 ab11 lb12 pb13 (newD 1 1 0 0)).fp]) S18 (by kernel_rfl)
  have H20 : Sat w [restC w (fun _ => False), cellC k7 92 (([(.int .i64 (wakesD.f)), (.int .i64 (wakesD.c)), (.int .i64 (wakesD.epoch)), (.int .i64 (wakesD.replica)), (.int .i64 (wakesD.s.round)), (.int .i64 (wakesD.s.step)), (.int .i64 (wakesD.s.lr)), (.int .i64 (wakesD.s.vr))] : List Value) ++ hc wakesD.s.locked ++ hc wakesD.s.valid ++ ([(.bool (wakesD.s.decided))] : List Value) ++ hc wakesD.s.decision ++ ([(.pointer (some ⟨t8, 0, none⟩)), (.map (some pb13)), (.bool (wakesD.wv)), (.bool (wakesD.sp)), (.bool (wakesD.sc))] : List Value)), talC t8 hb9 cb10 ab11 lb12 wakesD.f wakesD.c wakesD.L, mapC pb13 (Value.int .i64) propV wakesD.P, rowC 45 35 v16 1 (([(.int .i64 (1)), (.int .i64 (0)), (.int .i64 (-1))] : List Value) ++ hc hash0)] w17 := (Sat.turnL (L' := [cellC k7 92 (([(.int .i64 (wakesD.f)), (.int .i64 (wakesD.c)), (.int .i64 (wakesD.epoch)), (.int .i64 (wakesD.replica)), (.int .i64 (wakesD.s.round)), (.int .i64 (wakesD.s.step)), (.int .i64 (wakesD.s.lr)), (.int .i64 (wakesD.s.vr))] : List Value) ++ hc wakesD.s.locked ++ hc wakesD.s.valid ++ ([(.bool (wakesD.s.decided))] : List Value) ++ hc wakesD.s.decision ++ ([(.pointer (some ⟨t8, 0, none⟩)), (.map (some pb13)), (.bool (wakesD.wv)), (.bool (wakesD.sp)), (.bool (wakesD.sc))] : List Value)), talC t8 hb9 cb10 ab11 lb12 wakesD.f wakesD.c wakesD.L, mapC pb13 (Value.int .i64) propV wakesD.P, rowC 45 35 v16 1 (([(.int .i64 (1)), (.int .i64 (0)), (.int .i64 (-1))] : List Value) ++ hc hash0)]) (R := [restC w (fun _ => False)]) H3 [1, 2, 3] [0] (by decide) (by kernel_rfl) rfl S18).pick [4, 0, 1, 2, 3] (by decide)
  obtain ⟨g21, c22, rfl⟩ := row_shape (H20.at 4 rfl) (Nat.le_of_ble_eq_true rfl)
  refine ⟨_, rfl, ?_⟩
  refine hK15 _ _ ?_
  clear hK15 K15
  refine wl_pure (wants0 rfl) (d := 3) (v := (.slice (some ⟨g21, 0, none⟩) 1 c22)) rfl (by kernel_rfl) ?_
  refine w_nil ?_
  refine then_normal ?_
  refine w_seq ?_
  refine w_lit ?_
  refine wl_pure (wants0 rfl) (d := 17) (v := (.slice (some ⟨g21, 0, none⟩) 1 c22)) rfl (by kernel_rfl) ?_
  refine wl_pure (wants0 rfl) (d := 18) (v := (.int .i64 (1))) rfl (by kernel_rfl) ?_
  refine wl_pure (wants0 rfl) (d := 19) (v := (.bool true)) rfl (by kernel_rfl) ?_
  refine wl_pure (wants0 rfl) (d := 20) (v := (.bool true)) rfl (by kernel_rfl) ?_
  refine wl_pure (wantsY 3 20 true rfl (by kernel_rfl) rfl (by kernel_rfl)) (d := 21) (v := (.slice (some ⟨g21, 0, none⟩) 1 c22)) rfl (by kernel_rfl) ?_
  refine wl_pure (wantsY 3 20 true rfl (by kernel_rfl) rfl (by kernel_rfl)) (d := 22) (v := (.pointer (some ⟨g21, 0, none⟩))) rfl (e_indexAddr (E := 45) (z := 0) (o := 0) (len := 1) (sz := 35) (by kernel_rfl) (by kernel_rfl) (Nat.le_of_ble_eq_true rfl) rfl rfl (by decide) (by decide)) ?_
  refine wl_pure (wantsY 3 20 true rfl (by kernel_rfl) rfl (by kernel_rfl)) (d := 23) (v := (.pointer (some ⟨g21, 0, none⟩))) rfl (by kernel_rfl) ?_
  refine wl_pure (wantsY 3 20 true rfl (by kernel_rfl) rfl (by kernel_rfl)) (d := 24) (v := (.int .i64 (1))) rfl (e_load1 rfl (by kernel_rfl) (row_cell (H20.at 4 rfl) rfl (by kernel_rfl))) ?_
  refine wl_pure (wantsY 3 20 true rfl (by kernel_rfl) rfl (by kernel_rfl)) (d := 25) (v := (.bool true)) rfl (by kernel_rfl) ?_
  refine wl_pure (wants0 rfl) (d := 26) (v := (.bool true)) rfl (by kernel_rfl) ?_
  refine wl_pure (wants0 rfl) (d := 27) (v := (.bool true)) rfl (by kernel_rfl) ?_
  refine wl_pure (wantsY 10 27 true rfl (by kernel_rfl) rfl (by kernel_rfl)) (d := 28) (v := (.slice (some ⟨g21, 0, none⟩) 1 c22)) rfl (by kernel_rfl) ?_
  refine wl_pure (wantsY 10 27 true rfl (by kernel_rfl) rfl (by kernel_rfl)) (d := 29) (v := (.pointer (some ⟨g21, 0, none⟩))) rfl (e_indexAddr (E := 45) (z := 0) (o := 0) (len := 1) (sz := 35) (by kernel_rfl) (by kernel_rfl) (Nat.le_of_ble_eq_true rfl) rfl rfl (by decide) (by decide)) ?_
  refine wl_pure (wantsY 10 27 true rfl (by kernel_rfl) rfl (by kernel_rfl)) (d := 30) (v := (.pointer (some ⟨g21, 2, none⟩))) rfl (by kernel_rfl) ?_
  refine wl_pure (wantsY 10 27 true rfl (by kernel_rfl) rfl (by kernel_rfl)) (d := 31) (v := (.int .i64 (-1))) rfl (e_load1 rfl (by kernel_rfl) (row_cell (H20.at 4 rfl) rfl (by kernel_rfl))) ?_
  refine wl_pure (wantsY 10 27 true rfl (by kernel_rfl) rfl (by kernel_rfl)) (d := 32) (v := (.bool true)) rfl (by kernel_rfl) ?_
  refine wl_pure (wants0 rfl) (d := 33) (v := (.bool true)) rfl (by kernel_rfl) ?_
  refine wl_pure (wants0 rfl) (d := 0) (v := (.bool true)) rfl (by kernel_rfl) ?_
  refine w_nil ?_
  refine then_normal ?_
  refine w_ret ?_
  refine end1 rfl (res_tmp (v := (.bool true)) rfl) ?_
  exact ⟨rfl, H20.upd 0 rfl [] (fun _ h => h.elim)⟩

end Go.Proofs.Ythjmbhneifjeeaa
