/- WHAT IS PROVED: the walk of CoreTimes. Conditions: stated with each. -/
import Derived.Test.YthjmbhneifjeeaaWakes14
namespace Go.Proofs.Ythjmbhneifjeeaa
open Go.RowKit

set_option maxRecDepth 100000 in
set_option maxHeartbeats 1000000 in
theorem times14_walk (w : World) (f round kind F : Int) (hF : F = 1 + withinV f 3) (hf : 1 ≤ F ∧ F ≤ 3) (D0 D1 D2 D3 D4 : CoreD) (A1 : List ActD) (hok : newOk F 1 0 (3 * F + 1 - 1) = true) (hD0 : newD F 1 0 (3 * F + 1 - 1) = D0) (C0 : CI D0) (C1 : CI D1) (C2 : CI D2) (C3 : CI D3) (C4 : CI D4) (e1 : timeD D0 1 0 = (D0, [])) (e2 : startD D0 = (D1, A1)) (e3 : ∀ k r, r ≠ 0 → timeD D1 k r = (D1, [])) (s1 : D1.s.round = 0 ∧ D1.s.step = 1) (e4 : timeD D1 1 0 = (D2, [⟨2, 0, -1, hash0⟩])) (e5 : timeD D2 1 0 = (D2, [])) (e6 : timeD D2 2 0 = (D3, [⟨3, 0, -1, hash0⟩])) (e7 : timeD D3 2 0 = (D3, [])) (s3 : D3.s.step = 3) (e8 : timeD D3 3 0 = (D4, [⟨4, 1, 1, hash0⟩])) (s4 : D4.s.round = 1 ∧ D4.s.step = 1 ∧ D4.s.lr = -1) :
    Calls Try.prog 9 #[(.int .i64 (f)), (.int .i64 (round)), (.int .i64 (kind))] w fun e w' => e = .returned (.bool true) ∧ Upd [] w w' := by
  have H := Sat.start0 w
  have hw := within_lim kind 3 (by omega)
  refine calls_fr Try.func9 rfl 169 rfl (Nat.le_of_ble_eq_true rfl) ?_
  refine w_seq ?_
  refine w_lit ?_
  refine wl_pure (wants0 rfl) (d := 6) (v := (.bool false)) rfl (by kernel_rfl) ?_
  refine w_nil ?_
  refine then_normal ?_
  refine w_seq ?_
  refine w_lit ?_
  refine wl_pure (wants0 rfl) (d := 17) (v := (.int .i64 (f))) rfl (by kernel_rfl) ?_
  refine wl_do (wants0 rfl) (fun K1 hK1 => ?_)
  refine d_call (d := 18) rfl (by kernel_rfl) (within_any w f 3 (by omega)) ?_
  rintro _ w2 ⟨rfl, u4⟩
  have H3 := H.keepU u4
  refine ⟨_, rfl, ?_⟩
  refine hK1 _ _ ?_
  clear hK1 K1
  refine wl_pure (wants0 rfl) (d := 19) (v := (.int .i64 (F))) rfl (e_int (z := 1 + (withinV f 3)) (by kernel_rfl) ((by rw [IntWalk.i64_in _ (by omega)]; exact hF.symm))) ?_
  refine wl_pure (wants0 rfl) (d := 20) (v := (.agg ⟨([(.int .i64 (F)), (.int .i64 (1))] : List Value)⟩)) rfl (by kernel_rfl) ?_
  refine wl_do (wants0 rfl) (fun K5 hK5 => ?_)
  refine d_alloc (zs := ([(.int .i64 (0)), (.int .i64 (0))] : List Value)) (z := (.agg ⟨([(.int .i64 (0)), (.int .i64 (0))] : List Value)⟩)) rfl H3 (by kernel_rfl) (by kernel_rfl) ?_
  intro b6 w7 (H8 : Sat w [restC w (fun _ => False), cellC b6 25 ([(.int .i64 (0)), (.int .i64 (0))] : List Value)] w7)
  refine hK5 _ _ ?_
  clear hK5 K5
  refine wl_do (wants0 rfl) (fun K9 hK9 => ?_)
  refine d_storeX (vs := ([(.int .i64 (F)), (.int .i64 (1))] : List Value)) (cs' := ([(.int .i64 (F)), (.int .i64 (1))] : List Value)) rfl H8 1 rfl rfl rfl rfl (by kernel_rfl) (Nat.le_of_ble_eq_true (by kernel_rfl)) (Nat.le_of_ble_eq_true (by kernel_rfl)) (by kernel_rfl) (by kernel_rfl) ?_
  intro w10 (H11 : Sat w [restC w (fun _ => False), cellC b6 25 ([(.int .i64 (F)), (.int .i64 (1))] : List Value)] w10)
  refine hK9 _ _ ?_
  clear hK9 K9
  refine w_nil ?_
  refine then_normal ?_
  refine w_seq ?_
  refine w_lit ?_
  refine wl_pure (wants0 rfl) (d := 21) (v := (.agg ⟨([(.int .i64 (F)), (.int .i64 (1))] : List Value)⟩)) rfl (e_loadN (vs := ([(.int .i64 (F)), (.int .i64 (1))] : List Value)) rfl (by kernel_rfl) (by kernel_rfl) (by exact Nat.le_of_ble_eq_true (by kernel_rfl)) (H11.at 1 rfl) (by kernel_rfl)) ?_
  refine wl_do (wants0 rfl) (fun K13 hK13 => ?_)
  refine d_call (d := 22) rfl (by kernel_rfl) (refN_any w10 F 1 (by omega)) ?_
  rintro _ w14 ⟨rfl, u16⟩
  have H15 := H11.keepU u16
  refine ⟨_, rfl, ?_⟩
  refine hK13 _ _ ?_
  clear hK13 K13
  refine wl_pure (wants0 rfl) (d := 8) (v := (.int .i64 (3 * F + 1))) rfl (by kernel_rfl) ?_
  refine w_nil ?_
  refine then_normal ?_
  refine w_seq ?_
  refine w_lit ?_
  refine wl_pure (wants0 rfl) (d := 24) (v := (.agg ⟨([(.int .i64 (F)), (.int .i64 (1))] : List Value)⟩)) rfl (e_loadN (vs := ([(.int .i64 (F)), (.int .i64 (1))] : List Value)) rfl (by kernel_rfl) (by kernel_rfl) (by exact Nat.le_of_ble_eq_true (by kernel_rfl)) (H15.at 1 rfl) (by kernel_rfl)) ?_
  refine wl_pure (wants0 rfl) (d := 25) (v := (.int .i64 (3 * F + 1))) rfl (by kernel_rfl) ?_
  refine wl_pure (wants0 rfl) (d := 26) (v := (.int .i64 ((3 * F + 1) - 1))) rfl (e_int (z := (3 * F + 1) - 1) (by kernel_rfl) (IntWalk.i64_in _ (by omega))) ?_
  refine wl_do (wants0 rfl) (fun K17 hK17 => ?_)
  refine d_call (d := 27) rfl (by kernel_rfl) (coreNew_any w14 F 1 0 ((3 * F + 1) - 1) (by omega)) ?_
  rintro _ w18 (⟨_, k23, t24, hb25, cb26, ab27, lb28, pb29, rfl, k21, u20, q22⟩ | ⟨hno, _⟩)
  rotate_left
  · exact absurd hno (by rw [hok]; simp)
  rw [hD0] at k21 q22
  have H30 : Sat w [restC w (fun _ => False), cellC b6 25 ([(.int .i64 (F)), (.int .i64 (1))] : List Value), coreC k23 t24 hb25 cb26 ab27 lb28 pb29 D0] w18 := H15.addU u20 k21 q22
  have H19 : Sat w [restC w (fun _ => False), cellC b6 25 ([(.int .i64 (F)), (.int .i64 (1))] : List Value), cellC k23 92 (([(.int .i64 (D0.f)), (.int .i64 (D0.c)), (.int .i64 (D0.epoch)), (.int .i64 (D0.replica)), (.int .i64 (D0.s.round)), (.int .i64 (D0.s.step)), (.int .i64 (D0.s.lr)), (.int .i64 (D0.s.vr))] : List Value) ++ hc D0.s.locked ++ hc D0.s.valid ++ ([(.bool (D0.s.decided))] : List Value) ++ hc D0.s.decision ++ ([(.pointer (some ⟨t24, 0, none⟩)), (.map (some pb29)), (.bool (D0.wv)), (.bool (D0.sp)), (.bool (D0.sc))] : List Value)), talC t24 hb25 cb26 ab27 lb28 D0.f D0.c D0.L, mapC pb29 (Value.int .i64) propV D0.P] w18 := H30.open 2 rfl
  refine ⟨_, rfl, ?_⟩
  refine hK17 _ _ ?_
  clear hK17 K17
  refine wl_pure (wants0 rfl) (d := 23) (v := (.tuple #[(.pointer (some ⟨k23, 0, none⟩)), (.int .i64 (0))])) rfl (by kernel_rfl) ?_
  refine wl_pure (wants0 rfl) (d := 28) (v := (.pointer (some ⟨k23, 0, none⟩))) rfl (by kernel_rfl) ?_
  refine wl_pure (wants0 rfl) (d := 29) (v := (.int .i64 (0))) rfl (by kernel_rfl) ?_
  refine wl_pure (wants0 rfl) (d := 9) (v := (.pointer (some ⟨k23, 0, none⟩))) rfl (by kernel_rfl) ?_
  refine wl_pure (wants0 rfl) (d := 10) (v := (.int .i64 (0))) rfl (by kernel_rfl) ?_
  refine w_nil ?_
  refine then_normal ?_
  refine w_seq ?_
  refine w_seq ?_
  refine w_lit ?_
  refine wl_pure (wants0 rfl) (d := 30) (v := (.int .i64 (0))) rfl (by kernel_rfl) ?_
  refine wl_pure (wants0 rfl) (d := 31) (v := (.bool false)) rfl (by kernel_rfl) ?_
  refine wl_pure (wants0 rfl) (d := 32) (v := (.bool false)) rfl (by kernel_rfl) ?_
  refine wl_pure (wantsY 2 32 false rfl (by kernel_rfl) rfl (by kernel_rfl)) (d := 33) (v := (.pointer (some ⟨k23, 0, none⟩))) rfl (by kernel_rfl) ?_
  refine wl_pure (wantsY 2 32 false rfl (by kernel_rfl) rfl (by kernel_rfl)) (d := 34) (v := (.bool false)) rfl (by kernel_rfl) ?_
  refine wl_pure (wants0 rfl) (d := 35) (v := (.bool false)) rfl (by kernel_rfl) ?_
  refine wl_pure (wants0 rfl) (d := 36) (v := (.bool false)) rfl (by kernel_rfl) ?_
  refine wl_pure (wantsY 6 36 false rfl (by kernel_rfl) rfl (by kernel_rfl)) (d := 37) (v := (.pointer (some ⟨k23, 0, none⟩))) rfl (by kernel_rfl) ?_
  refine wl_pure (wantsY 6 36 false rfl (by kernel_rfl) rfl (by kernel_rfl)) (d := 38) (v := (.agg ⟨([(.int .i64 (1)), (.int .i64 (0))] : List Value)⟩)) rfl (by kernel_rfl) ?_
  refine wl_do (wantsY 6 36 false rfl (by kernel_rfl) rfl (by kernel_rfl)) (fun K31 hK31 => ?_)
  refine d_call (d := 39) rfl (by kernel_rfl) (coreTimeout_any w18 k23 t24 hb25 cb26 ab27 lb28 pb29 D0 (ok_of (by kernel_rfl) (H19.fin [2, 3, 4] (by decide) rfl)) C0 1 0) ?_
  rintro _ w33 ⟨v32, rfl, S34⟩
  rw [e1] at S34
  replace S34 := Sat.cast (G' := [cellC k23 92 (([(.int .i64 (D0.f)), (.int .i64 (D0.c)), (.int .i64 (D0.epoch)), (.int .i64 (D0.replica)), (.int .i64 (D0.s.round)), (.int .i64 (D0.s.step)), (.int .i64 (D0.s.lr)), (.int .i64 (D0.s.vr))] : List Value) ++ hc D0.s.locked ++ hc D0.s.valid ++ ([(.bool (D0.s.decided))] : List Value) ++ hc D0.s.decision ++ ([(.pointer (some ⟨t24, 0, none⟩)), (.map (some pb29)), (.bool (D0.wv)), (.bool (D0.sp)), (.bool (D0.sc))] : List Value)), talC t24 hb25 cb26 ab27 lb28 D0.f D0.c D0.L, mapC pb29 (Value.int .i64) propV D0.P, rowC 45 35 v32 0 ([]), restC w18 (coreC k23 t24 hb25 cb26 ab27 lb28 pb29 D0).fp]) S34 (by kernel_rfl)
  have H36 : Sat w [restC w (fun _ => False), cellC b6 25 ([(.int .i64 (F)), (.int .i64 (1))] : List Value), cellC k23 92 (([(.int .i64 (D0.f)), (.int .i64 (D0.c)), (.int .i64 (D0.epoch)), (.int .i64 (D0.replica)), (.int .i64 (D0.s.round)), (.int .i64 (D0.s.step)), (.int .i64 (D0.s.lr)), (.int .i64 (D0.s.vr))] : List Value) ++ hc D0.s.locked ++ hc D0.s.valid ++ ([(.bool (D0.s.decided))] : List Value) ++ hc D0.s.decision ++ ([(.pointer (some ⟨t24, 0, none⟩)), (.map (some pb29)), (.bool (D0.wv)), (.bool (D0.sp)), (.bool (D0.sc))] : List Value)), talC t24 hb25 cb26 ab27 lb28 D0.f D0.c D0.L, mapC pb29 (Value.int .i64) propV D0.P, rowC 45 35 v32 0 ([])] w33 := (Sat.turnL (L' := [cellC k23 92 (([(.int .i64 (D0.f)), (.int .i64 (D0.c)), (.int .i64 (D0.epoch)), (.int .i64 (D0.replica)), (.int .i64 (D0.s.round)), (.int .i64 (D0.s.step)), (.int .i64 (D0.s.lr)), (.int .i64 (D0.s.vr))] : List Value) ++ hc D0.s.locked ++ hc D0.s.valid ++ ([(.bool (D0.s.decided))] : List Value) ++ hc D0.s.decision ++ ([(.pointer (some ⟨t24, 0, none⟩)), (.map (some pb29)), (.bool (D0.wv)), (.bool (D0.sp)), (.bool (D0.sc))] : List Value)), talC t24 hb25 cb26 ab27 lb28 D0.f D0.c D0.L, mapC pb29 (Value.int .i64) propV D0.P, rowC 45 35 v32 0 ([])]) (R := [restC w (fun _ => False), cellC b6 25 ([(.int .i64 (F)), (.int .i64 (1))] : List Value)]) H19 [2, 3, 4] [0, 1] (by decide) (by kernel_rfl) rfl S34).pick [4, 5, 0, 1, 2, 3] (by decide)
  obtain ⟨a37, c38, rfl⟩ := ownsRow_shape (H36.at 5 rfl)
  refine ⟨_, rfl, ?_⟩
  refine hK31 _ _ ?_
  clear hK31 K31
  refine wl_pure (wantsY 6 36 false rfl (by kernel_rfl) rfl (by kernel_rfl)) (d := 40) (v := (.int .i64 (0))) rfl (by kernel_rfl) ?_
  refine wl_pure (wantsY 6 36 false rfl (by kernel_rfl) rfl (by kernel_rfl)) (d := 41) (v := (.bool false)) rfl (by kernel_rfl) ?_
  refine wl_pure (wants0 rfl) (d := 42) (v := (.bool false)) rfl (by kernel_rfl) ?_
  refine w_nil ?_
  refine then_normal ?_
  refine wp_iff rfl ?_
  refine w_skip ?_
  refine then_normal ?_
  refine w_seq ?_
  refine w_lit ?_
  refine wl_pure (wants0 rfl) (d := 43) (v := (.pointer (some ⟨k23, 0, none⟩))) rfl (by kernel_rfl) ?_
  refine wl_do (wants0 rfl) (fun K39 hK39 => ?_)
  refine d_call (d := 44) rfl (by kernel_rfl) (coreStart_any w33 k23 t24 hb25 cb26 ab27 lb28 pb29 D0 (ok_of (by kernel_rfl) (H36.fin [2, 3, 4] (by decide) rfl)) C0 ) ?_
  rintro _ w41 ⟨v40, rfl, S42⟩
  rw [e2] at S42
  replace S42 := Sat.cast (G' := [cellC k23 92 (([(.int .i64 (D1.f)), (.int .i64 (D1.c)), (.int .i64 (D1.epoch)), (.int .i64 (D1.replica)), (.int .i64 (D1.s.round)), (.int .i64 (D1.s.step)), (.int .i64 (D1.s.lr)), (.int .i64 (D1.s.vr))] : List Value) ++ hc D1.s.locked ++ hc D1.s.valid ++ ([(.bool (D1.s.decided))] : List Value) ++ hc D1.s.decision ++ ([(.pointer (some ⟨t24, 0, none⟩)), (.map (some pb29)), (.bool (D1.wv)), (.bool (D1.sp)), (.bool (D1.sc))] : List Value)), talC t24 hb25 cb26 ab27 lb28 D1.f D1.c D1.L, mapC pb29 (Value.int .i64) propV D1.P, rowC 45 35 v40 A1.length (A1.flatMap encA), restC w33 (coreC k23 t24 hb25 cb26 ab27 lb28 pb29 D0).fp]) S42 (by kernel_rfl)
  have H44 : Sat w [restC w (fun _ => False), cellC b6 25 ([(.int .i64 (F)), (.int .i64 (1))] : List Value), cellC k23 92 (([(.int .i64 (D1.f)), (.int .i64 (D1.c)), (.int .i64 (D1.epoch)), (.int .i64 (D1.replica)), (.int .i64 (D1.s.round)), (.int .i64 (D1.s.step)), (.int .i64 (D1.s.lr)), (.int .i64 (D1.s.vr))] : List Value) ++ hc D1.s.locked ++ hc D1.s.valid ++ ([(.bool (D1.s.decided))] : List Value) ++ hc D1.s.decision ++ ([(.pointer (some ⟨t24, 0, none⟩)), (.map (some pb29)), (.bool (D1.wv)), (.bool (D1.sp)), (.bool (D1.sc))] : List Value)), talC t24 hb25 cb26 ab27 lb28 D1.f D1.c D1.L, mapC pb29 (Value.int .i64) propV D1.P, rowC 45 35 (.slice a37 0 c38) 0 ([]), rowC 45 35 v40 A1.length (A1.flatMap encA)] w41 := (Sat.turnL (L' := [cellC k23 92 (([(.int .i64 (D1.f)), (.int .i64 (D1.c)), (.int .i64 (D1.epoch)), (.int .i64 (D1.replica)), (.int .i64 (D1.s.round)), (.int .i64 (D1.s.step)), (.int .i64 (D1.s.lr)), (.int .i64 (D1.s.vr))] : List Value) ++ hc D1.s.locked ++ hc D1.s.valid ++ ([(.bool (D1.s.decided))] : List Value) ++ hc D1.s.decision ++ ([(.pointer (some ⟨t24, 0, none⟩)), (.map (some pb29)), (.bool (D1.wv)), (.bool (D1.sp)), (.bool (D1.sc))] : List Value)), talC t24 hb25 cb26 ab27 lb28 D1.f D1.c D1.L, mapC pb29 (Value.int .i64) propV D1.P, rowC 45 35 v40 A1.length (A1.flatMap encA)]) (R := [restC w (fun _ => False), cellC b6 25 ([(.int .i64 (F)), (.int .i64 (1))] : List Value), rowC 45 35 (.slice a37 0 c38) 0 ([])]) H36 [2, 3, 4] [0, 1, 5] (by decide) (by kernel_rfl) rfl S42).pick [4, 5, 0, 1, 2, 6, 3] (by decide)
  obtain ⟨a45, c46, rfl⟩ := ownsRow_shape (H44.at 6 rfl)
  refine ⟨_, rfl, ?_⟩
  refine hK39 _ _ ?_
  clear hK39 K39
  refine w_nil ?_
  refine then_normal ?_
  refine w_seq ?_
  refine w_seq ?_
  refine w_lit ?_
  refine wl_pure (wants0 rfl) (d := 45) (v := (.int .i64 (round))) rfl (by kernel_rfl) ?_
  refine wl_pure (wants0 rfl) (d := 46) (v := (.bool (decide (round = 0)))) rfl (by kernel_rfl) ?_
  refine w_nil ?_
  refine then_normal ?_
  refine (bsplit (decide (round = 0))).elim (fun b47 => ?_) (fun b47 => ?_)
  · have g48 := of_decide_eq_true b47
    refine wp_know 46 (.bool true) (congrArg Value.bool b47) ?_
    refine wp_ift rfl ?_
    refine w_lit ?_
    refine wl_pure (wants0 rfl) (d := 1) (v := (.int .i64 (1))) rfl (by kernel_rfl) ?_
    refine w_nil ?_
    refine then_normal ?_
    refine w_seq ?_
    refine w_seq ?_
    refine w_lit ?_
    refine wl_pure (wants0 rfl) (d := 47) (v := (.pointer (some ⟨k23, 0, none⟩))) rfl (by kernel_rfl) ?_
    refine wl_pure (wants0 rfl) (d := 48) (v := (.int .i64 (kind))) rfl (by kernel_rfl) ?_
    refine wl_do (wants0 rfl) (fun K49 hK49 => ?_)
    refine d_call (d := 49) rfl (by kernel_rfl) (within_any w41 kind 3 (by omega)) ?_
    rintro _ w50 ⟨rfl, u52⟩
    have H51 := H44.keepU u52
    refine ⟨_, rfl, ?_⟩
    refine hK49 _ _ ?_
    clear hK49 K49
    refine wl_pure (wants0 rfl) (d := 50) (v := (.int .i64 (1 + (withinV kind 3)))) rfl (e_int (z := 1 + (withinV kind 3)) (by kernel_rfl) (IntWalk.i64_in _ (by omega))) ?_
    refine wl_pure (wants0 rfl) (d := 51) (v := (.int .i64 (1))) rfl (by kernel_rfl) ?_
    refine wl_pure (wants0 rfl) (d := 52) (v := (.agg ⟨([(.int .i64 (1 + (withinV kind 3))), (.int .i64 (1))] : List Value)⟩)) rfl (by kernel_rfl) ?_
    refine wl_do (wants0 rfl) (fun K53 hK53 => ?_)
    refine d_call (d := 53) rfl (by kernel_rfl) (coreTimeout_any w50 k23 t24 hb25 cb26 ab27 lb28 pb29 D1 (ok_of (by kernel_rfl) (H51.fin [2, 3, 4] (by decide) rfl)) C1 (1 + (withinV kind 3)) 1) ?_
    rintro _ w55 ⟨v54, rfl, S56⟩
    rw [e3 _ _ (by first | decide | exact of_decide_eq_false b47)] at S56
    replace S56 := Sat.cast (G' := [cellC k23 92 (([(.int .i64 (D1.f)), (.int .i64 (D1.c)), (.int .i64 (D1.epoch)), (.int .i64 (D1.replica)), (.int .i64 (D1.s.round)), (.int .i64 (D1.s.step)), (.int .i64 (D1.s.lr)), (.int .i64 (D1.s.vr))] : List Value) ++ hc D1.s.locked ++ hc D1.s.valid ++ ([(.bool (D1.s.decided))] : List Value) ++ hc D1.s.decision ++ ([(.pointer (some ⟨t24, 0, none⟩)), (.map (some pb29)), (.bool (D1.wv)), (.bool (D1.sp)), (.bool (D1.sc))] : List Value)), talC t24 hb25 cb26 ab27 lb28 D1.f D1.c D1.L, mapC pb29 (Value.int .i64) propV D1.P, rowC 45 35 v54 0 ([]), restC w50 (coreC k23 t24 hb25 cb26 ab27 lb28 pb29 D1).fp]) S56 (by kernel_rfl)
    have H58 : Sat w [restC w (fun _ => False), cellC b6 25 ([(.int .i64 (F)), (.int .i64 (1))] : List Value), cellC k23 92 (([(.int .i64 (D1.f)), (.int .i64 (D1.c)), (.int .i64 (D1.epoch)), (.int .i64 (D1.replica)), (.int .i64 (D1.s.round)), (.int .i64 (D1.s.step)), (.int .i64 (D1.s.lr)), (.int .i64 (D1.s.vr))] : List Value) ++ hc D1.s.locked ++ hc D1.s.valid ++ ([(.bool (D1.s.decided))] : List Value) ++ hc D1.s.decision ++ ([(.pointer (some ⟨t24, 0, none⟩)), (.map (some pb29)), (.bool (D1.wv)), (.bool (D1.sp)), (.bool (D1.sc))] : List Value)), talC t24 hb25 cb26 ab27 lb28 D1.f D1.c D1.L, mapC pb29 (Value.int .i64) propV D1.P, rowC 45 35 (.slice a37 0 c38) 0 ([]), rowC 45 35 (.slice a45 A1.length c46) A1.length (A1.flatMap encA), rowC 45 35 v54 0 ([])] w55 := (Sat.turnL (L' := [cellC k23 92 (([(.int .i64 (D1.f)), (.int .i64 (D1.c)), (.int .i64 (D1.epoch)), (.int .i64 (D1.replica)), (.int .i64 (D1.s.round)), (.int .i64 (D1.s.step)), (.int .i64 (D1.s.lr)), (.int .i64 (D1.s.vr))] : List Value) ++ hc D1.s.locked ++ hc D1.s.valid ++ ([(.bool (D1.s.decided))] : List Value) ++ hc D1.s.decision ++ ([(.pointer (some ⟨t24, 0, none⟩)), (.map (some pb29)), (.bool (D1.wv)), (.bool (D1.sp)), (.bool (D1.sc))] : List Value)), talC t24 hb25 cb26 ab27 lb28 D1.f D1.c D1.L, mapC pb29 (Value.int .i64) propV D1.P, rowC 45 35 v54 0 ([])]) (R := [restC w (fun _ => False), cellC b6 25 ([(.int .i64 (F)), (.int .i64 (1))] : List Value), rowC 45 35 (.slice a37 0 c38) 0 ([]), rowC 45 35 (.slice a45 A1.length c46) A1.length (A1.flatMap encA)]) H51 [2, 3, 4] [0, 1, 5, 6] (by decide) (by kernel_rfl) rfl S56).pick [4, 5, 0, 1, 2, 6, 7, 3] (by decide)
    obtain ⟨a59, c60, rfl⟩ := ownsRow_shape (H58.at 7 rfl)
    refine ⟨_, rfl, ?_⟩
    refine hK53 _ _ ?_
    clear hK53 K53
    refine wl_pure (wants0 rfl) (d := 54) (v := (.int .i64 (0))) rfl (by kernel_rfl) ?_
    refine wl_pure (wants0 rfl) (d := 55) (v := (.bool false)) rfl (by kernel_rfl) ?_
    refine wl_pure (wants0 rfl) (d := 56) (v := (.bool false)) rfl (by kernel_rfl) ?_
    refine wl_pure (wantsY 9 56 false rfl (by kernel_rfl) rfl (by kernel_rfl)) (d := 57) (v := (.pointer (some ⟨k23, 0, none⟩))) rfl (by kernel_rfl) ?_
    refine wl_do (wantsY 9 56 false rfl (by kernel_rfl) rfl (by kernel_rfl)) (fun K61 hK61 => ?_)
    refine d_call (d := 58) rfl (by kernel_rfl) (coreState_any w55 k23 t24 hb25 cb26 ab27 lb28 pb29 D1 (ok_of (by kernel_rfl) (H58.fin [2, 3, 4] (by decide) rfl)) C1) ?_
    rintro _ w62 ⟨rfl, u64⟩
    have H63 := H58.keepU u64
    refine ⟨_, rfl, ?_⟩
    refine hK61 _ _ ?_
    clear hK61 K61
    refine wl_pure (wantsY 9 56 false rfl (by kernel_rfl) rfl (by kernel_rfl)) (d := 59) (v := (.int .i64 (D1.s.round))) rfl (by kernel_rfl) ?_
    refine wl_pure (wantsY 9 56 false rfl (by kernel_rfl) rfl (by kernel_rfl)) (d := 60) (v := (.bool (!(decide (D1.s.round = 0))))) rfl (by kernel_rfl) ?_
    refine wl_pure (wants0 rfl) (d := 61) (v := (.bool (!(decide (D1.s.round = 0))))) rfl (by kernel_rfl) ?_
    refine wl_pure (wants0 rfl) (d := 62) (v := (.bool (!(decide (D1.s.round = 0))))) rfl (by kernel_rfl) ?_
    have b65 : (!(decide (D1.s.round = 0))) = false := by (rw [s1.1]; rfl)
    refine wl_know 62 (.bool false) (congrArg Value.bool b65) ?_
    refine wl_pure (wantsY 15 62 false rfl (by kernel_rfl) rfl (by kernel_rfl)) (d := 63) (v := (.pointer (some ⟨k23, 0, none⟩))) rfl (by kernel_rfl) ?_
    refine wl_do (wantsY 15 62 false rfl (by kernel_rfl) rfl (by kernel_rfl)) (fun K66 hK66 => ?_)
    refine d_call (d := 64) rfl (by kernel_rfl) (coreState_any w62 k23 t24 hb25 cb26 ab27 lb28 pb29 D1 (ok_of (by kernel_rfl) (H63.fin [2, 3, 4] (by decide) rfl)) C1) ?_
    rintro _ w67 ⟨rfl, u69⟩
    have H68 := H63.keepU u69
    refine ⟨_, rfl, ?_⟩
    refine hK66 _ _ ?_
    clear hK66 K66
    refine wl_pure (wantsY 15 62 false rfl (by kernel_rfl) rfl (by kernel_rfl)) (d := 65) (v := (.int .i64 (D1.s.step))) rfl (by kernel_rfl) ?_
    refine wl_pure (wantsY 15 62 false rfl (by kernel_rfl) rfl (by kernel_rfl)) (d := 66) (v := (.bool (!(decide (D1.s.step = 1))))) rfl (by kernel_rfl) ?_
    refine wl_pure (wants0 rfl) (d := 67) (v := (.bool (!(decide (D1.s.step = 1))))) rfl (by kernel_rfl) ?_
    refine w_nil ?_
    refine then_normal ?_
    have b70 : (!(decide (D1.s.step = 1))) = false := by (rw [s1.2]; rfl)
    refine wp_know 67 (.bool false) (congrArg Value.bool b70) ?_
    refine wp_iff rfl ?_
    refine w_skip ?_
    refine then_normal ?_
    refine w_seq ?_
    refine w_lit ?_
    refine wl_pure (wants0 rfl) (d := 68) (v := (.pointer (some ⟨k23, 0, none⟩))) rfl (by kernel_rfl) ?_
    refine wl_pure (wants0 rfl) (d := 69) (v := (.agg ⟨([(.int .i64 (1)), (.int .i64 (0))] : List Value)⟩)) rfl (by kernel_rfl) ?_
    refine wl_do (wants0 rfl) (fun K71 hK71 => ?_)
    refine d_call (d := 70) rfl (by kernel_rfl) (coreTimeout_any w67 k23 t24 hb25 cb26 ab27 lb28 pb29 D1 (ok_of (by kernel_rfl) (H68.fin [2, 3, 4] (by decide) rfl)) C1 1 0) ?_
    rintro _ w73 ⟨v72, rfl, S74⟩
    rw [e4] at S74
    replace S74 := Sat.cast (G' := [cellC k23 92 (([(.int .i64 (D2.f)), (.int .i64 (D2.c)), (.int .i64 (D2.epoch)), (.int .i64 (D2.replica)), (.int .i64 (D2.s.round)), (.int .i64 (D2.s.step)), (.int .i64 (D2.s.lr)), (.int .i64 (D2.s.vr))] : List Value) ++ hc D2.s.locked ++ hc D2.s.valid ++ ([(.bool (D2.s.decided))] : List Value) ++ hc D2.s.decision ++ ([(.pointer (some ⟨t24, 0, none⟩)), (.map (some pb29)), (.bool (D2.wv)), (.bool (D2.sp)), (.bool (D2.sc))] : List Value)), talC t24 hb25 cb26 ab27 lb28 D2.f D2.c D2.L, mapC pb29 (Value.int .i64) propV D2.P, rowC 45 35 v72 1 (([(.int .i64 (2)), (.int .i64 (0)), (.int .i64 (-1))] : List Value) ++ hc hash0), restC w67 (coreC k23 t24 hb25 cb26 ab27 lb28 pb29 D1).fp]) S74 (by kernel_rfl)
    have H76 : Sat w [restC w (fun _ => False), cellC b6 25 ([(.int .i64 (F)), (.int .i64 (1))] : List Value), cellC k23 92 (([(.int .i64 (D2.f)), (.int .i64 (D2.c)), (.int .i64 (D2.epoch)), (.int .i64 (D2.replica)), (.int .i64 (D2.s.round)), (.int .i64 (D2.s.step)), (.int .i64 (D2.s.lr)), (.int .i64 (D2.s.vr))] : List Value) ++ hc D2.s.locked ++ hc D2.s.valid ++ ([(.bool (D2.s.decided))] : List Value) ++ hc D2.s.decision ++ ([(.pointer (some ⟨t24, 0, none⟩)), (.map (some pb29)), (.bool (D2.wv)), (.bool (D2.sp)), (.bool (D2.sc))] : List Value)), talC t24 hb25 cb26 ab27 lb28 D2.f D2.c D2.L, mapC pb29 (Value.int .i64) propV D2.P, rowC 45 35 (.slice a37 0 c38) 0 ([]), rowC 45 35 (.slice a45 A1.length c46) A1.length (A1.flatMap encA), rowC 45 35 (.slice a59 0 c60) 0 ([]), rowC 45 35 v72 1 (([(.int .i64 (2)), (.int .i64 (0)), (.int .i64 (-1))] : List Value) ++ hc hash0)] w73 := (Sat.turnL (L' := [cellC k23 92 (([(.int .i64 (D2.f)), (.int .i64 (D2.c)), (.int .i64 (D2.epoch)), (.int .i64 (D2.replica)), (.int .i64 (D2.s.round)), (.int .i64 (D2.s.step)), (.int .i64 (D2.s.lr)), (.int .i64 (D2.s.vr))] : List Value) ++ hc D2.s.locked ++ hc D2.s.valid ++ ([(.bool (D2.s.decided))] : List Value) ++ hc D2.s.decision ++ ([(.pointer (some ⟨t24, 0, none⟩)), (.map (some pb29)), (.bool (D2.wv)), (.bool (D2.sp)), (.bool (D2.sc))] : List Value)), talC t24 hb25 cb26 ab27 lb28 D2.f D2.c D2.L, mapC pb29 (Value.int .i64) propV D2.P, rowC 45 35 v72 1 (([(.int .i64 (2)), (.int .i64 (0)), (.int .i64 (-1))] : List Value) ++ hc hash0)]) (R := [restC w (fun _ => False), cellC b6 25 ([(.int .i64 (F)), (.int .i64 (1))] : List Value), rowC 45 35 (.slice a37 0 c38) 0 ([]), rowC 45 35 (.slice a45 A1.length c46) A1.length (A1.flatMap encA), rowC 45 35 (.slice a59 0 c60) 0 ([])]) H68 [2, 3, 4] [0, 1, 5, 6, 7] (by decide) (by kernel_rfl) rfl S74).pick [4, 5, 0, 1, 2, 6, 7, 8, 3] (by decide)
    obtain ⟨g77, c78, rfl⟩ := row_shape (H76.at 8 rfl) (Nat.le_of_ble_eq_true rfl)
    refine ⟨_, rfl, ?_⟩
    refine hK71 _ _ ?_
    clear hK71 K71
    refine wl_pure (wants0 rfl) (d := 11) (v := (.slice (some ⟨g77, 0, none⟩) 1 c78)) rfl (by kernel_rfl) ?_
    refine w_nil ?_
    refine then_normal ?_
    refine w_seq ?_
    refine w_lit ?_
    refine wl_pure (wants0 rfl) (d := 71) (v := (.pointer (some ⟨k23, 0, none⟩))) rfl (by kernel_rfl) ?_
    refine wl_pure (wants0 rfl) (d := 72) (v := (.agg ⟨([(.int .i64 (1)), (.int .i64 (0))] : List Value)⟩)) rfl (by kernel_rfl) ?_
    refine wl_do (wants0 rfl) (fun K79 hK79 => ?_)
    refine d_call (d := 73) rfl (by kernel_rfl) (coreTimeout_any w73 k23 t24 hb25 cb26 ab27 lb28 pb29 D2 (ok_of (by kernel_rfl) (H76.fin [2, 3, 4] (by decide) rfl)) C2 1 0) ?_
    rintro _ w81 ⟨v80, rfl, S82⟩
    rw [e5] at S82
    replace S82 := Sat.cast (G' := [cellC k23 92 (([(.int .i64 (D2.f)), (.int .i64 (D2.c)), (.int .i64 (D2.epoch)), (.int .i64 (D2.replica)), (.int .i64 (D2.s.round)), (.int .i64 (D2.s.step)), (.int .i64 (D2.s.lr)), (.int .i64 (D2.s.vr))] : List Value) ++ hc D2.s.locked ++ hc D2.s.valid ++ ([(.bool (D2.s.decided))] : List Value) ++ hc D2.s.decision ++ ([(.pointer (some ⟨t24, 0, none⟩)), (.map (some pb29)), (.bool (D2.wv)), (.bool (D2.sp)), (.bool (D2.sc))] : List Value)), talC t24 hb25 cb26 ab27 lb28 D2.f D2.c D2.L, mapC pb29 (Value.int .i64) propV D2.P, rowC 45 35 v80 0 ([]), restC w73 (coreC k23 t24 hb25 cb26 ab27 lb28 pb29 D2).fp]) S82 (by kernel_rfl)
    have H84 : Sat w [restC w (fun _ => False), cellC b6 25 ([(.int .i64 (F)), (.int .i64 (1))] : List Value), cellC k23 92 (([(.int .i64 (D2.f)), (.int .i64 (D2.c)), (.int .i64 (D2.epoch)), (.int .i64 (D2.replica)), (.int .i64 (D2.s.round)), (.int .i64 (D2.s.step)), (.int .i64 (D2.s.lr)), (.int .i64 (D2.s.vr))] : List Value) ++ hc D2.s.locked ++ hc D2.s.valid ++ ([(.bool (D2.s.decided))] : List Value) ++ hc D2.s.decision ++ ([(.pointer (some ⟨t24, 0, none⟩)), (.map (some pb29)), (.bool (D2.wv)), (.bool (D2.sp)), (.bool (D2.sc))] : List Value)), talC t24 hb25 cb26 ab27 lb28 D2.f D2.c D2.L, mapC pb29 (Value.int .i64) propV D2.P, rowC 45 35 (.slice a37 0 c38) 0 ([]), rowC 45 35 (.slice a45 A1.length c46) A1.length (A1.flatMap encA), rowC 45 35 (.slice a59 0 c60) 0 ([]), rowC 45 35 (.slice (some ⟨g77, 0, none⟩) 1 c78) 1 (([(.int .i64 (2)), (.int .i64 (0)), (.int .i64 (-1))] : List Value) ++ hc hash0), rowC 45 35 v80 0 ([])] w81 := (Sat.turnL (L' := [cellC k23 92 (([(.int .i64 (D2.f)), (.int .i64 (D2.c)), (.int .i64 (D2.epoch)), (.int .i64 (D2.replica)), (.int .i64 (D2.s.round)), (.int .i64 (D2.s.step)), (.int .i64 (D2.s.lr)), (.int .i64 (D2.s.vr))] : List Value) ++ hc D2.s.locked ++ hc D2.s.valid ++ ([(.bool (D2.s.decided))] : List Value) ++ hc D2.s.decision ++ ([(.pointer (some ⟨t24, 0, none⟩)), (.map (some pb29)), (.bool (D2.wv)), (.bool (D2.sp)), (.bool (D2.sc))] : List Value)), talC t24 hb25 cb26 ab27 lb28 D2.f D2.c D2.L, mapC pb29 (Value.int .i64) propV D2.P, rowC 45 35 v80 0 ([])]) (R := [restC w (fun _ => False), cellC b6 25 ([(.int .i64 (F)), (.int .i64 (1))] : List Value), rowC 45 35 (.slice a37 0 c38) 0 ([]), rowC 45 35 (.slice a45 A1.length c46) A1.length (A1.flatMap encA), rowC 45 35 (.slice a59 0 c60) 0 ([]), rowC 45 35 (.slice (some ⟨g77, 0, none⟩) 1 c78) 1 (([(.int .i64 (2)), (.int .i64 (0)), (.int .i64 (-1))] : List Value) ++ hc hash0)]) H76 [2, 3, 4] [0, 1, 5, 6, 7, 8] (by decide) (by kernel_rfl) rfl S82).pick [4, 5, 0, 1, 2, 6, 7, 8, 9, 3] (by decide)
    obtain ⟨a85, c86, rfl⟩ := ownsRow_shape (H84.at 9 rfl)
    refine ⟨_, rfl, ?_⟩
    refine hK79 _ _ ?_
    clear hK79 K79
    refine wl_pure (wants0 rfl) (d := 12) (v := (.slice a85 0 c86)) rfl (by kernel_rfl) ?_
    refine w_nil ?_
    refine then_normal ?_
    refine w_seq ?_
    refine w_lit ?_
    refine wl_pure (wants0 rfl) (d := 74) (v := (.pointer (some ⟨k23, 0, none⟩))) rfl (by kernel_rfl) ?_
    refine wl_pure (wants0 rfl) (d := 75) (v := (.agg ⟨([(.int .i64 (2)), (.int .i64 (0))] : List Value)⟩)) rfl (by kernel_rfl) ?_
    refine wl_do (wants0 rfl) (fun K87 hK87 => ?_)
    refine d_call (d := 76) rfl (by kernel_rfl) (coreTimeout_any w81 k23 t24 hb25 cb26 ab27 lb28 pb29 D2 (ok_of (by kernel_rfl) (H84.fin [2, 3, 4] (by decide) rfl)) C2 2 0) ?_
    rintro _ w89 ⟨v88, rfl, S90⟩
    rw [e6] at S90
    replace S90 := Sat.cast (G' := [cellC k23 92 (([(.int .i64 (D3.f)), (.int .i64 (D3.c)), (.int .i64 (D3.epoch)), (.int .i64 (D3.replica)), (.int .i64 (D3.s.round)), (.int .i64 (D3.s.step)), (.int .i64 (D3.s.lr)), (.int .i64 (D3.s.vr))] : List Value) ++ hc D3.s.locked ++ hc D3.s.valid ++ ([(.bool (D3.s.decided))] : List Value) ++ hc D3.s.decision ++ ([(.pointer (some ⟨t24, 0, none⟩)), (.map (some pb29)), (.bool (D3.wv)), (.bool (D3.sp)), (.bool (D3.sc))] : List Value)), talC t24 hb25 cb26 ab27 lb28 D3.f D3.c D3.L, mapC pb29 (Value.int .i64) propV D3.P, rowC 45 35 v88 1 (([(.int .i64 (3)), (.int .i64 (0)), (.int .i64 (-1))] : List Value) ++ hc hash0), restC w81 (coreC k23 t24 hb25 cb26 ab27 lb28 pb29 D2).fp]) S90 (by kernel_rfl)
    have H92 : Sat w [restC w (fun _ => False), cellC b6 25 ([(.int .i64 (F)), (.int .i64 (1))] : List Value), cellC k23 92 (([(.int .i64 (D3.f)), (.int .i64 (D3.c)), (.int .i64 (D3.epoch)), (.int .i64 (D3.replica)), (.int .i64 (D3.s.round)), (.int .i64 (D3.s.step)), (.int .i64 (D3.s.lr)), (.int .i64 (D3.s.vr))] : List Value) ++ hc D3.s.locked ++ hc D3.s.valid ++ ([(.bool (D3.s.decided))] : List Value) ++ hc D3.s.decision ++ ([(.pointer (some ⟨t24, 0, none⟩)), (.map (some pb29)), (.bool (D3.wv)), (.bool (D3.sp)), (.bool (D3.sc))] : List Value)), talC t24 hb25 cb26 ab27 lb28 D3.f D3.c D3.L, mapC pb29 (Value.int .i64) propV D3.P, rowC 45 35 (.slice a37 0 c38) 0 ([]), rowC 45 35 (.slice a45 A1.length c46) A1.length (A1.flatMap encA), rowC 45 35 (.slice a59 0 c60) 0 ([]), rowC 45 35 (.slice (some ⟨g77, 0, none⟩) 1 c78) 1 (([(.int .i64 (2)), (.int .i64 (0)), (.int .i64 (-1))] : List Value) ++ hc hash0), rowC 45 35 (.slice a85 0 c86) 0 ([]), rowC 45 35 v88 1 (([(.int .i64 (3)), (.int .i64 (0)), (.int .i64 (-1))] : List Value) ++ hc hash0)] w89 := (Sat.turnL (L' := [cellC k23 92 (([(.int .i64 (D3.f)), (.int .i64 (D3.c)), (.int .i64 (D3.epoch)), (.int .i64 (D3.replica)), (.int .i64 (D3.s.round)), (.int .i64 (D3.s.step)), (.int .i64 (D3.s.lr)), (.int .i64 (D3.s.vr))] : List Value) ++ hc D3.s.locked ++ hc D3.s.valid ++ ([(.bool (D3.s.decided))] : List Value) ++ hc D3.s.decision ++ ([(.pointer (some ⟨t24, 0, none⟩)), (.map (some pb29)), (.bool (D3.wv)), (.bool (D3.sp)), (.bool (D3.sc))] : List Value)), talC t24 hb25 cb26 ab27 lb28 D3.f D3.c D3.L, mapC pb29 (Value.int .i64) propV D3.P, rowC 45 35 v88 1 (([(.int .i64 (3)), (.int .i64 (0)), (.int .i64 (-1))] : List Value) ++ hc hash0)]) (R := [restC w (fun _ => False), cellC b6 25 ([(.int .i64 (F)), (.int .i64 (1))] : List Value), rowC 45 35 (.slice a37 0 c38) 0 ([]), rowC 45 35 (.slice a45 A1.length c46) A1.length (A1.flatMap encA), rowC 45 35 (.slice a59 0 c60) 0 ([]), rowC 45 35 (.slice (some ⟨g77, 0, none⟩) 1 c78) 1 (([(.int .i64 (2)), (.int .i64 (0)), (.int .i64 (-1))] : List Value) ++ hc hash0), rowC 45 35 (.slice a85 0 c86) 0 ([])]) H84 [2, 3, 4] [0, 1, 5, 6, 7, 8, 9] (by decide) (by kernel_rfl) rfl S90).pick [4, 5, 0, 1, 2, 6, 7, 8, 9, 10, 3] (by decide)
    obtain ⟨g93, c94, rfl⟩ := row_shape (H92.at 10 rfl) (Nat.le_of_ble_eq_true rfl)
    refine ⟨_, rfl, ?_⟩
    refine hK87 _ _ ?_
    clear hK87 K87
    refine wl_pure (wants0 rfl) (d := 13) (v := (.slice (some ⟨g93, 0, none⟩) 1 c94)) rfl (by kernel_rfl) ?_
    refine w_nil ?_
    refine then_normal ?_
    refine w_seq ?_
    refine w_lit ?_
    refine wl_pure (wants0 rfl) (d := 77) (v := (.pointer (some ⟨k23, 0, none⟩))) rfl (by kernel_rfl) ?_
    refine wl_pure (wants0 rfl) (d := 78) (v := (.agg ⟨([(.int .i64 (2)), (.int .i64 (0))] : List Value)⟩)) rfl (by kernel_rfl) ?_
    refine wl_do (wants0 rfl) (fun K95 hK95 => ?_)
    refine d_call (d := 79) rfl (by kernel_rfl) (coreTimeout_any w89 k23 t24 hb25 cb26 ab27 lb28 pb29 D3 (ok_of (by kernel_rfl) (H92.fin [2, 3, 4] (by decide) rfl)) C3 2 0) ?_
    rintro _ w97 ⟨v96, rfl, S98⟩
    rw [e7] at S98
    replace S98 := Sat.cast (G' := [cellC k23 92 (([(.int .i64 (D3.f)), (.int .i64 (D3.c)), (.int .i64 (D3.epoch)), (.int .i64 (D3.replica)), (.int .i64 (D3.s.round)), (.int .i64 (D3.s.step)), (.int .i64 (D3.s.lr)), (.int .i64 (D3.s.vr))] : List Value) ++ hc D3.s.locked ++ hc D3.s.valid ++ ([(.bool (D3.s.decided))] : List Value) ++ hc D3.s.decision ++ ([(.pointer (some ⟨t24, 0, none⟩)), (.map (some pb29)), (.bool (D3.wv)), (.bool (D3.sp)), (.bool (D3.sc))] : List Value)), talC t24 hb25 cb26 ab27 lb28 D3.f D3.c D3.L, mapC pb29 (Value.int .i64) propV D3.P, rowC 45 35 v96 0 ([]), restC w89 (coreC k23 t24 hb25 cb26 ab27 lb28 pb29 D3).fp]) S98 (by kernel_rfl)
    have H100 : Sat w [restC w (fun _ => False), cellC b6 25 ([(.int .i64 (F)), (.int .i64 (1))] : List Value), cellC k23 92 (([(.int .i64 (D3.f)), (.int .i64 (D3.c)), (.int .i64 (D3.epoch)), (.int .i64 (D3.replica)), (.int .i64 (D3.s.round)), (.int .i64 (D3.s.step)), (.int .i64 (D3.s.lr)), (.int .i64 (D3.s.vr))] : List Value) ++ hc D3.s.locked ++ hc D3.s.valid ++ ([(.bool (D3.s.decided))] : List Value) ++ hc D3.s.decision ++ ([(.pointer (some ⟨t24, 0, none⟩)), (.map (some pb29)), (.bool (D3.wv)), (.bool (D3.sp)), (.bool (D3.sc))] : List Value)), talC t24 hb25 cb26 ab27 lb28 D3.f D3.c D3.L, mapC pb29 (Value.int .i64) propV D3.P, rowC 45 35 (.slice a37 0 c38) 0 ([]), rowC 45 35 (.slice a45 A1.length c46) A1.length (A1.flatMap encA), rowC 45 35 (.slice a59 0 c60) 0 ([]), rowC 45 35 (.slice (some ⟨g77, 0, none⟩) 1 c78) 1 (([(.int .i64 (2)), (.int .i64 (0)), (.int .i64 (-1))] : List Value) ++ hc hash0), rowC 45 35 (.slice a85 0 c86) 0 ([]), rowC 45 35 (.slice (some ⟨g93, 0, none⟩) 1 c94) 1 (([(.int .i64 (3)), (.int .i64 (0)), (.int .i64 (-1))] : List Value) ++ hc hash0), rowC 45 35 v96 0 ([])] w97 := (Sat.turnL (L' := [cellC k23 92 (([(.int .i64 (D3.f)), (.int .i64 (D3.c)), (.int .i64 (D3.epoch)), (.int .i64 (D3.replica)), (.int .i64 (D3.s.round)), (.int .i64 (D3.s.step)), (.int .i64 (D3.s.lr)), (.int .i64 (D3.s.vr))] : List Value) ++ hc D3.s.locked ++ hc D3.s.valid ++ ([(.bool (D3.s.decided))] : List Value) ++ hc D3.s.decision ++ ([(.pointer (some ⟨t24, 0, none⟩)), (.map (some pb29)), (.bool (D3.wv)), (.bool (D3.sp)), (.bool (D3.sc))] : List Value)), talC t24 hb25 cb26 ab27 lb28 D3.f D3.c D3.L, mapC pb29 (Value.int .i64) propV D3.P, rowC 45 35 v96 0 ([])]) (R := [restC w (fun _ => False), cellC b6 25 ([(.int .i64 (F)), (.int .i64 (1))] : List Value), rowC 45 35 (.slice a37 0 c38) 0 ([]), rowC 45 35 (.slice a45 A1.length c46) A1.length (A1.flatMap encA), rowC 45 35 (.slice a59 0 c60) 0 ([]), rowC 45 35 (.slice (some ⟨g77, 0, none⟩) 1 c78) 1 (([(.int .i64 (2)), (.int .i64 (0)), (.int .i64 (-1))] : List Value) ++ hc hash0), rowC 45 35 (.slice a85 0 c86) 0 ([]), rowC 45 35 (.slice (some ⟨g93, 0, none⟩) 1 c94) 1 (([(.int .i64 (3)), (.int .i64 (0)), (.int .i64 (-1))] : List Value) ++ hc hash0)]) H92 [2, 3, 4] [0, 1, 5, 6, 7, 8, 9, 10] (by decide) (by kernel_rfl) rfl S98).pick [4, 5, 0, 1, 2, 6, 7, 8, 9, 10, 11, 3] (by decide)
    obtain ⟨a101, c102, rfl⟩ := ownsRow_shape (H100.at 11 rfl)
    refine ⟨_, rfl, ?_⟩
    refine hK95 _ _ ?_
    clear hK95 K95
    refine wl_pure (wants0 rfl) (d := 14) (v := (.slice a101 0 c102)) rfl (by kernel_rfl) ?_
    refine w_nil ?_
    refine then_normal ?_
    refine w_seq ?_
    refine w_lit ?_
    refine wl_pure (wants0 rfl) (d := 80) (v := (.pointer (some ⟨k23, 0, none⟩))) rfl (by kernel_rfl) ?_
    refine wl_do (wants0 rfl) (fun K103 hK103 => ?_)
    refine d_call (d := 81) rfl (by kernel_rfl) (coreState_any w97 k23 t24 hb25 cb26 ab27 lb28 pb29 D3 (ok_of (by kernel_rfl) (H100.fin [2, 3, 4] (by decide) rfl)) C3) ?_
    rintro _ w104 ⟨rfl, u106⟩
    have H105 := H100.keepU u106
    refine ⟨_, rfl, ?_⟩
    refine hK103 _ _ ?_
    clear hK103 K103
    refine wl_do (wants0 rfl) (fun K107 hK107 => ?_)
    refine d_alloc (zs := (([(.int .i64 (0)), (.int .i64 (0)), (.int .i64 (0)), (.int .i64 (0))] : List Value) ++ hc hash0 ++ hc hash0 ++ ([(.bool false)] : List Value) ++ hc hash0)) (z := (.agg ⟨(([(.int .i64 (0)), (.int .i64 (0)), (.int .i64 (0)), (.int .i64 (0))] : List Value) ++ hc hash0 ++ hc hash0 ++ ([(.bool false)] : List Value) ++ hc hash0)⟩)) rfl H105 (by kernel_rfl) (by kernel_rfl) ?_
    intro b108 w109 (H110 : Sat w [restC w (fun _ => False), cellC b6 25 ([(.int .i64 (F)), (.int .i64 (1))] : List Value), cellC k23 92 (([(.int .i64 (D3.f)), (.int .i64 (D3.c)), (.int .i64 (D3.epoch)), (.int .i64 (D3.replica)), (.int .i64 (D3.s.round)), (.int .i64 (D3.s.step)), (.int .i64 (D3.s.lr)), (.int .i64 (D3.s.vr))] : List Value) ++ hc D3.s.locked ++ hc D3.s.valid ++ ([(.bool (D3.s.decided))] : List Value) ++ hc D3.s.decision ++ ([(.pointer (some ⟨t24, 0, none⟩)), (.map (some pb29)), (.bool (D3.wv)), (.bool (D3.sp)), (.bool (D3.sc))] : List Value)), talC t24 hb25 cb26 ab27 lb28 D3.f D3.c D3.L, mapC pb29 (Value.int .i64) propV D3.P, rowC 45 35 (.slice a37 0 c38) 0 ([]), rowC 45 35 (.slice a45 A1.length c46) A1.length (A1.flatMap encA), rowC 45 35 (.slice a59 0 c60) 0 ([]), rowC 45 35 (.slice (some ⟨g77, 0, none⟩) 1 c78) 1 (([(.int .i64 (2)), (.int .i64 (0)), (.int .i64 (-1))] : List Value) ++ hc hash0), rowC 45 35 (.slice a85 0 c86) 0 ([]), rowC 45 35 (.slice (some ⟨g93, 0, none⟩) 1 c94) 1 (([(.int .i64 (3)), (.int .i64 (0)), (.int .i64 (-1))] : List Value) ++ hc hash0), rowC 45 35 (.slice a101 0 c102) 0 ([]), cellC b108 38 (([(.int .i64 (0)), (.int .i64 (0)), (.int .i64 (0)), (.int .i64 (0))] : List Value) ++ hc hash0 ++ hc hash0 ++ ([(.bool false)] : List Value) ++ hc hash0)] w109)
    refine hK107 _ _ ?_
    clear hK107 K107
    refine wl_do (wants0 rfl) (fun K111 hK111 => ?_)
    refine d_storeX (vs := (([(.int .i64 (D3.s.round)), (.int .i64 (D3.s.step)), (.int .i64 (D3.s.lr)), (.int .i64 (D3.s.vr))] : List Value) ++ hc D3.s.locked ++ hc D3.s.valid ++ ([(.bool (D3.s.decided))] : List Value) ++ hc D3.s.decision)) (cs' := (([(.int .i64 (D3.s.round)), (.int .i64 (D3.s.step)), (.int .i64 (D3.s.lr)), (.int .i64 (D3.s.vr))] : List Value) ++ hc D3.s.locked ++ hc D3.s.valid ++ ([(.bool (D3.s.decided))] : List Value) ++ hc D3.s.decision)) rfl H110 12 rfl rfl rfl rfl (by kernel_rfl) (Nat.le_of_ble_eq_true (by kernel_rfl)) (Nat.le_of_ble_eq_true (by kernel_rfl)) (by kernel_rfl) (by kernel_rfl) ?_
    intro w112 (H113 : Sat w [restC w (fun _ => False), cellC b6 25 ([(.int .i64 (F)), (.int .i64 (1))] : List Value), cellC k23 92 (([(.int .i64 (D3.f)), (.int .i64 (D3.c)), (.int .i64 (D3.epoch)), (.int .i64 (D3.replica)), (.int .i64 (D3.s.round)), (.int .i64 (D3.s.step)), (.int .i64 (D3.s.lr)), (.int .i64 (D3.s.vr))] : List Value) ++ hc D3.s.locked ++ hc D3.s.valid ++ ([(.bool (D3.s.decided))] : List Value) ++ hc D3.s.decision ++ ([(.pointer (some ⟨t24, 0, none⟩)), (.map (some pb29)), (.bool (D3.wv)), (.bool (D3.sp)), (.bool (D3.sc))] : List Value)), talC t24 hb25 cb26 ab27 lb28 D3.f D3.c D3.L, mapC pb29 (Value.int .i64) propV D3.P, rowC 45 35 (.slice a37 0 c38) 0 ([]), rowC 45 35 (.slice a45 A1.length c46) A1.length (A1.flatMap encA), rowC 45 35 (.slice a59 0 c60) 0 ([]), rowC 45 35 (.slice (some ⟨g77, 0, none⟩) 1 c78) 1 (([(.int .i64 (2)), (.int .i64 (0)), (.int .i64 (-1))] : List Value) ++ hc hash0), rowC 45 35 (.slice a85 0 c86) 0 ([]), rowC 45 35 (.slice (some ⟨g93, 0, none⟩) 1 c94) 1 (([(.int .i64 (3)), (.int .i64 (0)), (.int .i64 (-1))] : List Value) ++ hc hash0), rowC 45 35 (.slice a101 0 c102) 0 ([]), cellC b108 38 (([(.int .i64 (D3.s.round)), (.int .i64 (D3.s.step)), (.int .i64 (D3.s.lr)), (.int .i64 (D3.s.vr))] : List Value) ++ hc D3.s.locked ++ hc D3.s.valid ++ ([(.bool (D3.s.decided))] : List Value) ++ hc D3.s.decision)] w112)
    refine hK111 _ _ ?_
    clear hK111 K111
    refine w_nil ?_
    refine then_normal ?_
    refine w_seq ?_
    refine w_seq ?_
    refine w_lit ?_
    refine wl_pure (wants0 rfl) (d := 82) (v := (.slice (some ⟨g77, 0, none⟩) 1 c78)) rfl (by kernel_rfl) ?_
    refine wl_pure (wants0 rfl) (d := 83) (v := (.int .i64 (1))) rfl (by kernel_rfl) ?_
    refine wl_pure (wants0 rfl) (d := 84) (v := (.bool false)) rfl (by kernel_rfl) ?_
    refine wl_pure (wants0 rfl) (d := 85) (v := (.bool false)) rfl (by kernel_rfl) ?_
    refine wl_pure (wantsY 3 85 false rfl (by kernel_rfl) rfl (by kernel_rfl)) (d := 86) (v := (.slice (some ⟨g77, 0, none⟩) 1 c78)) rfl (by kernel_rfl) ?_
    refine wl_pure (wantsY 3 85 false rfl (by kernel_rfl) rfl (by kernel_rfl)) (d := 87) (v := (.pointer (some ⟨g77, 0, none⟩))) rfl (e_indexAddr (E := 45) (z := 0) (o := 0) (len := 1) (sz := 35) (by kernel_rfl) (by kernel_rfl) (Nat.le_of_ble_eq_true rfl) rfl rfl (by decide) (by decide)) ?_
    refine wl_pure (wantsY 3 85 false rfl (by kernel_rfl) rfl (by kernel_rfl)) (d := 88) (v := (.pointer (some ⟨g77, 0, none⟩))) rfl (by kernel_rfl) ?_
    refine wl_pure (wantsY 3 85 false rfl (by kernel_rfl) rfl (by kernel_rfl)) (d := 89) (v := (.int .i64 (2))) rfl (e_load1 rfl (by kernel_rfl) (row_cell (H113.at 8 rfl) rfl (by kernel_rfl))) ?_
    refine wl_pure (wantsY 3 85 false rfl (by kernel_rfl) rfl (by kernel_rfl)) (d := 90) (v := (.bool false)) rfl (by kernel_rfl) ?_
    refine wl_pure (wants0 rfl) (d := 91) (v := (.bool false)) rfl (by kernel_rfl) ?_
    refine wl_pure (wants0 rfl) (d := 92) (v := (.bool false)) rfl (by kernel_rfl) ?_
    refine wl_pure (wantsY 10 92 false rfl (by kernel_rfl) rfl (by kernel_rfl)) (d := 93) (v := (.slice (some ⟨g77, 0, none⟩) 1 c78)) rfl (by kernel_rfl) ?_
    refine wl_pure (wantsY 10 92 false rfl (by kernel_rfl) rfl (by kernel_rfl)) (d := 94) (v := (.pointer (some ⟨g77, 0, none⟩))) rfl (e_indexAddr (E := 45) (z := 0) (o := 0) (len := 1) (sz := 35) (by kernel_rfl) (by kernel_rfl) (Nat.le_of_ble_eq_true rfl) rfl rfl (by decide) (by decide)) ?_
    refine wl_pure (wantsY 10 92 false rfl (by kernel_rfl) rfl (by kernel_rfl)) (d := 95) (v := (.pointer (some ⟨g77, 3, none⟩))) rfl (by kernel_rfl) ?_
    refine wl_pure (wantsY 10 92 false rfl (by kernel_rfl) rfl (by kernel_rfl)) (d := 96) (v := (.agg ⟨(hc hash0)⟩)) rfl (e_loadRun (vs := (hc hash0)) rfl (by kernel_rfl) (by kernel_rfl) (Nat.le_of_ble_eq_true (by kernel_rfl)) (row_run (H113.at 8 rfl) rfl (by kernel_rfl))) ?_
    refine wl_pure (wantsY 10 92 false rfl (by kernel_rfl) rfl (by kernel_rfl)) (d := 97) (v := (.agg ⟨(hc hash0)⟩)) rfl (by kernel_rfl) ?_
    refine wl_pure (wantsY 10 92 false rfl (by kernel_rfl) rfl (by kernel_rfl)) (d := 98) (v := (.bool (!(decide (hash0 = hash0))))) rfl (e_neHash hash0 hash0 rfl rfl) ?_
    refine wl_pure (wants0 rfl) (d := 99) (v := (.bool (!(decide (hash0 = hash0))))) rfl (by kernel_rfl) ?_
    refine wl_pure (wants0 rfl) (d := 100) (v := (.bool (!(decide (hash0 = hash0))))) rfl (by kernel_rfl) ?_
    have b115 : (!(decide (hash0 = hash0))) = false := by simp
    refine wl_know 100 (.bool false) (congrArg Value.bool b115) ?_
    refine wl_pure (wantsY 18 100 false rfl (by kernel_rfl) rfl (by kernel_rfl)) (d := 101) (v := (.slice a85 0 c86)) rfl (by kernel_rfl) ?_
    refine wl_pure (wantsY 18 100 false rfl (by kernel_rfl) rfl (by kernel_rfl)) (d := 102) (v := (.int .i64 (0))) rfl (by kernel_rfl) ?_
    refine wl_pure (wantsY 18 100 false rfl (by kernel_rfl) rfl (by kernel_rfl)) (d := 103) (v := (.bool false)) rfl (by kernel_rfl) ?_
    refine wl_pure (wants0 rfl) (d := 104) (v := (.bool false)) rfl (by kernel_rfl) ?_
    refine wl_pure (wants0 rfl) (d := 105) (v := (.bool false)) rfl (by kernel_rfl) ?_
    refine wl_pure (wantsY 23 105 false rfl (by kernel_rfl) rfl (by kernel_rfl)) (d := 106) (v := (.slice (some ⟨g93, 0, none⟩) 1 c94)) rfl (by kernel_rfl) ?_
    refine wl_pure (wantsY 23 105 false rfl (by kernel_rfl) rfl (by kernel_rfl)) (d := 107) (v := (.int .i64 (1))) rfl (by kernel_rfl) ?_
    refine wl_pure (wantsY 23 105 false rfl (by kernel_rfl) rfl (by kernel_rfl)) (d := 108) (v := (.bool false)) rfl (by kernel_rfl) ?_
    refine wl_pure (wants0 rfl) (d := 109) (v := (.bool false)) rfl (by kernel_rfl) ?_
    refine wl_pure (wants0 rfl) (d := 110) (v := (.bool false)) rfl (by kernel_rfl) ?_
    refine wl_pure (wantsY 28 110 false rfl (by kernel_rfl) rfl (by kernel_rfl)) (d := 111) (v := (.slice (some ⟨g93, 0, none⟩) 1 c94)) rfl (by kernel_rfl) ?_
    refine wl_pure (wantsY 28 110 false rfl (by kernel_rfl) rfl (by kernel_rfl)) (d := 112) (v := (.pointer (some ⟨g93, 0, none⟩))) rfl (e_indexAddr (E := 45) (z := 0) (o := 0) (len := 1) (sz := 35) (by kernel_rfl) (by kernel_rfl) (Nat.le_of_ble_eq_true rfl) rfl rfl (by decide) (by decide)) ?_
    refine wl_pure (wantsY 28 110 false rfl (by kernel_rfl) rfl (by kernel_rfl)) (d := 113) (v := (.pointer (some ⟨g93, 0, none⟩))) rfl (by kernel_rfl) ?_
    refine wl_pure (wantsY 28 110 false rfl (by kernel_rfl) rfl (by kernel_rfl)) (d := 114) (v := (.int .i64 (3))) rfl (e_load1 rfl (by kernel_rfl) (row_cell (H113.at 10 rfl) rfl (by kernel_rfl))) ?_
    refine wl_pure (wantsY 28 110 false rfl (by kernel_rfl) rfl (by kernel_rfl)) (d := 115) (v := (.bool false)) rfl (by kernel_rfl) ?_
    refine wl_pure (wants0 rfl) (d := 116) (v := (.bool false)) rfl (by kernel_rfl) ?_
    refine wl_pure (wants0 rfl) (d := 117) (v := (.bool false)) rfl (by kernel_rfl) ?_
    refine wl_pure (wantsY 35 117 false rfl (by kernel_rfl) rfl (by kernel_rfl)) (d := 118) (v := (.slice (some ⟨g93, 0, none⟩) 1 c94)) rfl (by kernel_rfl) ?_
    refine wl_pure (wantsY 35 117 false rfl (by kernel_rfl) rfl (by kernel_rfl)) (d := 119) (v := (.pointer (some ⟨g93, 0, none⟩))) rfl (e_indexAddr (E := 45) (z := 0) (o := 0) (len := 1) (sz := 35) (by kernel_rfl) (by kernel_rfl) (Nat.le_of_ble_eq_true rfl) rfl rfl (by decide) (by decide)) ?_
    refine wl_pure (wantsY 35 117 false rfl (by kernel_rfl) rfl (by kernel_rfl)) (d := 120) (v := (.pointer (some ⟨g93, 3, none⟩))) rfl (by kernel_rfl) ?_
    refine wl_pure (wantsY 35 117 false rfl (by kernel_rfl) rfl (by kernel_rfl)) (d := 121) (v := (.agg ⟨(hc hash0)⟩)) rfl (e_loadRun (vs := (hc hash0)) rfl (by kernel_rfl) (by kernel_rfl) (Nat.le_of_ble_eq_true (by kernel_rfl)) (row_run (H113.at 10 rfl) rfl (by kernel_rfl))) ?_
    refine wl_pure (wantsY 35 117 false rfl (by kernel_rfl) rfl (by kernel_rfl)) (d := 122) (v := (.agg ⟨(hc hash0)⟩)) rfl (by kernel_rfl) ?_
    refine wl_pure (wantsY 35 117 false rfl (by kernel_rfl) rfl (by kernel_rfl)) (d := 123) (v := (.bool (!(decide (hash0 = hash0))))) rfl (e_neHash hash0 hash0 rfl rfl) ?_
    refine wl_pure (wants0 rfl) (d := 124) (v := (.bool (!(decide (hash0 = hash0))))) rfl (by kernel_rfl) ?_
    refine wl_pure (wants0 rfl) (d := 125) (v := (.bool (!(decide (hash0 = hash0))))) rfl (by kernel_rfl) ?_
    have b116 : (!(decide (hash0 = hash0))) = false := by simp
    refine wl_know 125 (.bool false) (congrArg Value.bool b116) ?_
    refine wl_pure (wantsY 43 125 false rfl (by kernel_rfl) rfl (by kernel_rfl)) (d := 126) (v := (.slice a101 0 c102)) rfl (by kernel_rfl) ?_
    refine wl_pure (wantsY 43 125 false rfl (by kernel_rfl) rfl (by kernel_rfl)) (d := 127) (v := (.int .i64 (0))) rfl (by kernel_rfl) ?_
    refine wl_pure (wantsY 43 125 false rfl (by kernel_rfl) rfl (by kernel_rfl)) (d := 128) (v := (.bool false)) rfl (by kernel_rfl) ?_
    refine wl_pure (wants0 rfl) (d := 129) (v := (.bool false)) rfl (by kernel_rfl) ?_
    refine wl_pure (wants0 rfl) (d := 130) (v := (.bool false)) rfl (by kernel_rfl) ?_
    refine wl_pure (wantsY 48 130 false rfl (by kernel_rfl) rfl (by kernel_rfl)) (d := 131) (v := (.pointer (some ⟨b108, 1, none⟩))) rfl (by kernel_rfl) ?_
    refine wl_pure (wantsY 48 130 false rfl (by kernel_rfl) rfl (by kernel_rfl)) (d := 132) (v := (.int .i64 (D3.s.step))) rfl (e_load1 rfl (by kernel_rfl) (H113.cell 12 rfl (by kernel_rfl))) ?_
    refine wl_pure (wantsY 48 130 false rfl (by kernel_rfl) rfl (by kernel_rfl)) (d := 133) (v := (.bool (!(decide (D3.s.step = 3))))) rfl (by kernel_rfl) ?_
    refine wl_pure (wants0 rfl) (d := 134) (v := (.bool (!(decide (D3.s.step = 3))))) rfl (by kernel_rfl) ?_
    refine w_nil ?_
    refine then_normal ?_
    have b117 : (!(decide (D3.s.step = 3))) = false := by (rw [s3]; rfl)
    refine wp_know 134 (.bool false) (congrArg Value.bool b117) ?_
    refine wp_iff rfl ?_
    refine w_skip ?_
    refine then_normal ?_
    refine w_seq ?_
    refine w_lit ?_
    refine wl_pure (wants0 rfl) (d := 135) (v := (.pointer (some ⟨k23, 0, none⟩))) rfl (by kernel_rfl) ?_
    refine wl_pure (wants0 rfl) (d := 136) (v := (.agg ⟨([(.int .i64 (3)), (.int .i64 (0))] : List Value)⟩)) rfl (by kernel_rfl) ?_
    refine wl_do (wants0 rfl) (fun K118 hK118 => ?_)
    refine d_call (d := 137) rfl (by kernel_rfl) (coreTimeout_any w112 k23 t24 hb25 cb26 ab27 lb28 pb29 D3 (ok_of (by kernel_rfl) (H113.fin [2, 3, 4] (by decide) rfl)) C3 3 0) ?_
    rintro _ w120 ⟨v119, rfl, S121⟩
    rw [e8] at S121
    replace S121 := Sat.cast (G' := [cellC k23 92 (([(.int .i64 (D4.f)), (.int .i64 (D4.c)), (.int .i64 (D4.epoch)), (.int .i64 (D4.replica)), (.int .i64 (D4.s.round)), (.int .i64 (D4.s.step)), (.int .i64 (D4.s.lr)), (.int .i64 (D4.s.vr))] : List Value) ++ hc D4.s.locked ++ hc D4.s.valid ++ ([(.bool (D4.s.decided))] : List Value) ++ hc D4.s.decision ++ ([(.pointer (some ⟨t24, 0, none⟩)), (.map (some pb29)), (.bool (D4.wv)), (.bool (D4.sp)), (.bool (D4.sc))] : List Value)), talC t24 hb25 cb26 ab27 lb28 D4.f D4.c D4.L, mapC pb29 (Value.int .i64) propV D4.P, rowC 45 35 v119 1 (([(.int .i64 (4)), (.int .i64 (1)), (.int .i64 (1))] : List Value) ++ hc hash0), restC w112 (coreC k23 t24 hb25 cb26 ab27 lb28 pb29 D3).fp]) S121 (by kernel_rfl)
    have H123 : Sat w [restC w (fun _ => False), cellC b6 25 ([(.int .i64 (F)), (.int .i64 (1))] : List Value), cellC k23 92 (([(.int .i64 (D4.f)), (.int .i64 (D4.c)), (.int .i64 (D4.epoch)), (.int .i64 (D4.replica)), (.int .i64 (D4.s.round)), (.int .i64 (D4.s.step)), (.int .i64 (D4.s.lr)), (.int .i64 (D4.s.vr))] : List Value) ++ hc D4.s.locked ++ hc D4.s.valid ++ ([(.bool (D4.s.decided))] : List Value) ++ hc D4.s.decision ++ ([(.pointer (some ⟨t24, 0, none⟩)), (.map (some pb29)), (.bool (D4.wv)), (.bool (D4.sp)), (.bool (D4.sc))] : List Value)), talC t24 hb25 cb26 ab27 lb28 D4.f D4.c D4.L, mapC pb29 (Value.int .i64) propV D4.P, rowC 45 35 (.slice a37 0 c38) 0 ([]), rowC 45 35 (.slice a45 A1.length c46) A1.length (A1.flatMap encA), rowC 45 35 (.slice a59 0 c60) 0 ([]), rowC 45 35 (.slice (some ⟨g77, 0, none⟩) 1 c78) 1 (([(.int .i64 (2)), (.int .i64 (0)), (.int .i64 (-1))] : List Value) ++ hc hash0), rowC 45 35 (.slice a85 0 c86) 0 ([]), rowC 45 35 (.slice (some ⟨g93, 0, none⟩) 1 c94) 1 (([(.int .i64 (3)), (.int .i64 (0)), (.int .i64 (-1))] : List Value) ++ hc hash0), rowC 45 35 (.slice a101 0 c102) 0 ([]), cellC b108 38 (([(.int .i64 (D3.s.round)), (.int .i64 (D3.s.step)), (.int .i64 (D3.s.lr)), (.int .i64 (D3.s.vr))] : List Value) ++ hc D3.s.locked ++ hc D3.s.valid ++ ([(.bool (D3.s.decided))] : List Value) ++ hc D3.s.decision), rowC 45 35 v119 1 (([(.int .i64 (4)), (.int .i64 (1)), (.int .i64 (1))] : List Value) ++ hc hash0)] w120 := (Sat.turnL (L' := [cellC k23 92 (([(.int .i64 (D4.f)), (.int .i64 (D4.c)), (.int .i64 (D4.epoch)), (.int .i64 (D4.replica)), (.int .i64 (D4.s.round)), (.int .i64 (D4.s.step)), (.int .i64 (D4.s.lr)), (.int .i64 (D4.s.vr))] : List Value) ++ hc D4.s.locked ++ hc D4.s.valid ++ ([(.bool (D4.s.decided))] : List Value) ++ hc D4.s.decision ++ ([(.pointer (some ⟨t24, 0, none⟩)), (.map (some pb29)), (.bool (D4.wv)), (.bool (D4.sp)), (.bool (D4.sc))] : List Value)), talC t24 hb25 cb26 ab27 lb28 D4.f D4.c D4.L, mapC pb29 (Value.int .i64) propV D4.P, rowC 45 35 v119 1 (([(.int .i64 (4)), (.int .i64 (1)), (.int .i64 (1))] : List Value) ++ hc hash0)]) (R := [restC w (fun _ => False), cellC b6 25 ([(.int .i64 (F)), (.int .i64 (1))] : List Value), rowC 45 35 (.slice a37 0 c38) 0 ([]), rowC 45 35 (.slice a45 A1.length c46) A1.length (A1.flatMap encA), rowC 45 35 (.slice a59 0 c60) 0 ([]), rowC 45 35 (.slice (some ⟨g77, 0, none⟩) 1 c78) 1 (([(.int .i64 (2)), (.int .i64 (0)), (.int .i64 (-1))] : List Value) ++ hc hash0), rowC 45 35 (.slice a85 0 c86) 0 ([]), rowC 45 35 (.slice (some ⟨g93, 0, none⟩) 1 c94) 1 (([(.int .i64 (3)), (.int .i64 (0)), (.int .i64 (-1))] : List Value) ++ hc hash0), rowC 45 35 (.slice a101 0 c102) 0 ([]), cellC b108 38 (([(.int .i64 (D3.s.round)), (.int .i64 (D3.s.step)), (.int .i64 (D3.s.lr)), (.int .i64 (D3.s.vr))] : List Value) ++ hc D3.s.locked ++ hc D3.s.valid ++ ([(.bool (D3.s.decided))] : List Value) ++ hc D3.s.decision)]) H113 [2, 3, 4] [0, 1, 5, 6, 7, 8, 9, 10, 11, 12] (by decide) (by kernel_rfl) rfl S121).pick [4, 5, 0, 1, 2, 6, 7, 8, 9, 10, 11, 12, 13, 3] (by decide)
    obtain ⟨g124, c125, rfl⟩ := row_shape (H123.at 13 rfl) (Nat.le_of_ble_eq_true rfl)
    refine ⟨_, rfl, ?_⟩
    refine hK118 _ _ ?_
    clear hK118 K118
    refine wl_pure (wants0 rfl) (d := 16) (v := (.slice (some ⟨g124, 0, none⟩) 1 c125)) rfl (by kernel_rfl) ?_
    refine w_nil ?_
    refine then_normal ?_
    refine w_seq ?_
    refine w_lit ?_
    refine wl_pure (wants0 rfl) (d := 138) (v := (.slice (some ⟨g124, 0, none⟩) 1 c125)) rfl (by kernel_rfl) ?_
    refine wl_pure (wants0 rfl) (d := 139) (v := (.int .i64 (1))) rfl (by kernel_rfl) ?_
    refine wl_pure (wants0 rfl) (d := 140) (v := (.bool true)) rfl (by kernel_rfl) ?_
    refine wl_pure (wants0 rfl) (d := 141) (v := (.bool true)) rfl (by kernel_rfl) ?_
    refine wl_pure (wantsY 3 141 true rfl (by kernel_rfl) rfl (by kernel_rfl)) (d := 142) (v := (.slice (some ⟨g124, 0, none⟩) 1 c125)) rfl (by kernel_rfl) ?_
    refine wl_pure (wantsY 3 141 true rfl (by kernel_rfl) rfl (by kernel_rfl)) (d := 143) (v := (.pointer (some ⟨g124, 0, none⟩))) rfl (e_indexAddr (E := 45) (z := 0) (o := 0) (len := 1) (sz := 35) (by kernel_rfl) (by kernel_rfl) (Nat.le_of_ble_eq_true rfl) rfl rfl (by decide) (by decide)) ?_
    refine wl_pure (wantsY 3 141 true rfl (by kernel_rfl) rfl (by kernel_rfl)) (d := 144) (v := (.pointer (some ⟨g124, 1, none⟩))) rfl (by kernel_rfl) ?_
    refine wl_pure (wantsY 3 141 true rfl (by kernel_rfl) rfl (by kernel_rfl)) (d := 145) (v := (.int .i64 (1))) rfl (e_load1 rfl (by kernel_rfl) (row_cell (H123.at 13 rfl) rfl (by kernel_rfl))) ?_
    refine wl_pure (wantsY 3 141 true rfl (by kernel_rfl) rfl (by kernel_rfl)) (d := 146) (v := (.bool true)) rfl (by kernel_rfl) ?_
    refine wl_pure (wants0 rfl) (d := 147) (v := (.bool true)) rfl (by kernel_rfl) ?_
    refine wl_pure (wants0 rfl) (d := 148) (v := (.bool true)) rfl (by kernel_rfl) ?_
    refine wl_pure (wantsY 10 148 true rfl (by kernel_rfl) rfl (by kernel_rfl)) (d := 149) (v := (.pointer (some ⟨k23, 0, none⟩))) rfl (by kernel_rfl) ?_
    refine wl_do (wantsY 10 148 true rfl (by kernel_rfl) rfl (by kernel_rfl)) (fun K126 hK126 => ?_)
    refine d_call (d := 150) rfl (by kernel_rfl) (coreState_any w120 k23 t24 hb25 cb26 ab27 lb28 pb29 D4 (ok_of (by kernel_rfl) (H123.fin [2, 3, 4] (by decide) rfl)) C4) ?_
    rintro _ w127 ⟨rfl, u129⟩
    have H128 := H123.keepU u129
    refine ⟨_, rfl, ?_⟩
    refine hK126 _ _ ?_
    clear hK126 K126
    refine wl_pure (wantsY 10 148 true rfl (by kernel_rfl) rfl (by kernel_rfl)) (d := 151) (v := (.int .i64 (D4.s.round))) rfl (by kernel_rfl) ?_
    refine wl_pure (wantsY 10 148 true rfl (by kernel_rfl) rfl (by kernel_rfl)) (d := 152) (v := (.bool (decide (D4.s.round = 1)))) rfl (by kernel_rfl) ?_
    refine wl_pure (wants0 rfl) (d := 153) (v := (.bool (decide (D4.s.round = 1)))) rfl (by kernel_rfl) ?_
    refine wl_pure (wants0 rfl) (d := 154) (v := (.bool (decide (D4.s.round = 1)))) rfl (by kernel_rfl) ?_
    have b130 : (decide (D4.s.round = 1)) = true := by (rw [s4.1]; rfl)
    refine wl_know 154 (.bool true) (congrArg Value.bool b130) ?_
    refine wl_pure (wantsY 16 154 true rfl (by kernel_rfl) rfl (by kernel_rfl)) (d := 155) (v := (.pointer (some ⟨k23, 0, none⟩))) rfl (by kernel_rfl) ?_
    refine wl_do (wantsY 16 154 true rfl (by kernel_rfl) rfl (by kernel_rfl)) (fun K131 hK131 => ?_)
    refine d_call (d := 156) rfl (by kernel_rfl) (coreState_any w127 k23 t24 hb25 cb26 ab27 lb28 pb29 D4 (ok_of (by kernel_rfl) (H128.fin [2, 3, 4] (by decide) rfl)) C4) ?_
    rintro _ w132 ⟨rfl, u134⟩
    have H133 := H128.keepU u134
    refine ⟨_, rfl, ?_⟩
    refine hK131 _ _ ?_
    clear hK131 K131
    refine wl_pure (wantsY 16 154 true rfl (by kernel_rfl) rfl (by kernel_rfl)) (d := 157) (v := (.int .i64 (D4.s.step))) rfl (by kernel_rfl) ?_
    refine wl_pure (wantsY 16 154 true rfl (by kernel_rfl) rfl (by kernel_rfl)) (d := 158) (v := (.bool (decide (D4.s.step = 1)))) rfl (by kernel_rfl) ?_
    refine wl_pure (wants0 rfl) (d := 159) (v := (.bool (decide (D4.s.step = 1)))) rfl (by kernel_rfl) ?_
    refine wl_pure (wants0 rfl) (d := 160) (v := (.bool (decide (D4.s.step = 1)))) rfl (by kernel_rfl) ?_
    have b135 : (decide (D4.s.step = 1)) = true := by (rw [s4.2.1]; rfl)
    refine wl_know 160 (.bool true) (congrArg Value.bool b135) ?_
    refine wl_pure (wantsY 22 160 true rfl (by kernel_rfl) rfl (by kernel_rfl)) (d := 161) (v := (.pointer (some ⟨k23, 0, none⟩))) rfl (by kernel_rfl) ?_
    refine wl_do (wantsY 22 160 true rfl (by kernel_rfl) rfl (by kernel_rfl)) (fun K136 hK136 => ?_)
    refine d_call (d := 162) rfl (by kernel_rfl) (coreState_any w132 k23 t24 hb25 cb26 ab27 lb28 pb29 D4 (ok_of (by kernel_rfl) (H133.fin [2, 3, 4] (by decide) rfl)) C4) ?_
    rintro _ w137 ⟨rfl, u139⟩
    have H138 := H133.keepU u139
    refine ⟨_, rfl, ?_⟩
    refine hK136 _ _ ?_
    clear hK136 K136
    refine wl_pure (wantsY 22 160 true rfl (by kernel_rfl) rfl (by kernel_rfl)) (d := 163) (v := (.int .i64 (D4.s.lr))) rfl (by kernel_rfl) ?_
    refine wl_pure (wantsY 22 160 true rfl (by kernel_rfl) rfl (by kernel_rfl)) (d := 164) (v := (.bool (decide (D4.s.lr = (-1))))) rfl (by kernel_rfl) ?_
    refine wl_pure (wants0 rfl) (d := 165) (v := (.bool (decide (D4.s.lr = (-1))))) rfl (by kernel_rfl) ?_
    refine wl_pure (wants0 rfl) (d := 166) (v := (.bool (decide (D4.s.lr = (-1))))) rfl (by kernel_rfl) ?_
    have b140 : (decide (D4.s.lr = (-1))) = true := by (rw [s4.2.2]; rfl)
    refine wl_know 166 (.bool true) (congrArg Value.bool b140) ?_
    refine wl_do (wantsY 28 166 true rfl (by kernel_rfl) rfl (by kernel_rfl)) (fun K141 hK141 => ?_)
    refine d_call (d := 167) rfl (by kernel_rfl) (wakes_any w137) ?_
    rintro _ w142 ⟨rfl, u144⟩
    have H143 := H138.keepU u144
    refine ⟨_, rfl, ?_⟩
    refine hK141 _ _ ?_
    clear hK141 K141
    refine wl_pure (wants0 rfl) (d := 168) (v := (.bool true)) rfl (by kernel_rfl) ?_
    refine wl_pure (wants0 rfl) (d := 6) (v := (.bool true)) rfl (by kernel_rfl) ?_
    refine w_nil ?_
    refine then_normal ?_
    refine w_ret ?_
    refine end1 rfl (res_tmp (v := (.bool true)) rfl) ?_
    exact ⟨rfl, H143.upd 0 rfl [] (fun _ h => h.elim)⟩
  · have g145 := of_decide_eq_false b47
    refine wp_know 46 (.bool false) (congrArg Value.bool b47) ?_
    refine wp_iff rfl ?_
    refine w_skip ?_
    refine then_normal ?_
    refine w_seq ?_
    refine w_seq ?_
    refine w_lit ?_
    refine wl_pure (wants0 rfl) (d := 47) (v := (.pointer (some ⟨k23, 0, none⟩))) rfl (by kernel_rfl) ?_
    refine wl_pure (wants0 rfl) (d := 48) (v := (.int .i64 (kind))) rfl (by kernel_rfl) ?_
    refine wl_do (wants0 rfl) (fun K146 hK146 => ?_)
    refine d_call (d := 49) rfl (by kernel_rfl) (within_any w41 kind 3 (by omega)) ?_
    rintro _ w147 ⟨rfl, u149⟩
    have H148 := H44.keepU u149
    refine ⟨_, rfl, ?_⟩
    refine hK146 _ _ ?_
    clear hK146 K146
    refine wl_pure (wants0 rfl) (d := 50) (v := (.int .i64 (1 + (withinV kind 3)))) rfl (e_int (z := 1 + (withinV kind 3)) (by kernel_rfl) (IntWalk.i64_in _ (by omega))) ?_
    refine wl_pure (wants0 rfl) (d := 51) (v := (.int .i64 (round))) rfl (by kernel_rfl) ?_
    refine wl_pure (wants0 rfl) (d := 52) (v := (.agg ⟨([(.int .i64 (1 + (withinV kind 3))), (.int .i64 (round))] : List Value)⟩)) rfl (by kernel_rfl) ?_
    refine wl_do (wants0 rfl) (fun K150 hK150 => ?_)
    refine d_call (d := 53) rfl (by kernel_rfl) (coreTimeout_any w147 k23 t24 hb25 cb26 ab27 lb28 pb29 D1 (ok_of (by kernel_rfl) (H148.fin [2, 3, 4] (by decide) rfl)) C1 (1 + (withinV kind 3)) round) ?_
    rintro _ w152 ⟨v151, rfl, S153⟩
    rw [e3 _ _ (by first | decide | exact of_decide_eq_false b47)] at S153
    replace S153 := Sat.cast (G' := [cellC k23 92 (([(.int .i64 (D1.f)), (.int .i64 (D1.c)), (.int .i64 (D1.epoch)), (.int .i64 (D1.replica)), (.int .i64 (D1.s.round)), (.int .i64 (D1.s.step)), (.int .i64 (D1.s.lr)), (.int .i64 (D1.s.vr))] : List Value) ++ hc D1.s.locked ++ hc D1.s.valid ++ ([(.bool (D1.s.decided))] : List Value) ++ hc D1.s.decision ++ ([(.pointer (some ⟨t24, 0, none⟩)), (.map (some pb29)), (.bool (D1.wv)), (.bool (D1.sp)), (.bool (D1.sc))] : List Value)), talC t24 hb25 cb26 ab27 lb28 D1.f D1.c D1.L, mapC pb29 (Value.int .i64) propV D1.P, rowC 45 35 v151 0 ([]), restC w147 (coreC k23 t24 hb25 cb26 ab27 lb28 pb29 D1).fp]) S153 (by kernel_rfl)
    have H155 : Sat w [restC w (fun _ => False), cellC b6 25 ([(.int .i64 (F)), (.int .i64 (1))] : List Value), cellC k23 92 (([(.int .i64 (D1.f)), (.int .i64 (D1.c)), (.int .i64 (D1.epoch)), (.int .i64 (D1.replica)), (.int .i64 (D1.s.round)), (.int .i64 (D1.s.step)), (.int .i64 (D1.s.lr)), (.int .i64 (D1.s.vr))] : List Value) ++ hc D1.s.locked ++ hc D1.s.valid ++ ([(.bool (D1.s.decided))] : List Value) ++ hc D1.s.decision ++ ([(.pointer (some ⟨t24, 0, none⟩)), (.map (some pb29)), (.bool (D1.wv)), (.bool (D1.sp)), (.bool (D1.sc))] : List Value)), talC t24 hb25 cb26 ab27 lb28 D1.f D1.c D1.L, mapC pb29 (Value.int .i64) propV D1.P, rowC 45 35 (.slice a37 0 c38) 0 ([]), rowC 45 35 (.slice a45 A1.length c46) A1.length (A1.flatMap encA), rowC 45 35 v151 0 ([])] w152 := (Sat.turnL (L' := [cellC k23 92 (([(.int .i64 (D1.f)), (.int .i64 (D1.c)), (.int .i64 (D1.epoch)), (.int .i64 (D1.replica)), (.int .i64 (D1.s.round)), (.int .i64 (D1.s.step)), (.int .i64 (D1.s.lr)), (.int .i64 (D1.s.vr))] : List Value) ++ hc D1.s.locked ++ hc D1.s.valid ++ ([(.bool (D1.s.decided))] : List Value) ++ hc D1.s.decision ++ ([(.pointer (some ⟨t24, 0, none⟩)), (.map (some pb29)), (.bool (D1.wv)), (.bool (D1.sp)), (.bool (D1.sc))] : List Value)), talC t24 hb25 cb26 ab27 lb28 D1.f D1.c D1.L, mapC pb29 (Value.int .i64) propV D1.P, rowC 45 35 v151 0 ([])]) (R := [restC w (fun _ => False), cellC b6 25 ([(.int .i64 (F)), (.int .i64 (1))] : List Value), rowC 45 35 (.slice a37 0 c38) 0 ([]), rowC 45 35 (.slice a45 A1.length c46) A1.length (A1.flatMap encA)]) H148 [2, 3, 4] [0, 1, 5, 6] (by decide) (by kernel_rfl) rfl S153).pick [4, 5, 0, 1, 2, 6, 7, 3] (by decide)
    obtain ⟨a156, c157, rfl⟩ := ownsRow_shape (H155.at 7 rfl)
    refine ⟨_, rfl, ?_⟩
    refine hK150 _ _ ?_
    clear hK150 K150
    refine wl_pure (wants0 rfl) (d := 54) (v := (.int .i64 (0))) rfl (by kernel_rfl) ?_
    refine wl_pure (wants0 rfl) (d := 55) (v := (.bool false)) rfl (by kernel_rfl) ?_
    refine wl_pure (wants0 rfl) (d := 56) (v := (.bool false)) rfl (by kernel_rfl) ?_
    refine wl_pure (wantsY 9 56 false rfl (by kernel_rfl) rfl (by kernel_rfl)) (d := 57) (v := (.pointer (some ⟨k23, 0, none⟩))) rfl (by kernel_rfl) ?_
    refine wl_do (wantsY 9 56 false rfl (by kernel_rfl) rfl (by kernel_rfl)) (fun K158 hK158 => ?_)
    refine d_call (d := 58) rfl (by kernel_rfl) (coreState_any w152 k23 t24 hb25 cb26 ab27 lb28 pb29 D1 (ok_of (by kernel_rfl) (H155.fin [2, 3, 4] (by decide) rfl)) C1) ?_
    rintro _ w159 ⟨rfl, u161⟩
    have H160 := H155.keepU u161
    refine ⟨_, rfl, ?_⟩
    refine hK158 _ _ ?_
    clear hK158 K158
    refine wl_pure (wantsY 9 56 false rfl (by kernel_rfl) rfl (by kernel_rfl)) (d := 59) (v := (.int .i64 (D1.s.round))) rfl (by kernel_rfl) ?_
    refine wl_pure (wantsY 9 56 false rfl (by kernel_rfl) rfl (by kernel_rfl)) (d := 60) (v := (.bool (!(decide (D1.s.round = 0))))) rfl (by kernel_rfl) ?_
    refine wl_pure (wants0 rfl) (d := 61) (v := (.bool (!(decide (D1.s.round = 0))))) rfl (by kernel_rfl) ?_
    refine wl_pure (wants0 rfl) (d := 62) (v := (.bool (!(decide (D1.s.round = 0))))) rfl (by kernel_rfl) ?_
    have b162 : (!(decide (D1.s.round = 0))) = false := by (rw [s1.1]; rfl)
    refine wl_know 62 (.bool false) (congrArg Value.bool b162) ?_
    refine wl_pure (wantsY 15 62 false rfl (by kernel_rfl) rfl (by kernel_rfl)) (d := 63) (v := (.pointer (some ⟨k23, 0, none⟩))) rfl (by kernel_rfl) ?_
    refine wl_do (wantsY 15 62 false rfl (by kernel_rfl) rfl (by kernel_rfl)) (fun K163 hK163 => ?_)
    refine d_call (d := 64) rfl (by kernel_rfl) (coreState_any w159 k23 t24 hb25 cb26 ab27 lb28 pb29 D1 (ok_of (by kernel_rfl) (H160.fin [2, 3, 4] (by decide) rfl)) C1) ?_
    rintro _ w164 ⟨rfl, u166⟩
    have H165 := H160.keepU u166
    refine ⟨_, rfl, ?_⟩
    refine hK163 _ _ ?_
    clear hK163 K163
    refine wl_pure (wantsY 15 62 false rfl (by kernel_rfl) rfl (by kernel_rfl)) (d := 65) (v := (.int .i64 (D1.s.step))) rfl (by kernel_rfl) ?_
    refine wl_pure (wantsY 15 62 false rfl (by kernel_rfl) rfl (by kernel_rfl)) (d := 66) (v := (.bool (!(decide (D1.s.step = 1))))) rfl (by kernel_rfl) ?_
    refine wl_pure (wants0 rfl) (d := 67) (v := (.bool (!(decide (D1.s.step = 1))))) rfl (by kernel_rfl) ?_
    refine w_nil ?_
    refine then_normal ?_
    have b167 : (!(decide (D1.s.step = 1))) = false := by (rw [s1.2]; rfl)
    refine wp_know 67 (.bool false) (congrArg Value.bool b167) ?_
    refine wp_iff rfl ?_
    refine w_skip ?_
    refine then_normal ?_
    refine w_seq ?_
    refine w_lit ?_
    refine wl_pure (wants0 rfl) (d := 68) (v := (.pointer (some ⟨k23, 0, none⟩))) rfl (by kernel_rfl) ?_
    refine wl_pure (wants0 rfl) (d := 69) (v := (.agg ⟨([(.int .i64 (1)), (.int .i64 (0))] : List Value)⟩)) rfl (by kernel_rfl) ?_
    refine wl_do (wants0 rfl) (fun K168 hK168 => ?_)
    refine d_call (d := 70) rfl (by kernel_rfl) (coreTimeout_any w164 k23 t24 hb25 cb26 ab27 lb28 pb29 D1 (ok_of (by kernel_rfl) (H165.fin [2, 3, 4] (by decide) rfl)) C1 1 0) ?_
    rintro _ w170 ⟨v169, rfl, S171⟩
    rw [e4] at S171
    replace S171 := Sat.cast (G' := [cellC k23 92 (([(.int .i64 (D2.f)), (.int .i64 (D2.c)), (.int .i64 (D2.epoch)), (.int .i64 (D2.replica)), (.int .i64 (D2.s.round)), (.int .i64 (D2.s.step)), (.int .i64 (D2.s.lr)), (.int .i64 (D2.s.vr))] : List Value) ++ hc D2.s.locked ++ hc D2.s.valid ++ ([(.bool (D2.s.decided))] : List Value) ++ hc D2.s.decision ++ ([(.pointer (some ⟨t24, 0, none⟩)), (.map (some pb29)), (.bool (D2.wv)), (.bool (D2.sp)), (.bool (D2.sc))] : List Value)), talC t24 hb25 cb26 ab27 lb28 D2.f D2.c D2.L, mapC pb29 (Value.int .i64) propV D2.P, rowC 45 35 v169 1 (([(.int .i64 (2)), (.int .i64 (0)), (.int .i64 (-1))] : List Value) ++ hc hash0), restC w164 (coreC k23 t24 hb25 cb26 ab27 lb28 pb29 D1).fp]) S171 (by kernel_rfl)
    have H173 : Sat w [restC w (fun _ => False), cellC b6 25 ([(.int .i64 (F)), (.int .i64 (1))] : List Value), cellC k23 92 (([(.int .i64 (D2.f)), (.int .i64 (D2.c)), (.int .i64 (D2.epoch)), (.int .i64 (D2.replica)), (.int .i64 (D2.s.round)), (.int .i64 (D2.s.step)), (.int .i64 (D2.s.lr)), (.int .i64 (D2.s.vr))] : List Value) ++ hc D2.s.locked ++ hc D2.s.valid ++ ([(.bool (D2.s.decided))] : List Value) ++ hc D2.s.decision ++ ([(.pointer (some ⟨t24, 0, none⟩)), (.map (some pb29)), (.bool (D2.wv)), (.bool (D2.sp)), (.bool (D2.sc))] : List Value)), talC t24 hb25 cb26 ab27 lb28 D2.f D2.c D2.L, mapC pb29 (Value.int .i64) propV D2.P, rowC 45 35 (.slice a37 0 c38) 0 ([]), rowC 45 35 (.slice a45 A1.length c46) A1.length (A1.flatMap encA), rowC 45 35 (.slice a156 0 c157) 0 ([]), rowC 45 35 v169 1 (([(.int .i64 (2)), (.int .i64 (0)), (.int .i64 (-1))] : List Value) ++ hc hash0)] w170 := (Sat.turnL (L' := [cellC k23 92 (([(.int .i64 (D2.f)), (.int .i64 (D2.c)), (.int .i64 (D2.epoch)), (.int .i64 (D2.replica)), (.int .i64 (D2.s.round)), (.int .i64 (D2.s.step)), (.int .i64 (D2.s.lr)), (.int .i64 (D2.s.vr))] : List Value) ++ hc D2.s.locked ++ hc D2.s.valid ++ ([(.bool (D2.s.decided))] : List Value) ++ hc D2.s.decision ++ ([(.pointer (some ⟨t24, 0, none⟩)), (.map (some pb29)), (.bool (D2.wv)), (.bool (D2.sp)), (.bool (D2.sc))] : List Value)), talC t24 hb25 cb26 ab27 lb28 D2.f D2.c D2.L, mapC pb29 (Value.int .i64) propV D2.P, rowC 45 35 v169 1 (([(.int .i64 (2)), (.int .i64 (0)), (.int .i64 (-1))] : List Value) ++ hc hash0)]) (R := [restC w (fun _ => False), cellC b6 25 ([(.int .i64 (F)), (.int .i64 (1))] : List Value), rowC 45 35 (.slice a37 0 c38) 0 ([]), rowC 45 35 (.slice a45 A1.length c46) A1.length (A1.flatMap encA), rowC 45 35 (.slice a156 0 c157) 0 ([])]) H165 [2, 3, 4] [0, 1, 5, 6, 7] (by decide) (by kernel_rfl) rfl S171).pick [4, 5, 0, 1, 2, 6, 7, 8, 3] (by decide)
    obtain ⟨g174, c175, rfl⟩ := row_shape (H173.at 8 rfl) (Nat.le_of_ble_eq_true rfl)
    refine ⟨_, rfl, ?_⟩
    refine hK168 _ _ ?_
    clear hK168 K168
    refine wl_pure (wants0 rfl) (d := 11) (v := (.slice (some ⟨g174, 0, none⟩) 1 c175)) rfl (by kernel_rfl) ?_
    refine w_nil ?_
    refine then_normal ?_
    refine w_seq ?_
    refine w_lit ?_
    refine wl_pure (wants0 rfl) (d := 71) (v := (.pointer (some ⟨k23, 0, none⟩))) rfl (by kernel_rfl) ?_
    refine wl_pure (wants0 rfl) (d := 72) (v := (.agg ⟨([(.int .i64 (1)), (.int .i64 (0))] : List Value)⟩)) rfl (by kernel_rfl) ?_
    refine wl_do (wants0 rfl) (fun K176 hK176 => ?_)
    refine d_call (d := 73) rfl (by kernel_rfl) (coreTimeout_any w170 k23 t24 hb25 cb26 ab27 lb28 pb29 D2 (ok_of (by kernel_rfl) (H173.fin [2, 3, 4] (by decide) rfl)) C2 1 0) ?_
    rintro _ w178 ⟨v177, rfl, S179⟩
    rw [e5] at S179
    replace S179 := Sat.cast (G' := [cellC k23 92 (([(.int .i64 (D2.f)), (.int .i64 (D2.c)), (.int .i64 (D2.epoch)), (.int .i64 (D2.replica)), (.int .i64 (D2.s.round)), (.int .i64 (D2.s.step)), (.int .i64 (D2.s.lr)), (.int .i64 (D2.s.vr))] : List Value) ++ hc D2.s.locked ++ hc D2.s.valid ++ ([(.bool (D2.s.decided))] : List Value) ++ hc D2.s.decision ++ ([(.pointer (some ⟨t24, 0, none⟩)), (.map (some pb29)), (.bool (D2.wv)), (.bool (D2.sp)), (.bool (D2.sc))] : List Value)), talC t24 hb25 cb26 ab27 lb28 D2.f D2.c D2.L, mapC pb29 (Value.int .i64) propV D2.P, rowC 45 35 v177 0 ([]), restC w170 (coreC k23 t24 hb25 cb26 ab27 lb28 pb29 D2).fp]) S179 (by kernel_rfl)
    have H181 : Sat w [restC w (fun _ => False), cellC b6 25 ([(.int .i64 (F)), (.int .i64 (1))] : List Value), cellC k23 92 (([(.int .i64 (D2.f)), (.int .i64 (D2.c)), (.int .i64 (D2.epoch)), (.int .i64 (D2.replica)), (.int .i64 (D2.s.round)), (.int .i64 (D2.s.step)), (.int .i64 (D2.s.lr)), (.int .i64 (D2.s.vr))] : List Value) ++ hc D2.s.locked ++ hc D2.s.valid ++ ([(.bool (D2.s.decided))] : List Value) ++ hc D2.s.decision ++ ([(.pointer (some ⟨t24, 0, none⟩)), (.map (some pb29)), (.bool (D2.wv)), (.bool (D2.sp)), (.bool (D2.sc))] : List Value)), talC t24 hb25 cb26 ab27 lb28 D2.f D2.c D2.L, mapC pb29 (Value.int .i64) propV D2.P, rowC 45 35 (.slice a37 0 c38) 0 ([]), rowC 45 35 (.slice a45 A1.length c46) A1.length (A1.flatMap encA), rowC 45 35 (.slice a156 0 c157) 0 ([]), rowC 45 35 (.slice (some ⟨g174, 0, none⟩) 1 c175) 1 (([(.int .i64 (2)), (.int .i64 (0)), (.int .i64 (-1))] : List Value) ++ hc hash0), rowC 45 35 v177 0 ([])] w178 := (Sat.turnL (L' := [cellC k23 92 (([(.int .i64 (D2.f)), (.int .i64 (D2.c)), (.int .i64 (D2.epoch)), (.int .i64 (D2.replica)), (.int .i64 (D2.s.round)), (.int .i64 (D2.s.step)), (.int .i64 (D2.s.lr)), (.int .i64 (D2.s.vr))] : List Value) ++ hc D2.s.locked ++ hc D2.s.valid ++ ([(.bool (D2.s.decided))] : List Value) ++ hc D2.s.decision ++ ([(.pointer (some ⟨t24, 0, none⟩)), (.map (some pb29)), (.bool (D2.wv)), (.bool (D2.sp)), (.bool (D2.sc))] : List Value)), talC t24 hb25 cb26 ab27 lb28 D2.f D2.c D2.L, mapC pb29 (Value.int .i64) propV D2.P, rowC 45 35 v177 0 ([])]) (R := [restC w (fun _ => False), cellC b6 25 ([(.int .i64 (F)), (.int .i64 (1))] : List Value), rowC 45 35 (.slice a37 0 c38) 0 ([]), rowC 45 35 (.slice a45 A1.length c46) A1.length (A1.flatMap encA), rowC 45 35 (.slice a156 0 c157) 0 ([]), rowC 45 35 (.slice (some ⟨g174, 0, none⟩) 1 c175) 1 (([(.int .i64 (2)), (.int .i64 (0)), (.int .i64 (-1))] : List Value) ++ hc hash0)]) H173 [2, 3, 4] [0, 1, 5, 6, 7, 8] (by decide) (by kernel_rfl) rfl S179).pick [4, 5, 0, 1, 2, 6, 7, 8, 9, 3] (by decide)
    obtain ⟨a182, c183, rfl⟩ := ownsRow_shape (H181.at 9 rfl)
    refine ⟨_, rfl, ?_⟩
    refine hK176 _ _ ?_
    clear hK176 K176
    refine wl_pure (wants0 rfl) (d := 12) (v := (.slice a182 0 c183)) rfl (by kernel_rfl) ?_
    refine w_nil ?_
    refine then_normal ?_
    refine w_seq ?_
    refine w_lit ?_
    refine wl_pure (wants0 rfl) (d := 74) (v := (.pointer (some ⟨k23, 0, none⟩))) rfl (by kernel_rfl) ?_
    refine wl_pure (wants0 rfl) (d := 75) (v := (.agg ⟨([(.int .i64 (2)), (.int .i64 (0))] : List Value)⟩)) rfl (by kernel_rfl) ?_
    refine wl_do (wants0 rfl) (fun K184 hK184 => ?_)
    refine d_call (d := 76) rfl (by kernel_rfl) (coreTimeout_any w178 k23 t24 hb25 cb26 ab27 lb28 pb29 D2 (ok_of (by kernel_rfl) (H181.fin [2, 3, 4] (by decide) rfl)) C2 2 0) ?_
    rintro _ w186 ⟨v185, rfl, S187⟩
    rw [e6] at S187
    replace S187 := Sat.cast (G' := [cellC k23 92 (([(.int .i64 (D3.f)), (.int .i64 (D3.c)), (.int .i64 (D3.epoch)), (.int .i64 (D3.replica)), (.int .i64 (D3.s.round)), (.int .i64 (D3.s.step)), (.int .i64 (D3.s.lr)), (.int .i64 (D3.s.vr))] : List Value) ++ hc D3.s.locked ++ hc D3.s.valid ++ ([(.bool (D3.s.decided))] : List Value) ++ hc D3.s.decision ++ ([(.pointer (some ⟨t24, 0, none⟩)), (.map (some pb29)), (.bool (D3.wv)), (.bool (D3.sp)), (.bool (D3.sc))] : List Value)), talC t24 hb25 cb26 ab27 lb28 D3.f D3.c D3.L, mapC pb29 (Value.int .i64) propV D3.P, rowC 45 35 v185 1 (([(.int .i64 (3)), (.int .i64 (0)), (.int .i64 (-1))] : List Value) ++ hc hash0), restC w178 (coreC k23 t24 hb25 cb26 ab27 lb28 pb29 D2).fp]) S187 (by kernel_rfl)
    have H189 : Sat w [restC w (fun _ => False), cellC b6 25 ([(.int .i64 (F)), (.int .i64 (1))] : List Value), cellC k23 92 (([(.int .i64 (D3.f)), (.int .i64 (D3.c)), (.int .i64 (D3.epoch)), (.int .i64 (D3.replica)), (.int .i64 (D3.s.round)), (.int .i64 (D3.s.step)), (.int .i64 (D3.s.lr)), (.int .i64 (D3.s.vr))] : List Value) ++ hc D3.s.locked ++ hc D3.s.valid ++ ([(.bool (D3.s.decided))] : List Value) ++ hc D3.s.decision ++ ([(.pointer (some ⟨t24, 0, none⟩)), (.map (some pb29)), (.bool (D3.wv)), (.bool (D3.sp)), (.bool (D3.sc))] : List Value)), talC t24 hb25 cb26 ab27 lb28 D3.f D3.c D3.L, mapC pb29 (Value.int .i64) propV D3.P, rowC 45 35 (.slice a37 0 c38) 0 ([]), rowC 45 35 (.slice a45 A1.length c46) A1.length (A1.flatMap encA), rowC 45 35 (.slice a156 0 c157) 0 ([]), rowC 45 35 (.slice (some ⟨g174, 0, none⟩) 1 c175) 1 (([(.int .i64 (2)), (.int .i64 (0)), (.int .i64 (-1))] : List Value) ++ hc hash0), rowC 45 35 (.slice a182 0 c183) 0 ([]), rowC 45 35 v185 1 (([(.int .i64 (3)), (.int .i64 (0)), (.int .i64 (-1))] : List Value) ++ hc hash0)] w186 := (Sat.turnL (L' := [cellC k23 92 (([(.int .i64 (D3.f)), (.int .i64 (D3.c)), (.int .i64 (D3.epoch)), (.int .i64 (D3.replica)), (.int .i64 (D3.s.round)), (.int .i64 (D3.s.step)), (.int .i64 (D3.s.lr)), (.int .i64 (D3.s.vr))] : List Value) ++ hc D3.s.locked ++ hc D3.s.valid ++ ([(.bool (D3.s.decided))] : List Value) ++ hc D3.s.decision ++ ([(.pointer (some ⟨t24, 0, none⟩)), (.map (some pb29)), (.bool (D3.wv)), (.bool (D3.sp)), (.bool (D3.sc))] : List Value)), talC t24 hb25 cb26 ab27 lb28 D3.f D3.c D3.L, mapC pb29 (Value.int .i64) propV D3.P, rowC 45 35 v185 1 (([(.int .i64 (3)), (.int .i64 (0)), (.int .i64 (-1))] : List Value) ++ hc hash0)]) (R := [restC w (fun _ => False), cellC b6 25 ([(.int .i64 (F)), (.int .i64 (1))] : List Value), rowC 45 35 (.slice a37 0 c38) 0 ([]), rowC 45 35 (.slice a45 A1.length c46) A1.length (A1.flatMap encA), rowC 45 35 (.slice a156 0 c157) 0 ([]), rowC 45 35 (.slice (some ⟨g174, 0, none⟩) 1 c175) 1 (([(.int .i64 (2)), (.int .i64 (0)), (.int .i64 (-1))] : List Value) ++ hc hash0), rowC 45 35 (.slice a182 0 c183) 0 ([])]) H181 [2, 3, 4] [0, 1, 5, 6, 7, 8, 9] (by decide) (by kernel_rfl) rfl S187).pick [4, 5, 0, 1, 2, 6, 7, 8, 9, 10, 3] (by decide)
    obtain ⟨g190, c191, rfl⟩ := row_shape (H189.at 10 rfl) (Nat.le_of_ble_eq_true rfl)
    refine ⟨_, rfl, ?_⟩
    refine hK184 _ _ ?_
    clear hK184 K184
    refine wl_pure (wants0 rfl) (d := 13) (v := (.slice (some ⟨g190, 0, none⟩) 1 c191)) rfl (by kernel_rfl) ?_
    refine w_nil ?_
    refine then_normal ?_
    refine w_seq ?_
    refine w_lit ?_
    refine wl_pure (wants0 rfl) (d := 77) (v := (.pointer (some ⟨k23, 0, none⟩))) rfl (by kernel_rfl) ?_
    refine wl_pure (wants0 rfl) (d := 78) (v := (.agg ⟨([(.int .i64 (2)), (.int .i64 (0))] : List Value)⟩)) rfl (by kernel_rfl) ?_
    refine wl_do (wants0 rfl) (fun K192 hK192 => ?_)
    refine d_call (d := 79) rfl (by kernel_rfl) (coreTimeout_any w186 k23 t24 hb25 cb26 ab27 lb28 pb29 D3 (ok_of (by kernel_rfl) (H189.fin [2, 3, 4] (by decide) rfl)) C3 2 0) ?_
    rintro _ w194 ⟨v193, rfl, S195⟩
    rw [e7] at S195
    replace S195 := Sat.cast (G' := [cellC k23 92 (([(.int .i64 (D3.f)), (.int .i64 (D3.c)), (.int .i64 (D3.epoch)), (.int .i64 (D3.replica)), (.int .i64 (D3.s.round)), (.int .i64 (D3.s.step)), (.int .i64 (D3.s.lr)), (.int .i64 (D3.s.vr))] : List Value) ++ hc D3.s.locked ++ hc D3.s.valid ++ ([(.bool (D3.s.decided))] : List Value) ++ hc D3.s.decision ++ ([(.pointer (some ⟨t24, 0, none⟩)), (.map (some pb29)), (.bool (D3.wv)), (.bool (D3.sp)), (.bool (D3.sc))] : List Value)), talC t24 hb25 cb26 ab27 lb28 D3.f D3.c D3.L, mapC pb29 (Value.int .i64) propV D3.P, rowC 45 35 v193 0 ([]), restC w186 (coreC k23 t24 hb25 cb26 ab27 lb28 pb29 D3).fp]) S195 (by kernel_rfl)
    have H197 : Sat w [restC w (fun _ => False), cellC b6 25 ([(.int .i64 (F)), (.int .i64 (1))] : List Value), cellC k23 92 (([(.int .i64 (D3.f)), (.int .i64 (D3.c)), (.int .i64 (D3.epoch)), (.int .i64 (D3.replica)), (.int .i64 (D3.s.round)), (.int .i64 (D3.s.step)), (.int .i64 (D3.s.lr)), (.int .i64 (D3.s.vr))] : List Value) ++ hc D3.s.locked ++ hc D3.s.valid ++ ([(.bool (D3.s.decided))] : List Value) ++ hc D3.s.decision ++ ([(.pointer (some ⟨t24, 0, none⟩)), (.map (some pb29)), (.bool (D3.wv)), (.bool (D3.sp)), (.bool (D3.sc))] : List Value)), talC t24 hb25 cb26 ab27 lb28 D3.f D3.c D3.L, mapC pb29 (Value.int .i64) propV D3.P, rowC 45 35 (.slice a37 0 c38) 0 ([]), rowC 45 35 (.slice a45 A1.length c46) A1.length (A1.flatMap encA), rowC 45 35 (.slice a156 0 c157) 0 ([]), rowC 45 35 (.slice (some ⟨g174, 0, none⟩) 1 c175) 1 (([(.int .i64 (2)), (.int .i64 (0)), (.int .i64 (-1))] : List Value) ++ hc hash0), rowC 45 35 (.slice a182 0 c183) 0 ([]), rowC 45 35 (.slice (some ⟨g190, 0, none⟩) 1 c191) 1 (([(.int .i64 (3)), (.int .i64 (0)), (.int .i64 (-1))] : List Value) ++ hc hash0), rowC 45 35 v193 0 ([])] w194 := (Sat.turnL (L' := [cellC k23 92 (([(.int .i64 (D3.f)), (.int .i64 (D3.c)), (.int .i64 (D3.epoch)), (.int .i64 (D3.replica)), (.int .i64 (D3.s.round)), (.int .i64 (D3.s.step)), (.int .i64 (D3.s.lr)), (.int .i64 (D3.s.vr))] : List Value) ++ hc D3.s.locked ++ hc D3.s.valid ++ ([(.bool (D3.s.decided))] : List Value) ++ hc D3.s.decision ++ ([(.pointer (some ⟨t24, 0, none⟩)), (.map (some pb29)), (.bool (D3.wv)), (.bool (D3.sp)), (.bool (D3.sc))] : List Value)), talC t24 hb25 cb26 ab27 lb28 D3.f D3.c D3.L, mapC pb29 (Value.int .i64) propV D3.P, rowC 45 35 v193 0 ([])]) (R := [restC w (fun _ => False), cellC b6 25 ([(.int .i64 (F)), (.int .i64 (1))] : List Value), rowC 45 35 (.slice a37 0 c38) 0 ([]), rowC 45 35 (.slice a45 A1.length c46) A1.length (A1.flatMap encA), rowC 45 35 (.slice a156 0 c157) 0 ([]), rowC 45 35 (.slice (some ⟨g174, 0, none⟩) 1 c175) 1 (([(.int .i64 (2)), (.int .i64 (0)), (.int .i64 (-1))] : List Value) ++ hc hash0), rowC 45 35 (.slice a182 0 c183) 0 ([]), rowC 45 35 (.slice (some ⟨g190, 0, none⟩) 1 c191) 1 (([(.int .i64 (3)), (.int .i64 (0)), (.int .i64 (-1))] : List Value) ++ hc hash0)]) H189 [2, 3, 4] [0, 1, 5, 6, 7, 8, 9, 10] (by decide) (by kernel_rfl) rfl S195).pick [4, 5, 0, 1, 2, 6, 7, 8, 9, 10, 11, 3] (by decide)
    obtain ⟨a198, c199, rfl⟩ := ownsRow_shape (H197.at 11 rfl)
    refine ⟨_, rfl, ?_⟩
    refine hK192 _ _ ?_
    clear hK192 K192
    refine wl_pure (wants0 rfl) (d := 14) (v := (.slice a198 0 c199)) rfl (by kernel_rfl) ?_
    refine w_nil ?_
    refine then_normal ?_
    refine w_seq ?_
    refine w_lit ?_
    refine wl_pure (wants0 rfl) (d := 80) (v := (.pointer (some ⟨k23, 0, none⟩))) rfl (by kernel_rfl) ?_
    refine wl_do (wants0 rfl) (fun K200 hK200 => ?_)
    refine d_call (d := 81) rfl (by kernel_rfl) (coreState_any w194 k23 t24 hb25 cb26 ab27 lb28 pb29 D3 (ok_of (by kernel_rfl) (H197.fin [2, 3, 4] (by decide) rfl)) C3) ?_
    rintro _ w201 ⟨rfl, u203⟩
    have H202 := H197.keepU u203
    refine ⟨_, rfl, ?_⟩
    refine hK200 _ _ ?_
    clear hK200 K200
    refine wl_do (wants0 rfl) (fun K204 hK204 => ?_)
    refine d_alloc (zs := (([(.int .i64 (0)), (.int .i64 (0)), (.int .i64 (0)), (.int .i64 (0))] : List Value) ++ hc hash0 ++ hc hash0 ++ ([(.bool false)] : List Value) ++ hc hash0)) (z := (.agg ⟨(([(.int .i64 (0)), (.int .i64 (0)), (.int .i64 (0)), (.int .i64 (0))] : List Value) ++ hc hash0 ++ hc hash0 ++ ([(.bool false)] : List Value) ++ hc hash0)⟩)) rfl H202 (by kernel_rfl) (by kernel_rfl) ?_
    intro b205 w206 (H207 : Sat w [restC w (fun _ => False), cellC b6 25 ([(.int .i64 (F)), (.int .i64 (1))] : List Value), cellC k23 92 (([(.int .i64 (D3.f)), (.int .i64 (D3.c)), (.int .i64 (D3.epoch)), (.int .i64 (D3.replica)), (.int .i64 (D3.s.round)), (.int .i64 (D3.s.step)), (.int .i64 (D3.s.lr)), (.int .i64 (D3.s.vr))] : List Value) ++ hc D3.s.locked ++ hc D3.s.valid ++ ([(.bool (D3.s.decided))] : List Value) ++ hc D3.s.decision ++ ([(.pointer (some ⟨t24, 0, none⟩)), (.map (some pb29)), (.bool (D3.wv)), (.bool (D3.sp)), (.bool (D3.sc))] : List Value)), talC t24 hb25 cb26 ab27 lb28 D3.f D3.c D3.L, mapC pb29 (Value.int .i64) propV D3.P, rowC 45 35 (.slice a37 0 c38) 0 ([]), rowC 45 35 (.slice a45 A1.length c46) A1.length (A1.flatMap encA), rowC 45 35 (.slice a156 0 c157) 0 ([]), rowC 45 35 (.slice (some ⟨g174, 0, none⟩) 1 c175) 1 (([(.int .i64 (2)), (.int .i64 (0)), (.int .i64 (-1))] : List Value) ++ hc hash0), rowC 45 35 (.slice a182 0 c183) 0 ([]), rowC 45 35 (.slice (some ⟨g190, 0, none⟩) 1 c191) 1 (([(.int .i64 (3)), (.int .i64 (0)), (.int .i64 (-1))] : List Value) ++ hc hash0), rowC 45 35 (.slice a198 0 c199) 0 ([]), cellC b205 38 (([(.int .i64 (0)), (.int .i64 (0)), (.int .i64 (0)), (.int .i64 (0))] : List Value) ++ hc hash0 ++ hc hash0 ++ ([(.bool false)] : List Value) ++ hc hash0)] w206)
    refine hK204 _ _ ?_
    clear hK204 K204
    refine wl_do (wants0 rfl) (fun K208 hK208 => ?_)
    refine d_storeX (vs := (([(.int .i64 (D3.s.round)), (.int .i64 (D3.s.step)), (.int .i64 (D3.s.lr)), (.int .i64 (D3.s.vr))] : List Value) ++ hc D3.s.locked ++ hc D3.s.valid ++ ([(.bool (D3.s.decided))] : List Value) ++ hc D3.s.decision)) (cs' := (([(.int .i64 (D3.s.round)), (.int .i64 (D3.s.step)), (.int .i64 (D3.s.lr)), (.int .i64 (D3.s.vr))] : List Value) ++ hc D3.s.locked ++ hc D3.s.valid ++ ([(.bool (D3.s.decided))] : List Value) ++ hc D3.s.decision)) rfl H207 12 rfl rfl rfl rfl (by kernel_rfl) (Nat.le_of_ble_eq_true (by kernel_rfl)) (Nat.le_of_ble_eq_true (by kernel_rfl)) (by kernel_rfl) (by kernel_rfl) ?_
    intro w209 (H210 : Sat w [restC w (fun _ => False), cellC b6 25 ([(.int .i64 (F)), (.int .i64 (1))] : List Value), cellC k23 92 (([(.int .i64 (D3.f)), (.int .i64 (D3.c)), (.int .i64 (D3.epoch)), (.int .i64 (D3.replica)), (.int .i64 (D3.s.round)), (.int .i64 (D3.s.step)), (.int .i64 (D3.s.lr)), (.int .i64 (D3.s.vr))] : List Value) ++ hc D3.s.locked ++ hc D3.s.valid ++ ([(.bool (D3.s.decided))] : List Value) ++ hc D3.s.decision ++ ([(.pointer (some ⟨t24, 0, none⟩)), (.map (some pb29)), (.bool (D3.wv)), (.bool (D3.sp)), (.bool (D3.sc))] : List Value)), talC t24 hb25 cb26 ab27 lb28 D3.f D3.c D3.L, mapC pb29 (Value.int .i64) propV D3.P, rowC 45 35 (.slice a37 0 c38) 0 ([]), rowC 45 35 (.slice a45 A1.length c46) A1.length (A1.flatMap encA), rowC 45 35 (.slice a156 0 c157) 0 ([]), rowC 45 35 (.slice (some ⟨g174, 0, none⟩) 1 c175) 1 (([(.int .i64 (2)), (.int .i64 (0)), (.int .i64 (-1))] : List Value) ++ hc hash0), rowC 45 35 (.slice a182 0 c183) 0 ([]), rowC 45 35 (.slice (some ⟨g190, 0, none⟩) 1 c191) 1 (([(.int .i64 (3)), (.int .i64 (0)), (.int .i64 (-1))] : List Value) ++ hc hash0), rowC 45 35 (.slice a198 0 c199) 0 ([]), cellC b205 38 (([(.int .i64 (D3.s.round)), (.int .i64 (D3.s.step)), (.int .i64 (D3.s.lr)), (.int .i64 (D3.s.vr))] : List Value) ++ hc D3.s.locked ++ hc D3.s.valid ++ ([(.bool (D3.s.decided))] : List Value) ++ hc D3.s.decision)] w209)
    refine hK208 _ _ ?_
    clear hK208 K208
    refine w_nil ?_
    refine then_normal ?_
    refine w_seq ?_
    refine w_seq ?_
    refine w_lit ?_
    refine wl_pure (wants0 rfl) (d := 82) (v := (.slice (some ⟨g174, 0, none⟩) 1 c175)) rfl (by kernel_rfl) ?_
    refine wl_pure (wants0 rfl) (d := 83) (v := (.int .i64 (1))) rfl (by kernel_rfl) ?_
    refine wl_pure (wants0 rfl) (d := 84) (v := (.bool false)) rfl (by kernel_rfl) ?_
    refine wl_pure (wants0 rfl) (d := 85) (v := (.bool false)) rfl (by kernel_rfl) ?_
    refine wl_pure (wantsY 3 85 false rfl (by kernel_rfl) rfl (by kernel_rfl)) (d := 86) (v := (.slice (some ⟨g174, 0, none⟩) 1 c175)) rfl (by kernel_rfl) ?_
    refine wl_pure (wantsY 3 85 false rfl (by kernel_rfl) rfl (by kernel_rfl)) (d := 87) (v := (.pointer (some ⟨g174, 0, none⟩))) rfl (e_indexAddr (E := 45) (z := 0) (o := 0) (len := 1) (sz := 35) (by kernel_rfl) (by kernel_rfl) (Nat.le_of_ble_eq_true rfl) rfl rfl (by decide) (by decide)) ?_
    refine wl_pure (wantsY 3 85 false rfl (by kernel_rfl) rfl (by kernel_rfl)) (d := 88) (v := (.pointer (some ⟨g174, 0, none⟩))) rfl (by kernel_rfl) ?_
    refine wl_pure (wantsY 3 85 false rfl (by kernel_rfl) rfl (by kernel_rfl)) (d := 89) (v := (.int .i64 (2))) rfl (e_load1 rfl (by kernel_rfl) (row_cell (H210.at 8 rfl) rfl (by kernel_rfl))) ?_
    refine wl_pure (wantsY 3 85 false rfl (by kernel_rfl) rfl (by kernel_rfl)) (d := 90) (v := (.bool false)) rfl (by kernel_rfl) ?_
    refine wl_pure (wants0 rfl) (d := 91) (v := (.bool false)) rfl (by kernel_rfl) ?_
    refine wl_pure (wants0 rfl) (d := 92) (v := (.bool false)) rfl (by kernel_rfl) ?_
    refine wl_pure (wantsY 10 92 false rfl (by kernel_rfl) rfl (by kernel_rfl)) (d := 93) (v := (.slice (some ⟨g174, 0, none⟩) 1 c175)) rfl (by kernel_rfl) ?_
    refine wl_pure (wantsY 10 92 false rfl (by kernel_rfl) rfl (by kernel_rfl)) (d := 94) (v := (.pointer (some ⟨g174, 0, none⟩))) rfl (e_indexAddr (E := 45) (z := 0) (o := 0) (len := 1) (sz := 35) (by kernel_rfl) (by kernel_rfl) (Nat.le_of_ble_eq_true rfl) rfl rfl (by decide) (by decide)) ?_
    refine wl_pure (wantsY 10 92 false rfl (by kernel_rfl) rfl (by kernel_rfl)) (d := 95) (v := (.pointer (some ⟨g174, 3, none⟩))) rfl (by kernel_rfl) ?_
    refine wl_pure (wantsY 10 92 false rfl (by kernel_rfl) rfl (by kernel_rfl)) (d := 96) (v := (.agg ⟨(hc hash0)⟩)) rfl (e_loadRun (vs := (hc hash0)) rfl (by kernel_rfl) (by kernel_rfl) (Nat.le_of_ble_eq_true (by kernel_rfl)) (row_run (H210.at 8 rfl) rfl (by kernel_rfl))) ?_
    refine wl_pure (wantsY 10 92 false rfl (by kernel_rfl) rfl (by kernel_rfl)) (d := 97) (v := (.agg ⟨(hc hash0)⟩)) rfl (by kernel_rfl) ?_
    refine wl_pure (wantsY 10 92 false rfl (by kernel_rfl) rfl (by kernel_rfl)) (d := 98) (v := (.bool (!(decide (hash0 = hash0))))) rfl (e_neHash hash0 hash0 rfl rfl) ?_
    refine wl_pure (wants0 rfl) (d := 99) (v := (.bool (!(decide (hash0 = hash0))))) rfl (by kernel_rfl) ?_
    refine wl_pure (wants0 rfl) (d := 100) (v := (.bool (!(decide (hash0 = hash0))))) rfl (by kernel_rfl) ?_
    have b212 : (!(decide (hash0 = hash0))) = false := by simp
    refine wl_know 100 (.bool false) (congrArg Value.bool b212) ?_
    refine wl_pure (wantsY 18 100 false rfl (by kernel_rfl) rfl (by kernel_rfl)) (d := 101) (v := (.slice a182 0 c183)) rfl (by kernel_rfl) ?_
    refine wl_pure (wantsY 18 100 false rfl (by kernel_rfl) rfl (by kernel_rfl)) (d := 102) (v := (.int .i64 (0))) rfl (by kernel_rfl) ?_
    refine wl_pure (wantsY 18 100 false rfl (by kernel_rfl) rfl (by kernel_rfl)) (d := 103) (v := (.bool false)) rfl (by kernel_rfl) ?_
    refine wl_pure (wants0 rfl) (d := 104) (v := (.bool false)) rfl (by kernel_rfl) ?_
    refine wl_pure (wants0 rfl) (d := 105) (v := (.bool false)) rfl (by kernel_rfl) ?_
    refine wl_pure (wantsY 23 105 false rfl (by kernel_rfl) rfl (by kernel_rfl)) (d := 106) (v := (.slice (some ⟨g190, 0, none⟩) 1 c191)) rfl (by kernel_rfl) ?_
    refine wl_pure (wantsY 23 105 false rfl (by kernel_rfl) rfl (by kernel_rfl)) (d := 107) (v := (.int .i64 (1))) rfl (by kernel_rfl) ?_
    refine wl_pure (wantsY 23 105 false rfl (by kernel_rfl) rfl (by kernel_rfl)) (d := 108) (v := (.bool false)) rfl (by kernel_rfl) ?_
    refine wl_pure (wants0 rfl) (d := 109) (v := (.bool false)) rfl (by kernel_rfl) ?_
    refine wl_pure (wants0 rfl) (d := 110) (v := (.bool false)) rfl (by kernel_rfl) ?_
    refine wl_pure (wantsY 28 110 false rfl (by kernel_rfl) rfl (by kernel_rfl)) (d := 111) (v := (.slice (some ⟨g190, 0, none⟩) 1 c191)) rfl (by kernel_rfl) ?_
    refine wl_pure (wantsY 28 110 false rfl (by kernel_rfl) rfl (by kernel_rfl)) (d := 112) (v := (.pointer (some ⟨g190, 0, none⟩))) rfl (e_indexAddr (E := 45) (z := 0) (o := 0) (len := 1) (sz := 35) (by kernel_rfl) (by kernel_rfl) (Nat.le_of_ble_eq_true rfl) rfl rfl (by decide) (by decide)) ?_
    refine wl_pure (wantsY 28 110 false rfl (by kernel_rfl) rfl (by kernel_rfl)) (d := 113) (v := (.pointer (some ⟨g190, 0, none⟩))) rfl (by kernel_rfl) ?_
    refine wl_pure (wantsY 28 110 false rfl (by kernel_rfl) rfl (by kernel_rfl)) (d := 114) (v := (.int .i64 (3))) rfl (e_load1 rfl (by kernel_rfl) (row_cell (H210.at 10 rfl) rfl (by kernel_rfl))) ?_
    refine wl_pure (wantsY 28 110 false rfl (by kernel_rfl) rfl (by kernel_rfl)) (d := 115) (v := (.bool false)) rfl (by kernel_rfl) ?_
    refine wl_pure (wants0 rfl) (d := 116) (v := (.bool false)) rfl (by kernel_rfl) ?_
    refine wl_pure (wants0 rfl) (d := 117) (v := (.bool false)) rfl (by kernel_rfl) ?_
    refine wl_pure (wantsY 35 117 false rfl (by kernel_rfl) rfl (by kernel_rfl)) (d := 118) (v := (.slice (some ⟨g190, 0, none⟩) 1 c191)) rfl (by kernel_rfl) ?_
    refine wl_pure (wantsY 35 117 false rfl (by kernel_rfl) rfl (by kernel_rfl)) (d := 119) (v := (.pointer (some ⟨g190, 0, none⟩))) rfl (e_indexAddr (E := 45) (z := 0) (o := 0) (len := 1) (sz := 35) (by kernel_rfl) (by kernel_rfl) (Nat.le_of_ble_eq_true rfl) rfl rfl (by decide) (by decide)) ?_
    refine wl_pure (wantsY 35 117 false rfl (by kernel_rfl) rfl (by kernel_rfl)) (d := 120) (v := (.pointer (some ⟨g190, 3, none⟩))) rfl (by kernel_rfl) ?_
    refine wl_pure (wantsY 35 117 false rfl (by kernel_rfl) rfl (by kernel_rfl)) (d := 121) (v := (.agg ⟨(hc hash0)⟩)) rfl (e_loadRun (vs := (hc hash0)) rfl (by kernel_rfl) (by kernel_rfl) (Nat.le_of_ble_eq_true (by kernel_rfl)) (row_run (H210.at 10 rfl) rfl (by kernel_rfl))) ?_
    refine wl_pure (wantsY 35 117 false rfl (by kernel_rfl) rfl (by kernel_rfl)) (d := 122) (v := (.agg ⟨(hc hash0)⟩)) rfl (by kernel_rfl) ?_
    refine wl_pure (wantsY 35 117 false rfl (by kernel_rfl) rfl (by kernel_rfl)) (d := 123) (v := (.bool (!(decide (hash0 = hash0))))) rfl (e_neHash hash0 hash0 rfl rfl) ?_
    refine wl_pure (wants0 rfl) (d := 124) (v := (.bool (!(decide (hash0 = hash0))))) rfl (by kernel_rfl) ?_
    refine wl_pure (wants0 rfl) (d := 125) (v := (.bool (!(decide (hash0 = hash0))))) rfl (by kernel_rfl) ?_
    have b213 : (!(decide (hash0 = hash0))) = false := by simp
    refine wl_know 125 (.bool false) (congrArg Value.bool b213) ?_
    refine wl_pure (wantsY 43 125 false rfl (by kernel_rfl) rfl (by kernel_rfl)) (d := 126) (v := (.slice a198 0 c199)) rfl (by kernel_rfl) ?_
    refine wl_pure (wantsY 43 125 false rfl (by kernel_rfl) rfl (by kernel_rfl)) (d := 127) (v := (.int .i64 (0))) rfl (by kernel_rfl) ?_
    refine wl_pure (wantsY 43 125 false rfl (by kernel_rfl) rfl (by kernel_rfl)) (d := 128) (v := (.bool false)) rfl (by kernel_rfl) ?_
    refine wl_pure (wants0 rfl) (d := 129) (v := (.bool false)) rfl (by kernel_rfl) ?_
    refine wl_pure (wants0 rfl) (d := 130) (v := (.bool false)) rfl (by kernel_rfl) ?_
    refine wl_pure (wantsY 48 130 false rfl (by kernel_rfl) rfl (by kernel_rfl)) (d := 131) (v := (.pointer (some ⟨b205, 1, none⟩))) rfl (by kernel_rfl) ?_
    refine wl_pure (wantsY 48 130 false rfl (by kernel_rfl) rfl (by kernel_rfl)) (d := 132) (v := (.int .i64 (D3.s.step))) rfl (e_load1 rfl (by kernel_rfl) (H210.cell 12 rfl (by kernel_rfl))) ?_
    refine wl_pure (wantsY 48 130 false rfl (by kernel_rfl) rfl (by kernel_rfl)) (d := 133) (v := (.bool (!(decide (D3.s.step = 3))))) rfl (by kernel_rfl) ?_
    refine wl_pure (wants0 rfl) (d := 134) (v := (.bool (!(decide (D3.s.step = 3))))) rfl (by kernel_rfl) ?_
    refine w_nil ?_
    refine then_normal ?_
    have b214 : (!(decide (D3.s.step = 3))) = false := by (rw [s3]; rfl)
    refine wp_know 134 (.bool false) (congrArg Value.bool b214) ?_
    refine wp_iff rfl ?_
    refine w_skip ?_
    refine then_normal ?_
    refine w_seq ?_
    refine w_lit ?_
    refine wl_pure (wants0 rfl) (d := 135) (v := (.pointer (some ⟨k23, 0, none⟩))) rfl (by kernel_rfl) ?_
    refine wl_pure (wants0 rfl) (d := 136) (v := (.agg ⟨([(.int .i64 (3)), (.int .i64 (0))] : List Value)⟩)) rfl (by kernel_rfl) ?_
    refine wl_do (wants0 rfl) (fun K215 hK215 => ?_)
    refine d_call (d := 137) rfl (by kernel_rfl) (coreTimeout_any w209 k23 t24 hb25 cb26 ab27 lb28 pb29 D3 (ok_of (by kernel_rfl) (H210.fin [2, 3, 4] (by decide) rfl)) C3 3 0) ?_
    rintro _ w217 ⟨v216, rfl, S218⟩
    rw [e8] at S218
    replace S218 := Sat.cast (G' := [cellC k23 92 (([(.int .i64 (D4.f)), (.int .i64 (D4.c)), (.int .i64 (D4.epoch)), (.int .i64 (D4.replica)), (.int .i64 (D4.s.round)), (.int .i64 (D4.s.step)), (.int .i64 (D4.s.lr)), (.int .i64 (D4.s.vr))] : List Value) ++ hc D4.s.locked ++ hc D4.s.valid ++ ([(.bool (D4.s.decided))] : List Value) ++ hc D4.s.decision ++ ([(.pointer (some ⟨t24, 0, none⟩)), (.map (some pb29)), (.bool (D4.wv)), (.bool (D4.sp)), (.bool (D4.sc))] : List Value)), talC t24 hb25 cb26 ab27 lb28 D4.f D4.c D4.L, mapC pb29 (Value.int .i64) propV D4.P, rowC 45 35 v216 1 (([(.int .i64 (4)), (.int .i64 (1)), (.int .i64 (1))] : List Value) ++ hc hash0), restC w209 (coreC k23 t24 hb25 cb26 ab27 lb28 pb29 D3).fp]) S218 (by kernel_rfl)
    have H220 : Sat w [restC w (fun _ => False), cellC b6 25 ([(.int .i64 (F)), (.int .i64 (1))] : List Value), cellC k23 92 (([(.int .i64 (D4.f)), (.int .i64 (D4.c)), (.int .i64 (D4.epoch)), (.int .i64 (D4.replica)), (.int .i64 (D4.s.round)), (.int .i64 (D4.s.step)), (.int .i64 (D4.s.lr)), (.int .i64 (D4.s.vr))] : List Value) ++ hc D4.s.locked ++ hc D4.s.valid ++ ([(.bool (D4.s.decided))] : List Value) ++ hc D4.s.decision ++ ([(.pointer (some ⟨t24, 0, none⟩)), (.map (some pb29)), (.bool (D4.wv)), (.bool (D4.sp)), (.bool (D4.sc))] : List Value)), talC t24 hb25 cb26 ab27 lb28 D4.f D4.c D4.L, mapC pb29 (Value.int .i64) propV D4.P, rowC 45 35 (.slice a37 0 c38) 0 ([]), rowC 45 35 (.slice a45 A1.length c46) A1.length (A1.flatMap encA), rowC 45 35 (.slice a156 0 c157) 0 ([]), rowC 45 35 (.slice (some ⟨g174, 0, none⟩) 1 c175) 1 (([(.int .i64 (2)), (.int .i64 (0)), (.int .i64 (-1))] : List Value) ++ hc hash0), rowC 45 35 (.slice a182 0 c183) 0 ([]), rowC 45 35 (.slice (some ⟨g190, 0, none⟩) 1 c191) 1 (([(.int .i64 (3)), (.int .i64 (0)), (.int .i64 (-1))] : List Value) ++ hc hash0), rowC 45 35 (.slice a198 0 c199) 0 ([]), cellC b205 38 (([(.int .i64 (D3.s.round)), (.int .i64 (D3.s.step)), (.int .i64 (D3.s.lr)), (.int .i64 (D3.s.vr))] : List Value) ++ hc D3.s.locked ++ hc D3.s.valid ++ ([(.bool (D3.s.decided))] : List Value) ++ hc D3.s.decision), rowC 45 35 v216 1 (([(.int .i64 (4)), (.int .i64 (1)), (.int .i64 (1))] : List Value) ++ hc hash0)] w217 := (Sat.turnL (L' := [cellC k23 92 (([(.int .i64 (D4.f)), (.int .i64 (D4.c)), (.int .i64 (D4.epoch)), (.int .i64 (D4.replica)), (.int .i64 (D4.s.round)), (.int .i64 (D4.s.step)), (.int .i64 (D4.s.lr)), (.int .i64 (D4.s.vr))] : List Value) ++ hc D4.s.locked ++ hc D4.s.valid ++ ([(.bool (D4.s.decided))] : List Value) ++ hc D4.s.decision ++ ([(.pointer (some ⟨t24, 0, none⟩)), (.map (some pb29)), (.bool (D4.wv)), (.bool (D4.sp)), (.bool (D4.sc))] : List Value)), talC t24 hb25 cb26 ab27 lb28 D4.f D4.c D4.L, mapC pb29 (Value.int .i64) propV D4.P, rowC 45 35 v216 1 (([(.int .i64 (4)), (.int .i64 (1)), (.int .i64 (1))] : List Value) ++ hc hash0)]) (R := [restC w (fun _ => False), cellC b6 25 ([(.int .i64 (F)), (.int .i64 (1))] : List Value), rowC 45 35 (.slice a37 0 c38) 0 ([]), rowC 45 35 (.slice a45 A1.length c46) A1.length (A1.flatMap encA), rowC 45 35 (.slice a156 0 c157) 0 ([]), rowC 45 35 (.slice (some ⟨g174, 0, none⟩) 1 c175) 1 (([(.int .i64 (2)), (.int .i64 (0)), (.int .i64 (-1))] : List Value) ++ hc hash0), rowC 45 35 (.slice a182 0 c183) 0 ([]), rowC 45 35 (.slice (some ⟨g190, 0, none⟩) 1 c191) 1 (([(.int .i64 (3)), (.int .i64 (0)), (.int .i64 (-1))] : List Value) ++ hc hash0), rowC 45 35 (.slice a198 0 c199) 0 ([]), cellC b205 38 (([(.int .i64 (D3.s.round)), (.int .i64 (D3.s.step)), (.int .i64 (D3.s.lr)), (.int .i64 (D3.s.vr))] : List Value) ++ hc D3.s.locked ++ hc D3.s.valid ++ ([(.bool (D3.s.decided))] : List Value) ++ hc D3.s.decision)]) H210 [2, 3, 4] [0, 1, 5, 6, 7, 8, 9, 10, 11, 12] (by decide) (by kernel_rfl) rfl S218).pick [4, 5, 0, 1, 2, 6, 7, 8, 9, 10, 11, 12, 13, 3] (by decide)
    obtain ⟨g221, c222, rfl⟩ := row_shape (H220.at 13 rfl) (Nat.le_of_ble_eq_true rfl)
    refine ⟨_, rfl, ?_⟩
    refine hK215 _ _ ?_
    clear hK215 K215
    refine wl_pure (wants0 rfl) (d := 16) (v := (.slice (some ⟨g221, 0, none⟩) 1 c222)) rfl (by kernel_rfl) ?_
    refine w_nil ?_
    refine then_normal ?_
    refine w_seq ?_
    refine w_lit ?_
    refine wl_pure (wants0 rfl) (d := 138) (v := (.slice (some ⟨g221, 0, none⟩) 1 c222)) rfl (by kernel_rfl) ?_
    refine wl_pure (wants0 rfl) (d := 139) (v := (.int .i64 (1))) rfl (by kernel_rfl) ?_
    refine wl_pure (wants0 rfl) (d := 140) (v := (.bool true)) rfl (by kernel_rfl) ?_
    refine wl_pure (wants0 rfl) (d := 141) (v := (.bool true)) rfl (by kernel_rfl) ?_
    refine wl_pure (wantsY 3 141 true rfl (by kernel_rfl) rfl (by kernel_rfl)) (d := 142) (v := (.slice (some ⟨g221, 0, none⟩) 1 c222)) rfl (by kernel_rfl) ?_
    refine wl_pure (wantsY 3 141 true rfl (by kernel_rfl) rfl (by kernel_rfl)) (d := 143) (v := (.pointer (some ⟨g221, 0, none⟩))) rfl (e_indexAddr (E := 45) (z := 0) (o := 0) (len := 1) (sz := 35) (by kernel_rfl) (by kernel_rfl) (Nat.le_of_ble_eq_true rfl) rfl rfl (by decide) (by decide)) ?_
    refine wl_pure (wantsY 3 141 true rfl (by kernel_rfl) rfl (by kernel_rfl)) (d := 144) (v := (.pointer (some ⟨g221, 1, none⟩))) rfl (by kernel_rfl) ?_
    refine wl_pure (wantsY 3 141 true rfl (by kernel_rfl) rfl (by kernel_rfl)) (d := 145) (v := (.int .i64 (1))) rfl (e_load1 rfl (by kernel_rfl) (row_cell (H220.at 13 rfl) rfl (by kernel_rfl))) ?_
    refine wl_pure (wantsY 3 141 true rfl (by kernel_rfl) rfl (by kernel_rfl)) (d := 146) (v := (.bool true)) rfl (by kernel_rfl) ?_
    refine wl_pure (wants0 rfl) (d := 147) (v := (.bool true)) rfl (by kernel_rfl) ?_
    refine wl_pure (wants0 rfl) (d := 148) (v := (.bool true)) rfl (by kernel_rfl) ?_
    refine wl_pure (wantsY 10 148 true rfl (by kernel_rfl) rfl (by kernel_rfl)) (d := 149) (v := (.pointer (some ⟨k23, 0, none⟩))) rfl (by kernel_rfl) ?_
    refine wl_do (wantsY 10 148 true rfl (by kernel_rfl) rfl (by kernel_rfl)) (fun K223 hK223 => ?_)
    refine d_call (d := 150) rfl (by kernel_rfl) (coreState_any w217 k23 t24 hb25 cb26 ab27 lb28 pb29 D4 (ok_of (by kernel_rfl) (H220.fin [2, 3, 4] (by decide) rfl)) C4) ?_
    rintro _ w224 ⟨rfl, u226⟩
    have H225 := H220.keepU u226
    refine ⟨_, rfl, ?_⟩
    refine hK223 _ _ ?_
    clear hK223 K223
    refine wl_pure (wantsY 10 148 true rfl (by kernel_rfl) rfl (by kernel_rfl)) (d := 151) (v := (.int .i64 (D4.s.round))) rfl (by kernel_rfl) ?_
    refine wl_pure (wantsY 10 148 true rfl (by kernel_rfl) rfl (by kernel_rfl)) (d := 152) (v := (.bool (decide (D4.s.round = 1)))) rfl (by kernel_rfl) ?_
    refine wl_pure (wants0 rfl) (d := 153) (v := (.bool (decide (D4.s.round = 1)))) rfl (by kernel_rfl) ?_
    refine wl_pure (wants0 rfl) (d := 154) (v := (.bool (decide (D4.s.round = 1)))) rfl (by kernel_rfl) ?_
    have b227 : (decide (D4.s.round = 1)) = true := by (rw [s4.1]; rfl)
    refine wl_know 154 (.bool true) (congrArg Value.bool b227) ?_
    refine wl_pure (wantsY 16 154 true rfl (by kernel_rfl) rfl (by kernel_rfl)) (d := 155) (v := (.pointer (some ⟨k23, 0, none⟩))) rfl (by kernel_rfl) ?_
    refine wl_do (wantsY 16 154 true rfl (by kernel_rfl) rfl (by kernel_rfl)) (fun K228 hK228 => ?_)
    refine d_call (d := 156) rfl (by kernel_rfl) (coreState_any w224 k23 t24 hb25 cb26 ab27 lb28 pb29 D4 (ok_of (by kernel_rfl) (H225.fin [2, 3, 4] (by decide) rfl)) C4) ?_
    rintro _ w229 ⟨rfl, u231⟩
    have H230 := H225.keepU u231
    refine ⟨_, rfl, ?_⟩
    refine hK228 _ _ ?_
    clear hK228 K228
    refine wl_pure (wantsY 16 154 true rfl (by kernel_rfl) rfl (by kernel_rfl)) (d := 157) (v := (.int .i64 (D4.s.step))) rfl (by kernel_rfl) ?_
    refine wl_pure (wantsY 16 154 true rfl (by kernel_rfl) rfl (by kernel_rfl)) (d := 158) (v := (.bool (decide (D4.s.step = 1)))) rfl (by kernel_rfl) ?_
    refine wl_pure (wants0 rfl) (d := 159) (v := (.bool (decide (D4.s.step = 1)))) rfl (by kernel_rfl) ?_
    refine wl_pure (wants0 rfl) (d := 160) (v := (.bool (decide (D4.s.step = 1)))) rfl (by kernel_rfl) ?_
    have b232 : (decide (D4.s.step = 1)) = true := by (rw [s4.2.1]; rfl)
    refine wl_know 160 (.bool true) (congrArg Value.bool b232) ?_
    refine wl_pure (wantsY 22 160 true rfl (by kernel_rfl) rfl (by kernel_rfl)) (d := 161) (v := (.pointer (some ⟨k23, 0, none⟩))) rfl (by kernel_rfl) ?_
    refine wl_do (wantsY 22 160 true rfl (by kernel_rfl) rfl (by kernel_rfl)) (fun K233 hK233 => ?_)
    refine d_call (d := 162) rfl (by kernel_rfl) (coreState_any w229 k23 t24 hb25 cb26 ab27 lb28 pb29 D4 (ok_of (by kernel_rfl) (H230.fin [2, 3, 4] (by decide) rfl)) C4) ?_
    rintro _ w234 ⟨rfl, u236⟩
    have H235 := H230.keepU u236
    refine ⟨_, rfl, ?_⟩
    refine hK233 _ _ ?_
    clear hK233 K233
    refine wl_pure (wantsY 22 160 true rfl (by kernel_rfl) rfl (by kernel_rfl)) (d := 163) (v := (.int .i64 (D4.s.lr))) rfl (by kernel_rfl) ?_
    refine wl_pure (wantsY 22 160 true rfl (by kernel_rfl) rfl (by kernel_rfl)) (d := 164) (v := (.bool (decide (D4.s.lr = (-1))))) rfl (by kernel_rfl) ?_
    refine wl_pure (wants0 rfl) (d := 165) (v := (.bool (decide (D4.s.lr = (-1))))) rfl (by kernel_rfl) ?_
    refine wl_pure (wants0 rfl) (d := 166) (v := (.bool (decide (D4.s.lr = (-1))))) rfl (by kernel_rfl) ?_
    have b237 : (decide (D4.s.lr = (-1))) = true := by (rw [s4.2.2]; rfl)
    refine wl_know 166 (.bool true) (congrArg Value.bool b237) ?_
    refine wl_do (wantsY 28 166 true rfl (by kernel_rfl) rfl (by kernel_rfl)) (fun K238 hK238 => ?_)
    refine d_call (d := 167) rfl (by kernel_rfl) (wakes_any w234) ?_
    rintro _ w239 ⟨rfl, u241⟩
    have H240 := H235.keepU u241
    refine ⟨_, rfl, ?_⟩
    refine hK238 _ _ ?_
    clear hK238 K238
    refine wl_pure (wants0 rfl) (d := 168) (v := (.bool true)) rfl (by kernel_rfl) ?_
    refine wl_pure (wants0 rfl) (d := 6) (v := (.bool true)) rfl (by kernel_rfl) ?_
    refine w_nil ?_
    refine then_normal ?_
    refine w_ret ?_
    refine end1 rfl (res_tmp (v := (.bool true)) rfl) ?_
    exact ⟨rfl, H240.upd 0 rfl [] (fun _ h => h.elim)⟩

end Go.Proofs.Ythjmbhneifjeeaa
