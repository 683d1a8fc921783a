/- WHAT IS PROVED: the walk of CoreDoubles. Conditions: stated with each. -/
import Derived.Test.YthjmbhneifjeeaaWakes14
import Derived.Test.YthjmbhneifjeeaaDoubles14M
import Derived.Test.YthjmbhneifjeeaaCut14
import Derived.Test.YthjmbhneifjeeaaState14
namespace Go.Proofs.Ythjmbhneifjeeaa
open Go.RowKit

set_option maxRecDepth 100000 in
set_option maxHeartbeats 1000000 in
theorem doubles14_walk (w : World) (f F : Int) (va : Option Addr) (vc : Nat) (ls : List InputD) (hls : InputsAt w (.slice va ls.length vc) ls) (hF : F = 1 + withinV f 2) (hf : 1 ≤ F ∧ F ≤ 2) (D0 : CoreD) (hok : newOk F 1 0 0 = true) (hD0 : newD F 1 0 0 = D0) (C0 : CI D0) :
    Calls Try.prog 7 #[(.int .i64 (f)), (.slice va ls.length vc)] w fun e w' => e = .returned (.bool true) ∧ Upd [] w w' := by
  have H := Sat.start0 w
  refine calls_fr Try.func7 rfl 160 rfl (Nat.le_of_ble_eq_true rfl) ?_
  refine w_seq ?_
  refine w_lit ?_
  refine wl_pure (wants0 rfl) (d := 4) (v := (.bool false)) rfl (by kernel_rfl) ?_
  refine w_nil ?_
  refine then_normal ?_
  refine w_seq ?_
  refine w_lit ?_
  refine wl_pure (wants0 rfl) (d := 17) (v := (.int .i64 (f))) rfl (by kernel_rfl) ?_
  refine wl_do (wants0 rfl) (fun K1 hK1 => ?_)
  refine d_call (d := 18) rfl (by kernel_rfl) (within_any w f 2 (by omega)) ?_
  rintro _ w2 ⟨rfl, u4⟩
  have H3 := H.keepU u4
  refine ⟨_, rfl, ?_⟩
  refine hK1 _ _ ?_
  clear hK1 K1
  refine wl_pure (wants0 rfl) (d := 19) (v := (.int .i64 (F))) rfl (e_int (z := 1 + (withinV f 2)) (by kernel_rfl) ((by rw [IntWalk.i64_in _ (by omega)]; exact hF.symm))) ?_
  refine wl_pure (wants0 rfl) (d := 20) (v := (.agg ⟨([(.int .i64 (F)), (.int .i64 (1))] : List Value)⟩)) rfl (by kernel_rfl) ?_
  refine wl_do (wants0 rfl) (fun K5 hK5 => ?_)
  refine d_alloc (zs := ([(.int .i64 (0)), (.int .i64 (0))] : List Value)) (z := (.agg ⟨([(.int .i64 (0)), (.int .i64 (0))] : List Value)⟩)) rfl H3 (by kernel_rfl) (by kernel_rfl) ?_
  intro b6 w7 (H8 : Sat w [restC w (fun _ => False), cellC b6 25 ([(.int .i64 (0)), (.int .i64 (0))] : List Value)] w7)
  refine hK5 _ _ ?_
  clear hK5 K5
  refine wl_do (wants0 rfl) (fun K9 hK9 => ?_)
  refine d_storeX (vs := ([(.int .i64 (F)), (.int .i64 (1))] : List Value)) (cs' := ([(.int .i64 (F)), (.int .i64 (1))] : List Value)) rfl H8 1 rfl rfl rfl rfl (by kernel_rfl) (Nat.le_of_ble_eq_true (by kernel_rfl)) (Nat.le_of_ble_eq_true (by kernel_rfl)) (by kernel_rfl) (by kernel_rfl) ?_
  intro w10 (H11 : Sat w [restC w (fun _ => False), cellC b6 25 ([(.int .i64 (F)), (.int .i64 (1))] : List Value)] w10)
  refine hK9 _ _ ?_
  clear hK9 K9
  refine w_nil ?_
  refine then_normal ?_
  refine w_seq ?_
  refine w_lit ?_
  refine wl_pure (wants0 rfl) (d := 21) (v := (.agg ⟨([(.int .i64 (F)), (.int .i64 (1))] : List Value)⟩)) rfl (e_loadN (vs := ([(.int .i64 (F)), (.int .i64 (1))] : List Value)) rfl (by kernel_rfl) (by kernel_rfl) (by exact Nat.le_of_ble_eq_true (by kernel_rfl)) (H11.at 1 rfl) (by kernel_rfl)) ?_
  refine wl_do (wants0 rfl) (fun K13 hK13 => ?_)
  refine d_call (d := 22) rfl (by kernel_rfl) (refN_any w10 F 1 (by omega)) ?_
  rintro _ w14 ⟨rfl, u16⟩
  have H15 := H11.keepU u16
  refine ⟨_, rfl, ?_⟩
  refine hK13 _ _ ?_
  clear hK13 K13
  refine wl_pure (wants0 rfl) (d := 6) (v := (.int .i64 (3 * F + 1))) rfl (by kernel_rfl) ?_
  refine w_nil ?_
  refine then_normal ?_
  refine w_seq ?_
  refine w_lit ?_
  refine wl_pure (wants0 rfl) (d := 24) (v := (.agg ⟨([(.int .i64 (F)), (.int .i64 (1))] : List Value)⟩)) rfl (e_loadN (vs := ([(.int .i64 (F)), (.int .i64 (1))] : List Value)) rfl (by kernel_rfl) (by kernel_rfl) (by exact Nat.le_of_ble_eq_true (by kernel_rfl)) (H15.at 1 rfl) (by kernel_rfl)) ?_
  refine wl_do (wants0 rfl) (fun K17 hK17 => ?_)
  refine d_call (d := 25) rfl (by kernel_rfl) (coreNew_any w14 F 1 0 0 (by omega)) ?_
  rintro _ w18 (⟨_, k23, t24, hb25, cb26, ab27, lb28, pb29, rfl, k21, u20, q22⟩ | ⟨hno, _⟩)
  rotate_left
  · exact absurd hno (by rw [hok]; simp)
  rw [hD0] at k21 q22
  have H30 : Sat w [restC w (fun _ => False), cellC b6 25 ([(.int .i64 (F)), (.int .i64 (1))] : List Value), coreC k23 t24 hb25 cb26 ab27 lb28 pb29 D0] w18 := H15.addU u20 k21 q22
  have H19 : Sat w [restC w (fun _ => False), cellC b6 25 ([(.int .i64 (F)), (.int .i64 (1))] : List Value), cellC k23 92 (([(.int .i64 (D0.f)), (.int .i64 (D0.c)), (.int .i64 (D0.epoch)), (.int .i64 (D0.replica)), (.int .i64 (D0.s.round)), (.int .i64 (D0.s.step)), (.int .i64 (D0.s.lr)), (.int .i64 (D0.s.vr))] : List Value) ++ hc D0.s.locked ++ hc D0.s.valid ++ ([(.bool (D0.s.decided))] : List Value) ++ hc D0.s.decision ++ ([(.pointer (some ⟨t24, 0, none⟩)), (.map (some pb29)), (.bool (D0.wv)), (.bool (D0.sp)), (.bool (D0.sc))] : List Value)), talC t24 hb25 cb26 ab27 lb28 D0.f D0.c D0.L, mapC pb29 (Value.int .i64) propV D0.P] w18 := H30.open 2 rfl
  refine ⟨_, rfl, ?_⟩
  refine hK17 _ _ ?_
  clear hK17 K17
  refine wl_pure (wants0 rfl) (d := 23) (v := (.tuple #[(.pointer (some ⟨k23, 0, none⟩)), (.int .i64 (0))])) rfl (by kernel_rfl) ?_
  refine wl_pure (wants0 rfl) (d := 26) (v := (.pointer (some ⟨k23, 0, none⟩))) rfl (by kernel_rfl) ?_
  refine wl_pure (wants0 rfl) (d := 27) (v := (.int .i64 (0))) rfl (by kernel_rfl) ?_
  refine wl_pure (wants0 rfl) (d := 7) (v := (.pointer (some ⟨k23, 0, none⟩))) rfl (by kernel_rfl) ?_
  refine wl_pure (wants0 rfl) (d := 8) (v := (.int .i64 (0))) rfl (by kernel_rfl) ?_
  refine w_nil ?_
  refine then_normal ?_
  refine w_seq ?_
  refine w_lit ?_
  refine wl_pure (wants0 rfl) (d := 29) (v := (.agg ⟨([(.int .i64 (F)), (.int .i64 (1))] : List Value)⟩)) rfl (e_loadN (vs := ([(.int .i64 (F)), (.int .i64 (1))] : List Value)) rfl (by kernel_rfl) (by kernel_rfl) (by exact Nat.le_of_ble_eq_true (by kernel_rfl)) (H19.at 1 rfl) (by kernel_rfl)) ?_
  refine wl_do (wants0 rfl) (fun K31 hK31 => ?_)
  refine d_call (d := 30) rfl (by kernel_rfl) (coreNew_any w18 F 1 0 0 (by omega)) ?_
  rintro _ w32 (⟨_, k37, t38, hb39, cb40, ab41, lb42, pb43, rfl, k35, u34, q36⟩ | ⟨hno, _⟩)
  rotate_left
  · exact absurd hno (by rw [hok]; simp)
  rw [hD0] at k35 q36
  have H44 : Sat w [restC w (fun _ => False), cellC b6 25 ([(.int .i64 (F)), (.int .i64 (1))] : List Value), cellC k23 92 (([(.int .i64 (D0.f)), (.int .i64 (D0.c)), (.int .i64 (D0.epoch)), (.int .i64 (D0.replica)), (.int .i64 (D0.s.round)), (.int .i64 (D0.s.step)), (.int .i64 (D0.s.lr)), (.int .i64 (D0.s.vr))] : List Value) ++ hc D0.s.locked ++ hc D0.s.valid ++ ([(.bool (D0.s.decided))] : List Value) ++ hc D0.s.decision ++ ([(.pointer (some ⟨t24, 0, none⟩)), (.map (some pb29)), (.bool (D0.wv)), (.bool (D0.sp)), (.bool (D0.sc))] : List Value)), talC t24 hb25 cb26 ab27 lb28 D0.f D0.c D0.L, mapC pb29 (Value.int .i64) propV D0.P, coreC k37 t38 hb39 cb40 ab41 lb42 pb43 D0] w32 := H19.addU u34 k35 q36
  have H33 : Sat w [restC w (fun _ => False), cellC b6 25 ([(.int .i64 (F)), (.int .i64 (1))] : List Value), cellC k23 92 (([(.int .i64 (D0.f)), (.int .i64 (D0.c)), (.int .i64 (D0.epoch)), (.int .i64 (D0.replica)), (.int .i64 (D0.s.round)), (.int .i64 (D0.s.step)), (.int .i64 (D0.s.lr)), (.int .i64 (D0.s.vr))] : List Value) ++ hc D0.s.locked ++ hc D0.s.valid ++ ([(.bool (D0.s.decided))] : List Value) ++ hc D0.s.decision ++ ([(.pointer (some ⟨t24, 0, none⟩)), (.map (some pb29)), (.bool (D0.wv)), (.bool (D0.sp)), (.bool (D0.sc))] : List Value)), talC t24 hb25 cb26 ab27 lb28 D0.f D0.c D0.L, mapC pb29 (Value.int .i64) propV D0.P, cellC k37 92 (([(.int .i64 (D0.f)), (.int .i64 (D0.c)), (.int .i64 (D0.epoch)), (.int .i64 (D0.replica)), (.int .i64 (D0.s.round)), (.int .i64 (D0.s.step)), (.int .i64 (D0.s.lr)), (.int .i64 (D0.s.vr))] : List Value) ++ hc D0.s.locked ++ hc D0.s.valid ++ ([(.bool (D0.s.decided))] : List Value) ++ hc D0.s.decision ++ ([(.pointer (some ⟨t38, 0, none⟩)), (.map (some pb43)), (.bool (D0.wv)), (.bool (D0.sp)), (.bool (D0.sc))] : List Value)), talC t38 hb39 cb40 ab41 lb42 D0.f D0.c D0.L, mapC pb43 (Value.int .i64) propV D0.P] w32 := H44.open 5 rfl
  refine ⟨_, rfl, ?_⟩
  refine hK31 _ _ ?_
  clear hK31 K31
  refine wl_pure (wants0 rfl) (d := 28) (v := (.tuple #[(.pointer (some ⟨k37, 0, none⟩)), (.int .i64 (0))])) rfl (by kernel_rfl) ?_
  refine wl_pure (wants0 rfl) (d := 31) (v := (.pointer (some ⟨k37, 0, none⟩))) rfl (by kernel_rfl) ?_
  refine wl_pure (wants0 rfl) (d := 32) (v := (.int .i64 (0))) rfl (by kernel_rfl) ?_
  refine wl_pure (wants0 rfl) (d := 9) (v := (.pointer (some ⟨k37, 0, none⟩))) rfl (by kernel_rfl) ?_
  refine wl_pure (wants0 rfl) (d := 10) (v := (.int .i64 (0))) rfl (by kernel_rfl) ?_
  refine w_nil ?_
  refine then_normal ?_
  refine w_seq ?_
  refine w_seq ?_
  refine w_lit ?_
  refine wl_pure (wants0 rfl) (d := 33) (v := (.int .i64 (0))) rfl (by kernel_rfl) ?_
  refine wl_pure (wants0 rfl) (d := 34) (v := (.bool false)) rfl (by kernel_rfl) ?_
  refine wl_pure (wants0 rfl) (d := 35) (v := (.bool false)) rfl (by kernel_rfl) ?_
  refine wl_pure (wantsY 2 35 false rfl (by kernel_rfl) rfl (by kernel_rfl)) (d := 36) (v := (.int .i64 (0))) rfl (by kernel_rfl) ?_
  refine wl_pure (wantsY 2 35 false rfl (by kernel_rfl) rfl (by kernel_rfl)) (d := 37) (v := (.bool false)) rfl (by kernel_rfl) ?_
  refine wl_pure (wants0 rfl) (d := 38) (v := (.bool false)) rfl (by kernel_rfl) ?_
  refine wl_pure (wants0 rfl) (d := 39) (v := (.bool false)) rfl (by kernel_rfl) ?_
  refine wl_pure (wantsY 6 39 false rfl (by kernel_rfl) rfl (by kernel_rfl)) (d := 40) (v := (.pointer (some ⟨k23, 0, none⟩))) rfl (by kernel_rfl) ?_
  refine wl_pure (wantsY 6 39 false rfl (by kernel_rfl) rfl (by kernel_rfl)) (d := 41) (v := (.bool false)) rfl (by kernel_rfl) ?_
  refine wl_pure (wants0 rfl) (d := 42) (v := (.bool false)) rfl (by kernel_rfl) ?_
  refine wl_pure (wants0 rfl) (d := 43) (v := (.bool false)) rfl (by kernel_rfl) ?_
  refine wl_pure (wantsY 10 43 false rfl (by kernel_rfl) rfl (by kernel_rfl)) (d := 44) (v := (.pointer (some ⟨k37, 0, none⟩))) rfl (by kernel_rfl) ?_
  refine wl_pure (wantsY 10 43 false rfl (by kernel_rfl) rfl (by kernel_rfl)) (d := 45) (v := (.bool false)) rfl (by kernel_rfl) ?_
  refine wl_pure (wants0 rfl) (d := 46) (v := (.bool false)) rfl (by kernel_rfl) ?_
  refine w_nil ?_
  refine then_normal ?_
  refine wp_iff rfl ?_
  refine w_skip ?_
  refine then_normal ?_
  refine w_seq ?_
  refine w_lit ?_
  refine wl_pure (wants0 rfl) (d := 47) (v := (.pointer (some ⟨k23, 0, none⟩))) rfl (by kernel_rfl) ?_
  refine wl_do (wants0 rfl) (fun K45 hK45 => ?_)
  refine d_call (d := 48) rfl (by kernel_rfl) (coreStart_any w32 k23 t24 hb25 cb26 ab27 lb28 pb29 D0 (ok_of (by kernel_rfl) (H33.fin [2, 3, 4] (by decide) rfl)) C0 ) ?_
  rintro _ w47 ⟨v46, rfl, S48⟩
  replace S48 := Sat.cast (G' := [cellC k23 92 (([(.int .i64 (((startD D0).1).f)), (.int .i64 (((startD D0).1).c)), (.int .i64 (((startD D0).1).epoch)), (.int .i64 (((startD D0).1).replica)), (.int .i64 (((startD D0).1).s.round)), (.int .i64 (((startD D0).1).s.step)), (.int .i64 (((startD D0).1).s.lr)), (.int .i64 (((startD D0).1).s.vr))] : List Value) ++ hc ((startD D0).1).s.locked ++ hc ((startD D0).1).s.valid ++ ([(.bool (((startD D0).1).s.decided))] : List Value) ++ hc ((startD D0).1).s.decision ++ ([(.pointer (some ⟨t24, 0, none⟩)), (.map (some pb29)), (.bool (((startD D0).1).wv)), (.bool (((startD D0).1).sp)), (.bool (((startD D0).1).sc))] : List Value)), talC t24 hb25 cb26 ab27 lb28 ((startD D0).1).f ((startD D0).1).c ((startD D0).1).L, mapC pb29 (Value.int .i64) propV ((startD D0).1).P, rowC 45 35 v46 (((startD D0).2).length) (((startD D0).2).flatMap encA), restC w32 (coreC k23 t24 hb25 cb26 ab27 lb28 pb29 D0).fp]) S48 (by kernel_rfl)
  have H50 : Sat w [restC w (fun _ => False), cellC b6 25 ([(.int .i64 (F)), (.int .i64 (1))] : List Value), cellC k23 92 (([(.int .i64 (((startD D0).1).f)), (.int .i64 (((startD D0).1).c)), (.int .i64 (((startD D0).1).epoch)), (.int .i64 (((startD D0).1).replica)), (.int .i64 (((startD D0).1).s.round)), (.int .i64 (((startD D0).1).s.step)), (.int .i64 (((startD D0).1).s.lr)), (.int .i64 (((startD D0).1).s.vr))] : List Value) ++ hc ((startD D0).1).s.locked ++ hc ((startD D0).1).s.valid ++ ([(.bool (((startD D0).1).s.decided))] : List Value) ++ hc ((startD D0).1).s.decision ++ ([(.pointer (some ⟨t24, 0, none⟩)), (.map (some pb29)), (.bool (((startD D0).1).wv)), (.bool (((startD D0).1).sp)), (.bool (((startD D0).1).sc))] : List Value)), talC t24 hb25 cb26 ab27 lb28 ((startD D0).1).f ((startD D0).1).c ((startD D0).1).L, mapC pb29 (Value.int .i64) propV ((startD D0).1).P, cellC k37 92 (([(.int .i64 (D0.f)), (.int .i64 (D0.c)), (.int .i64 (D0.epoch)), (.int .i64 (D0.replica)), (.int .i64 (D0.s.round)), (.int .i64 (D0.s.step)), (.int .i64 (D0.s.lr)), (.int .i64 (D0.s.vr))] : List Value) ++ hc D0.s.locked ++ hc D0.s.valid ++ ([(.bool (D0.s.decided))] : List Value) ++ hc D0.s.decision ++ ([(.pointer (some ⟨t38, 0, none⟩)), (.map (some pb43)), (.bool (D0.wv)), (.bool (D0.sp)), (.bool (D0.sc))] : List Value)), talC t38 hb39 cb40 ab41 lb42 D0.f D0.c D0.L, mapC pb43 (Value.int .i64) propV D0.P, rowC 45 35 v46 (((startD D0).2).length) (((startD D0).2).flatMap encA)] w47 := (Sat.turnL (L' := [cellC k23 92 (([(.int .i64 (((startD D0).1).f)), (.int .i64 (((startD D0).1).c)), (.int .i64 (((startD D0).1).epoch)), (.int .i64 (((startD D0).1).replica)), (.int .i64 (((startD D0).1).s.round)), (.int .i64 (((startD D0).1).s.step)), (.int .i64 (((startD D0).1).s.lr)), (.int .i64 (((startD D0).1).s.vr))] : List Value) ++ hc ((startD D0).1).s.locked ++ hc ((startD D0).1).s.valid ++ ([(.bool (((startD D0).1).s.decided))] : List Value) ++ hc ((startD D0).1).s.decision ++ ([(.pointer (some ⟨t24, 0, none⟩)), (.map (some pb29)), (.bool (((startD D0).1).wv)), (.bool (((startD D0).1).sp)), (.bool (((startD D0).1).sc))] : List Value)), talC t24 hb25 cb26 ab27 lb28 ((startD D0).1).f ((startD D0).1).c ((startD D0).1).L, mapC pb29 (Value.int .i64) propV ((startD D0).1).P, rowC 45 35 v46 (((startD D0).2).length) (((startD D0).2).flatMap encA)]) (R := [restC w (fun _ => False), cellC b6 25 ([(.int .i64 (F)), (.int .i64 (1))] : List Value), cellC k37 92 (([(.int .i64 (D0.f)), (.int .i64 (D0.c)), (.int .i64 (D0.epoch)), (.int .i64 (D0.replica)), (.int .i64 (D0.s.round)), (.int .i64 (D0.s.step)), (.int .i64 (D0.s.lr)), (.int .i64 (D0.s.vr))] : List Value) ++ hc D0.s.locked ++ hc D0.s.valid ++ ([(.bool (D0.s.decided))] : List Value) ++ hc D0.s.decision ++ ([(.pointer (some ⟨t38, 0, none⟩)), (.map (some pb43)), (.bool (D0.wv)), (.bool (D0.sp)), (.bool (D0.sc))] : List Value)), talC t38 hb39 cb40 ab41 lb42 D0.f D0.c D0.L, mapC pb43 (Value.int .i64) propV D0.P]) H33 [2, 3, 4] [0, 1, 5, 6, 7] (by decide) (by kernel_rfl) rfl S48).pick [4, 5, 0, 1, 2, 6, 7, 8, 3] (by decide)
  obtain ⟨a51, c52, rfl⟩ := ownsRow_shape (H50.at 8 rfl)
  refine ⟨_, rfl, ?_⟩
  refine hK45 _ _ ?_
  clear hK45 K45
  refine w_nil ?_
  refine then_normal ?_
  refine w_seq ?_
  refine w_lit ?_
  refine wl_pure (wants0 rfl) (d := 49) (v := (.pointer (some ⟨k37, 0, none⟩))) rfl (by kernel_rfl) ?_
  refine wl_do (wants0 rfl) (fun K53 hK53 => ?_)
  refine d_call (d := 50) rfl (by kernel_rfl) (coreStart_any w47 k37 t38 hb39 cb40 ab41 lb42 pb43 D0 (ok_of (by kernel_rfl) (H50.fin [5, 6, 7] (by decide) rfl)) C0 ) ?_
  rintro _ w55 ⟨v54, rfl, S56⟩
  replace S56 := Sat.cast (G' := [cellC k37 92 (([(.int .i64 (((startD D0).1).f)), (.int .i64 (((startD D0).1).c)), (.int .i64 (((startD D0).1).epoch)), (.int .i64 (((startD D0).1).replica)), (.int .i64 (((startD D0).1).s.round)), (.int .i64 (((startD D0).1).s.step)), (.int .i64 (((startD D0).1).s.lr)), (.int .i64 (((startD D0).1).s.vr))] : List Value) ++ hc ((startD D0).1).s.locked ++ hc ((startD D0).1).s.valid ++ ([(.bool (((startD D0).1).s.decided))] : List Value) ++ hc ((startD D0).1).s.decision ++ ([(.pointer (some ⟨t38, 0, none⟩)), (.map (some pb43)), (.bool (((startD D0).1).wv)), (.bool (((startD D0).1).sp)), (.bool (((startD D0).1).sc))] : List Value)), talC t38 hb39 cb40 ab41 lb42 ((startD D0).1).f ((startD D0).1).c ((startD D0).1).L, mapC pb43 (Value.int .i64) propV ((startD D0).1).P, rowC 45 35 v54 (((startD D0).2).length) (((startD D0).2).flatMap encA), restC w47 (coreC k37 t38 hb39 cb40 ab41 lb42 pb43 D0).fp]) S56 (by kernel_rfl)
  have H58 : Sat w [restC w (fun _ => False), cellC b6 25 ([(.int .i64 (F)), (.int .i64 (1))] : List Value), cellC k23 92 (([(.int .i64 (((startD D0).1).f)), (.int .i64 (((startD D0).1).c)), (.int .i64 (((startD D0).1).epoch)), (.int .i64 (((startD D0).1).replica)), (.int .i64 (((startD D0).1).s.round)), (.int .i64 (((startD D0).1).s.step)), (.int .i64 (((startD D0).1).s.lr)), (.int .i64 (((startD D0).1).s.vr))] : List Value) ++ hc ((startD D0).1).s.locked ++ hc ((startD D0).1).s.valid ++ ([(.bool (((startD D0).1).s.decided))] : List Value) ++ hc ((startD D0).1).s.decision ++ ([(.pointer (some ⟨t24, 0, none⟩)), (.map (some pb29)), (.bool (((startD D0).1).wv)), (.bool (((startD D0).1).sp)), (.bool (((startD D0).1).sc))] : List Value)), talC t24 hb25 cb26 ab27 lb28 ((startD D0).1).f ((startD D0).1).c ((startD D0).1).L, mapC pb29 (Value.int .i64) propV ((startD D0).1).P, cellC k37 92 (([(.int .i64 (((startD D0).1).f)), (.int .i64 (((startD D0).1).c)), (.int .i64 (((startD D0).1).epoch)), (.int .i64 (((startD D0).1).replica)), (.int .i64 (((startD D0).1).s.round)), (.int .i64 (((startD D0).1).s.step)), (.int .i64 (((startD D0).1).s.lr)), (.int .i64 (((startD D0).1).s.vr))] : List Value) ++ hc ((startD D0).1).s.locked ++ hc ((startD D0).1).s.valid ++ ([(.bool (((startD D0).1).s.decided))] : List Value) ++ hc ((startD D0).1).s.decision ++ ([(.pointer (some ⟨t38, 0, none⟩)), (.map (some pb43)), (.bool (((startD D0).1).wv)), (.bool (((startD D0).1).sp)), (.bool (((startD D0).1).sc))] : List Value)), talC t38 hb39 cb40 ab41 lb42 ((startD D0).1).f ((startD D0).1).c ((startD D0).1).L, mapC pb43 (Value.int .i64) propV ((startD D0).1).P, rowC 45 35 (.slice a51 (((startD D0).2).length) c52) (((startD D0).2).length) (((startD D0).2).flatMap encA), rowC 45 35 v54 (((startD D0).2).length) (((startD D0).2).flatMap encA)] w55 := (Sat.turnL (L' := [cellC k37 92 (([(.int .i64 (((startD D0).1).f)), (.int .i64 (((startD D0).1).c)), (.int .i64 (((startD D0).1).epoch)), (.int .i64 (((startD D0).1).replica)), (.int .i64 (((startD D0).1).s.round)), (.int .i64 (((startD D0).1).s.step)), (.int .i64 (((startD D0).1).s.lr)), (.int .i64 (((startD D0).1).s.vr))] : List Value) ++ hc ((startD D0).1).s.locked ++ hc ((startD D0).1).s.valid ++ ([(.bool (((startD D0).1).s.decided))] : List Value) ++ hc ((startD D0).1).s.decision ++ ([(.pointer (some ⟨t38, 0, none⟩)), (.map (some pb43)), (.bool (((startD D0).1).wv)), (.bool (((startD D0).1).sp)), (.bool (((startD D0).1).sc))] : List Value)), talC t38 hb39 cb40 ab41 lb42 ((startD D0).1).f ((startD D0).1).c ((startD D0).1).L, mapC pb43 (Value.int .i64) propV ((startD D0).1).P, rowC 45 35 v54 (((startD D0).2).length) (((startD D0).2).flatMap encA)]) (R := [restC w (fun _ => False), cellC b6 25 ([(.int .i64 (F)), (.int .i64 (1))] : List Value), cellC k23 92 (([(.int .i64 (((startD D0).1).f)), (.int .i64 (((startD D0).1).c)), (.int .i64 (((startD D0).1).epoch)), (.int .i64 (((startD D0).1).replica)), (.int .i64 (((startD D0).1).s.round)), (.int .i64 (((startD D0).1).s.step)), (.int .i64 (((startD D0).1).s.lr)), (.int .i64 (((startD D0).1).s.vr))] : List Value) ++ hc ((startD D0).1).s.locked ++ hc ((startD D0).1).s.valid ++ ([(.bool (((startD D0).1).s.decided))] : List Value) ++ hc ((startD D0).1).s.decision ++ ([(.pointer (some ⟨t24, 0, none⟩)), (.map (some pb29)), (.bool (((startD D0).1).wv)), (.bool (((startD D0).1).sp)), (.bool (((startD D0).1).sc))] : List Value)), talC t24 hb25 cb26 ab27 lb28 ((startD D0).1).f ((startD D0).1).c ((startD D0).1).L, mapC pb29 (Value.int .i64) propV ((startD D0).1).P, rowC 45 35 (.slice a51 (((startD D0).2).length) c52) (((startD D0).2).length) (((startD D0).2).flatMap encA)]) H50 [5, 6, 7] [0, 1, 2, 3, 4, 8] (by decide) (by kernel_rfl) rfl S56).pick [4, 5, 6, 7, 8, 0, 1, 2, 9, 3] (by decide)
  obtain ⟨a59, c60, rfl⟩ := ownsRow_shape (H58.at 9 rfl)
  refine ⟨_, rfl, ?_⟩
  refine hK53 _ _ ?_
  clear hK53 K53
  refine w_nil ?_
  refine then_normal ?_
  refine w_seq ?_
  refine w_seq ?_
  refine w_lit ?_
  refine wl_pure (wants0 rfl) (d := 11) (v := (.int .i64 (0))) rfl (by kernel_rfl) ?_
  refine w_nil ?_
  refine then_normal ?_
  refine w_block ?_
  refine wp_round [4, 11, 12, 13, 14, 15, 16, 51, 52, 53, 54, 55, 56, 57, 58, 59, 60, 61, 62, 63, 64, 65, 66, 67, 68, 69, 70, 71, 72, 73, 74, 75, 76, 77, 78, 79, 80, 81, 82, 83, 84, 85, 86, 87, 88, 89, 90, 91, 92, 93, 94, 95, 96, 97, 98, 99, 100, 101, 102, 103, 104, 105, 106, 107, 108, 109, 110, 111, 112, 113, 114, 115, 116, 117, 118, 119, 120, 121, 122, 123, 124, 125, 126, 127, 128, 129, 130, 131, 132, 133, 134, 135, 136, 137, 138, 139, 140, 141, 142, 143, 144, 145, 146, 147, 148, 149, 150, 151, 152, 153, 154, 155, 156, 157, 158] (fun F_ W_ m_ => ∃ (k : Nat), F_ 11 = (.int .i64 ((k : Int))) ∧ (k ≤ ls.length ∧ k ≤ 30) ∧ Sat w [restC w (fun _ => False), cellC b6 25 ([(.int .i64 (F)), (.int .i64 (1))] : List Value), cellC k23 92 (([(.int .i64 ((dbD (3 * F + 1) ls (startD D0).1 k).f)), (.int .i64 ((dbD (3 * F + 1) ls (startD D0).1 k).c)), (.int .i64 ((dbD (3 * F + 1) ls (startD D0).1 k).epoch)), (.int .i64 ((dbD (3 * F + 1) ls (startD D0).1 k).replica)), (.int .i64 ((dbD (3 * F + 1) ls (startD D0).1 k).s.round)), (.int .i64 ((dbD (3 * F + 1) ls (startD D0).1 k).s.step)), (.int .i64 ((dbD (3 * F + 1) ls (startD D0).1 k).s.lr)), (.int .i64 ((dbD (3 * F + 1) ls (startD D0).1 k).s.vr))] : List Value) ++ hc (dbD (3 * F + 1) ls (startD D0).1 k).s.locked ++ hc (dbD (3 * F + 1) ls (startD D0).1 k).s.valid ++ ([(.bool ((dbD (3 * F + 1) ls (startD D0).1 k).s.decided))] : List Value) ++ hc (dbD (3 * F + 1) ls (startD D0).1 k).s.decision ++ ([(.pointer (some ⟨t24, 0, none⟩)), (.map (some pb29)), (.bool ((dbD (3 * F + 1) ls (startD D0).1 k).wv)), (.bool ((dbD (3 * F + 1) ls (startD D0).1 k).sp)), (.bool ((dbD (3 * F + 1) ls (startD D0).1 k).sc))] : List Value)), talC t24 hb25 cb26 ab27 lb28 (dbD (3 * F + 1) ls (startD D0).1 k).f (dbD (3 * F + 1) ls (startD D0).1 k).c (dbD (3 * F + 1) ls (startD D0).1 k).L, mapC pb29 (Value.int .i64) propV (dbD (3 * F + 1) ls (startD D0).1 k).P, cellC k37 92 (([(.int .i64 ((dbD (3 * F + 1) ls (startD D0).1 k).f)), (.int .i64 ((dbD (3 * F + 1) ls (startD D0).1 k).c)), (.int .i64 ((dbD (3 * F + 1) ls (startD D0).1 k).epoch)), (.int .i64 ((dbD (3 * F + 1) ls (startD D0).1 k).replica)), (.int .i64 ((dbD (3 * F + 1) ls (startD D0).1 k).s.round)), (.int .i64 ((dbD (3 * F + 1) ls (startD D0).1 k).s.step)), (.int .i64 ((dbD (3 * F + 1) ls (startD D0).1 k).s.lr)), (.int .i64 ((dbD (3 * F + 1) ls (startD D0).1 k).s.vr))] : List Value) ++ hc (dbD (3 * F + 1) ls (startD D0).1 k).s.locked ++ hc (dbD (3 * F + 1) ls (startD D0).1 k).s.valid ++ ([(.bool ((dbD (3 * F + 1) ls (startD D0).1 k).s.decided))] : List Value) ++ hc (dbD (3 * F + 1) ls (startD D0).1 k).s.decision ++ ([(.pointer (some ⟨t38, 0, none⟩)), (.map (some pb43)), (.bool ((dbD (3 * F + 1) ls (startD D0).1 k).wv)), (.bool ((dbD (3 * F + 1) ls (startD D0).1 k).sp)), (.bool ((dbD (3 * F + 1) ls (startD D0).1 k).sc))] : List Value)), talC t38 hb39 cb40 ab41 lb42 (dbD (3 * F + 1) ls (startD D0).1 k).f (dbD (3 * F + 1) ls (startD D0).1 k).c (dbD (3 * F + 1) ls (startD D0).1 k).L, mapC pb43 (Value.int .i64) propV (dbD (3 * F + 1) ls (startD D0).1 k).P, rowC 45 35 (.slice a51 (((startD D0).2).length) c52) (((startD D0).2).length) (((startD D0).2).flatMap encA), rowC 45 35 (.slice a59 (((startD D0).2).length) c60) (((startD D0).2).length) (((startD D0).2).flatMap encA)] W_ ∧ m_ = 30 - k) _ ⟨0, (by first | rfl | go_num), ⟨Nat.zero_le _, Nat.zero_le _⟩, H58, rfl⟩ ?_
  rintro g61 w62 _ ⟨k, v64, hk, H63, rfl⟩
  refine wp_know 11 _ v64 ?_
  refine w_seq ?_
  refine wp_meetR [51, 52, 53, 54, 55, 56, 57, 58] (fun G_ W_ => G_ 58 = (.bool (decide ((k : Int) < ls.length) && decide ((k : Int) < 30))) ∧ Sat w [restC w (fun _ => False), cellC b6 25 ([(.int .i64 (F)), (.int .i64 (1))] : List Value), cellC k23 92 (([(.int .i64 ((dbD (3 * F + 1) ls (startD D0).1 k).f)), (.int .i64 ((dbD (3 * F + 1) ls (startD D0).1 k).c)), (.int .i64 ((dbD (3 * F + 1) ls (startD D0).1 k).epoch)), (.int .i64 ((dbD (3 * F + 1) ls (startD D0).1 k).replica)), (.int .i64 ((dbD (3 * F + 1) ls (startD D0).1 k).s.round)), (.int .i64 ((dbD (3 * F + 1) ls (startD D0).1 k).s.step)), (.int .i64 ((dbD (3 * F + 1) ls (startD D0).1 k).s.lr)), (.int .i64 ((dbD (3 * F + 1) ls (startD D0).1 k).s.vr))] : List Value) ++ hc (dbD (3 * F + 1) ls (startD D0).1 k).s.locked ++ hc (dbD (3 * F + 1) ls (startD D0).1 k).s.valid ++ ([(.bool ((dbD (3 * F + 1) ls (startD D0).1 k).s.decided))] : List Value) ++ hc (dbD (3 * F + 1) ls (startD D0).1 k).s.decision ++ ([(.pointer (some ⟨t24, 0, none⟩)), (.map (some pb29)), (.bool ((dbD (3 * F + 1) ls (startD D0).1 k).wv)), (.bool ((dbD (3 * F + 1) ls (startD D0).1 k).sp)), (.bool ((dbD (3 * F + 1) ls (startD D0).1 k).sc))] : List Value)), talC t24 hb25 cb26 ab27 lb28 (dbD (3 * F + 1) ls (startD D0).1 k).f (dbD (3 * F + 1) ls (startD D0).1 k).c (dbD (3 * F + 1) ls (startD D0).1 k).L, mapC pb29 (Value.int .i64) propV (dbD (3 * F + 1) ls (startD D0).1 k).P, cellC k37 92 (([(.int .i64 ((dbD (3 * F + 1) ls (startD D0).1 k).f)), (.int .i64 ((dbD (3 * F + 1) ls (startD D0).1 k).c)), (.int .i64 ((dbD (3 * F + 1) ls (startD D0).1 k).epoch)), (.int .i64 ((dbD (3 * F + 1) ls (startD D0).1 k).replica)), (.int .i64 ((dbD (3 * F + 1) ls (startD D0).1 k).s.round)), (.int .i64 ((dbD (3 * F + 1) ls (startD D0).1 k).s.step)), (.int .i64 ((dbD (3 * F + 1) ls (startD D0).1 k).s.lr)), (.int .i64 ((dbD (3 * F + 1) ls (startD D0).1 k).s.vr))] : List Value) ++ hc (dbD (3 * F + 1) ls (startD D0).1 k).s.locked ++ hc (dbD (3 * F + 1) ls (startD D0).1 k).s.valid ++ ([(.bool ((dbD (3 * F + 1) ls (startD D0).1 k).s.decided))] : List Value) ++ hc (dbD (3 * F + 1) ls (startD D0).1 k).s.decision ++ ([(.pointer (some ⟨t38, 0, none⟩)), (.map (some pb43)), (.bool ((dbD (3 * F + 1) ls (startD D0).1 k).wv)), (.bool ((dbD (3 * F + 1) ls (startD D0).1 k).sp)), (.bool ((dbD (3 * F + 1) ls (startD D0).1 k).sc))] : List Value)), talC t38 hb39 cb40 ab41 lb42 (dbD (3 * F + 1) ls (startD D0).1 k).f (dbD (3 * F + 1) ls (startD D0).1 k).c (dbD (3 * F + 1) ls (startD D0).1 k).L, mapC pb43 (Value.int .i64) propV (dbD (3 * F + 1) ls (startD D0).1 k).P, rowC 45 35 (.slice a51 (((startD D0).2).length) c52) (((startD D0).2).length) (((startD D0).2).flatMap encA), rowC 45 35 (.slice a59 (((startD D0).2).length) c60) (((startD D0).2).length) (((startD D0).2).flatMap encA)] W_) ?_ ?_
  · refine w_lit ?_
    refine wl_pure (wants0 rfl) (d := 51) (v := (.int .i64 ((k : Int)))) rfl (by kernel_rfl) ?_
    refine wl_pure (wants0 rfl) (d := 52) (v := (.slice va ls.length vc)) rfl (by kernel_rfl) ?_
    refine wl_pure (wants0 rfl) (d := 53) (v := (.int .i64 ((ls.length : Int)))) rfl (by kernel_rfl) ?_
    refine wl_pure (wants0 rfl) (d := 54) (v := (.bool (decide ((k : Int) < (ls.length : Int))))) rfl (by kernel_rfl) ?_
    refine wl_pure (wants0 rfl) (d := 55) (v := (.bool (decide ((k : Int) < (ls.length : Int))))) rfl (by kernel_rfl) ?_
    refine (bsplit (decide ((k : Int) < (ls.length : Int)))).elim (fun b67 => ?_) (fun b67 => ?_)
    · have g68 := of_decide_eq_true b67
      refine wl_know 55 (.bool true) (congrArg Value.bool b67) ?_
      refine wl_pure (wantsY 4 55 true rfl (by kernel_rfl) rfl (by kernel_rfl)) (d := 56) (v := (.int .i64 ((k : Int)))) rfl (by kernel_rfl) ?_
      refine wl_pure (wantsY 4 55 true rfl (by kernel_rfl) rfl (by kernel_rfl)) (d := 57) (v := (.bool (decide ((k : Int) < 30)))) rfl (by kernel_rfl) ?_
      refine wl_pure (wants0 rfl) (d := 58) (v := (.bool (decide ((k : Int) < 30)))) rfl (by kernel_rfl) ?_
      refine w_nil ?_
      refine meetR_at ?_ ⟨(congrArg Value.bool (show (decide ((k : Int) < 30)) = (decide ((k : Int) < ls.length) && decide ((k : Int) < 30)) by (simp <;> omega))), H63⟩
      exact (same_upd rfl (same_upd rfl (same_upd rfl (same_upd rfl (same_upd rfl (same_upd rfl (same_upd rfl (same_upd rfl (same_upd rfl (same_refl))))))))))
    · have g69 := of_decide_eq_false b67
      refine wl_know 55 (.bool false) (congrArg Value.bool b67) ?_
      refine wl_pass (wantsN 4 55 true rfl (by kernel_rfl) rfl (by kernel_rfl)) rfl ?_
      refine wl_pass (wantsN 4 55 true rfl (by kernel_rfl) rfl (by kernel_rfl)) rfl ?_
      refine wl_pure (wants0 rfl) (d := 58) (v := (.bool false)) rfl (by kernel_rfl) ?_
      refine w_nil ?_
      refine meetR_at ?_ ⟨(congrArg Value.bool (show false = (decide ((k : Int) < ls.length) && decide ((k : Int) < 30)) by (simp <;> omega))), H63⟩
      exact (same_upd rfl (same_upd rfl (same_upd rfl (same_upd rfl (same_upd rfl (same_upd rfl (same_upd rfl (same_upd rfl (same_upd rfl (same_refl))))))))))
  · rintro f70 w71 ⟨v73, H72⟩
    refine wp_know 58 _ v73 ?_
    refine (bsplit (decide ((k : Int) < ls.length) && decide ((k : Int) < 30))).elim (fun b74 => ?_) (fun b74 => ?_)
    · refine wp_know 58 (.bool true) (congrArg Value.bool b74) ?_
      refine wp_ift rfl ?_
      refine w_skip ?_
      refine then_normal ?_
      refine w_seq ?_
      refine w_block ?_
      refine w_seq ?_
      have hkl : (k : Int) < ls.length ∧ (k : Int) < 30 := by simpa using b74
      refine w_lit ?_
      refine wl_pure (wants0 rfl) (d := 61) (v := (.slice va ls.length vc)) rfl (by kernel_rfl) ?_
      refine wl_pure (wants0 rfl) (d := 62) (v := (.int .i64 ((k : Int)))) rfl (by kernel_rfl) ?_
      obtain ⟨g75, o76, c77, e78, R79⟩ := SliceOf.atD hls inD0 (show k < ls.length by omega)
      refine wl_pure (wants0 rfl) (d := 63) (v := (.pointer (some ⟨g75, o76 + ((k : Int)).toNat * 39, none⟩))) rfl (e_indexAddrW (E := 57) (by kernel_rfl) (by kernel_rfl) (Nat.le_of_ble_eq_true rfl) rfl e78 rfl (by omega) (by omega)) ?_
      refine wl_pure (wants0 rfl) (d := 64) (v := (.agg ⟨(([(.int .i64 ((ls.getD k inD0).doo)), (.int .i64 ((ls.getD k inD0).kind)), (.int .i64 ((ls.getD k inD0).round)), (.int .i64 ((ls.getD k inD0).valid)), (.int .i64 ((ls.getD k inD0).replica))] : List Value) ++ hc (ls.getD k inD0).h ++ ([(.bool ((ls.getD k inD0).ok)), (.bool ((ls.getD k inD0).raw))] : List Value))⟩)) rfl (e_loadRun (vs := (([(.int .i64 ((ls.getD k inD0).doo)), (.int .i64 ((ls.getD k inD0).kind)), (.int .i64 ((ls.getD k inD0).round)), (.int .i64 ((ls.getD k inD0).valid)), (.int .i64 ((ls.getD k inD0).replica))] : List Value) ++ hc (ls.getD k inD0).h ++ ([(.bool ((ls.getD k inD0).ok)), (.bool ((ls.getD k inD0).raw))] : List Value))) rfl (by kernel_rfl) (by kernel_rfl) (Nat.le_of_ble_eq_true (by kernel_rfl)) (H72.runR 0 rfl (cells_run R79 0 (by kernel_rfl) (show o76 + ((k : Int)).toNat * 39 = o76 + k * 39 + 0 by omega)) (fun h => h))) ?_
      refine wl_pure (wants0 rfl) (d := 65) (v := (.int .i64 (3 * F + 1))) rfl (by kernel_rfl) ?_
      refine wl_do (wants0 rfl) (fun K80 hK80 => ?_)
      obtain ⟨x81, hx82⟩ : ∃ x, cutI (3 * F + 1) (ls.getD k inD0) = x := ⟨_, rfl⟩
      refine d_call (d := 66) rfl (by kernel_rfl) (cutI_any w71 (ls.getD k inD0) (3 * F + 1) (by omega)) ?_
      rw [hx82]
      rintro _ w83 ⟨rfl, u85⟩
      have H84 := H72.keepU u85
      refine ⟨_, rfl, ?_⟩
      refine hK80 _ _ ?_
      clear hK80 K80
      refine wl_do (wants0 rfl) (fun K86 hK86 => ?_)
      refine d_alloc (zs := (([(.int .i64 (0)), (.int .i64 (0)), (.int .i64 (0)), (.int .i64 (0)), (.int .i64 (0))] : List Value) ++ hc hash0 ++ ([(.bool false), (.bool false)] : List Value))) (z := (.agg ⟨(([(.int .i64 (0)), (.int .i64 (0)), (.int .i64 (0)), (.int .i64 (0)), (.int .i64 (0))] : List Value) ++ hc hash0 ++ ([(.bool false), (.bool false)] : List Value))⟩)) rfl H84 (by kernel_rfl) (by kernel_rfl) ?_
      intro b87 w88 (H89 : Sat w [restC w (fun _ => False), cellC b6 25 ([(.int .i64 (F)), (.int .i64 (1))] : List Value), cellC k23 92 (([(.int .i64 ((dbD (3 * F + 1) ls (startD D0).1 k).f)), (.int .i64 ((dbD (3 * F + 1) ls (startD D0).1 k).c)), (.int .i64 ((dbD (3 * F + 1) ls (startD D0).1 k).epoch)), (.int .i64 ((dbD (3 * F + 1) ls (startD D0).1 k).replica)), (.int .i64 ((dbD (3 * F + 1) ls (startD D0).1 k).s.round)), (.int .i64 ((dbD (3 * F + 1) ls (startD D0).1 k).s.step)), (.int .i64 ((dbD (3 * F + 1) ls (startD D0).1 k).s.lr)), (.int .i64 ((dbD (3 * F + 1) ls (startD D0).1 k).s.vr))] : List Value) ++ hc (dbD (3 * F + 1) ls (startD D0).1 k).s.locked ++ hc (dbD (3 * F + 1) ls (startD D0).1 k).s.valid ++ ([(.bool ((dbD (3 * F + 1) ls (startD D0).1 k).s.decided))] : List Value) ++ hc (dbD (3 * F + 1) ls (startD D0).1 k).s.decision ++ ([(.pointer (some ⟨t24, 0, none⟩)), (.map (some pb29)), (.bool ((dbD (3 * F + 1) ls (startD D0).1 k).wv)), (.bool ((dbD (3 * F + 1) ls (startD D0).1 k).sp)), (.bool ((dbD (3 * F + 1) ls (startD D0).1 k).sc))] : List Value)), talC t24 hb25 cb26 ab27 lb28 (dbD (3 * F + 1) ls (startD D0).1 k).f (dbD (3 * F + 1) ls (startD D0).1 k).c (dbD (3 * F + 1) ls (startD D0).1 k).L, mapC pb29 (Value.int .i64) propV (dbD (3 * F + 1) ls (startD D0).1 k).P, cellC k37 92 (([(.int .i64 ((dbD (3 * F + 1) ls (startD D0).1 k).f)), (.int .i64 ((dbD (3 * F + 1) ls (startD D0).1 k).c)), (.int .i64 ((dbD (3 * F + 1) ls (startD D0).1 k).epoch)), (.int .i64 ((dbD (3 * F + 1) ls (startD D0).1 k).replica)), (.int .i64 ((dbD (3 * F + 1) ls (startD D0).1 k).s.round)), (.int .i64 ((dbD (3 * F + 1) ls (startD D0).1 k).s.step)), (.int .i64 ((dbD (3 * F + 1) ls (startD D0).1 k).s.lr)), (.int .i64 ((dbD (3 * F + 1) ls (startD D0).1 k).s.vr))] : List Value) ++ hc (dbD (3 * F + 1) ls (startD D0).1 k).s.locked ++ hc (dbD (3 * F + 1) ls (startD D0).1 k).s.valid ++ ([(.bool ((dbD (3 * F + 1) ls (startD D0).1 k).s.decided))] : List Value) ++ hc (dbD (3 * F + 1) ls (startD D0).1 k).s.decision ++ ([(.pointer (some ⟨t38, 0, none⟩)), (.map (some pb43)), (.bool ((dbD (3 * F + 1) ls (startD D0).1 k).wv)), (.bool ((dbD (3 * F + 1) ls (startD D0).1 k).sp)), (.bool ((dbD (3 * F + 1) ls (startD D0).1 k).sc))] : List Value)), talC t38 hb39 cb40 ab41 lb42 (dbD (3 * F + 1) ls (startD D0).1 k).f (dbD (3 * F + 1) ls (startD D0).1 k).c (dbD (3 * F + 1) ls (startD D0).1 k).L, mapC pb43 (Value.int .i64) propV (dbD (3 * F + 1) ls (startD D0).1 k).P, rowC 45 35 (.slice a51 (((startD D0).2).length) c52) (((startD D0).2).length) (((startD D0).2).flatMap encA), rowC 45 35 (.slice a59 (((startD D0).2).length) c60) (((startD D0).2).length) (((startD D0).2).flatMap encA), cellC b87 57 (([(.int .i64 (0)), (.int .i64 (0)), (.int .i64 (0)), (.int .i64 (0)), (.int .i64 (0))] : List Value) ++ hc hash0 ++ ([(.bool false), (.bool false)] : List Value))] w88)
      refine hK86 _ _ ?_
      clear hK86 K86
      refine wl_do (wants0 rfl) (fun K90 hK90 => ?_)
      refine d_storeX (vs := (([(.int .i64 (x81.doo)), (.int .i64 (x81.kind)), (.int .i64 (x81.round)), (.int .i64 (x81.valid)), (.int .i64 (x81.replica))] : List Value) ++ hc x81.h ++ ([(.bool (x81.ok)), (.bool (x81.raw))] : List Value))) (cs' := (([(.int .i64 (x81.doo)), (.int .i64 (x81.kind)), (.int .i64 (x81.round)), (.int .i64 (x81.valid)), (.int .i64 (x81.replica))] : List Value) ++ hc x81.h ++ ([(.bool (x81.ok)), (.bool (x81.raw))] : List Value))) rfl H89 10 rfl rfl rfl rfl (by kernel_rfl) (Nat.le_of_ble_eq_true (by kernel_rfl)) (Nat.le_of_ble_eq_true (by kernel_rfl)) (by kernel_rfl) (by kernel_rfl) ?_
      intro w91 (H92 : Sat w [restC w (fun _ => False), cellC b6 25 ([(.int .i64 (F)), (.int .i64 (1))] : List Value), cellC k23 92 (([(.int .i64 ((dbD (3 * F + 1) ls (startD D0).1 k).f)), (.int .i64 ((dbD (3 * F + 1) ls (startD D0).1 k).c)), (.int .i64 ((dbD (3 * F + 1) ls (startD D0).1 k).epoch)), (.int .i64 ((dbD (3 * F + 1) ls (startD D0).1 k).replica)), (.int .i64 ((dbD (3 * F + 1) ls (startD D0).1 k).s.round)), (.int .i64 ((dbD (3 * F + 1) ls (startD D0).1 k).s.step)), (.int .i64 ((dbD (3 * F + 1) ls (startD D0).1 k).s.lr)), (.int .i64 ((dbD (3 * F + 1) ls (startD D0).1 k).s.vr))] : List Value) ++ hc (dbD (3 * F + 1) ls (startD D0).1 k).s.locked ++ hc (dbD (3 * F + 1) ls (startD D0).1 k).s.valid ++ ([(.bool ((dbD (3 * F + 1) ls (startD D0).1 k).s.decided))] : List Value) ++ hc (dbD (3 * F + 1) ls (startD D0).1 k).s.decision ++ ([(.pointer (some ⟨t24, 0, none⟩)), (.map (some pb29)), (.bool ((dbD (3 * F + 1) ls (startD D0).1 k).wv)), (.bool ((dbD (3 * F + 1) ls (startD D0).1 k).sp)), (.bool ((dbD (3 * F + 1) ls (startD D0).1 k).sc))] : List Value)), talC t24 hb25 cb26 ab27 lb28 (dbD (3 * F + 1) ls (startD D0).1 k).f (dbD (3 * F + 1) ls (startD D0).1 k).c (dbD (3 * F + 1) ls (startD D0).1 k).L, mapC pb29 (Value.int .i64) propV (dbD (3 * F + 1) ls (startD D0).1 k).P, cellC k37 92 (([(.int .i64 ((dbD (3 * F + 1) ls (startD D0).1 k).f)), (.int .i64 ((dbD (3 * F + 1) ls (startD D0).1 k).c)), (.int .i64 ((dbD (3 * F + 1) ls (startD D0).1 k).epoch)), (.int .i64 ((dbD (3 * F + 1) ls (startD D0).1 k).replica)), (.int .i64 ((dbD (3 * F + 1) ls (startD D0).1 k).s.round)), (.int .i64 ((dbD (3 * F + 1) ls (startD D0).1 k).s.step)), (.int .i64 ((dbD (3 * F + 1) ls (startD D0).1 k).s.lr)), (.int .i64 ((dbD (3 * F + 1) ls (startD D0).1 k).s.vr))] : List Value) ++ hc (dbD (3 * F + 1) ls (startD D0).1 k).s.locked ++ hc (dbD (3 * F + 1) ls (startD D0).1 k).s.valid ++ ([(.bool ((dbD (3 * F + 1) ls (startD D0).1 k).s.decided))] : List Value) ++ hc (dbD (3 * F + 1) ls (startD D0).1 k).s.decision ++ ([(.pointer (some ⟨t38, 0, none⟩)), (.map (some pb43)), (.bool ((dbD (3 * F + 1) ls (startD D0).1 k).wv)), (.bool ((dbD (3 * F + 1) ls (startD D0).1 k).sp)), (.bool ((dbD (3 * F + 1) ls (startD D0).1 k).sc))] : List Value)), talC t38 hb39 cb40 ab41 lb42 (dbD (3 * F + 1) ls (startD D0).1 k).f (dbD (3 * F + 1) ls (startD D0).1 k).c (dbD (3 * F + 1) ls (startD D0).1 k).L, mapC pb43 (Value.int .i64) propV (dbD (3 * F + 1) ls (startD D0).1 k).P, rowC 45 35 (.slice a51 (((startD D0).2).length) c52) (((startD D0).2).length) (((startD D0).2).flatMap encA), rowC 45 35 (.slice a59 (((startD D0).2).length) c60) (((startD D0).2).length) (((startD D0).2).flatMap encA), cellC b87 57 (([(.int .i64 (x81.doo)), (.int .i64 (x81.kind)), (.int .i64 (x81.round)), (.int .i64 (x81.valid)), (.int .i64 (x81.replica))] : List Value) ++ hc x81.h ++ ([(.bool (x81.ok)), (.bool (x81.raw))] : List Value))] w91)
      refine hK90 _ _ ?_
      clear hK90 K90
      refine w_nil ?_
      refine then_normal ?_
      refine w_seq ?_
      refine w_seq ?_
      refine w_lit ?_
      refine wl_pure (wants0 rfl) (d := 67) (v := (.pointer (some ⟨b87, 0, none⟩))) rfl (by kernel_rfl) ?_
      refine wl_pure (wants0 rfl) (d := 68) (v := (.int .i64 (x81.doo))) rfl (e_load1 rfl (by kernel_rfl) (H92.cell 10 rfl (by kernel_rfl))) ?_
      refine wl_do (wants0 rfl) (fun K94 hK94 => ?_)
      refine d_call (d := 69) rfl (by kernel_rfl) (within_any w91 x81.doo 8 (by omega)) ?_
      rintro _ w95 ⟨rfl, u97⟩
      have H96 := H92.keepU u97
      refine ⟨_, rfl, ?_⟩
      refine hK94 _ _ ?_
      clear hK94 K94
      refine w_nil ?_
      refine then_normal ?_
      refine w_block ?_
      refine w_seq ?_
      refine w_seq ?_
      refine w_lit ?_
      refine wl_pure (wants0 rfl) (d := 109) (v := (.bool (decide ((withinV x81.doo 8) = 0)))) rfl (by kernel_rfl) ?_
      refine wl_pure (wants0 rfl) (d := 108) (v := (.bool (decide ((withinV x81.doo 8) = 0)))) rfl (by kernel_rfl) ?_
      refine w_nil ?_
      refine then_normal ?_
      refine (bsplit (decide ((withinV x81.doo 8) = 0))).elim (fun b98 => ?_) (fun b98 => ?_)
      · have g99 := of_decide_eq_true b98
        refine wp_know 108 (.bool true) (congrArg Value.bool b98) ?_
        have g100 := of_decide_eq_true b98
        refine wp_ift rfl ?_
        refine w_skip ?_
        refine then_normal ?_
        refine wp_ift rfl ?_
        refine w_seq ?_
        have hC := dbCI (n := (3 * F + 1)) (ls := ls) C0.start k
        obtain ⟨D2, A2, hst⟩ : ∃ D2 A2, proposeD (dbD (3 * F + 1) ls (startD D0).1 k) x81.round x81.valid x81.h x81.ok = (D2, A2) := ⟨_, _, rfl⟩
        have hC2 : CI D2 := by have q := hC.propose x81.round x81.valid x81.h x81.ok; rwa [hst] at q
        refine h_start H96 [restC w (fun _ => False), cellC b6 25 ([(.int .i64 (F)), (.int .i64 (1))] : List Value), rowC 45 35 (.slice a51 (((startD D0).2).length) c52) (((startD D0).2).length) (((startD D0).2).flatMap encA), rowC 45 35 (.slice a59 (((startD D0).2).length) c60) (((startD D0).2).length) (((startD D0).2).flatMap encA), cellC b87 57 (([(.int .i64 (x81.doo)), (.int .i64 (x81.kind)), (.int .i64 (x81.round)), (.int .i64 (x81.valid)), (.int .i64 (x81.replica))] : List Value) ++ hc x81.h ++ ([(.bool (x81.ok)), (.bool (x81.raw))] : List Value))] 22 rfl (by kernel_rfl) (fun Hx => (Hx.pick [0, 1, 8, 9, 10] (by decide))) ?_
        intro w101 H102 S103
        refine h_val 0 rfl (by kernel_rfl) (by kernel_rfl) (by kernel_rfl) (fun _ _ _ h => h) S103 (wants0 rfl) (d := 111) (v := (.pointer (some ⟨k23, 0, none⟩))) rfl (fun _ H' => (by kernel_rfl)) ?_
        refine h_val 1 rfl (by kernel_rfl) (by kernel_rfl) (by kernel_rfl) (fun _ _ _ h => h) S103 (wants0 rfl) (d := 112) (v := (.pointer (some ⟨b87, 2, none⟩))) rfl (fun _ H' => (by kernel_rfl)) ?_
        refine h_val 2 rfl (by kernel_rfl) (by kernel_rfl) (by kernel_rfl) (fun _ _ _ h => h) S103 (wants0 rfl) (d := 113) (v := (.int .i64 (x81.round))) rfl (fun _ H' => (e_load1 rfl (by kernel_rfl) (H'.cell 4 rfl (by kernel_rfl)))) ?_
        refine h_val 3 rfl (by kernel_rfl) (by kernel_rfl) (by kernel_rfl) (fun _ _ _ h => h) S103 (wants0 rfl) (d := 114) (v := (.pointer (some ⟨b87, 3, none⟩))) rfl (fun _ H' => (by kernel_rfl)) ?_
        refine h_val 4 rfl (by kernel_rfl) (by kernel_rfl) (by kernel_rfl) (fun _ _ _ h => h) S103 (wants0 rfl) (d := 115) (v := (.int .i64 (x81.valid))) rfl (fun _ H' => (e_load1 rfl (by kernel_rfl) (H'.cell 4 rfl (by kernel_rfl)))) ?_
        refine h_val 5 rfl (by kernel_rfl) (by kernel_rfl) (by kernel_rfl) (fun _ _ _ h => h) S103 (wants0 rfl) (d := 116) (v := (.pointer (some ⟨b87, 5, none⟩))) rfl (fun _ H' => (by kernel_rfl)) ?_
        refine h_val 6 rfl (by kernel_rfl) (by kernel_rfl) (by kernel_rfl) (fun _ _ _ h => h) S103 (wants0 rfl) (d := 117) (v := (.agg ⟨(hc x81.h)⟩)) rfl (fun _ H' => (e_loadN (vs := (hc x81.h)) rfl (by kernel_rfl) (by kernel_rfl) (by exact Nat.le_of_ble_eq_true (by kernel_rfl)) (H'.at 4 rfl) (by kernel_rfl))) ?_
        refine h_val 7 rfl (by kernel_rfl) (by kernel_rfl) (by kernel_rfl) (fun _ _ _ h => h) S103 (wants0 rfl) (d := 118) (v := (.pointer (some ⟨b87, 37, none⟩))) rfl (fun _ H' => (by kernel_rfl)) ?_
        refine h_val 8 rfl (by kernel_rfl) (by kernel_rfl) (by kernel_rfl) (fun _ _ _ h => h) S103 (wants0 rfl) (d := 119) (v := (.bool (x81.ok))) rfl (fun _ H' => (e_load1 rfl (by kernel_rfl) (H'.cell 4 rfl (by kernel_rfl)))) ?_
        refine h_val 10 rfl (by kernel_rfl) (by kernel_rfl) (by kernel_rfl) (fun _ _ _ h => h) S103 (wants0 rfl) (d := 121) (v := (.pointer (some ⟨k37, 0, none⟩))) rfl (fun _ H' => (by kernel_rfl)) ?_
        refine h_val 11 rfl (by kernel_rfl) (by kernel_rfl) (by kernel_rfl) (fun _ _ _ h => h) S103 (wants0 rfl) (d := 122) (v := (.pointer (some ⟨b87, 2, none⟩))) rfl (fun _ H' => (by kernel_rfl)) ?_
        refine h_val 12 rfl (by kernel_rfl) (by kernel_rfl) (by kernel_rfl) (fun _ _ _ h => h) S103 (wants0 rfl) (d := 123) (v := (.int .i64 (x81.round))) rfl (fun _ H' => (e_load1 rfl (by kernel_rfl) (H'.cell 4 rfl (by kernel_rfl)))) ?_
        refine h_val 13 rfl (by kernel_rfl) (by kernel_rfl) (by kernel_rfl) (fun _ _ _ h => h) S103 (wants0 rfl) (d := 124) (v := (.pointer (some ⟨b87, 3, none⟩))) rfl (fun _ H' => (by kernel_rfl)) ?_
        refine h_val 14 rfl (by kernel_rfl) (by kernel_rfl) (by kernel_rfl) (fun _ _ _ h => h) S103 (wants0 rfl) (d := 125) (v := (.int .i64 (x81.valid))) rfl (fun _ H' => (e_load1 rfl (by kernel_rfl) (H'.cell 4 rfl (by kernel_rfl)))) ?_
        refine h_val 15 rfl (by kernel_rfl) (by kernel_rfl) (by kernel_rfl) (fun _ _ _ h => h) S103 (wants0 rfl) (d := 126) (v := (.pointer (some ⟨b87, 5, none⟩))) rfl (fun _ H' => (by kernel_rfl)) ?_
        refine h_val 16 rfl (by kernel_rfl) (by kernel_rfl) (by kernel_rfl) (fun _ _ _ h => h) S103 (wants0 rfl) (d := 127) (v := (.agg ⟨(hc x81.h)⟩)) rfl (fun _ H' => (e_loadN (vs := (hc x81.h)) rfl (by kernel_rfl) (by kernel_rfl) (by exact Nat.le_of_ble_eq_true (by kernel_rfl)) (H'.at 4 rfl) (by kernel_rfl))) ?_
        refine h_val 17 rfl (by kernel_rfl) (by kernel_rfl) (by kernel_rfl) (fun _ _ _ h => h) S103 (wants0 rfl) (d := 128) (v := (.pointer (some ⟨b87, 37, none⟩))) rfl (fun _ H' => (by kernel_rfl)) ?_
        refine h_val 18 rfl (by kernel_rfl) (by kernel_rfl) (by kernel_rfl) (fun _ _ _ h => h) S103 (wants0 rfl) (d := 129) (v := (.bool (x81.ok))) rfl (fun _ H' => (e_load1 rfl (by kernel_rfl) (H'.cell 4 rfl (by kernel_rfl)))) ?_
        refine h_do 9 rfl (by kernel_rfl) (wants0 rfl) (fun K104 hK104 => ?_)
        refine d_call (d := 120) rfl (by kernel_rfl) (corePropose_any w101 k23 t24 hb25 cb26 ab27 lb28 pb29 (dbD (3 * F + 1) ls (startD D0).1 k) (ok_of (by kernel_rfl) (H102.fin [2, 3, 4] (by decide) rfl)) (dbCI C0.start k) x81.round x81.valid x81.h (x81.ok)) ?_
        rintro _ w106 ⟨v105, rfl, S107⟩
        rw [hst] at S107
        replace S107 := Sat.cast (G' := [cellC k23 92 (([(.int .i64 (D2.f)), (.int .i64 (D2.c)), (.int .i64 (D2.epoch)), (.int .i64 (D2.replica)), (.int .i64 (D2.s.round)), (.int .i64 (D2.s.step)), (.int .i64 (D2.s.lr)), (.int .i64 (D2.s.vr))] : List Value) ++ hc D2.s.locked ++ hc D2.s.valid ++ ([(.bool (D2.s.decided))] : List Value) ++ hc D2.s.decision ++ ([(.pointer (some ⟨t24, 0, none⟩)), (.map (some pb29)), (.bool (D2.wv)), (.bool (D2.sp)), (.bool (D2.sc))] : List Value)), talC t24 hb25 cb26 ab27 lb28 D2.f D2.c D2.L, mapC pb29 (Value.int .i64) propV D2.P, rowC 45 35 v105 A2.length (A2.flatMap encA), restC w101 (coreC k23 t24 hb25 cb26 ab27 lb28 pb29 (dbD (3 * F + 1) ls (startD D0).1 k)).fp]) S107 (by kernel_rfl)
        have H109 : Sat w [restC w (fun _ => False), cellC b6 25 ([(.int .i64 (F)), (.int .i64 (1))] : List Value), cellC k23 92 (([(.int .i64 (D2.f)), (.int .i64 (D2.c)), (.int .i64 (D2.epoch)), (.int .i64 (D2.replica)), (.int .i64 (D2.s.round)), (.int .i64 (D2.s.step)), (.int .i64 (D2.s.lr)), (.int .i64 (D2.s.vr))] : List Value) ++ hc D2.s.locked ++ hc D2.s.valid ++ ([(.bool (D2.s.decided))] : List Value) ++ hc D2.s.decision ++ ([(.pointer (some ⟨t24, 0, none⟩)), (.map (some pb29)), (.bool (D2.wv)), (.bool (D2.sp)), (.bool (D2.sc))] : List Value)), talC t24 hb25 cb26 ab27 lb28 D2.f D2.c D2.L, mapC pb29 (Value.int .i64) propV D2.P, cellC k37 92 (([(.int .i64 ((dbD (3 * F + 1) ls (startD D0).1 k).f)), (.int .i64 ((dbD (3 * F + 1) ls (startD D0).1 k).c)), (.int .i64 ((dbD (3 * F + 1) ls (startD D0).1 k).epoch)), (.int .i64 ((dbD (3 * F + 1) ls (startD D0).1 k).replica)), (.int .i64 ((dbD (3 * F + 1) ls (startD D0).1 k).s.round)), (.int .i64 ((dbD (3 * F + 1) ls (startD D0).1 k).s.step)), (.int .i64 ((dbD (3 * F + 1) ls (startD D0).1 k).s.lr)), (.int .i64 ((dbD (3 * F + 1) ls (startD D0).1 k).s.vr))] : List Value) ++ hc (dbD (3 * F + 1) ls (startD D0).1 k).s.locked ++ hc (dbD (3 * F + 1) ls (startD D0).1 k).s.valid ++ ([(.bool ((dbD (3 * F + 1) ls (startD D0).1 k).s.decided))] : List Value) ++ hc (dbD (3 * F + 1) ls (startD D0).1 k).s.decision ++ ([(.pointer (some ⟨t38, 0, none⟩)), (.map (some pb43)), (.bool ((dbD (3 * F + 1) ls (startD D0).1 k).wv)), (.bool ((dbD (3 * F + 1) ls (startD D0).1 k).sp)), (.bool ((dbD (3 * F + 1) ls (startD D0).1 k).sc))] : List Value)), talC t38 hb39 cb40 ab41 lb42 (dbD (3 * F + 1) ls (startD D0).1 k).f (dbD (3 * F + 1) ls (startD D0).1 k).c (dbD (3 * F + 1) ls (startD D0).1 k).L, mapC pb43 (Value.int .i64) propV (dbD (3 * F + 1) ls (startD D0).1 k).P, rowC 45 35 (.slice a51 (((startD D0).2).length) c52) (((startD D0).2).length) (((startD D0).2).flatMap encA), rowC 45 35 (.slice a59 (((startD D0).2).length) c60) (((startD D0).2).length) (((startD D0).2).flatMap encA), cellC b87 57 (([(.int .i64 (x81.doo)), (.int .i64 (x81.kind)), (.int .i64 (x81.round)), (.int .i64 (x81.valid)), (.int .i64 (x81.replica))] : List Value) ++ hc x81.h ++ ([(.bool (x81.ok)), (.bool (x81.raw))] : List Value)), rowC 45 35 v105 A2.length (A2.flatMap encA)] w106 := (Sat.turnL (L' := [cellC k23 92 (([(.int .i64 (D2.f)), (.int .i64 (D2.c)), (.int .i64 (D2.epoch)), (.int .i64 (D2.replica)), (.int .i64 (D2.s.round)), (.int .i64 (D2.s.step)), (.int .i64 (D2.s.lr)), (.int .i64 (D2.s.vr))] : List Value) ++ hc D2.s.locked ++ hc D2.s.valid ++ ([(.bool (D2.s.decided))] : List Value) ++ hc D2.s.decision ++ ([(.pointer (some ⟨t24, 0, none⟩)), (.map (some pb29)), (.bool (D2.wv)), (.bool (D2.sp)), (.bool (D2.sc))] : List Value)), talC t24 hb25 cb26 ab27 lb28 D2.f D2.c D2.L, mapC pb29 (Value.int .i64) propV D2.P, rowC 45 35 v105 A2.length (A2.flatMap encA)]) (R := [restC w (fun _ => False), cellC b6 25 ([(.int .i64 (F)), (.int .i64 (1))] : List Value), cellC k37 92 (([(.int .i64 ((dbD (3 * F + 1) ls (startD D0).1 k).f)), (.int .i64 ((dbD (3 * F + 1) ls (startD D0).1 k).c)), (.int .i64 ((dbD (3 * F + 1) ls (startD D0).1 k).epoch)), (.int .i64 ((dbD (3 * F + 1) ls (startD D0).1 k).replica)), (.int .i64 ((dbD (3 * F + 1) ls (startD D0).1 k).s.round)), (.int .i64 ((dbD (3 * F + 1) ls (startD D0).1 k).s.step)), (.int .i64 ((dbD (3 * F + 1) ls (startD D0).1 k).s.lr)), (.int .i64 ((dbD (3 * F + 1) ls (startD D0).1 k).s.vr))] : List Value) ++ hc (dbD (3 * F + 1) ls (startD D0).1 k).s.locked ++ hc (dbD (3 * F + 1) ls (startD D0).1 k).s.valid ++ ([(.bool ((dbD (3 * F + 1) ls (startD D0).1 k).s.decided))] : List Value) ++ hc (dbD (3 * F + 1) ls (startD D0).1 k).s.decision ++ ([(.pointer (some ⟨t38, 0, none⟩)), (.map (some pb43)), (.bool ((dbD (3 * F + 1) ls (startD D0).1 k).wv)), (.bool ((dbD (3 * F + 1) ls (startD D0).1 k).sp)), (.bool ((dbD (3 * F + 1) ls (startD D0).1 k).sc))] : List Value)), talC t38 hb39 cb40 ab41 lb42 (dbD (3 * F + 1) ls (startD D0).1 k).f (dbD (3 * F + 1) ls (startD D0).1 k).c (dbD (3 * F + 1) ls (startD D0).1 k).L, mapC pb43 (Value.int .i64) propV (dbD (3 * F + 1) ls (startD D0).1 k).P, rowC 45 35 (.slice a51 (((startD D0).2).length) c52) (((startD D0).2).length) (((startD D0).2).flatMap encA), rowC 45 35 (.slice a59 (((startD D0).2).length) c60) (((startD D0).2).length) (((startD D0).2).flatMap encA), cellC b87 57 (([(.int .i64 (x81.doo)), (.int .i64 (x81.kind)), (.int .i64 (x81.round)), (.int .i64 (x81.valid)), (.int .i64 (x81.replica))] : List Value) ++ hc x81.h ++ ([(.bool (x81.ok)), (.bool (x81.raw))] : List Value))]) H102 [2, 3, 4] [0, 1, 5, 6, 7, 8, 9, 10] (by decide) (by kernel_rfl) rfl S107).pick [4, 5, 0, 1, 2, 6, 7, 8, 9, 10, 11, 3] (by decide)
        obtain ⟨a110, c111, rfl⟩ := ownsRow_shape (H109.at 11 rfl)
        refine ⟨_, rfl, ?_⟩
        have S112 := H109.pick [0, 1, 8, 9, 10] (by decide)
        refine hK104 _ _ S112 ?_
        clear hK104 K104
        refine h_do 19 rfl (by kernel_rfl) (wants0 rfl) (fun K113 hK113 => ?_)
        refine d_call (d := 130) rfl (by kernel_rfl) (corePropose_any w106 k37 t38 hb39 cb40 ab41 lb42 pb43 (dbD (3 * F + 1) ls (startD D0).1 k) (ok_of (by kernel_rfl) (H109.fin [5, 6, 7] (by decide) rfl)) (dbCI C0.start k) x81.round x81.valid x81.h (x81.ok)) ?_
        rintro _ w115 ⟨v114, rfl, S116⟩
        rw [hst] at S116
        replace S116 := Sat.cast (G' := [cellC k37 92 (([(.int .i64 (D2.f)), (.int .i64 (D2.c)), (.int .i64 (D2.epoch)), (.int .i64 (D2.replica)), (.int .i64 (D2.s.round)), (.int .i64 (D2.s.step)), (.int .i64 (D2.s.lr)), (.int .i64 (D2.s.vr))] : List Value) ++ hc D2.s.locked ++ hc D2.s.valid ++ ([(.bool (D2.s.decided))] : List Value) ++ hc D2.s.decision ++ ([(.pointer (some ⟨t38, 0, none⟩)), (.map (some pb43)), (.bool (D2.wv)), (.bool (D2.sp)), (.bool (D2.sc))] : List Value)), talC t38 hb39 cb40 ab41 lb42 D2.f D2.c D2.L, mapC pb43 (Value.int .i64) propV D2.P, rowC 45 35 v114 A2.length (A2.flatMap encA), restC w106 (coreC k37 t38 hb39 cb40 ab41 lb42 pb43 (dbD (3 * F + 1) ls (startD D0).1 k)).fp]) S116 (by kernel_rfl)
        have H118 : Sat w [restC w (fun _ => False), cellC b6 25 ([(.int .i64 (F)), (.int .i64 (1))] : List Value), cellC k23 92 (([(.int .i64 (D2.f)), (.int .i64 (D2.c)), (.int .i64 (D2.epoch)), (.int .i64 (D2.replica)), (.int .i64 (D2.s.round)), (.int .i64 (D2.s.step)), (.int .i64 (D2.s.lr)), (.int .i64 (D2.s.vr))] : List Value) ++ hc D2.s.locked ++ hc D2.s.valid ++ ([(.bool (D2.s.decided))] : List Value) ++ hc D2.s.decision ++ ([(.pointer (some ⟨t24, 0, none⟩)), (.map (some pb29)), (.bool (D2.wv)), (.bool (D2.sp)), (.bool (D2.sc))] : List Value)), talC t24 hb25 cb26 ab27 lb28 D2.f D2.c D2.L, mapC pb29 (Value.int .i64) propV D2.P, cellC k37 92 (([(.int .i64 (D2.f)), (.int .i64 (D2.c)), (.int .i64 (D2.epoch)), (.int .i64 (D2.replica)), (.int .i64 (D2.s.round)), (.int .i64 (D2.s.step)), (.int .i64 (D2.s.lr)), (.int .i64 (D2.s.vr))] : List Value) ++ hc D2.s.locked ++ hc D2.s.valid ++ ([(.bool (D2.s.decided))] : List Value) ++ hc D2.s.decision ++ ([(.pointer (some ⟨t38, 0, none⟩)), (.map (some pb43)), (.bool (D2.wv)), (.bool (D2.sp)), (.bool (D2.sc))] : List Value)), talC t38 hb39 cb40 ab41 lb42 D2.f D2.c D2.L, mapC pb43 (Value.int .i64) propV D2.P, rowC 45 35 (.slice a51 (((startD D0).2).length) c52) (((startD D0).2).length) (((startD D0).2).flatMap encA), rowC 45 35 (.slice a59 (((startD D0).2).length) c60) (((startD D0).2).length) (((startD D0).2).flatMap encA), cellC b87 57 (([(.int .i64 (x81.doo)), (.int .i64 (x81.kind)), (.int .i64 (x81.round)), (.int .i64 (x81.valid)), (.int .i64 (x81.replica))] : List Value) ++ hc x81.h ++ ([(.bool (x81.ok)), (.bool (x81.raw))] : List Value)), rowC 45 35 (.slice a110 A2.length c111) A2.length (A2.flatMap encA), rowC 45 35 v114 A2.length (A2.flatMap encA)] w115 := (Sat.turnL (L' := [cellC k37 92 (([(.int .i64 (D2.f)), (.int .i64 (D2.c)), (.int .i64 (D2.epoch)), (.int .i64 (D2.replica)), (.int .i64 (D2.s.round)), (.int .i64 (D2.s.step)), (.int .i64 (D2.s.lr)), (.int .i64 (D2.s.vr))] : List Value) ++ hc D2.s.locked ++ hc D2.s.valid ++ ([(.bool (D2.s.decided))] : List Value) ++ hc D2.s.decision ++ ([(.pointer (some ⟨t38, 0, none⟩)), (.map (some pb43)), (.bool (D2.wv)), (.bool (D2.sp)), (.bool (D2.sc))] : List Value)), talC t38 hb39 cb40 ab41 lb42 D2.f D2.c D2.L, mapC pb43 (Value.int .i64) propV D2.P, rowC 45 35 v114 A2.length (A2.flatMap encA)]) (R := [restC w (fun _ => False), cellC b6 25 ([(.int .i64 (F)), (.int .i64 (1))] : List Value), cellC k23 92 (([(.int .i64 (D2.f)), (.int .i64 (D2.c)), (.int .i64 (D2.epoch)), (.int .i64 (D2.replica)), (.int .i64 (D2.s.round)), (.int .i64 (D2.s.step)), (.int .i64 (D2.s.lr)), (.int .i64 (D2.s.vr))] : List Value) ++ hc D2.s.locked ++ hc D2.s.valid ++ ([(.bool (D2.s.decided))] : List Value) ++ hc D2.s.decision ++ ([(.pointer (some ⟨t24, 0, none⟩)), (.map (some pb29)), (.bool (D2.wv)), (.bool (D2.sp)), (.bool (D2.sc))] : List Value)), talC t24 hb25 cb26 ab27 lb28 D2.f D2.c D2.L, mapC pb29 (Value.int .i64) propV D2.P, rowC 45 35 (.slice a51 (((startD D0).2).length) c52) (((startD D0).2).length) (((startD D0).2).flatMap encA), rowC 45 35 (.slice a59 (((startD D0).2).length) c60) (((startD D0).2).length) (((startD D0).2).flatMap encA), cellC b87 57 (([(.int .i64 (x81.doo)), (.int .i64 (x81.kind)), (.int .i64 (x81.round)), (.int .i64 (x81.valid)), (.int .i64 (x81.replica))] : List Value) ++ hc x81.h ++ ([(.bool (x81.ok)), (.bool (x81.raw))] : List Value)), rowC 45 35 (.slice a110 A2.length c111) A2.length (A2.flatMap encA)]) H109 [5, 6, 7] [0, 1, 2, 3, 4, 8, 9, 10, 11] (by decide) (by kernel_rfl) rfl S116).pick [4, 5, 6, 7, 8, 0, 1, 2, 9, 10, 11, 12, 3] (by decide)
        obtain ⟨a119, c120, rfl⟩ := ownsRow_shape (H118.at 12 rfl)
        refine ⟨_, rfl, ?_⟩
        have S121 := H118.pick [0, 1, 8, 9, 10] (by decide)
        refine hK113 _ _ S121 ?_
        clear hK113 K113
        refine h_val 20 rfl (by kernel_rfl) (by kernel_rfl) (by kernel_rfl) (fun _ _ _ h => h) S121 (wants0 rfl) (d := 13) (v := (.slice a110 A2.length c111)) rfl (fun _ H' => (by kernel_rfl)) ?_
        refine h_val 21 rfl (by kernel_rfl) (by kernel_rfl) (by kernel_rfl) (fun _ _ _ h => h) S121 (wants0 rfl) (d := 14) (v := (.slice a119 A2.length c120)) rfl (fun _ H' => (by kernel_rfl)) ?_
        refine h_fin (by kernel_rfl) ?_
        refine then_normal ?_
        refine w_seq ?_
        refine w_lit ?_
        refine wl_pure (wants0 rfl) (d := 131) (v := (.slice a110 A2.length c111)) rfl (by kernel_rfl) ?_
        refine wl_pure (wants0 rfl) (d := 132) (v := (.int .i64 ((A2.length : Int)))) rfl (by kernel_rfl) ?_
        refine wl_pure (wants0 rfl) (d := 133) (v := (.slice a119 A2.length c120)) rfl (by kernel_rfl) ?_
        refine wl_pure (wants0 rfl) (d := 134) (v := (.int .i64 ((A2.length : Int)))) rfl (by kernel_rfl) ?_
        refine wl_pure (wants0 rfl) (d := 135) (v := (.bool (!(decide ((A2.length : Int) = (A2.length : Int)))))) rfl (by kernel_rfl) ?_
        refine wl_pure (wants0 rfl) (d := 136) (v := (.bool (!(decide ((A2.length : Int) = (A2.length : Int)))))) rfl (by kernel_rfl) ?_
        have b122 : (!(decide ((A2.length : Int) = (A2.length : Int)))) = false := by simp
        refine wl_know 136 (.bool false) (congrArg Value.bool b122) ?_
        refine wl_pure (wantsY 5 136 false rfl (by kernel_rfl) rfl (by kernel_rfl)) (d := 137) (v := (.pointer (some ⟨k37, 0, none⟩))) rfl (by kernel_rfl) ?_
        refine wl_pure (wantsY 5 136 false rfl (by kernel_rfl) rfl (by kernel_rfl)) (d := 138) (v := (.pointer (some ⟨b87, 2, none⟩))) rfl (by kernel_rfl) ?_
        refine wl_pure (wantsY 5 136 false rfl (by kernel_rfl) rfl (by kernel_rfl)) (d := 139) (v := (.int .i64 (x81.round))) rfl (e_load1 rfl (by kernel_rfl) (H118.cell 10 rfl (by kernel_rfl))) ?_
        refine wl_pure (wantsY 5 136 false rfl (by kernel_rfl) rfl (by kernel_rfl)) (d := 140) (v := (.pointer (some ⟨b87, 3, none⟩))) rfl (by kernel_rfl) ?_
        refine wl_pure (wantsY 5 136 false rfl (by kernel_rfl) rfl (by kernel_rfl)) (d := 141) (v := (.int .i64 (x81.valid))) rfl (e_load1 rfl (by kernel_rfl) (H118.cell 10 rfl (by kernel_rfl))) ?_
        refine wl_pure (wantsY 5 136 false rfl (by kernel_rfl) rfl (by kernel_rfl)) (d := 142) (v := (.pointer (some ⟨b87, 5, none⟩))) rfl (by kernel_rfl) ?_
        refine wl_pure (wantsY 5 136 false rfl (by kernel_rfl) rfl (by kernel_rfl)) (d := 143) (v := (.agg ⟨(hc x81.h)⟩)) rfl (e_loadN (vs := (hc x81.h)) rfl (by kernel_rfl) (by kernel_rfl) (by exact Nat.le_of_ble_eq_true (by kernel_rfl)) (H118.at 10 rfl) (by kernel_rfl)) ?_
        refine wl_pure (wantsY 5 136 false rfl (by kernel_rfl) rfl (by kernel_rfl)) (d := 144) (v := (.pointer (some ⟨b87, 37, none⟩))) rfl (by kernel_rfl) ?_
        refine wl_pure (wantsY 5 136 false rfl (by kernel_rfl) rfl (by kernel_rfl)) (d := 145) (v := (.bool (x81.ok))) rfl (e_load1 rfl (by kernel_rfl) (H118.cell 10 rfl (by kernel_rfl))) ?_
        refine wl_pure (wantsY 5 136 false rfl (by kernel_rfl) rfl (by kernel_rfl)) (d := 146) (v := (.bool (!(x81.ok)))) rfl (by kernel_rfl) ?_
        refine wl_do (wantsY 5 136 false rfl (by kernel_rfl) rfl (by kernel_rfl)) (fun K123 hK123 => ?_)
        refine d_call (d := 147) rfl (by kernel_rfl) (corePropose_any w115 k37 t38 hb39 cb40 ab41 lb42 pb43 D2 (ok_of (by kernel_rfl) (H118.fin [5, 6, 7] (by decide) rfl)) hC2 x81.round x81.valid x81.h (!(x81.ok))) ?_
        rintro _ w125 ⟨v124, rfl, S126⟩
        rw [propose_twice (A := A2) hC hst _] at S126
        replace S126 := Sat.cast (G' := [cellC k37 92 (([(.int .i64 (D2.f)), (.int .i64 (D2.c)), (.int .i64 (D2.epoch)), (.int .i64 (D2.replica)), (.int .i64 (D2.s.round)), (.int .i64 (D2.s.step)), (.int .i64 (D2.s.lr)), (.int .i64 (D2.s.vr))] : List Value) ++ hc D2.s.locked ++ hc D2.s.valid ++ ([(.bool (D2.s.decided))] : List Value) ++ hc D2.s.decision ++ ([(.pointer (some ⟨t38, 0, none⟩)), (.map (some pb43)), (.bool (D2.wv)), (.bool (D2.sp)), (.bool (D2.sc))] : List Value)), talC t38 hb39 cb40 ab41 lb42 D2.f D2.c D2.L, mapC pb43 (Value.int .i64) propV D2.P, rowC 45 35 v124 0 ([]), restC w115 (coreC k37 t38 hb39 cb40 ab41 lb42 pb43 D2).fp]) S126 (by kernel_rfl)
        have H128 : Sat w [restC w (fun _ => False), cellC b6 25 ([(.int .i64 (F)), (.int .i64 (1))] : List Value), cellC k23 92 (([(.int .i64 (D2.f)), (.int .i64 (D2.c)), (.int .i64 (D2.epoch)), (.int .i64 (D2.replica)), (.int .i64 (D2.s.round)), (.int .i64 (D2.s.step)), (.int .i64 (D2.s.lr)), (.int .i64 (D2.s.vr))] : List Value) ++ hc D2.s.locked ++ hc D2.s.valid ++ ([(.bool (D2.s.decided))] : List Value) ++ hc D2.s.decision ++ ([(.pointer (some ⟨t24, 0, none⟩)), (.map (some pb29)), (.bool (D2.wv)), (.bool (D2.sp)), (.bool (D2.sc))] : List Value)), talC t24 hb25 cb26 ab27 lb28 D2.f D2.c D2.L, mapC pb29 (Value.int .i64) propV D2.P, cellC k37 92 (([(.int .i64 (D2.f)), (.int .i64 (D2.c)), (.int .i64 (D2.epoch)), (.int .i64 (D2.replica)), (.int .i64 (D2.s.round)), (.int .i64 (D2.s.step)), (.int .i64 (D2.s.lr)), (.int .i64 (D2.s.vr))] : List Value) ++ hc D2.s.locked ++ hc D2.s.valid ++ ([(.bool (D2.s.decided))] : List Value) ++ hc D2.s.decision ++ ([(.pointer (some ⟨t38, 0, none⟩)), (.map (some pb43)), (.bool (D2.wv)), (.bool (D2.sp)), (.bool (D2.sc))] : List Value)), talC t38 hb39 cb40 ab41 lb42 D2.f D2.c D2.L, mapC pb43 (Value.int .i64) propV D2.P, rowC 45 35 (.slice a51 (((startD D0).2).length) c52) (((startD D0).2).length) (((startD D0).2).flatMap encA), rowC 45 35 (.slice a59 (((startD D0).2).length) c60) (((startD D0).2).length) (((startD D0).2).flatMap encA), cellC b87 57 (([(.int .i64 (x81.doo)), (.int .i64 (x81.kind)), (.int .i64 (x81.round)), (.int .i64 (x81.valid)), (.int .i64 (x81.replica))] : List Value) ++ hc x81.h ++ ([(.bool (x81.ok)), (.bool (x81.raw))] : List Value)), rowC 45 35 (.slice a110 A2.length c111) A2.length (A2.flatMap encA), rowC 45 35 (.slice a119 A2.length c120) A2.length (A2.flatMap encA), rowC 45 35 v124 0 ([])] w125 := (Sat.turnL (L' := [cellC k37 92 (([(.int .i64 (D2.f)), (.int .i64 (D2.c)), (.int .i64 (D2.epoch)), (.int .i64 (D2.replica)), (.int .i64 (D2.s.round)), (.int .i64 (D2.s.step)), (.int .i64 (D2.s.lr)), (.int .i64 (D2.s.vr))] : List Value) ++ hc D2.s.locked ++ hc D2.s.valid ++ ([(.bool (D2.s.decided))] : List Value) ++ hc D2.s.decision ++ ([(.pointer (some ⟨t38, 0, none⟩)), (.map (some pb43)), (.bool (D2.wv)), (.bool (D2.sp)), (.bool (D2.sc))] : List Value)), talC t38 hb39 cb40 ab41 lb42 D2.f D2.c D2.L, mapC pb43 (Value.int .i64) propV D2.P, rowC 45 35 v124 0 ([])]) (R := [restC w (fun _ => False), cellC b6 25 ([(.int .i64 (F)), (.int .i64 (1))] : List Value), cellC k23 92 (([(.int .i64 (D2.f)), (.int .i64 (D2.c)), (.int .i64 (D2.epoch)), (.int .i64 (D2.replica)), (.int .i64 (D2.s.round)), (.int .i64 (D2.s.step)), (.int .i64 (D2.s.lr)), (.int .i64 (D2.s.vr))] : List Value) ++ hc D2.s.locked ++ hc D2.s.valid ++ ([(.bool (D2.s.decided))] : List Value) ++ hc D2.s.decision ++ ([(.pointer (some ⟨t24, 0, none⟩)), (.map (some pb29)), (.bool (D2.wv)), (.bool (D2.sp)), (.bool (D2.sc))] : List Value)), talC t24 hb25 cb26 ab27 lb28 D2.f D2.c D2.L, mapC pb29 (Value.int .i64) propV D2.P, rowC 45 35 (.slice a51 (((startD D0).2).length) c52) (((startD D0).2).length) (((startD D0).2).flatMap encA), rowC 45 35 (.slice a59 (((startD D0).2).length) c60) (((startD D0).2).length) (((startD D0).2).flatMap encA), cellC b87 57 (([(.int .i64 (x81.doo)), (.int .i64 (x81.kind)), (.int .i64 (x81.round)), (.int .i64 (x81.valid)), (.int .i64 (x81.replica))] : List Value) ++ hc x81.h ++ ([(.bool (x81.ok)), (.bool (x81.raw))] : List Value)), rowC 45 35 (.slice a110 A2.length c111) A2.length (A2.flatMap encA), rowC 45 35 (.slice a119 A2.length c120) A2.length (A2.flatMap encA)]) H118 [5, 6, 7] [0, 1, 2, 3, 4, 8, 9, 10, 11, 12] (by decide) (by kernel_rfl) rfl S126).pick [4, 5, 6, 7, 8, 0, 1, 2, 9, 10, 11, 12, 13, 3] (by decide)
        obtain ⟨a129, c130, rfl⟩ := ownsRow_shape (H128.at 13 rfl)
        refine ⟨_, rfl, ?_⟩
        refine hK123 _ _ ?_
        clear hK123 K123
        refine wl_pure (wantsY 5 136 false rfl (by kernel_rfl) rfl (by kernel_rfl)) (d := 148) (v := (.int .i64 (0))) rfl (by kernel_rfl) ?_
        refine wl_pure (wantsY 5 136 false rfl (by kernel_rfl) rfl (by kernel_rfl)) (d := 149) (v := (.bool false)) rfl (by kernel_rfl) ?_
        refine wl_pure (wants0 rfl) (d := 150) (v := (.bool false)) rfl (by kernel_rfl) ?_
        refine w_nil ?_
        refine then_normal ?_
        refine wp_iff rfl ?_
        refine w_skip ?_
        refine blk_normal ?_
        refine then_normal ?_
        refine w_seq ?_
        refine w_lit ?_
        refine wl_pure (wants0 rfl) (d := 154) (v := (.pointer (some ⟨k23, 0, none⟩))) rfl (by kernel_rfl) ?_
        refine wl_do (wants0 rfl) (fun K131 hK131 => ?_)
        refine d_call (d := 155) rfl (by kernel_rfl) (coreState_any w125 k23 t24 hb25 cb26 ab27 lb28 pb29 D2 (ok_of (by kernel_rfl) (H128.fin [2, 3, 4] (by decide) rfl)) hC2) ?_
        rintro _ w132 ⟨rfl, u134⟩
        have H133 := H128.keepU u134
        refine ⟨_, rfl, ?_⟩
        refine hK131 _ _ ?_
        clear hK131 K131
        refine wl_pure (wants0 rfl) (d := 156) (v := (.pointer (some ⟨k37, 0, none⟩))) rfl (by kernel_rfl) ?_
        refine wl_do (wants0 rfl) (fun K135 hK135 => ?_)
        refine d_call (d := 157) rfl (by kernel_rfl) (coreState_any w132 k37 t38 hb39 cb40 ab41 lb42 pb43 D2 (ok_of (by kernel_rfl) (H133.fin [5, 6, 7] (by decide) rfl)) hC2) ?_
        rintro _ w136 ⟨rfl, u138⟩
        have H137 := H133.keepU u138
        refine ⟨_, rfl, ?_⟩
        refine hK135 _ _ ?_
        clear hK135 K135
        refine wl_pure (wants0 rfl) (d := 158) (v := (.bool (!(decide (D2.s = D2.s))))) rfl (stateF.e_ne D2.s D2.s rfl rfl) ?_
        refine w_nil ?_
        refine then_normal ?_
        have b139 : (!(decide (D2.s = D2.s))) = false := by simp
        refine wp_know 158 (.bool false) (congrArg Value.bool b139) ?_
        have g140 := bnot_false b139
        have g141 := of_decide_eq_true g140
        refine wp_iff rfl ?_
        refine w_skip ?_
        refine blk_normal ?_
        refine then_normal ?_
        refine w_lit ?_
        refine wl_pure (wants0 rfl) (d := 59) (v := (.int .i64 ((k : Int)))) rfl (by kernel_rfl) ?_
        refine wl_pure (wants0 rfl) (d := 60) (v := (.int .i64 ((k : Int) + 1))) rfl (e_int (z := (k : Int) + 1) (by kernel_rfl) (IntWalk.i64_in _ (by omega))) ?_
        refine wl_pure (wants0 rfl) (d := 11) (v := (.int .i64 ((k : Int) + 1))) rfl (by kernel_rfl) ?_
        refine w_nil ?_
        have hD : (dbD (3 * F + 1) ls (startD D0).1 (k + 1)) = D2 := by simp only [dbD, hx82]; unfold dbS; rw [if_pos (.inl (of_decide_eq_true b98)), hst]
        have H142 : Sat w [restC w (fun _ => False), cellC b6 25 ([(.int .i64 (F)), (.int .i64 (1))] : List Value), cellC k23 92 (([(.int .i64 ((dbD (3 * F + 1) ls (startD D0).1 (k + 1)).f)), (.int .i64 ((dbD (3 * F + 1) ls (startD D0).1 (k + 1)).c)), (.int .i64 ((dbD (3 * F + 1) ls (startD D0).1 (k + 1)).epoch)), (.int .i64 ((dbD (3 * F + 1) ls (startD D0).1 (k + 1)).replica)), (.int .i64 ((dbD (3 * F + 1) ls (startD D0).1 (k + 1)).s.round)), (.int .i64 ((dbD (3 * F + 1) ls (startD D0).1 (k + 1)).s.step)), (.int .i64 ((dbD (3 * F + 1) ls (startD D0).1 (k + 1)).s.lr)), (.int .i64 ((dbD (3 * F + 1) ls (startD D0).1 (k + 1)).s.vr))] : List Value) ++ hc (dbD (3 * F + 1) ls (startD D0).1 (k + 1)).s.locked ++ hc (dbD (3 * F + 1) ls (startD D0).1 (k + 1)).s.valid ++ ([(.bool ((dbD (3 * F + 1) ls (startD D0).1 (k + 1)).s.decided))] : List Value) ++ hc (dbD (3 * F + 1) ls (startD D0).1 (k + 1)).s.decision ++ ([(.pointer (some ⟨t24, 0, none⟩)), (.map (some pb29)), (.bool ((dbD (3 * F + 1) ls (startD D0).1 (k + 1)).wv)), (.bool ((dbD (3 * F + 1) ls (startD D0).1 (k + 1)).sp)), (.bool ((dbD (3 * F + 1) ls (startD D0).1 (k + 1)).sc))] : List Value)), talC t24 hb25 cb26 ab27 lb28 (dbD (3 * F + 1) ls (startD D0).1 (k + 1)).f (dbD (3 * F + 1) ls (startD D0).1 (k + 1)).c (dbD (3 * F + 1) ls (startD D0).1 (k + 1)).L, mapC pb29 (Value.int .i64) propV (dbD (3 * F + 1) ls (startD D0).1 (k + 1)).P, cellC k37 92 (([(.int .i64 ((dbD (3 * F + 1) ls (startD D0).1 (k + 1)).f)), (.int .i64 ((dbD (3 * F + 1) ls (startD D0).1 (k + 1)).c)), (.int .i64 ((dbD (3 * F + 1) ls (startD D0).1 (k + 1)).epoch)), (.int .i64 ((dbD (3 * F + 1) ls (startD D0).1 (k + 1)).replica)), (.int .i64 ((dbD (3 * F + 1) ls (startD D0).1 (k + 1)).s.round)), (.int .i64 ((dbD (3 * F + 1) ls (startD D0).1 (k + 1)).s.step)), (.int .i64 ((dbD (3 * F + 1) ls (startD D0).1 (k + 1)).s.lr)), (.int .i64 ((dbD (3 * F + 1) ls (startD D0).1 (k + 1)).s.vr))] : List Value) ++ hc (dbD (3 * F + 1) ls (startD D0).1 (k + 1)).s.locked ++ hc (dbD (3 * F + 1) ls (startD D0).1 (k + 1)).s.valid ++ ([(.bool ((dbD (3 * F + 1) ls (startD D0).1 (k + 1)).s.decided))] : List Value) ++ hc (dbD (3 * F + 1) ls (startD D0).1 (k + 1)).s.decision ++ ([(.pointer (some ⟨t38, 0, none⟩)), (.map (some pb43)), (.bool ((dbD (3 * F + 1) ls (startD D0).1 (k + 1)).wv)), (.bool ((dbD (3 * F + 1) ls (startD D0).1 (k + 1)).sp)), (.bool ((dbD (3 * F + 1) ls (startD D0).1 (k + 1)).sc))] : List Value)), talC t38 hb39 cb40 ab41 lb42 (dbD (3 * F + 1) ls (startD D0).1 (k + 1)).f (dbD (3 * F + 1) ls (startD D0).1 (k + 1)).c (dbD (3 * F + 1) ls (startD D0).1 (k + 1)).L, mapC pb43 (Value.int .i64) propV (dbD (3 * F + 1) ls (startD D0).1 (k + 1)).P, rowC 45 35 (.slice a51 (((startD D0).2).length) c52) (((startD D0).2).length) (((startD D0).2).flatMap encA), rowC 45 35 (.slice a59 (((startD D0).2).length) c60) (((startD D0).2).length) (((startD D0).2).flatMap encA)] w136 := (H137.pick [0, 1, 2, 3, 4, 5, 6, 7, 8, 9] (by decide)).cast (by rw [hD]; rfl)
        refine round_back ?_ _ ⟨(k + 1), (show ((.int .i64 ((k : Int) + 1)) : Value) = _ by first | rfl | go_num), (by omega), H142, rfl⟩ (by omega)
        exact (same_upd rfl (same_upd rfl (same_upd rfl (same_upd rfl (same_upd rfl (same_upd rfl (same_upd rfl (same_upd rfl (same_upd rfl (same_upd rfl (same_upd rfl (same_upd rfl (same_upd rfl (same_upd rfl (same_upd rfl (same_upd rfl (same_upd rfl (same_upd rfl (same_upd rfl (same_upd rfl (same_upd rfl (same_upd rfl (same_upd rfl (same_upd rfl (same_upd rfl (same_upd rfl (same_upd rfl (same_upd rfl (same_upd rfl (same_upd rfl (same_upd rfl (same_upd rfl (same_upd rfl (same_upd rfl (same_upd rfl (same_upd rfl (same_upd rfl (same_upd rfl (same_upd rfl (same_upd rfl (same_upd rfl (same_upd rfl (same_upd rfl (same_upd rfl (same_upd rfl (same_upd rfl (same_upd rfl (same_upd rfl (same_upd rfl (same_upd rfl (same_upd rfl (same_upd rfl (same_upd rfl (same_upd rfl (same_upd rfl (same_upd rfl (same_upd rfl (same_upd rfl (same_upd rfl (same_upd rfl (same_upd rfl (same_upd rfl (same_upd rfl (same_upd rfl (same_upd rfl (same_upd rfl (same_upd rfl (same_ovr2 rfl (same_upd rfl (same_ovr))))))))))))))))))))))))))))))))))))))))))))))))))))))))))))))))))))))
      · have g143 := of_decide_eq_false b98
        refine wp_know 108 (.bool false) (congrArg Value.bool b98) ?_
        have g144 := of_decide_eq_false b98
        refine wp_iff rfl ?_
        refine w_lit ?_
        refine wl_pure (wants0 rfl) (d := 110) (v := (.bool (decide ((withinV x81.doo 8) = 1)))) rfl (by kernel_rfl) ?_
        refine wl_pure (wants0 rfl) (d := 108) (v := (.bool (decide ((withinV x81.doo 8) = 1)))) rfl (by kernel_rfl) ?_
        refine w_nil ?_
        refine then_normal ?_
        refine (bsplit (decide ((withinV x81.doo 8) = 1))).elim (fun b145 => ?_) (fun b145 => ?_)
        · have g146 := of_decide_eq_true b145
          refine wp_know 108 (.bool true) (congrArg Value.bool b145) ?_
          have g147 := of_decide_eq_true b145
          refine wp_ift rfl ?_
          refine w_seq ?_
          have hC := dbCI (n := (3 * F + 1)) (ls := ls) C0.start k
          obtain ⟨D2, A2, hst⟩ : ∃ D2 A2, proposeD (dbD (3 * F + 1) ls (startD D0).1 k) x81.round x81.valid x81.h x81.ok = (D2, A2) := ⟨_, _, rfl⟩
          have hC2 : CI D2 := by have q := hC.propose x81.round x81.valid x81.h x81.ok; rwa [hst] at q
          refine h_start H96 [restC w (fun _ => False), cellC b6 25 ([(.int .i64 (F)), (.int .i64 (1))] : List Value), rowC 45 35 (.slice a51 (((startD D0).2).length) c52) (((startD D0).2).length) (((startD D0).2).flatMap encA), rowC 45 35 (.slice a59 (((startD D0).2).length) c60) (((startD D0).2).length) (((startD D0).2).flatMap encA), cellC b87 57 (([(.int .i64 (x81.doo)), (.int .i64 (x81.kind)), (.int .i64 (x81.round)), (.int .i64 (x81.valid)), (.int .i64 (x81.replica))] : List Value) ++ hc x81.h ++ ([(.bool (x81.ok)), (.bool (x81.raw))] : List Value))] 22 rfl (by kernel_rfl) (fun Hx => (Hx.pick [0, 1, 8, 9, 10] (by decide))) ?_
          intro w148 H149 S150
          refine h_val 0 rfl (by kernel_rfl) (by kernel_rfl) (by kernel_rfl) (fun _ _ _ h => h) S150 (wants0 rfl) (d := 111) (v := (.pointer (some ⟨k23, 0, none⟩))) rfl (fun _ H' => (by kernel_rfl)) ?_
          refine h_val 1 rfl (by kernel_rfl) (by kernel_rfl) (by kernel_rfl) (fun _ _ _ h => h) S150 (wants0 rfl) (d := 112) (v := (.pointer (some ⟨b87, 2, none⟩))) rfl (fun _ H' => (by kernel_rfl)) ?_
          refine h_val 2 rfl (by kernel_rfl) (by kernel_rfl) (by kernel_rfl) (fun _ _ _ h => h) S150 (wants0 rfl) (d := 113) (v := (.int .i64 (x81.round))) rfl (fun _ H' => (e_load1 rfl (by kernel_rfl) (H'.cell 4 rfl (by kernel_rfl)))) ?_
          refine h_val 3 rfl (by kernel_rfl) (by kernel_rfl) (by kernel_rfl) (fun _ _ _ h => h) S150 (wants0 rfl) (d := 114) (v := (.pointer (some ⟨b87, 3, none⟩))) rfl (fun _ H' => (by kernel_rfl)) ?_
          refine h_val 4 rfl (by kernel_rfl) (by kernel_rfl) (by kernel_rfl) (fun _ _ _ h => h) S150 (wants0 rfl) (d := 115) (v := (.int .i64 (x81.valid))) rfl (fun _ H' => (e_load1 rfl (by kernel_rfl) (H'.cell 4 rfl (by kernel_rfl)))) ?_
          refine h_val 5 rfl (by kernel_rfl) (by kernel_rfl) (by kernel_rfl) (fun _ _ _ h => h) S150 (wants0 rfl) (d := 116) (v := (.pointer (some ⟨b87, 5, none⟩))) rfl (fun _ H' => (by kernel_rfl)) ?_
          refine h_val 6 rfl (by kernel_rfl) (by kernel_rfl) (by kernel_rfl) (fun _ _ _ h => h) S150 (wants0 rfl) (d := 117) (v := (.agg ⟨(hc x81.h)⟩)) rfl (fun _ H' => (e_loadN (vs := (hc x81.h)) rfl (by kernel_rfl) (by kernel_rfl) (by exact Nat.le_of_ble_eq_true (by kernel_rfl)) (H'.at 4 rfl) (by kernel_rfl))) ?_
          refine h_val 7 rfl (by kernel_rfl) (by kernel_rfl) (by kernel_rfl) (fun _ _ _ h => h) S150 (wants0 rfl) (d := 118) (v := (.pointer (some ⟨b87, 37, none⟩))) rfl (fun _ H' => (by kernel_rfl)) ?_
          refine h_val 8 rfl (by kernel_rfl) (by kernel_rfl) (by kernel_rfl) (fun _ _ _ h => h) S150 (wants0 rfl) (d := 119) (v := (.bool (x81.ok))) rfl (fun _ H' => (e_load1 rfl (by kernel_rfl) (H'.cell 4 rfl (by kernel_rfl)))) ?_
          refine h_val 10 rfl (by kernel_rfl) (by kernel_rfl) (by kernel_rfl) (fun _ _ _ h => h) S150 (wants0 rfl) (d := 121) (v := (.pointer (some ⟨k37, 0, none⟩))) rfl (fun _ H' => (by kernel_rfl)) ?_
          refine h_val 11 rfl (by kernel_rfl) (by kernel_rfl) (by kernel_rfl) (fun _ _ _ h => h) S150 (wants0 rfl) (d := 122) (v := (.pointer (some ⟨b87, 2, none⟩))) rfl (fun _ H' => (by kernel_rfl)) ?_
          refine h_val 12 rfl (by kernel_rfl) (by kernel_rfl) (by kernel_rfl) (fun _ _ _ h => h) S150 (wants0 rfl) (d := 123) (v := (.int .i64 (x81.round))) rfl (fun _ H' => (e_load1 rfl (by kernel_rfl) (H'.cell 4 rfl (by kernel_rfl)))) ?_
          refine h_val 13 rfl (by kernel_rfl) (by kernel_rfl) (by kernel_rfl) (fun _ _ _ h => h) S150 (wants0 rfl) (d := 124) (v := (.pointer (some ⟨b87, 3, none⟩))) rfl (fun _ H' => (by kernel_rfl)) ?_
          refine h_val 14 rfl (by kernel_rfl) (by kernel_rfl) (by kernel_rfl) (fun _ _ _ h => h) S150 (wants0 rfl) (d := 125) (v := (.int .i64 (x81.valid))) rfl (fun _ H' => (e_load1 rfl (by kernel_rfl) (H'.cell 4 rfl (by kernel_rfl)))) ?_
          refine h_val 15 rfl (by kernel_rfl) (by kernel_rfl) (by kernel_rfl) (fun _ _ _ h => h) S150 (wants0 rfl) (d := 126) (v := (.pointer (some ⟨b87, 5, none⟩))) rfl (fun _ H' => (by kernel_rfl)) ?_
          refine h_val 16 rfl (by kernel_rfl) (by kernel_rfl) (by kernel_rfl) (fun _ _ _ h => h) S150 (wants0 rfl) (d := 127) (v := (.agg ⟨(hc x81.h)⟩)) rfl (fun _ H' => (e_loadN (vs := (hc x81.h)) rfl (by kernel_rfl) (by kernel_rfl) (by exact Nat.le_of_ble_eq_true (by kernel_rfl)) (H'.at 4 rfl) (by kernel_rfl))) ?_
          refine h_val 17 rfl (by kernel_rfl) (by kernel_rfl) (by kernel_rfl) (fun _ _ _ h => h) S150 (wants0 rfl) (d := 128) (v := (.pointer (some ⟨b87, 37, none⟩))) rfl (fun _ H' => (by kernel_rfl)) ?_
          refine h_val 18 rfl (by kernel_rfl) (by kernel_rfl) (by kernel_rfl) (fun _ _ _ h => h) S150 (wants0 rfl) (d := 129) (v := (.bool (x81.ok))) rfl (fun _ H' => (e_load1 rfl (by kernel_rfl) (H'.cell 4 rfl (by kernel_rfl)))) ?_
          refine h_do 9 rfl (by kernel_rfl) (wants0 rfl) (fun K151 hK151 => ?_)
          refine d_call (d := 120) rfl (by kernel_rfl) (corePropose_any w148 k23 t24 hb25 cb26 ab27 lb28 pb29 (dbD (3 * F + 1) ls (startD D0).1 k) (ok_of (by kernel_rfl) (H149.fin [2, 3, 4] (by decide) rfl)) (dbCI C0.start k) x81.round x81.valid x81.h (x81.ok)) ?_
          rintro _ w153 ⟨v152, rfl, S154⟩
          rw [hst] at S154
          replace S154 := Sat.cast (G' := [cellC k23 92 (([(.int .i64 (D2.f)), (.int .i64 (D2.c)), (.int .i64 (D2.epoch)), (.int .i64 (D2.replica)), (.int .i64 (D2.s.round)), (.int .i64 (D2.s.step)), (.int .i64 (D2.s.lr)), (.int .i64 (D2.s.vr))] : List Value) ++ hc D2.s.locked ++ hc D2.s.valid ++ ([(.bool (D2.s.decided))] : List Value) ++ hc D2.s.decision ++ ([(.pointer (some ⟨t24, 0, none⟩)), (.map (some pb29)), (.bool (D2.wv)), (.bool (D2.sp)), (.bool (D2.sc))] : List Value)), talC t24 hb25 cb26 ab27 lb28 D2.f D2.c D2.L, mapC pb29 (Value.int .i64) propV D2.P, rowC 45 35 v152 A2.length (A2.flatMap encA), restC w148 (coreC k23 t24 hb25 cb26 ab27 lb28 pb29 (dbD (3 * F + 1) ls (startD D0).1 k)).fp]) S154 (by kernel_rfl)
          have H156 : Sat w [restC w (fun _ => False), cellC b6 25 ([(.int .i64 (F)), (.int .i64 (1))] : List Value), cellC k23 92 (([(.int .i64 (D2.f)), (.int .i64 (D2.c)), (.int .i64 (D2.epoch)), (.int .i64 (D2.replica)), (.int .i64 (D2.s.round)), (.int .i64 (D2.s.step)), (.int .i64 (D2.s.lr)), (.int .i64 (D2.s.vr))] : List Value) ++ hc D2.s.locked ++ hc D2.s.valid ++ ([(.bool (D2.s.decided))] : List Value) ++ hc D2.s.decision ++ ([(.pointer (some ⟨t24, 0, none⟩)), (.map (some pb29)), (.bool (D2.wv)), (.bool (D2.sp)), (.bool (D2.sc))] : List Value)), talC t24 hb25 cb26 ab27 lb28 D2.f D2.c D2.L, mapC pb29 (Value.int .i64) propV D2.P, cellC k37 92 (([(.int .i64 ((dbD (3 * F + 1) ls (startD D0).1 k).f)), (.int .i64 ((dbD (3 * F + 1) ls (startD D0).1 k).c)), (.int .i64 ((dbD (3 * F + 1) ls (startD D0).1 k).epoch)), (.int .i64 ((dbD (3 * F + 1) ls (startD D0).1 k).replica)), (.int .i64 ((dbD (3 * F + 1) ls (startD D0).1 k).s.round)), (.int .i64 ((dbD (3 * F + 1) ls (startD D0).1 k).s.step)), (.int .i64 ((dbD (3 * F + 1) ls (startD D0).1 k).s.lr)), (.int .i64 ((dbD (3 * F + 1) ls (startD D0).1 k).s.vr))] : List Value) ++ hc (dbD (3 * F + 1) ls (startD D0).1 k).s.locked ++ hc (dbD (3 * F + 1) ls (startD D0).1 k).s.valid ++ ([(.bool ((dbD (3 * F + 1) ls (startD D0).1 k).s.decided))] : List Value) ++ hc (dbD (3 * F + 1) ls (startD D0).1 k).s.decision ++ ([(.pointer (some ⟨t38, 0, none⟩)), (.map (some pb43)), (.bool ((dbD (3 * F + 1) ls (startD D0).1 k).wv)), (.bool ((dbD (3 * F + 1) ls (startD D0).1 k).sp)), (.bool ((dbD (3 * F + 1) ls (startD D0).1 k).sc))] : List Value)), talC t38 hb39 cb40 ab41 lb42 (dbD (3 * F + 1) ls (startD D0).1 k).f (dbD (3 * F + 1) ls (startD D0).1 k).c (dbD (3 * F + 1) ls (startD D0).1 k).L, mapC pb43 (Value.int .i64) propV (dbD (3 * F + 1) ls (startD D0).1 k).P, rowC 45 35 (.slice a51 (((startD D0).2).length) c52) (((startD D0).2).length) (((startD D0).2).flatMap encA), rowC 45 35 (.slice a59 (((startD D0).2).length) c60) (((startD D0).2).length) (((startD D0).2).flatMap encA), cellC b87 57 (([(.int .i64 (x81.doo)), (.int .i64 (x81.kind)), (.int .i64 (x81.round)), (.int .i64 (x81.valid)), (.int .i64 (x81.replica))] : List Value) ++ hc x81.h ++ ([(.bool (x81.ok)), (.bool (x81.raw))] : List Value)), rowC 45 35 v152 A2.length (A2.flatMap encA)] w153 := (Sat.turnL (L' := [cellC k23 92 (([(.int .i64 (D2.f)), (.int .i64 (D2.c)), (.int .i64 (D2.epoch)), (.int .i64 (D2.replica)), (.int .i64 (D2.s.round)), (.int .i64 (D2.s.step)), (.int .i64 (D2.s.lr)), (.int .i64 (D2.s.vr))] : List Value) ++ hc D2.s.locked ++ hc D2.s.valid ++ ([(.bool (D2.s.decided))] : List Value) ++ hc D2.s.decision ++ ([(.pointer (some ⟨t24, 0, none⟩)), (.map (some pb29)), (.bool (D2.wv)), (.bool (D2.sp)), (.bool (D2.sc))] : List Value)), talC t24 hb25 cb26 ab27 lb28 D2.f D2.c D2.L, mapC pb29 (Value.int .i64) propV D2.P, rowC 45 35 v152 A2.length (A2.flatMap encA)]) (R := [restC w (fun _ => False), cellC b6 25 ([(.int .i64 (F)), (.int .i64 (1))] : List Value), cellC k37 92 (([(.int .i64 ((dbD (3 * F + 1) ls (startD D0).1 k).f)), (.int .i64 ((dbD (3 * F + 1) ls (startD D0).1 k).c)), (.int .i64 ((dbD (3 * F + 1) ls (startD D0).1 k).epoch)), (.int .i64 ((dbD (3 * F + 1) ls (startD D0).1 k).replica)), (.int .i64 ((dbD (3 * F + 1) ls (startD D0).1 k).s.round)), (.int .i64 ((dbD (3 * F + 1) ls (startD D0).1 k).s.step)), (.int .i64 ((dbD (3 * F + 1) ls (startD D0).1 k).s.lr)), (.int .i64 ((dbD (3 * F + 1) ls (startD D0).1 k).s.vr))] : List Value) ++ hc (dbD (3 * F + 1) ls (startD D0).1 k).s.locked ++ hc (dbD (3 * F + 1) ls (startD D0).1 k).s.valid ++ ([(.bool ((dbD (3 * F + 1) ls (startD D0).1 k).s.decided))] : List Value) ++ hc (dbD (3 * F + 1) ls (startD D0).1 k).s.decision ++ ([(.pointer (some ⟨t38, 0, none⟩)), (.map (some pb43)), (.bool ((dbD (3 * F + 1) ls (startD D0).1 k).wv)), (.bool ((dbD (3 * F + 1) ls (startD D0).1 k).sp)), (.bool ((dbD (3 * F + 1) ls (startD D0).1 k).sc))] : List Value)), talC t38 hb39 cb40 ab41 lb42 (dbD (3 * F + 1) ls (startD D0).1 k).f (dbD (3 * F + 1) ls (startD D0).1 k).c (dbD (3 * F + 1) ls (startD D0).1 k).L, mapC pb43 (Value.int .i64) propV (dbD (3 * F + 1) ls (startD D0).1 k).P, rowC 45 35 (.slice a51 (((startD D0).2).length) c52) (((startD D0).2).length) (((startD D0).2).flatMap encA), rowC 45 35 (.slice a59 (((startD D0).2).length) c60) (((startD D0).2).length) (((startD D0).2).flatMap encA), cellC b87 57 (([(.int .i64 (x81.doo)), (.int .i64 (x81.kind)), (.int .i64 (x81.round)), (.int .i64 (x81.valid)), (.int .i64 (x81.replica))] : List Value) ++ hc x81.h ++ ([(.bool (x81.ok)), (.bool (x81.raw))] : List Value))]) H149 [2, 3, 4] [0, 1, 5, 6, 7, 8, 9, 10] (by decide) (by kernel_rfl) rfl S154).pick [4, 5, 0, 1, 2, 6, 7, 8, 9, 10, 11, 3] (by decide)
          obtain ⟨a157, c158, rfl⟩ := ownsRow_shape (H156.at 11 rfl)
          refine ⟨_, rfl, ?_⟩
          have S159 := H156.pick [0, 1, 8, 9, 10] (by decide)
          refine hK151 _ _ S159 ?_
          clear hK151 K151
          refine h_do 19 rfl (by kernel_rfl) (wants0 rfl) (fun K160 hK160 => ?_)
          refine d_call (d := 130) rfl (by kernel_rfl) (corePropose_any w153 k37 t38 hb39 cb40 ab41 lb42 pb43 (dbD (3 * F + 1) ls (startD D0).1 k) (ok_of (by kernel_rfl) (H156.fin [5, 6, 7] (by decide) rfl)) (dbCI C0.start k) x81.round x81.valid x81.h (x81.ok)) ?_
          rintro _ w162 ⟨v161, rfl, S163⟩
          rw [hst] at S163
          replace S163 := Sat.cast (G' := [cellC k37 92 (([(.int .i64 (D2.f)), (.int .i64 (D2.c)), (.int .i64 (D2.epoch)), (.int .i64 (D2.replica)), (.int .i64 (D2.s.round)), (.int .i64 (D2.s.step)), (.int .i64 (D2.s.lr)), (.int .i64 (D2.s.vr))] : List Value) ++ hc D2.s.locked ++ hc D2.s.valid ++ ([(.bool (D2.s.decided))] : List Value) ++ hc D2.s.decision ++ ([(.pointer (some ⟨t38, 0, none⟩)), (.map (some pb43)), (.bool (D2.wv)), (.bool (D2.sp)), (.bool (D2.sc))] : List Value)), talC t38 hb39 cb40 ab41 lb42 D2.f D2.c D2.L, mapC pb43 (Value.int .i64) propV D2.P, rowC 45 35 v161 A2.length (A2.flatMap encA), restC w153 (coreC k37 t38 hb39 cb40 ab41 lb42 pb43 (dbD (3 * F + 1) ls (startD D0).1 k)).fp]) S163 (by kernel_rfl)
          have H165 : Sat w [restC w (fun _ => False), cellC b6 25 ([(.int .i64 (F)), (.int .i64 (1))] : List Value), cellC k23 92 (([(.int .i64 (D2.f)), (.int .i64 (D2.c)), (.int .i64 (D2.epoch)), (.int .i64 (D2.replica)), (.int .i64 (D2.s.round)), (.int .i64 (D2.s.step)), (.int .i64 (D2.s.lr)), (.int .i64 (D2.s.vr))] : List Value) ++ hc D2.s.locked ++ hc D2.s.valid ++ ([(.bool (D2.s.decided))] : List Value) ++ hc D2.s.decision ++ ([(.pointer (some ⟨t24, 0, none⟩)), (.map (some pb29)), (.bool (D2.wv)), (.bool (D2.sp)), (.bool (D2.sc))] : List Value)), talC t24 hb25 cb26 ab27 lb28 D2.f D2.c D2.L, mapC pb29 (Value.int .i64) propV D2.P, cellC k37 92 (([(.int .i64 (D2.f)), (.int .i64 (D2.c)), (.int .i64 (D2.epoch)), (.int .i64 (D2.replica)), (.int .i64 (D2.s.round)), (.int .i64 (D2.s.step)), (.int .i64 (D2.s.lr)), (.int .i64 (D2.s.vr))] : List Value) ++ hc D2.s.locked ++ hc D2.s.valid ++ ([(.bool (D2.s.decided))] : List Value) ++ hc D2.s.decision ++ ([(.pointer (some ⟨t38, 0, none⟩)), (.map (some pb43)), (.bool (D2.wv)), (.bool (D2.sp)), (.bool (D2.sc))] : List Value)), talC t38 hb39 cb40 ab41 lb42 D2.f D2.c D2.L, mapC pb43 (Value.int .i64) propV D2.P, rowC 45 35 (.slice a51 (((startD D0).2).length) c52) (((startD D0).2).length) (((startD D0).2).flatMap encA), rowC 45 35 (.slice a59 (((startD D0).2).length) c60) (((startD D0).2).length) (((startD D0).2).flatMap encA), cellC b87 57 (([(.int .i64 (x81.doo)), (.int .i64 (x81.kind)), (.int .i64 (x81.round)), (.int .i64 (x81.valid)), (.int .i64 (x81.replica))] : List Value) ++ hc x81.h ++ ([(.bool (x81.ok)), (.bool (x81.raw))] : List Value)), rowC 45 35 (.slice a157 A2.length c158) A2.length (A2.flatMap encA), rowC 45 35 v161 A2.length (A2.flatMap encA)] w162 := (Sat.turnL (L' := [cellC k37 92 (([(.int .i64 (D2.f)), (.int .i64 (D2.c)), (.int .i64 (D2.epoch)), (.int .i64 (D2.replica)), (.int .i64 (D2.s.round)), (.int .i64 (D2.s.step)), (.int .i64 (D2.s.lr)), (.int .i64 (D2.s.vr))] : List Value) ++ hc D2.s.locked ++ hc D2.s.valid ++ ([(.bool (D2.s.decided))] : List Value) ++ hc D2.s.decision ++ ([(.pointer (some ⟨t38, 0, none⟩)), (.map (some pb43)), (.bool (D2.wv)), (.bool (D2.sp)), (.bool (D2.sc))] : List Value)), talC t38 hb39 cb40 ab41 lb42 D2.f D2.c D2.L, mapC pb43 (Value.int .i64) propV D2.P, rowC 45 35 v161 A2.length (A2.flatMap encA)]) (R := [restC w (fun _ => False), cellC b6 25 ([(.int .i64 (F)), (.int .i64 (1))] : List Value), cellC k23 92 (([(.int .i64 (D2.f)), (.int .i64 (D2.c)), (.int .i64 (D2.epoch)), (.int .i64 (D2.replica)), (.int .i64 (D2.s.round)), (.int .i64 (D2.s.step)), (.int .i64 (D2.s.lr)), (.int .i64 (D2.s.vr))] : List Value) ++ hc D2.s.locked ++ hc D2.s.valid ++ ([(.bool (D2.s.decided))] : List Value) ++ hc D2.s.decision ++ ([(.pointer (some ⟨t24, 0, none⟩)), (.map (some pb29)), (.bool (D2.wv)), (.bool (D2.sp)), (.bool (D2.sc))] : List Value)), talC t24 hb25 cb26 ab27 lb28 D2.f D2.c D2.L, mapC pb29 (Value.int .i64) propV D2.P, rowC 45 35 (.slice a51 (((startD D0).2).length) c52) (((startD D0).2).length) (((startD D0).2).flatMap encA), rowC 45 35 (.slice a59 (((startD D0).2).length) c60) (((startD D0).2).length) (((startD D0).2).flatMap encA), cellC b87 57 (([(.int .i64 (x81.doo)), (.int .i64 (x81.kind)), (.int .i64 (x81.round)), (.int .i64 (x81.valid)), (.int .i64 (x81.replica))] : List Value) ++ hc x81.h ++ ([(.bool (x81.ok)), (.bool (x81.raw))] : List Value)), rowC 45 35 (.slice a157 A2.length c158) A2.length (A2.flatMap encA)]) H156 [5, 6, 7] [0, 1, 2, 3, 4, 8, 9, 10, 11] (by decide) (by kernel_rfl) rfl S163).pick [4, 5, 6, 7, 8, 0, 1, 2, 9, 10, 11, 12, 3] (by decide)
          obtain ⟨a166, c167, rfl⟩ := ownsRow_shape (H165.at 12 rfl)
          refine ⟨_, rfl, ?_⟩
          have S168 := H165.pick [0, 1, 8, 9, 10] (by decide)
          refine hK160 _ _ S168 ?_
          clear hK160 K160
          refine h_val 20 rfl (by kernel_rfl) (by kernel_rfl) (by kernel_rfl) (fun _ _ _ h => h) S168 (wants0 rfl) (d := 13) (v := (.slice a157 A2.length c158)) rfl (fun _ H' => (by kernel_rfl)) ?_
          refine h_val 21 rfl (by kernel_rfl) (by kernel_rfl) (by kernel_rfl) (fun _ _ _ h => h) S168 (wants0 rfl) (d := 14) (v := (.slice a166 A2.length c167)) rfl (fun _ H' => (by kernel_rfl)) ?_
          refine h_fin (by kernel_rfl) ?_
          refine then_normal ?_
          refine w_seq ?_
          refine w_lit ?_
          refine wl_pure (wants0 rfl) (d := 131) (v := (.slice a157 A2.length c158)) rfl (by kernel_rfl) ?_
          refine wl_pure (wants0 rfl) (d := 132) (v := (.int .i64 ((A2.length : Int)))) rfl (by kernel_rfl) ?_
          refine wl_pure (wants0 rfl) (d := 133) (v := (.slice a166 A2.length c167)) rfl (by kernel_rfl) ?_
          refine wl_pure (wants0 rfl) (d := 134) (v := (.int .i64 ((A2.length : Int)))) rfl (by kernel_rfl) ?_
          refine wl_pure (wants0 rfl) (d := 135) (v := (.bool (!(decide ((A2.length : Int) = (A2.length : Int)))))) rfl (by kernel_rfl) ?_
          refine wl_pure (wants0 rfl) (d := 136) (v := (.bool (!(decide ((A2.length : Int) = (A2.length : Int)))))) rfl (by kernel_rfl) ?_
          have b169 : (!(decide ((A2.length : Int) = (A2.length : Int)))) = false := by simp
          refine wl_know 136 (.bool false) (congrArg Value.bool b169) ?_
          refine wl_pure (wantsY 5 136 false rfl (by kernel_rfl) rfl (by kernel_rfl)) (d := 137) (v := (.pointer (some ⟨k37, 0, none⟩))) rfl (by kernel_rfl) ?_
          refine wl_pure (wantsY 5 136 false rfl (by kernel_rfl) rfl (by kernel_rfl)) (d := 138) (v := (.pointer (some ⟨b87, 2, none⟩))) rfl (by kernel_rfl) ?_
          refine wl_pure (wantsY 5 136 false rfl (by kernel_rfl) rfl (by kernel_rfl)) (d := 139) (v := (.int .i64 (x81.round))) rfl (e_load1 rfl (by kernel_rfl) (H165.cell 10 rfl (by kernel_rfl))) ?_
          refine wl_pure (wantsY 5 136 false rfl (by kernel_rfl) rfl (by kernel_rfl)) (d := 140) (v := (.pointer (some ⟨b87, 3, none⟩))) rfl (by kernel_rfl) ?_
          refine wl_pure (wantsY 5 136 false rfl (by kernel_rfl) rfl (by kernel_rfl)) (d := 141) (v := (.int .i64 (x81.valid))) rfl (e_load1 rfl (by kernel_rfl) (H165.cell 10 rfl (by kernel_rfl))) ?_
          refine wl_pure (wantsY 5 136 false rfl (by kernel_rfl) rfl (by kernel_rfl)) (d := 142) (v := (.pointer (some ⟨b87, 5, none⟩))) rfl (by kernel_rfl) ?_
          refine wl_pure (wantsY 5 136 false rfl (by kernel_rfl) rfl (by kernel_rfl)) (d := 143) (v := (.agg ⟨(hc x81.h)⟩)) rfl (e_loadN (vs := (hc x81.h)) rfl (by kernel_rfl) (by kernel_rfl) (by exact Nat.le_of_ble_eq_true (by kernel_rfl)) (H165.at 10 rfl) (by kernel_rfl)) ?_
          refine wl_pure (wantsY 5 136 false rfl (by kernel_rfl) rfl (by kernel_rfl)) (d := 144) (v := (.pointer (some ⟨b87, 37, none⟩))) rfl (by kernel_rfl) ?_
          refine wl_pure (wantsY 5 136 false rfl (by kernel_rfl) rfl (by kernel_rfl)) (d := 145) (v := (.bool (x81.ok))) rfl (e_load1 rfl (by kernel_rfl) (H165.cell 10 rfl (by kernel_rfl))) ?_
          refine wl_pure (wantsY 5 136 false rfl (by kernel_rfl) rfl (by kernel_rfl)) (d := 146) (v := (.bool (!(x81.ok)))) rfl (by kernel_rfl) ?_
          refine wl_do (wantsY 5 136 false rfl (by kernel_rfl) rfl (by kernel_rfl)) (fun K170 hK170 => ?_)
          refine d_call (d := 147) rfl (by kernel_rfl) (corePropose_any w162 k37 t38 hb39 cb40 ab41 lb42 pb43 D2 (ok_of (by kernel_rfl) (H165.fin [5, 6, 7] (by decide) rfl)) hC2 x81.round x81.valid x81.h (!(x81.ok))) ?_
          rintro _ w172 ⟨v171, rfl, S173⟩
          rw [propose_twice (A := A2) hC hst _] at S173
          replace S173 := Sat.cast (G' := [cellC k37 92 (([(.int .i64 (D2.f)), (.int .i64 (D2.c)), (.int .i64 (D2.epoch)), (.int .i64 (D2.replica)), (.int .i64 (D2.s.round)), (.int .i64 (D2.s.step)), (.int .i64 (D2.s.lr)), (.int .i64 (D2.s.vr))] : List Value) ++ hc D2.s.locked ++ hc D2.s.valid ++ ([(.bool (D2.s.decided))] : List Value) ++ hc D2.s.decision ++ ([(.pointer (some ⟨t38, 0, none⟩)), (.map (some pb43)), (.bool (D2.wv)), (.bool (D2.sp)), (.bool (D2.sc))] : List Value)), talC t38 hb39 cb40 ab41 lb42 D2.f D2.c D2.L, mapC pb43 (Value.int .i64) propV D2.P, rowC 45 35 v171 0 ([]), restC w162 (coreC k37 t38 hb39 cb40 ab41 lb42 pb43 D2).fp]) S173 (by kernel_rfl)
          have H175 : Sat w [restC w (fun _ => False), cellC b6 25 ([(.int .i64 (F)), (.int .i64 (1))] : List Value), cellC k23 92 (([(.int .i64 (D2.f)), (.int .i64 (D2.c)), (.int .i64 (D2.epoch)), (.int .i64 (D2.replica)), (.int .i64 (D2.s.round)), (.int .i64 (D2.s.step)), (.int .i64 (D2.s.lr)), (.int .i64 (D2.s.vr))] : List Value) ++ hc D2.s.locked ++ hc D2.s.valid ++ ([(.bool (D2.s.decided))] : List Value) ++ hc D2.s.decision ++ ([(.pointer (some ⟨t24, 0, none⟩)), (.map (some pb29)), (.bool (D2.wv)), (.bool (D2.sp)), (.bool (D2.sc))] : List Value)), talC t24 hb25 cb26 ab27 lb28 D2.f D2.c D2.L, mapC pb29 (Value.int .i64) propV D2.P, cellC k37 92 (([(.int .i64 (D2.f)), (.int .i64 (D2.c)), (.int .i64 (D2.epoch)), (.int .i64 (D2.replica)), (.int .i64 (D2.s.round)), (.int .i64 (D2.s.step)), (.int .i64 (D2.s.lr)), (.int .i64 (D2.s.vr))] : List Value) ++ hc D2.s.locked ++ hc D2.s.valid ++ ([(.bool (D2.s.decided))] : List Value) ++ hc D2.s.decision ++ ([(.pointer (some ⟨t38, 0, none⟩)), (.map (some pb43)), (.bool (D2.wv)), (.bool (D2.sp)), (.bool (D2.sc))] : List Value)), talC t38 hb39 cb40 ab41 lb42 D2.f D2.c D2.L, mapC pb43 (Value.int .i64) propV D2.P, rowC 45 35 (.slice a51 (((startD D0).2).length) c52) (((startD D0).2).length) (((startD D0).2).flatMap encA), rowC 45 35 (.slice a59 (((startD D0).2).length) c60) (((startD D0).2).length) (((startD D0).2).flatMap encA), cellC b87 57 (([(.int .i64 (x81.doo)), (.int .i64 (x81.kind)), (.int .i64 (x81.round)), (.int .i64 (x81.valid)), (.int .i64 (x81.replica))] : List Value) ++ hc x81.h ++ ([(.bool (x81.ok)), (.bool (x81.raw))] : List Value)), rowC 45 35 (.slice a157 A2.length c158) A2.length (A2.flatMap encA), rowC 45 35 (.slice a166 A2.length c167) A2.length (A2.flatMap encA), rowC 45 35 v171 0 ([])] w172 := (Sat.turnL (L' := [cellC k37 92 (([(.int .i64 (D2.f)), (.int .i64 (D2.c)), (.int .i64 (D2.epoch)), (.int .i64 (D2.replica)), (.int .i64 (D2.s.round)), (.int .i64 (D2.s.step)), (.int .i64 (D2.s.lr)), (.int .i64 (D2.s.vr))] : List Value) ++ hc D2.s.locked ++ hc D2.s.valid ++ ([(.bool (D2.s.decided))] : List Value) ++ hc D2.s.decision ++ ([(.pointer (some ⟨t38, 0, none⟩)), (.map (some pb43)), (.bool (D2.wv)), (.bool (D2.sp)), (.bool (D2.sc))] : List Value)), talC t38 hb39 cb40 ab41 lb42 D2.f D2.c D2.L, mapC pb43 (Value.int .i64) propV D2.P, rowC 45 35 v171 0 ([])]) (R := [restC w (fun _ => False), cellC b6 25 ([(.int .i64 (F)), (.int .i64 (1))] : List Value), cellC k23 92 (([(.int .i64 (D2.f)), (.int .i64 (D2.c)), (.int .i64 (D2.epoch)), (.int .i64 (D2.replica)), (.int .i64 (D2.s.round)), (.int .i64 (D2.s.step)), (.int .i64 (D2.s.lr)), (.int .i64 (D2.s.vr))] : List Value) ++ hc D2.s.locked ++ hc D2.s.valid ++ ([(.bool (D2.s.decided))] : List Value) ++ hc D2.s.decision ++ ([(.pointer (some ⟨t24, 0, none⟩)), (.map (some pb29)), (.bool (D2.wv)), (.bool (D2.sp)), (.bool (D2.sc))] : List Value)), talC t24 hb25 cb26 ab27 lb28 D2.f D2.c D2.L, mapC pb29 (Value.int .i64) propV D2.P, rowC 45 35 (.slice a51 (((startD D0).2).length) c52) (((startD D0).2).length) (((startD D0).2).flatMap encA), rowC 45 35 (.slice a59 (((startD D0).2).length) c60) (((startD D0).2).length) (((startD D0).2).flatMap encA), cellC b87 57 (([(.int .i64 (x81.doo)), (.int .i64 (x81.kind)), (.int .i64 (x81.round)), (.int .i64 (x81.valid)), (.int .i64 (x81.replica))] : List Value) ++ hc x81.h ++ ([(.bool (x81.ok)), (.bool (x81.raw))] : List Value)), rowC 45 35 (.slice a157 A2.length c158) A2.length (A2.flatMap encA), rowC 45 35 (.slice a166 A2.length c167) A2.length (A2.flatMap encA)]) H165 [5, 6, 7] [0, 1, 2, 3, 4, 8, 9, 10, 11, 12] (by decide) (by kernel_rfl) rfl S173).pick [4, 5, 6, 7, 8, 0, 1, 2, 9, 10, 11, 12, 13, 3] (by decide)
          obtain ⟨a176, c177, rfl⟩ := ownsRow_shape (H175.at 13 rfl)
          refine ⟨_, rfl, ?_⟩
          refine hK170 _ _ ?_
          clear hK170 K170
          refine wl_pure (wantsY 5 136 false rfl (by kernel_rfl) rfl (by kernel_rfl)) (d := 148) (v := (.int .i64 (0))) rfl (by kernel_rfl) ?_
          refine wl_pure (wantsY 5 136 false rfl (by kernel_rfl) rfl (by kernel_rfl)) (d := 149) (v := (.bool false)) rfl (by kernel_rfl) ?_
          refine wl_pure (wants0 rfl) (d := 150) (v := (.bool false)) rfl (by kernel_rfl) ?_
          refine w_nil ?_
          refine then_normal ?_
          refine wp_iff rfl ?_
          refine w_skip ?_
          refine blk_normal ?_
          refine then_normal ?_
          refine w_seq ?_
          refine w_lit ?_
          refine wl_pure (wants0 rfl) (d := 154) (v := (.pointer (some ⟨k23, 0, none⟩))) rfl (by kernel_rfl) ?_
          refine wl_do (wants0 rfl) (fun K178 hK178 => ?_)
          refine d_call (d := 155) rfl (by kernel_rfl) (coreState_any w172 k23 t24 hb25 cb26 ab27 lb28 pb29 D2 (ok_of (by kernel_rfl) (H175.fin [2, 3, 4] (by decide) rfl)) hC2) ?_
          rintro _ w179 ⟨rfl, u181⟩
          have H180 := H175.keepU u181
          refine ⟨_, rfl, ?_⟩
          refine hK178 _ _ ?_
          clear hK178 K178
          refine wl_pure (wants0 rfl) (d := 156) (v := (.pointer (some ⟨k37, 0, none⟩))) rfl (by kernel_rfl) ?_
          refine wl_do (wants0 rfl) (fun K182 hK182 => ?_)
          refine d_call (d := 157) rfl (by kernel_rfl) (coreState_any w179 k37 t38 hb39 cb40 ab41 lb42 pb43 D2 (ok_of (by kernel_rfl) (H180.fin [5, 6, 7] (by decide) rfl)) hC2) ?_
          rintro _ w183 ⟨rfl, u185⟩
          have H184 := H180.keepU u185
          refine ⟨_, rfl, ?_⟩
          refine hK182 _ _ ?_
          clear hK182 K182
          refine wl_pure (wants0 rfl) (d := 158) (v := (.bool (!(decide (D2.s = D2.s))))) rfl (stateF.e_ne D2.s D2.s rfl rfl) ?_
          refine w_nil ?_
          refine then_normal ?_
          have b186 : (!(decide (D2.s = D2.s))) = false := by simp
          refine wp_know 158 (.bool false) (congrArg Value.bool b186) ?_
          have g187 := bnot_false b186
          have g188 := of_decide_eq_true g187
          refine wp_iff rfl ?_
          refine w_skip ?_
          refine blk_normal ?_
          refine then_normal ?_
          refine w_lit ?_
          refine wl_pure (wants0 rfl) (d := 59) (v := (.int .i64 ((k : Int)))) rfl (by kernel_rfl) ?_
          refine wl_pure (wants0 rfl) (d := 60) (v := (.int .i64 ((k : Int) + 1))) rfl (e_int (z := (k : Int) + 1) (by kernel_rfl) (IntWalk.i64_in _ (by omega))) ?_
          refine wl_pure (wants0 rfl) (d := 11) (v := (.int .i64 ((k : Int) + 1))) rfl (by kernel_rfl) ?_
          refine w_nil ?_
          have hD : (dbD (3 * F + 1) ls (startD D0).1 (k + 1)) = D2 := by simp only [dbD, hx82]; unfold dbS; rw [if_pos (.inr (of_decide_eq_true b145)), hst]
          have H189 : Sat w [restC w (fun _ => False), cellC b6 25 ([(.int .i64 (F)), (.int .i64 (1))] : List Value), cellC k23 92 (([(.int .i64 ((dbD (3 * F + 1) ls (startD D0).1 (k + 1)).f)), (.int .i64 ((dbD (3 * F + 1) ls (startD D0).1 (k + 1)).c)), (.int .i64 ((dbD (3 * F + 1) ls (startD D0).1 (k + 1)).epoch)), (.int .i64 ((dbD (3 * F + 1) ls (startD D0).1 (k + 1)).replica)), (.int .i64 ((dbD (3 * F + 1) ls (startD D0).1 (k + 1)).s.round)), (.int .i64 ((dbD (3 * F + 1) ls (startD D0).1 (k + 1)).s.step)), (.int .i64 ((dbD (3 * F + 1) ls (startD D0).1 (k + 1)).s.lr)), (.int .i64 ((dbD (3 * F + 1) ls (startD D0).1 (k + 1)).s.vr))] : List Value) ++ hc (dbD (3 * F + 1) ls (startD D0).1 (k + 1)).s.locked ++ hc (dbD (3 * F + 1) ls (startD D0).1 (k + 1)).s.valid ++ ([(.bool ((dbD (3 * F + 1) ls (startD D0).1 (k + 1)).s.decided))] : List Value) ++ hc (dbD (3 * F + 1) ls (startD D0).1 (k + 1)).s.decision ++ ([(.pointer (some ⟨t24, 0, none⟩)), (.map (some pb29)), (.bool ((dbD (3 * F + 1) ls (startD D0).1 (k + 1)).wv)), (.bool ((dbD (3 * F + 1) ls (startD D0).1 (k + 1)).sp)), (.bool ((dbD (3 * F + 1) ls (startD D0).1 (k + 1)).sc))] : List Value)), talC t24 hb25 cb26 ab27 lb28 (dbD (3 * F + 1) ls (startD D0).1 (k + 1)).f (dbD (3 * F + 1) ls (startD D0).1 (k + 1)).c (dbD (3 * F + 1) ls (startD D0).1 (k + 1)).L, mapC pb29 (Value.int .i64) propV (dbD (3 * F + 1) ls (startD D0).1 (k + 1)).P, cellC k37 92 (([(.int .i64 ((dbD (3 * F + 1) ls (startD D0).1 (k + 1)).f)), (.int .i64 ((dbD (3 * F + 1) ls (startD D0).1 (k + 1)).c)), (.int .i64 ((dbD (3 * F + 1) ls (startD D0).1 (k + 1)).epoch)), (.int .i64 ((dbD (3 * F + 1) ls (startD D0).1 (k + 1)).replica)), (.int .i64 ((dbD (3 * F + 1) ls (startD D0).1 (k + 1)).s.round)), (.int .i64 ((dbD (3 * F + 1) ls (startD D0).1 (k + 1)).s.step)), (.int .i64 ((dbD (3 * F + 1) ls (startD D0).1 (k + 1)).s.lr)), (.int .i64 ((dbD (3 * F + 1) ls (startD D0).1 (k + 1)).s.vr))] : List Value) ++ hc (dbD (3 * F + 1) ls (startD D0).1 (k + 1)).s.locked ++ hc (dbD (3 * F + 1) ls (startD D0).1 (k + 1)).s.valid ++ ([(.bool ((dbD (3 * F + 1) ls (startD D0).1 (k + 1)).s.decided))] : List Value) ++ hc (dbD (3 * F + 1) ls (startD D0).1 (k + 1)).s.decision ++ ([(.pointer (some ⟨t38, 0, none⟩)), (.map (some pb43)), (.bool ((dbD (3 * F + 1) ls (startD D0).1 (k + 1)).wv)), (.bool ((dbD (3 * F + 1) ls (startD D0).1 (k + 1)).sp)), (.bool ((dbD (3 * F + 1) ls (startD D0).1 (k + 1)).sc))] : List Value)), talC t38 hb39 cb40 ab41 lb42 (dbD (3 * F + 1) ls (startD D0).1 (k + 1)).f (dbD (3 * F + 1) ls (startD D0).1 (k + 1)).c (dbD (3 * F + 1) ls (startD D0).1 (k + 1)).L, mapC pb43 (Value.int .i64) propV (dbD (3 * F + 1) ls (startD D0).1 (k + 1)).P, rowC 45 35 (.slice a51 (((startD D0).2).length) c52) (((startD D0).2).length) (((startD D0).2).flatMap encA), rowC 45 35 (.slice a59 (((startD D0).2).length) c60) (((startD D0).2).length) (((startD D0).2).flatMap encA)] w183 := (H184.pick [0, 1, 2, 3, 4, 5, 6, 7, 8, 9] (by decide)).cast (by rw [hD]; rfl)
          refine round_back ?_ _ ⟨(k + 1), (show ((.int .i64 ((k : Int) + 1)) : Value) = _ by first | rfl | go_num), (by omega), H189, rfl⟩ (by omega)
          exact (same_upd rfl (same_upd rfl (same_upd rfl (same_upd rfl (same_upd rfl (same_upd rfl (same_upd rfl (same_upd rfl (same_upd rfl (same_upd rfl (same_upd rfl (same_upd rfl (same_upd rfl (same_upd rfl (same_upd rfl (same_upd rfl (same_upd rfl (same_upd rfl (same_upd rfl (same_upd rfl (same_upd rfl (same_upd rfl (same_upd rfl (same_upd rfl (same_upd rfl (same_upd rfl (same_upd rfl (same_upd rfl (same_upd rfl (same_upd rfl (same_upd rfl (same_upd rfl (same_upd rfl (same_upd rfl (same_upd rfl (same_upd rfl (same_upd rfl (same_upd rfl (same_upd rfl (same_upd rfl (same_upd rfl (same_upd rfl (same_upd rfl (same_upd rfl (same_upd rfl (same_upd rfl (same_upd rfl (same_upd rfl (same_upd rfl (same_upd rfl (same_upd rfl (same_upd rfl (same_upd rfl (same_upd rfl (same_upd rfl (same_upd rfl (same_upd rfl (same_upd rfl (same_upd rfl (same_upd rfl (same_upd rfl (same_upd rfl (same_upd rfl (same_upd rfl (same_upd rfl (same_upd rfl (same_upd rfl (same_upd rfl (same_upd rfl (same_upd rfl (same_ovr2 rfl (same_upd rfl (same_ovr)))))))))))))))))))))))))))))))))))))))))))))))))))))))))))))))))))))))))
        · have g190 := of_decide_eq_false b145
          refine wp_know 108 (.bool false) (congrArg Value.bool b145) ?_
          have g191 := of_decide_eq_false b145
          refine wp_iff rfl ?_
          refine w_seq ?_
          refine w_seq ?_
          refine w_lit ?_
          refine wl_pure (wants0 rfl) (d := 152) (v := (.bool (decide ((withinV x81.doo 8) = 6)))) rfl (by kernel_rfl) ?_
          refine wl_pure (wants0 rfl) (d := 151) (v := (.bool (decide ((withinV x81.doo 8) = 6)))) rfl (by kernel_rfl) ?_
          refine w_nil ?_
          refine then_normal ?_
          refine (bsplit (decide ((withinV x81.doo 8) = 6))).elim (fun b192 => ?_) (fun b192 => ?_)
          · have g193 := of_decide_eq_true b192
            refine wp_know 151 (.bool true) (congrArg Value.bool b192) ?_
            have g194 := of_decide_eq_true b192
            refine wp_ift rfl ?_
            refine w_skip ?_
            refine then_normal ?_
            refine wp_ift rfl ?_
            refine w_exit ?_
            refine blk_miss rfl ?_
            refine then_exit ?_
            refine blk_hit ?_
            refine then_normal ?_
            refine w_lit ?_
            refine wl_pure (wants0 rfl) (d := 59) (v := (.int .i64 ((k : Int)))) rfl (by kernel_rfl) ?_
            refine wl_pure (wants0 rfl) (d := 60) (v := (.int .i64 ((k : Int) + 1))) rfl (e_int (z := (k : Int) + 1) (by kernel_rfl) (IntWalk.i64_in _ (by omega))) ?_
            refine wl_pure (wants0 rfl) (d := 11) (v := (.int .i64 ((k : Int) + 1))) rfl (by kernel_rfl) ?_
            refine w_nil ?_
            have hD : (dbD (3 * F + 1) ls (startD D0).1 (k + 1)) = (dbD (3 * F + 1) ls (startD D0).1 k) := by simp only [dbD, hx82]; unfold dbS; rw [if_neg (fun q => q.elim (of_decide_eq_false b98) (of_decide_eq_false b145)), if_pos (.inl (of_decide_eq_true b192))]
            have H195 : Sat w [restC w (fun _ => False), cellC b6 25 ([(.int .i64 (F)), (.int .i64 (1))] : List Value), cellC k23 92 (([(.int .i64 ((dbD (3 * F + 1) ls (startD D0).1 (k + 1)).f)), (.int .i64 ((dbD (3 * F + 1) ls (startD D0).1 (k + 1)).c)), (.int .i64 ((dbD (3 * F + 1) ls (startD D0).1 (k + 1)).epoch)), (.int .i64 ((dbD (3 * F + 1) ls (startD D0).1 (k + 1)).replica)), (.int .i64 ((dbD (3 * F + 1) ls (startD D0).1 (k + 1)).s.round)), (.int .i64 ((dbD (3 * F + 1) ls (startD D0).1 (k + 1)).s.step)), (.int .i64 ((dbD (3 * F + 1) ls (startD D0).1 (k + 1)).s.lr)), (.int .i64 ((dbD (3 * F + 1) ls (startD D0).1 (k + 1)).s.vr))] : List Value) ++ hc (dbD (3 * F + 1) ls (startD D0).1 (k + 1)).s.locked ++ hc (dbD (3 * F + 1) ls (startD D0).1 (k + 1)).s.valid ++ ([(.bool ((dbD (3 * F + 1) ls (startD D0).1 (k + 1)).s.decided))] : List Value) ++ hc (dbD (3 * F + 1) ls (startD D0).1 (k + 1)).s.decision ++ ([(.pointer (some ⟨t24, 0, none⟩)), (.map (some pb29)), (.bool ((dbD (3 * F + 1) ls (startD D0).1 (k + 1)).wv)), (.bool ((dbD (3 * F + 1) ls (startD D0).1 (k + 1)).sp)), (.bool ((dbD (3 * F + 1) ls (startD D0).1 (k + 1)).sc))] : List Value)), talC t24 hb25 cb26 ab27 lb28 (dbD (3 * F + 1) ls (startD D0).1 (k + 1)).f (dbD (3 * F + 1) ls (startD D0).1 (k + 1)).c (dbD (3 * F + 1) ls (startD D0).1 (k + 1)).L, mapC pb29 (Value.int .i64) propV (dbD (3 * F + 1) ls (startD D0).1 (k + 1)).P, cellC k37 92 (([(.int .i64 ((dbD (3 * F + 1) ls (startD D0).1 (k + 1)).f)), (.int .i64 ((dbD (3 * F + 1) ls (startD D0).1 (k + 1)).c)), (.int .i64 ((dbD (3 * F + 1) ls (startD D0).1 (k + 1)).epoch)), (.int .i64 ((dbD (3 * F + 1) ls (startD D0).1 (k + 1)).replica)), (.int .i64 ((dbD (3 * F + 1) ls (startD D0).1 (k + 1)).s.round)), (.int .i64 ((dbD (3 * F + 1) ls (startD D0).1 (k + 1)).s.step)), (.int .i64 ((dbD (3 * F + 1) ls (startD D0).1 (k + 1)).s.lr)), (.int .i64 ((dbD (3 * F + 1) ls (startD D0).1 (k + 1)).s.vr))] : List Value) ++ hc (dbD (3 * F + 1) ls (startD D0).1 (k + 1)).s.locked ++ hc (dbD (3 * F + 1) ls (startD D0).1 (k + 1)).s.valid ++ ([(.bool ((dbD (3 * F + 1) ls (startD D0).1 (k + 1)).s.decided))] : List Value) ++ hc (dbD (3 * F + 1) ls (startD D0).1 (k + 1)).s.decision ++ ([(.pointer (some ⟨t38, 0, none⟩)), (.map (some pb43)), (.bool ((dbD (3 * F + 1) ls (startD D0).1 (k + 1)).wv)), (.bool ((dbD (3 * F + 1) ls (startD D0).1 (k + 1)).sp)), (.bool ((dbD (3 * F + 1) ls (startD D0).1 (k + 1)).sc))] : List Value)), talC t38 hb39 cb40 ab41 lb42 (dbD (3 * F + 1) ls (startD D0).1 (k + 1)).f (dbD (3 * F + 1) ls (startD D0).1 (k + 1)).c (dbD (3 * F + 1) ls (startD D0).1 (k + 1)).L, mapC pb43 (Value.int .i64) propV (dbD (3 * F + 1) ls (startD D0).1 (k + 1)).P, rowC 45 35 (.slice a51 (((startD D0).2).length) c52) (((startD D0).2).length) (((startD D0).2).flatMap encA), rowC 45 35 (.slice a59 (((startD D0).2).length) c60) (((startD D0).2).length) (((startD D0).2).flatMap encA)] w95 := (H96.pick [0, 1, 2, 3, 4, 5, 6, 7, 8, 9] (by decide)).cast (by rw [hD]; rfl)
            refine round_back ?_ _ ⟨(k + 1), (show ((.int .i64 ((k : Int) + 1)) : Value) = _ by first | rfl | go_num), (by omega), H195, rfl⟩ (by omega)
            exact (same_upd rfl (same_upd rfl (same_upd rfl (same_upd rfl (same_upd rfl (same_upd rfl (same_upd rfl (same_upd rfl (same_upd rfl (same_upd rfl (same_upd rfl (same_upd rfl (same_upd rfl (same_upd rfl (same_upd rfl (same_upd rfl (same_upd rfl (same_upd rfl (same_upd rfl (same_upd rfl (same_upd rfl (same_upd rfl (same_upd rfl (same_upd rfl (same_ovr2 rfl (same_upd rfl (same_ovr)))))))))))))))))))))))))))
          · have g196 := of_decide_eq_false b192
            refine wp_know 151 (.bool false) (congrArg Value.bool b192) ?_
            have g197 := of_decide_eq_false b192
            refine wp_iff rfl ?_
            refine w_lit ?_
            refine wl_pure (wants0 rfl) (d := 153) (v := (.bool (decide ((withinV x81.doo 8) = 7)))) rfl (by kernel_rfl) ?_
            refine wl_pure (wants0 rfl) (d := 151) (v := (.bool (decide ((withinV x81.doo 8) = 7)))) rfl (by kernel_rfl) ?_
            refine w_nil ?_
            refine then_normal ?_
            refine (bsplit (decide ((withinV x81.doo 8) = 7))).elim (fun b198 => ?_) (fun b198 => ?_)
            · have g199 := of_decide_eq_true b198
              refine wp_know 151 (.bool true) (congrArg Value.bool b198) ?_
              have g200 := of_decide_eq_true b198
              refine wp_ift rfl ?_
              refine w_exit ?_
              refine blk_miss rfl ?_
              refine then_exit ?_
              refine blk_hit ?_
              refine then_normal ?_
              refine w_lit ?_
              refine wl_pure (wants0 rfl) (d := 59) (v := (.int .i64 ((k : Int)))) rfl (by kernel_rfl) ?_
              refine wl_pure (wants0 rfl) (d := 60) (v := (.int .i64 ((k : Int) + 1))) rfl (e_int (z := (k : Int) + 1) (by kernel_rfl) (IntWalk.i64_in _ (by omega))) ?_
              refine wl_pure (wants0 rfl) (d := 11) (v := (.int .i64 ((k : Int) + 1))) rfl (by kernel_rfl) ?_
              refine w_nil ?_
              have hD : (dbD (3 * F + 1) ls (startD D0).1 (k + 1)) = (dbD (3 * F + 1) ls (startD D0).1 k) := by simp only [dbD, hx82]; unfold dbS; rw [if_neg (fun q => q.elim (of_decide_eq_false b98) (of_decide_eq_false b145)), if_pos (.inr (of_decide_eq_true b198))]
              have H201 : Sat w [restC w (fun _ => False), cellC b6 25 ([(.int .i64 (F)), (.int .i64 (1))] : List Value), cellC k23 92 (([(.int .i64 ((dbD (3 * F + 1) ls (startD D0).1 (k + 1)).f)), (.int .i64 ((dbD (3 * F + 1) ls (startD D0).1 (k + 1)).c)), (.int .i64 ((dbD (3 * F + 1) ls (startD D0).1 (k + 1)).epoch)), (.int .i64 ((dbD (3 * F + 1) ls (startD D0).1 (k + 1)).replica)), (.int .i64 ((dbD (3 * F + 1) ls (startD D0).1 (k + 1)).s.round)), (.int .i64 ((dbD (3 * F + 1) ls (startD D0).1 (k + 1)).s.step)), (.int .i64 ((dbD (3 * F + 1) ls (startD D0).1 (k + 1)).s.lr)), (.int .i64 ((dbD (3 * F + 1) ls (startD D0).1 (k + 1)).s.vr))] : List Value) ++ hc (dbD (3 * F + 1) ls (startD D0).1 (k + 1)).s.locked ++ hc (dbD (3 * F + 1) ls (startD D0).1 (k + 1)).s.valid ++ ([(.bool ((dbD (3 * F + 1) ls (startD D0).1 (k + 1)).s.decided))] : List Value) ++ hc (dbD (3 * F + 1) ls (startD D0).1 (k + 1)).s.decision ++ ([(.pointer (some ⟨t24, 0, none⟩)), (.map (some pb29)), (.bool ((dbD (3 * F + 1) ls (startD D0).1 (k + 1)).wv)), (.bool ((dbD (3 * F + 1) ls (startD D0).1 (k + 1)).sp)), (.bool ((dbD (3 * F + 1) ls (startD D0).1 (k + 1)).sc))] : List Value)), talC t24 hb25 cb26 ab27 lb28 (dbD (3 * F + 1) ls (startD D0).1 (k + 1)).f (dbD (3 * F + 1) ls (startD D0).1 (k + 1)).c (dbD (3 * F + 1) ls (startD D0).1 (k + 1)).L, mapC pb29 (Value.int .i64) propV (dbD (3 * F + 1) ls (startD D0).1 (k + 1)).P, cellC k37 92 (([(.int .i64 ((dbD (3 * F + 1) ls (startD D0).1 (k + 1)).f)), (.int .i64 ((dbD (3 * F + 1) ls (startD D0).1 (k + 1)).c)), (.int .i64 ((dbD (3 * F + 1) ls (startD D0).1 (k + 1)).epoch)), (.int .i64 ((dbD (3 * F + 1) ls (startD D0).1 (k + 1)).replica)), (.int .i64 ((dbD (3 * F + 1) ls (startD D0).1 (k + 1)).s.round)), (.int .i64 ((dbD (3 * F + 1) ls (startD D0).1 (k + 1)).s.step)), (.int .i64 ((dbD (3 * F + 1) ls (startD D0).1 (k + 1)).s.lr)), (.int .i64 ((dbD (3 * F + 1) ls (startD D0).1 (k + 1)).s.vr))] : List Value) ++ hc (dbD (3 * F + 1) ls (startD D0).1 (k + 1)).s.locked ++ hc (dbD (3 * F + 1) ls (startD D0).1 (k + 1)).s.valid ++ ([(.bool ((dbD (3 * F + 1) ls (startD D0).1 (k + 1)).s.decided))] : List Value) ++ hc (dbD (3 * F + 1) ls (startD D0).1 (k + 1)).s.decision ++ ([(.pointer (some ⟨t38, 0, none⟩)), (.map (some pb43)), (.bool ((dbD (3 * F + 1) ls (startD D0).1 (k + 1)).wv)), (.bool ((dbD (3 * F + 1) ls (startD D0).1 (k + 1)).sp)), (.bool ((dbD (3 * F + 1) ls (startD D0).1 (k + 1)).sc))] : List Value)), talC t38 hb39 cb40 ab41 lb42 (dbD (3 * F + 1) ls (startD D0).1 (k + 1)).f (dbD (3 * F + 1) ls (startD D0).1 (k + 1)).c (dbD (3 * F + 1) ls (startD D0).1 (k + 1)).L, mapC pb43 (Value.int .i64) propV (dbD (3 * F + 1) ls (startD D0).1 (k + 1)).P, rowC 45 35 (.slice a51 (((startD D0).2).length) c52) (((startD D0).2).length) (((startD D0).2).flatMap encA), rowC 45 35 (.slice a59 (((startD D0).2).length) c60) (((startD D0).2).length) (((startD D0).2).flatMap encA)] w95 := (H96.pick [0, 1, 2, 3, 4, 5, 6, 7, 8, 9] (by decide)).cast (by rw [hD]; rfl)
              refine round_back ?_ _ ⟨(k + 1), (show ((.int .i64 ((k : Int) + 1)) : Value) = _ by first | rfl | go_num), (by omega), H201, rfl⟩ (by omega)
              exact (same_upd rfl (same_upd rfl (same_upd rfl (same_upd rfl (same_upd rfl (same_upd rfl (same_upd rfl (same_upd rfl (same_upd rfl (same_upd rfl (same_upd rfl (same_upd rfl (same_upd rfl (same_upd rfl (same_upd rfl (same_upd rfl (same_upd rfl (same_upd rfl (same_upd rfl (same_upd rfl (same_upd rfl (same_upd rfl (same_upd rfl (same_upd rfl (same_upd rfl (same_upd rfl (same_upd rfl (same_ovr2 rfl (same_upd rfl (same_ovr))))))))))))))))))))))))))))))
            · have g202 := of_decide_eq_false b198
              refine wp_know 151 (.bool false) (congrArg Value.bool b198) ?_
              have g203 := of_decide_eq_false b198
              refine wp_iff rfl ?_
              refine w_seq ?_
              have hC := dbCI (n := (3 * F + 1)) (ls := ls) C0.start k
              obtain ⟨D2, A2, hst⟩ : ∃ D2 A2, voteD' (dbD (3 * F + 1) ls (startD D0).1 k) x81.kind x81.round x81.replica x81.h = (D2, A2) := ⟨_, _, rfl⟩
              have hC2 : CI D2 := by have q := hC.vote x81.kind x81.round x81.replica x81.h; rwa [hst] at q
              refine h_start H96 [restC w (fun _ => False), cellC b6 25 ([(.int .i64 (F)), (.int .i64 (1))] : List Value), rowC 45 35 (.slice a51 (((startD D0).2).length) c52) (((startD D0).2).length) (((startD D0).2).flatMap encA), rowC 45 35 (.slice a59 (((startD D0).2).length) c60) (((startD D0).2).length) (((startD D0).2).flatMap encA), cellC b87 57 (([(.int .i64 (x81.doo)), (.int .i64 (x81.kind)), (.int .i64 (x81.round)), (.int .i64 (x81.valid)), (.int .i64 (x81.replica))] : List Value) ++ hc x81.h ++ ([(.bool (x81.ok)), (.bool (x81.raw))] : List Value))] 22 rfl (by kernel_rfl) (fun Hx => (Hx.pick [0, 1, 8, 9, 10] (by decide))) ?_
              intro w204 H205 S206
              refine h_val 0 rfl (by kernel_rfl) (by kernel_rfl) (by kernel_rfl) (fun _ _ _ h => h) S206 (wants0 rfl) (d := 70) (v := (.pointer (some ⟨k23, 0, none⟩))) rfl (fun _ H' => (by kernel_rfl)) ?_
              refine h_val 1 rfl (by kernel_rfl) (by kernel_rfl) (by kernel_rfl) (fun _ _ _ h => h) S206 (wants0 rfl) (d := 71) (v := (.pointer (some ⟨b87, 1, none⟩))) rfl (fun _ H' => (by kernel_rfl)) ?_
              refine h_val 2 rfl (by kernel_rfl) (by kernel_rfl) (by kernel_rfl) (fun _ _ _ h => h) S206 (wants0 rfl) (d := 72) (v := (.int .i64 (x81.kind))) rfl (fun _ H' => (e_load1 rfl (by kernel_rfl) (H'.cell 4 rfl (by kernel_rfl)))) ?_
              refine h_val 3 rfl (by kernel_rfl) (by kernel_rfl) (by kernel_rfl) (fun _ _ _ h => h) S206 (wants0 rfl) (d := 73) (v := (.pointer (some ⟨b87, 2, none⟩))) rfl (fun _ H' => (by kernel_rfl)) ?_
              refine h_val 4 rfl (by kernel_rfl) (by kernel_rfl) (by kernel_rfl) (fun _ _ _ h => h) S206 (wants0 rfl) (d := 74) (v := (.int .i64 (x81.round))) rfl (fun _ H' => (e_load1 rfl (by kernel_rfl) (H'.cell 4 rfl (by kernel_rfl)))) ?_
              refine h_val 5 rfl (by kernel_rfl) (by kernel_rfl) (by kernel_rfl) (fun _ _ _ h => h) S206 (wants0 rfl) (d := 75) (v := (.pointer (some ⟨b87, 4, none⟩))) rfl (fun _ H' => (by kernel_rfl)) ?_
              refine h_val 6 rfl (by kernel_rfl) (by kernel_rfl) (by kernel_rfl) (fun _ _ _ h => h) S206 (wants0 rfl) (d := 76) (v := (.int .i64 (x81.replica))) rfl (fun _ H' => (e_load1 rfl (by kernel_rfl) (H'.cell 4 rfl (by kernel_rfl)))) ?_
              refine h_val 7 rfl (by kernel_rfl) (by kernel_rfl) (by kernel_rfl) (fun _ _ _ h => h) S206 (wants0 rfl) (d := 77) (v := (.pointer (some ⟨b87, 5, none⟩))) rfl (fun _ H' => (by kernel_rfl)) ?_
              refine h_val 8 rfl (by kernel_rfl) (by kernel_rfl) (by kernel_rfl) (fun _ _ _ h => h) S206 (wants0 rfl) (d := 78) (v := (.agg ⟨(hc x81.h)⟩)) rfl (fun _ H' => (e_loadN (vs := (hc x81.h)) rfl (by kernel_rfl) (by kernel_rfl) (by exact Nat.le_of_ble_eq_true (by kernel_rfl)) (H'.at 4 rfl) (by kernel_rfl))) ?_
              refine h_val 10 rfl (by kernel_rfl) (by kernel_rfl) (by kernel_rfl) (fun _ _ _ h => h) S206 (wants0 rfl) (d := 80) (v := (.pointer (some ⟨k37, 0, none⟩))) rfl (fun _ H' => (by kernel_rfl)) ?_
              refine h_val 11 rfl (by kernel_rfl) (by kernel_rfl) (by kernel_rfl) (fun _ _ _ h => h) S206 (wants0 rfl) (d := 81) (v := (.pointer (some ⟨b87, 1, none⟩))) rfl (fun _ H' => (by kernel_rfl)) ?_
              refine h_val 12 rfl (by kernel_rfl) (by kernel_rfl) (by kernel_rfl) (fun _ _ _ h => h) S206 (wants0 rfl) (d := 82) (v := (.int .i64 (x81.kind))) rfl (fun _ H' => (e_load1 rfl (by kernel_rfl) (H'.cell 4 rfl (by kernel_rfl)))) ?_
              refine h_val 13 rfl (by kernel_rfl) (by kernel_rfl) (by kernel_rfl) (fun _ _ _ h => h) S206 (wants0 rfl) (d := 83) (v := (.pointer (some ⟨b87, 2, none⟩))) rfl (fun _ H' => (by kernel_rfl)) ?_
              refine h_val 14 rfl (by kernel_rfl) (by kernel_rfl) (by kernel_rfl) (fun _ _ _ h => h) S206 (wants0 rfl) (d := 84) (v := (.int .i64 (x81.round))) rfl (fun _ H' => (e_load1 rfl (by kernel_rfl) (H'.cell 4 rfl (by kernel_rfl)))) ?_
              refine h_val 15 rfl (by kernel_rfl) (by kernel_rfl) (by kernel_rfl) (fun _ _ _ h => h) S206 (wants0 rfl) (d := 85) (v := (.pointer (some ⟨b87, 4, none⟩))) rfl (fun _ H' => (by kernel_rfl)) ?_
              refine h_val 16 rfl (by kernel_rfl) (by kernel_rfl) (by kernel_rfl) (fun _ _ _ h => h) S206 (wants0 rfl) (d := 86) (v := (.int .i64 (x81.replica))) rfl (fun _ H' => (e_load1 rfl (by kernel_rfl) (H'.cell 4 rfl (by kernel_rfl)))) ?_
              refine h_val 17 rfl (by kernel_rfl) (by kernel_rfl) (by kernel_rfl) (fun _ _ _ h => h) S206 (wants0 rfl) (d := 87) (v := (.pointer (some ⟨b87, 5, none⟩))) rfl (fun _ H' => (by kernel_rfl)) ?_
              refine h_val 18 rfl (by kernel_rfl) (by kernel_rfl) (by kernel_rfl) (fun _ _ _ h => h) S206 (wants0 rfl) (d := 88) (v := (.agg ⟨(hc x81.h)⟩)) rfl (fun _ H' => (e_loadN (vs := (hc x81.h)) rfl (by kernel_rfl) (by kernel_rfl) (by exact Nat.le_of_ble_eq_true (by kernel_rfl)) (H'.at 4 rfl) (by kernel_rfl))) ?_
              refine h_do 9 rfl (by kernel_rfl) (wants0 rfl) (fun K207 hK207 => ?_)
              refine d_call (d := 79) rfl (by kernel_rfl) (coreVote_any w204 k23 t24 hb25 cb26 ab27 lb28 pb29 (dbD (3 * F + 1) ls (startD D0).1 k) (ok_of (by kernel_rfl) (H205.fin [2, 3, 4] (by decide) rfl)) (dbCI C0.start k) x81.kind x81.round x81.replica x81.h) ?_
              rintro _ w209 ⟨v208, rfl, S210⟩
              rw [hst] at S210
              replace S210 := Sat.cast (G' := [cellC k23 92 (([(.int .i64 (D2.f)), (.int .i64 (D2.c)), (.int .i64 (D2.epoch)), (.int .i64 (D2.replica)), (.int .i64 (D2.s.round)), (.int .i64 (D2.s.step)), (.int .i64 (D2.s.lr)), (.int .i64 (D2.s.vr))] : List Value) ++ hc D2.s.locked ++ hc D2.s.valid ++ ([(.bool (D2.s.decided))] : List Value) ++ hc D2.s.decision ++ ([(.pointer (some ⟨t24, 0, none⟩)), (.map (some pb29)), (.bool (D2.wv)), (.bool (D2.sp)), (.bool (D2.sc))] : List Value)), talC t24 hb25 cb26 ab27 lb28 D2.f D2.c D2.L, mapC pb29 (Value.int .i64) propV D2.P, rowC 45 35 v208 A2.length (A2.flatMap encA), restC w204 (coreC k23 t24 hb25 cb26 ab27 lb28 pb29 (dbD (3 * F + 1) ls (startD D0).1 k)).fp]) S210 (by kernel_rfl)
              have H212 : Sat w [restC w (fun _ => False), cellC b6 25 ([(.int .i64 (F)), (.int .i64 (1))] : List Value), cellC k23 92 (([(.int .i64 (D2.f)), (.int .i64 (D2.c)), (.int .i64 (D2.epoch)), (.int .i64 (D2.replica)), (.int .i64 (D2.s.round)), (.int .i64 (D2.s.step)), (.int .i64 (D2.s.lr)), (.int .i64 (D2.s.vr))] : List Value) ++ hc D2.s.locked ++ hc D2.s.valid ++ ([(.bool (D2.s.decided))] : List Value) ++ hc D2.s.decision ++ ([(.pointer (some ⟨t24, 0, none⟩)), (.map (some pb29)), (.bool (D2.wv)), (.bool (D2.sp)), (.bool (D2.sc))] : List Value)), talC t24 hb25 cb26 ab27 lb28 D2.f D2.c D2.L, mapC pb29 (Value.int .i64) propV D2.P, cellC k37 92 (([(.int .i64 ((dbD (3 * F + 1) ls (startD D0).1 k).f)), (.int .i64 ((dbD (3 * F + 1) ls (startD D0).1 k).c)), (.int .i64 ((dbD (3 * F + 1) ls (startD D0).1 k).epoch)), (.int .i64 ((dbD (3 * F + 1) ls (startD D0).1 k).replica)), (.int .i64 ((dbD (3 * F + 1) ls (startD D0).1 k).s.round)), (.int .i64 ((dbD (3 * F + 1) ls (startD D0).1 k).s.step)), (.int .i64 ((dbD (3 * F + 1) ls (startD D0).1 k).s.lr)), (.int .i64 ((dbD (3 * F + 1) ls (startD D0).1 k).s.vr))] : List Value) ++ hc (dbD (3 * F + 1) ls (startD D0).1 k).s.locked ++ hc (dbD (3 * F + 1) ls (startD D0).1 k).s.valid ++ ([(.bool ((dbD (3 * F + 1) ls (startD D0).1 k).s.decided))] : List Value) ++ hc (dbD (3 * F + 1) ls (startD D0).1 k).s.decision ++ ([(.pointer (some ⟨t38, 0, none⟩)), (.map (some pb43)), (.bool ((dbD (3 * F + 1) ls (startD D0).1 k).wv)), (.bool ((dbD (3 * F + 1) ls (startD D0).1 k).sp)), (.bool ((dbD (3 * F + 1) ls (startD D0).1 k).sc))] : List Value)), talC t38 hb39 cb40 ab41 lb42 (dbD (3 * F + 1) ls (startD D0).1 k).f (dbD (3 * F + 1) ls (startD D0).1 k).c (dbD (3 * F + 1) ls (startD D0).1 k).L, mapC pb43 (Value.int .i64) propV (dbD (3 * F + 1) ls (startD D0).1 k).P, rowC 45 35 (.slice a51 (((startD D0).2).length) c52) (((startD D0).2).length) (((startD D0).2).flatMap encA), rowC 45 35 (.slice a59 (((startD D0).2).length) c60) (((startD D0).2).length) (((startD D0).2).flatMap encA), cellC b87 57 (([(.int .i64 (x81.doo)), (.int .i64 (x81.kind)), (.int .i64 (x81.round)), (.int .i64 (x81.valid)), (.int .i64 (x81.replica))] : List Value) ++ hc x81.h ++ ([(.bool (x81.ok)), (.bool (x81.raw))] : List Value)), rowC 45 35 v208 A2.length (A2.flatMap encA)] w209 := (Sat.turnL (L' := [cellC k23 92 (([(.int .i64 (D2.f)), (.int .i64 (D2.c)), (.int .i64 (D2.epoch)), (.int .i64 (D2.replica)), (.int .i64 (D2.s.round)), (.int .i64 (D2.s.step)), (.int .i64 (D2.s.lr)), (.int .i64 (D2.s.vr))] : List Value) ++ hc D2.s.locked ++ hc D2.s.valid ++ ([(.bool (D2.s.decided))] : List Value) ++ hc D2.s.decision ++ ([(.pointer (some ⟨t24, 0, none⟩)), (.map (some pb29)), (.bool (D2.wv)), (.bool (D2.sp)), (.bool (D2.sc))] : List Value)), talC t24 hb25 cb26 ab27 lb28 D2.f D2.c D2.L, mapC pb29 (Value.int .i64) propV D2.P, rowC 45 35 v208 A2.length (A2.flatMap encA)]) (R := [restC w (fun _ => False), cellC b6 25 ([(.int .i64 (F)), (.int .i64 (1))] : List Value), cellC k37 92 (([(.int .i64 ((dbD (3 * F + 1) ls (startD D0).1 k).f)), (.int .i64 ((dbD (3 * F + 1) ls (startD D0).1 k).c)), (.int .i64 ((dbD (3 * F + 1) ls (startD D0).1 k).epoch)), (.int .i64 ((dbD (3 * F + 1) ls (startD D0).1 k).replica)), (.int .i64 ((dbD (3 * F + 1) ls (startD D0).1 k).s.round)), (.int .i64 ((dbD (3 * F + 1) ls (startD D0).1 k).s.step)), (.int .i64 ((dbD (3 * F + 1) ls (startD D0).1 k).s.lr)), (.int .i64 ((dbD (3 * F + 1) ls (startD D0).1 k).s.vr))] : List Value) ++ hc (dbD (3 * F + 1) ls (startD D0).1 k).s.locked ++ hc (dbD (3 * F + 1) ls (startD D0).1 k).s.valid ++ ([(.bool ((dbD (3 * F + 1) ls (startD D0).1 k).s.decided))] : List Value) ++ hc (dbD (3 * F + 1) ls (startD D0).1 k).s.decision ++ ([(.pointer (some ⟨t38, 0, none⟩)), (.map (some pb43)), (.bool ((dbD (3 * F + 1) ls (startD D0).1 k).wv)), (.bool ((dbD (3 * F + 1) ls (startD D0).1 k).sp)), (.bool ((dbD (3 * F + 1) ls (startD D0).1 k).sc))] : List Value)), talC t38 hb39 cb40 ab41 lb42 (dbD (3 * F + 1) ls (startD D0).1 k).f (dbD (3 * F + 1) ls (startD D0).1 k).c (dbD (3 * F + 1) ls (startD D0).1 k).L, mapC pb43 (Value.int .i64) propV (dbD (3 * F + 1) ls (startD D0).1 k).P, rowC 45 35 (.slice a51 (((startD D0).2).length) c52) (((startD D0).2).length) (((startD D0).2).flatMap encA), rowC 45 35 (.slice a59 (((startD D0).2).length) c60) (((startD D0).2).length) (((startD D0).2).flatMap encA), cellC b87 57 (([(.int .i64 (x81.doo)), (.int .i64 (x81.kind)), (.int .i64 (x81.round)), (.int .i64 (x81.valid)), (.int .i64 (x81.replica))] : List Value) ++ hc x81.h ++ ([(.bool (x81.ok)), (.bool (x81.raw))] : List Value))]) H205 [2, 3, 4] [0, 1, 5, 6, 7, 8, 9, 10] (by decide) (by kernel_rfl) rfl S210).pick [4, 5, 0, 1, 2, 6, 7, 8, 9, 10, 11, 3] (by decide)
              obtain ⟨a213, c214, rfl⟩ := ownsRow_shape (H212.at 11 rfl)
              refine ⟨_, rfl, ?_⟩
              have S215 := H212.pick [0, 1, 8, 9, 10] (by decide)
              refine hK207 _ _ S215 ?_
              clear hK207 K207
              refine h_do 19 rfl (by kernel_rfl) (wants0 rfl) (fun K216 hK216 => ?_)
              refine d_call (d := 89) rfl (by kernel_rfl) (coreVote_any w209 k37 t38 hb39 cb40 ab41 lb42 pb43 (dbD (3 * F + 1) ls (startD D0).1 k) (ok_of (by kernel_rfl) (H212.fin [5, 6, 7] (by decide) rfl)) (dbCI C0.start k) x81.kind x81.round x81.replica x81.h) ?_
              rintro _ w218 ⟨v217, rfl, S219⟩
              rw [hst] at S219
              replace S219 := Sat.cast (G' := [cellC k37 92 (([(.int .i64 (D2.f)), (.int .i64 (D2.c)), (.int .i64 (D2.epoch)), (.int .i64 (D2.replica)), (.int .i64 (D2.s.round)), (.int .i64 (D2.s.step)), (.int .i64 (D2.s.lr)), (.int .i64 (D2.s.vr))] : List Value) ++ hc D2.s.locked ++ hc D2.s.valid ++ ([(.bool (D2.s.decided))] : List Value) ++ hc D2.s.decision ++ ([(.pointer (some ⟨t38, 0, none⟩)), (.map (some pb43)), (.bool (D2.wv)), (.bool (D2.sp)), (.bool (D2.sc))] : List Value)), talC t38 hb39 cb40 ab41 lb42 D2.f D2.c D2.L, mapC pb43 (Value.int .i64) propV D2.P, rowC 45 35 v217 A2.length (A2.flatMap encA), restC w209 (coreC k37 t38 hb39 cb40 ab41 lb42 pb43 (dbD (3 * F + 1) ls (startD D0).1 k)).fp]) S219 (by kernel_rfl)
              have H221 : Sat w [restC w (fun _ => False), cellC b6 25 ([(.int .i64 (F)), (.int .i64 (1))] : List Value), cellC k23 92 (([(.int .i64 (D2.f)), (.int .i64 (D2.c)), (.int .i64 (D2.epoch)), (.int .i64 (D2.replica)), (.int .i64 (D2.s.round)), (.int .i64 (D2.s.step)), (.int .i64 (D2.s.lr)), (.int .i64 (D2.s.vr))] : List Value) ++ hc D2.s.locked ++ hc D2.s.valid ++ ([(.bool (D2.s.decided))] : List Value) ++ hc D2.s.decision ++ ([(.pointer (some ⟨t24, 0, none⟩)), (.map (some pb29)), (.bool (D2.wv)), (.bool (D2.sp)), (.bool (D2.sc))] : List Value)), talC t24 hb25 cb26 ab27 lb28 D2.f D2.c D2.L, mapC pb29 (Value.int .i64) propV D2.P, cellC k37 92 (([(.int .i64 (D2.f)), (.int .i64 (D2.c)), (.int .i64 (D2.epoch)), (.int .i64 (D2.replica)), (.int .i64 (D2.s.round)), (.int .i64 (D2.s.step)), (.int .i64 (D2.s.lr)), (.int .i64 (D2.s.vr))] : List Value) ++ hc D2.s.locked ++ hc D2.s.valid ++ ([(.bool (D2.s.decided))] : List Value) ++ hc D2.s.decision ++ ([(.pointer (some ⟨t38, 0, none⟩)), (.map (some pb43)), (.bool (D2.wv)), (.bool (D2.sp)), (.bool (D2.sc))] : List Value)), talC t38 hb39 cb40 ab41 lb42 D2.f D2.c D2.L, mapC pb43 (Value.int .i64) propV D2.P, rowC 45 35 (.slice a51 (((startD D0).2).length) c52) (((startD D0).2).length) (((startD D0).2).flatMap encA), rowC 45 35 (.slice a59 (((startD D0).2).length) c60) (((startD D0).2).length) (((startD D0).2).flatMap encA), cellC b87 57 (([(.int .i64 (x81.doo)), (.int .i64 (x81.kind)), (.int .i64 (x81.round)), (.int .i64 (x81.valid)), (.int .i64 (x81.replica))] : List Value) ++ hc x81.h ++ ([(.bool (x81.ok)), (.bool (x81.raw))] : List Value)), rowC 45 35 (.slice a213 A2.length c214) A2.length (A2.flatMap encA), rowC 45 35 v217 A2.length (A2.flatMap encA)] w218 := (Sat.turnL (L' := [cellC k37 92 (([(.int .i64 (D2.f)), (.int .i64 (D2.c)), (.int .i64 (D2.epoch)), (.int .i64 (D2.replica)), (.int .i64 (D2.s.round)), (.int .i64 (D2.s.step)), (.int .i64 (D2.s.lr)), (.int .i64 (D2.s.vr))] : List Value) ++ hc D2.s.locked ++ hc D2.s.valid ++ ([(.bool (D2.s.decided))] : List Value) ++ hc D2.s.decision ++ ([(.pointer (some ⟨t38, 0, none⟩)), (.map (some pb43)), (.bool (D2.wv)), (.bool (D2.sp)), (.bool (D2.sc))] : List Value)), talC t38 hb39 cb40 ab41 lb42 D2.f D2.c D2.L, mapC pb43 (Value.int .i64) propV D2.P, rowC 45 35 v217 A2.length (A2.flatMap encA)]) (R := [restC w (fun _ => False), cellC b6 25 ([(.int .i64 (F)), (.int .i64 (1))] : List Value), cellC k23 92 (([(.int .i64 (D2.f)), (.int .i64 (D2.c)), (.int .i64 (D2.epoch)), (.int .i64 (D2.replica)), (.int .i64 (D2.s.round)), (.int .i64 (D2.s.step)), (.int .i64 (D2.s.lr)), (.int .i64 (D2.s.vr))] : List Value) ++ hc D2.s.locked ++ hc D2.s.valid ++ ([(.bool (D2.s.decided))] : List Value) ++ hc D2.s.decision ++ ([(.pointer (some ⟨t24, 0, none⟩)), (.map (some pb29)), (.bool (D2.wv)), (.bool (D2.sp)), (.bool (D2.sc))] : List Value)), talC t24 hb25 cb26 ab27 lb28 D2.f D2.c D2.L, mapC pb29 (Value.int .i64) propV D2.P, rowC 45 35 (.slice a51 (((startD D0).2).length) c52) (((startD D0).2).length) (((startD D0).2).flatMap encA), rowC 45 35 (.slice a59 (((startD D0).2).length) c60) (((startD D0).2).length) (((startD D0).2).flatMap encA), cellC b87 57 (([(.int .i64 (x81.doo)), (.int .i64 (x81.kind)), (.int .i64 (x81.round)), (.int .i64 (x81.valid)), (.int .i64 (x81.replica))] : List Value) ++ hc x81.h ++ ([(.bool (x81.ok)), (.bool (x81.raw))] : List Value)), rowC 45 35 (.slice a213 A2.length c214) A2.length (A2.flatMap encA)]) H212 [5, 6, 7] [0, 1, 2, 3, 4, 8, 9, 10, 11] (by decide) (by kernel_rfl) rfl S219).pick [4, 5, 6, 7, 8, 0, 1, 2, 9, 10, 11, 12, 3] (by decide)
              obtain ⟨a222, c223, rfl⟩ := ownsRow_shape (H221.at 12 rfl)
              refine ⟨_, rfl, ?_⟩
              have S224 := H221.pick [0, 1, 8, 9, 10] (by decide)
              refine hK216 _ _ S224 ?_
              clear hK216 K216
              refine h_val 20 rfl (by kernel_rfl) (by kernel_rfl) (by kernel_rfl) (fun _ _ _ h => h) S224 (wants0 rfl) (d := 15) (v := (.slice a213 A2.length c214)) rfl (fun _ H' => (by kernel_rfl)) ?_
              refine h_val 21 rfl (by kernel_rfl) (by kernel_rfl) (by kernel_rfl) (fun _ _ _ h => h) S224 (wants0 rfl) (d := 16) (v := (.slice a222 A2.length c223)) rfl (fun _ H' => (by kernel_rfl)) ?_
              refine h_fin (by kernel_rfl) ?_
              refine then_normal ?_
              refine w_seq ?_
              refine w_lit ?_
              refine wl_pure (wants0 rfl) (d := 90) (v := (.slice a213 A2.length c214)) rfl (by kernel_rfl) ?_
              refine wl_pure (wants0 rfl) (d := 91) (v := (.int .i64 ((A2.length : Int)))) rfl (by kernel_rfl) ?_
              refine wl_pure (wants0 rfl) (d := 92) (v := (.slice a222 A2.length c223)) rfl (by kernel_rfl) ?_
              refine wl_pure (wants0 rfl) (d := 93) (v := (.int .i64 ((A2.length : Int)))) rfl (by kernel_rfl) ?_
              refine wl_pure (wants0 rfl) (d := 94) (v := (.bool (!(decide ((A2.length : Int) = (A2.length : Int)))))) rfl (by kernel_rfl) ?_
              refine wl_pure (wants0 rfl) (d := 95) (v := (.bool (!(decide ((A2.length : Int) = (A2.length : Int)))))) rfl (by kernel_rfl) ?_
              have b225 : (!(decide ((A2.length : Int) = (A2.length : Int)))) = false := by simp
              refine wl_know 95 (.bool false) (congrArg Value.bool b225) ?_
              refine wl_pure (wantsY 5 95 false rfl (by kernel_rfl) rfl (by kernel_rfl)) (d := 96) (v := (.pointer (some ⟨k37, 0, none⟩))) rfl (by kernel_rfl) ?_
              refine wl_pure (wantsY 5 95 false rfl (by kernel_rfl) rfl (by kernel_rfl)) (d := 97) (v := (.pointer (some ⟨b87, 1, none⟩))) rfl (by kernel_rfl) ?_
              refine wl_pure (wantsY 5 95 false rfl (by kernel_rfl) rfl (by kernel_rfl)) (d := 98) (v := (.int .i64 (x81.kind))) rfl (e_load1 rfl (by kernel_rfl) (H221.cell 10 rfl (by kernel_rfl))) ?_
              refine wl_pure (wantsY 5 95 false rfl (by kernel_rfl) rfl (by kernel_rfl)) (d := 99) (v := (.pointer (some ⟨b87, 2, none⟩))) rfl (by kernel_rfl) ?_
              refine wl_pure (wantsY 5 95 false rfl (by kernel_rfl) rfl (by kernel_rfl)) (d := 100) (v := (.int .i64 (x81.round))) rfl (e_load1 rfl (by kernel_rfl) (H221.cell 10 rfl (by kernel_rfl))) ?_
              refine wl_pure (wantsY 5 95 false rfl (by kernel_rfl) rfl (by kernel_rfl)) (d := 101) (v := (.pointer (some ⟨b87, 4, none⟩))) rfl (by kernel_rfl) ?_
              refine wl_pure (wantsY 5 95 false rfl (by kernel_rfl) rfl (by kernel_rfl)) (d := 102) (v := (.int .i64 (x81.replica))) rfl (e_load1 rfl (by kernel_rfl) (H221.cell 10 rfl (by kernel_rfl))) ?_
              refine wl_pure (wantsY 5 95 false rfl (by kernel_rfl) rfl (by kernel_rfl)) (d := 103) (v := (.agg ⟨(hc (hash1 (9)))⟩)) rfl (by kernel_rfl) ?_
              refine wl_do (wantsY 5 95 false rfl (by kernel_rfl) rfl (by kernel_rfl)) (fun K226 hK226 => ?_)
              refine d_call (d := 104) rfl (by kernel_rfl) (coreVote_any w218 k37 t38 hb39 cb40 ab41 lb42 pb43 D2 (ok_of (by kernel_rfl) (H221.fin [5, 6, 7] (by decide) rfl)) hC2 x81.kind x81.round x81.replica (hash1 (9))) ?_
              rintro _ w228 ⟨v227, rfl, S229⟩
              rw [vote_twice (A := A2) hC hst _] at S229
              replace S229 := Sat.cast (G' := [cellC k37 92 (([(.int .i64 (D2.f)), (.int .i64 (D2.c)), (.int .i64 (D2.epoch)), (.int .i64 (D2.replica)), (.int .i64 (D2.s.round)), (.int .i64 (D2.s.step)), (.int .i64 (D2.s.lr)), (.int .i64 (D2.s.vr))] : List Value) ++ hc D2.s.locked ++ hc D2.s.valid ++ ([(.bool (D2.s.decided))] : List Value) ++ hc D2.s.decision ++ ([(.pointer (some ⟨t38, 0, none⟩)), (.map (some pb43)), (.bool (D2.wv)), (.bool (D2.sp)), (.bool (D2.sc))] : List Value)), talC t38 hb39 cb40 ab41 lb42 D2.f D2.c D2.L, mapC pb43 (Value.int .i64) propV D2.P, rowC 45 35 v227 0 ([]), restC w218 (coreC k37 t38 hb39 cb40 ab41 lb42 pb43 D2).fp]) S229 (by kernel_rfl)
              have H231 : Sat w [restC w (fun _ => False), cellC b6 25 ([(.int .i64 (F)), (.int .i64 (1))] : List Value), cellC k23 92 (([(.int .i64 (D2.f)), (.int .i64 (D2.c)), (.int .i64 (D2.epoch)), (.int .i64 (D2.replica)), (.int .i64 (D2.s.round)), (.int .i64 (D2.s.step)), (.int .i64 (D2.s.lr)), (.int .i64 (D2.s.vr))] : List Value) ++ hc D2.s.locked ++ hc D2.s.valid ++ ([(.bool (D2.s.decided))] : List Value) ++ hc D2.s.decision ++ ([(.pointer (some ⟨t24, 0, none⟩)), (.map (some pb29)), (.bool (D2.wv)), (.bool (D2.sp)), (.bool (D2.sc))] : List Value)), talC t24 hb25 cb26 ab27 lb28 D2.f D2.c D2.L, mapC pb29 (Value.int .i64) propV D2.P, cellC k37 92 (([(.int .i64 (D2.f)), (.int .i64 (D2.c)), (.int .i64 (D2.epoch)), (.int .i64 (D2.replica)), (.int .i64 (D2.s.round)), (.int .i64 (D2.s.step)), (.int .i64 (D2.s.lr)), (.int .i64 (D2.s.vr))] : List Value) ++ hc D2.s.locked ++ hc D2.s.valid ++ ([(.bool (D2.s.decided))] : List Value) ++ hc D2.s.decision ++ ([(.pointer (some ⟨t38, 0, none⟩)), (.map (some pb43)), (.bool (D2.wv)), (.bool (D2.sp)), (.bool (D2.sc))] : List Value)), talC t38 hb39 cb40 ab41 lb42 D2.f D2.c D2.L, mapC pb43 (Value.int .i64) propV D2.P, rowC 45 35 (.slice a51 (((startD D0).2).length) c52) (((startD D0).2).length) (((startD D0).2).flatMap encA), rowC 45 35 (.slice a59 (((startD D0).2).length) c60) (((startD D0).2).length) (((startD D0).2).flatMap encA), cellC b87 57 (([(.int .i64 (x81.doo)), (.int .i64 (x81.kind)), (.int .i64 (x81.round)), (.int .i64 (x81.valid)), (.int .i64 (x81.replica))] : List Value) ++ hc x81.h ++ ([(.bool (x81.ok)), (.bool (x81.raw))] : List Value)), rowC 45 35 (.slice a213 A2.length c214) A2.length (A2.flatMap encA), rowC 45 35 (.slice a222 A2.length c223) A2.length (A2.flatMap encA), rowC 45 35 v227 0 ([])] w228 := (Sat.turnL (L' := [cellC k37 92 (([(.int .i64 (D2.f)), (.int .i64 (D2.c)), (.int .i64 (D2.epoch)), (.int .i64 (D2.replica)), (.int .i64 (D2.s.round)), (.int .i64 (D2.s.step)), (.int .i64 (D2.s.lr)), (.int .i64 (D2.s.vr))] : List Value) ++ hc D2.s.locked ++ hc D2.s.valid ++ ([(.bool (D2.s.decided))] : List Value) ++ hc D2.s.decision ++ ([(.pointer (some ⟨t38, 0, none⟩)), (.map (some pb43)), (.bool (D2.wv)), (.bool (D2.sp)), (.bool (D2.sc))] : List Value)), talC t38 hb39 cb40 ab41 lb42 D2.f D2.c D2.L, mapC pb43 (Value.int .i64) propV D2.P, rowC 45 35 v227 0 ([])]) (R := [restC w (fun _ => False), cellC b6 25 ([(.int .i64 (F)), (.int .i64 (1))] : List Value), cellC k23 92 (([(.int .i64 (D2.f)), (.int .i64 (D2.c)), (.int .i64 (D2.epoch)), (.int .i64 (D2.replica)), (.int .i64 (D2.s.round)), (.int .i64 (D2.s.step)), (.int .i64 (D2.s.lr)), (.int .i64 (D2.s.vr))] : List Value) ++ hc D2.s.locked ++ hc D2.s.valid ++ ([(.bool (D2.s.decided))] : List Value) ++ hc D2.s.decision ++ ([(.pointer (some ⟨t24, 0, none⟩)), (.map (some pb29)), (.bool (D2.wv)), (.bool (D2.sp)), (.bool (D2.sc))] : List Value)), talC t24 hb25 cb26 ab27 lb28 D2.f D2.c D2.L, mapC pb29 (Value.int .i64) propV D2.P, rowC 45 35 (.slice a51 (((startD D0).2).length) c52) (((startD D0).2).length) (((startD D0).2).flatMap encA), rowC 45 35 (.slice a59 (((startD D0).2).length) c60) (((startD D0).2).length) (((startD D0).2).flatMap encA), cellC b87 57 (([(.int .i64 (x81.doo)), (.int .i64 (x81.kind)), (.int .i64 (x81.round)), (.int .i64 (x81.valid)), (.int .i64 (x81.replica))] : List Value) ++ hc x81.h ++ ([(.bool (x81.ok)), (.bool (x81.raw))] : List Value)), rowC 45 35 (.slice a213 A2.length c214) A2.length (A2.flatMap encA), rowC 45 35 (.slice a222 A2.length c223) A2.length (A2.flatMap encA)]) H221 [5, 6, 7] [0, 1, 2, 3, 4, 8, 9, 10, 11, 12] (by decide) (by kernel_rfl) rfl S229).pick [4, 5, 6, 7, 8, 0, 1, 2, 9, 10, 11, 12, 13, 3] (by decide)
              obtain ⟨a232, c233, rfl⟩ := ownsRow_shape (H231.at 13 rfl)
              refine ⟨_, rfl, ?_⟩
              refine hK226 _ _ ?_
              clear hK226 K226
              refine wl_pure (wantsY 5 95 false rfl (by kernel_rfl) rfl (by kernel_rfl)) (d := 105) (v := (.int .i64 (0))) rfl (by kernel_rfl) ?_
              refine wl_pure (wantsY 5 95 false rfl (by kernel_rfl) rfl (by kernel_rfl)) (d := 106) (v := (.bool false)) rfl (by kernel_rfl) ?_
              refine wl_pure (wants0 rfl) (d := 107) (v := (.bool false)) rfl (by kernel_rfl) ?_
              refine w_nil ?_
              refine then_normal ?_
              refine wp_iff rfl ?_
              refine w_skip ?_
              refine blk_normal ?_
              refine then_normal ?_
              refine w_seq ?_
              refine w_lit ?_
              refine wl_pure (wants0 rfl) (d := 154) (v := (.pointer (some ⟨k23, 0, none⟩))) rfl (by kernel_rfl) ?_
              refine wl_do (wants0 rfl) (fun K234 hK234 => ?_)
              refine d_call (d := 155) rfl (by kernel_rfl) (coreState_any w228 k23 t24 hb25 cb26 ab27 lb28 pb29 D2 (ok_of (by kernel_rfl) (H231.fin [2, 3, 4] (by decide) rfl)) hC2) ?_
              rintro _ w235 ⟨rfl, u237⟩
              have H236 := H231.keepU u237
              refine ⟨_, rfl, ?_⟩
              refine hK234 _ _ ?_
              clear hK234 K234
              refine wl_pure (wants0 rfl) (d := 156) (v := (.pointer (some ⟨k37, 0, none⟩))) rfl (by kernel_rfl) ?_
              refine wl_do (wants0 rfl) (fun K238 hK238 => ?_)
              refine d_call (d := 157) rfl (by kernel_rfl) (coreState_any w235 k37 t38 hb39 cb40 ab41 lb42 pb43 D2 (ok_of (by kernel_rfl) (H236.fin [5, 6, 7] (by decide) rfl)) hC2) ?_
              rintro _ w239 ⟨rfl, u241⟩
              have H240 := H236.keepU u241
              refine ⟨_, rfl, ?_⟩
              refine hK238 _ _ ?_
              clear hK238 K238
              refine wl_pure (wants0 rfl) (d := 158) (v := (.bool (!(decide (D2.s = D2.s))))) rfl (stateF.e_ne D2.s D2.s rfl rfl) ?_
              refine w_nil ?_
              refine then_normal ?_
              have b242 : (!(decide (D2.s = D2.s))) = false := by simp
              refine wp_know 158 (.bool false) (congrArg Value.bool b242) ?_
              have g243 := bnot_false b242
              have g244 := of_decide_eq_true g243
              refine wp_iff rfl ?_
              refine w_skip ?_
              refine blk_normal ?_
              refine then_normal ?_
              refine w_lit ?_
              refine wl_pure (wants0 rfl) (d := 59) (v := (.int .i64 ((k : Int)))) rfl (by kernel_rfl) ?_
              refine wl_pure (wants0 rfl) (d := 60) (v := (.int .i64 ((k : Int) + 1))) rfl (e_int (z := (k : Int) + 1) (by kernel_rfl) (IntWalk.i64_in _ (by omega))) ?_
              refine wl_pure (wants0 rfl) (d := 11) (v := (.int .i64 ((k : Int) + 1))) rfl (by kernel_rfl) ?_
              refine w_nil ?_
              have hD : (dbD (3 * F + 1) ls (startD D0).1 (k + 1)) = D2 := by simp only [dbD, hx82]; unfold dbS; rw [if_neg (fun q => q.elim (of_decide_eq_false b98) (of_decide_eq_false b145)), if_neg (fun q => q.elim (of_decide_eq_false b192) (of_decide_eq_false b198)), hst]
              have H245 : Sat w [restC w (fun _ => False), cellC b6 25 ([(.int .i64 (F)), (.int .i64 (1))] : List Value), cellC k23 92 (([(.int .i64 ((dbD (3 * F + 1) ls (startD D0).1 (k + 1)).f)), (.int .i64 ((dbD (3 * F + 1) ls (startD D0).1 (k + 1)).c)), (.int .i64 ((dbD (3 * F + 1) ls (startD D0).1 (k + 1)).epoch)), (.int .i64 ((dbD (3 * F + 1) ls (startD D0).1 (k + 1)).replica)), (.int .i64 ((dbD (3 * F + 1) ls (startD D0).1 (k + 1)).s.round)), (.int .i64 ((dbD (3 * F + 1) ls (startD D0).1 (k + 1)).s.step)), (.int .i64 ((dbD (3 * F + 1) ls (startD D0).1 (k + 1)).s.lr)), (.int .i64 ((dbD (3 * F + 1) ls (startD D0).1 (k + 1)).s.vr))] : List Value) ++ hc (dbD (3 * F + 1) ls (startD D0).1 (k + 1)).s.locked ++ hc (dbD (3 * F + 1) ls (startD D0).1 (k + 1)).s.valid ++ ([(.bool ((dbD (3 * F + 1) ls (startD D0).1 (k + 1)).s.decided))] : List Value) ++ hc (dbD (3 * F + 1) ls (startD D0).1 (k + 1)).s.decision ++ ([(.pointer (some ⟨t24, 0, none⟩)), (.map (some pb29)), (.bool ((dbD (3 * F + 1) ls (startD D0).1 (k + 1)).wv)), (.bool ((dbD (3 * F + 1) ls (startD D0).1 (k + 1)).sp)), (.bool ((dbD (3 * F + 1) ls (startD D0).1 (k + 1)).sc))] : List Value)), talC t24 hb25 cb26 ab27 lb28 (dbD (3 * F + 1) ls (startD D0).1 (k + 1)).f (dbD (3 * F + 1) ls (startD D0).1 (k + 1)).c (dbD (3 * F + 1) ls (startD D0).1 (k + 1)).L, mapC pb29 (Value.int .i64) propV (dbD (3 * F + 1) ls (startD D0).1 (k + 1)).P, cellC k37 92 (([(.int .i64 ((dbD (3 * F + 1) ls (startD D0).1 (k + 1)).f)), (.int .i64 ((dbD (3 * F + 1) ls (startD D0).1 (k + 1)).c)), (.int .i64 ((dbD (3 * F + 1) ls (startD D0).1 (k + 1)).epoch)), (.int .i64 ((dbD (3 * F + 1) ls (startD D0).1 (k + 1)).replica)), (.int .i64 ((dbD (3 * F + 1) ls (startD D0).1 (k + 1)).s.round)), (.int .i64 ((dbD (3 * F + 1) ls (startD D0).1 (k + 1)).s.step)), (.int .i64 ((dbD (3 * F + 1) ls (startD D0).1 (k + 1)).s.lr)), (.int .i64 ((dbD (3 * F + 1) ls (startD D0).1 (k + 1)).s.vr))] : List Value) ++ hc (dbD (3 * F + 1) ls (startD D0).1 (k + 1)).s.locked ++ hc (dbD (3 * F + 1) ls (startD D0).1 (k + 1)).s.valid ++ ([(.bool ((dbD (3 * F + 1) ls (startD D0).1 (k + 1)).s.decided))] : List Value) ++ hc (dbD (3 * F + 1) ls (startD D0).1 (k + 1)).s.decision ++ ([(.pointer (some ⟨t38, 0, none⟩)), (.map (some pb43)), (.bool ((dbD (3 * F + 1) ls (startD D0).1 (k + 1)).wv)), (.bool ((dbD (3 * F + 1) ls (startD D0).1 (k + 1)).sp)), (.bool ((dbD (3 * F + 1) ls (startD D0).1 (k + 1)).sc))] : List Value)), talC t38 hb39 cb40 ab41 lb42 (dbD (3 * F + 1) ls (startD D0).1 (k + 1)).f (dbD (3 * F + 1) ls (startD D0).1 (k + 1)).c (dbD (3 * F + 1) ls (startD D0).1 (k + 1)).L, mapC pb43 (Value.int .i64) propV (dbD (3 * F + 1) ls (startD D0).1 (k + 1)).P, rowC 45 35 (.slice a51 (((startD D0).2).length) c52) (((startD D0).2).length) (((startD D0).2).flatMap encA), rowC 45 35 (.slice a59 (((startD D0).2).length) c60) (((startD D0).2).length) (((startD D0).2).flatMap encA)] w239 := (H240.pick [0, 1, 2, 3, 4, 5, 6, 7, 8, 9] (by decide)).cast (by rw [hD]; rfl)
              refine round_back ?_ _ ⟨(k + 1), (show ((.int .i64 ((k : Int) + 1)) : Value) = _ by first | rfl | go_num), (by omega), H245, rfl⟩ (by omega)
              exact (same_upd rfl (same_upd rfl (same_upd rfl (same_upd rfl (same_upd rfl (same_upd rfl (same_upd rfl (same_upd rfl (same_upd rfl (same_upd rfl (same_upd rfl (same_upd rfl (same_upd rfl (same_upd rfl (same_upd rfl (same_upd rfl (same_upd rfl (same_upd rfl (same_upd rfl (same_upd rfl (same_upd rfl (same_upd rfl (same_upd rfl (same_upd rfl (same_upd rfl (same_upd rfl (same_upd rfl (same_upd rfl (same_upd rfl (same_upd rfl (same_upd rfl (same_upd rfl (same_upd rfl (same_upd rfl (same_upd rfl (same_upd rfl (same_upd rfl (same_upd rfl (same_upd rfl (same_upd rfl (same_upd rfl (same_upd rfl (same_upd rfl (same_upd rfl (same_upd rfl (same_upd rfl (same_upd rfl (same_upd rfl (same_upd rfl (same_upd rfl (same_upd rfl (same_upd rfl (same_upd rfl (same_upd rfl (same_upd rfl (same_upd rfl (same_upd rfl (same_upd rfl (same_upd rfl (same_upd rfl (same_upd rfl (same_upd rfl (same_upd rfl (same_upd rfl (same_upd rfl (same_upd rfl (same_upd rfl (same_upd rfl (same_upd rfl (same_upd rfl (same_upd rfl (same_upd rfl (same_upd rfl (same_upd rfl (same_ovr2 rfl (same_upd rfl (same_ovr)))))))))))))))))))))))))))))))))))))))))))))))))))))))))))))))))))))))))))))
    · refine wp_know 58 (.bool false) (congrArg Value.bool b74) ?_
      refine wp_iff rfl ?_
      refine w_exit ?_
      refine then_exit ?_
      refine back_exit ?_
      refine blk_hit ?_
      refine then_normal ?_
      refine w_seq ?_
      refine w_lit ?_
      refine wl_do (wants0 rfl) (fun K246 hK246 => ?_)
      refine d_call (d := 159) rfl (by kernel_rfl) (wakes_any w71) ?_
      rintro _ w247 ⟨rfl, u249⟩
      have H248 := H72.keepU u249
      refine ⟨_, rfl, ?_⟩
      refine hK246 _ _ ?_
      clear hK246 K246
      refine wl_pure (wants0 rfl) (d := 4) (v := (.bool true)) rfl (by kernel_rfl) ?_
      refine w_nil ?_
      refine then_normal ?_
      refine w_ret ?_
      refine end1 rfl (res_tmp (v := (.bool true)) rfl) ?_
      exact ⟨rfl, H248.upd 0 rfl [] (fun _ h => h.elim)⟩

end Go.Proofs.Ythjmbhneifjeeaa
