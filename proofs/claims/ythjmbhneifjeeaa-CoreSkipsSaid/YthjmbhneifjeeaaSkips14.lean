/- WHAT IS PROVED: the walk of CoreSkips. Conditions: stated with each. -/
import Derived.Test.YthjmbhneifjeeaaWakes14
import Derived.Test.YthjmbhneifjeeaaSkips14M
import Derived.Test.YthjmbhneifjeeaaIns
namespace Go.Proofs.Ythjmbhneifjeeaa
open Go.RowKit

set_option maxRecDepth 100000 in
set_option maxHeartbeats 1000000 in
theorem skips14_walk (w : World) (f round kind F R K : Int) (va : Option Addr) (vc : Nat) (who : List Int) (hwho : IntsAt w (.slice va who.length vc) who) (hF : F = 1 + withinV f 3) (hR : R = 1 + withinV round 20) (hK : K = 1 + withinV kind 2) (hf : 1 ≤ F ∧ F ≤ 3) (D0 : CoreD) (hok : newOk F 1 0 (3 * F + 1 - 1) = true) (hD0 : newD F 1 0 (3 * F + 1 - 1) = D0) (C0 : CI D0) (hS : ∀ k : Nat, k < who.length → k < 20 → SkOk F R (skD F R K who (startD D0).1 (k + 1)) (skM F who (k + 1))) :
    Calls Try.prog 3 #[(.int .i64 (f)), (.int .i64 (round)), (.slice va who.length vc), (.int .i64 (kind))] w fun e w' => e = .returned (.bool true) ∧ Upd [] w w' := by
  have H := Sat.start0 w
  have hwk := within_lim kind 2 (by omega)
  have hwr := within_lim round 20 (by omega)
  refine calls_fr Try.func3 rfl 100 rfl (Nat.le_of_ble_eq_true rfl) ?_
  refine w_seq ?_
  refine w_lit ?_
  refine wl_pure (wants0 rfl) (d := 8) (v := (.bool false)) rfl (by kernel_rfl) ?_
  refine w_nil ?_
  refine then_normal ?_
  refine w_seq ?_
  refine w_lit ?_
  refine wl_pure (wants0 rfl) (d := 18) (v := (.int .i64 (f))) rfl (by kernel_rfl) ?_
  refine wl_do (wants0 rfl) (fun K1 hK1 => ?_)
  refine d_call (d := 19) rfl (by kernel_rfl) (within_any w f 3 (by omega)) ?_
  rintro _ w2 ⟨rfl, u4⟩
  have H3 := H.keepU u4
  refine ⟨_, rfl, ?_⟩
  refine hK1 _ _ ?_
  clear hK1 K1
  refine wl_pure (wants0 rfl) (d := 20) (v := (.int .i64 (F))) rfl (e_int (z := 1 + (withinV f 3)) (by kernel_rfl) ((by rw [IntWalk.i64_in _ (by omega)]; exact hF.symm))) ?_
  refine wl_pure (wants0 rfl) (d := 21) (v := (.agg ⟨([(.int .i64 (F)), (.int .i64 (1))] : List Value)⟩)) rfl (by kernel_rfl) ?_
  refine wl_do (wants0 rfl) (fun K5 hK5 => ?_)
  refine d_alloc (zs := ([(.int .i64 (0)), (.int .i64 (0))] : List Value)) (z := (.agg ⟨([(.int .i64 (0)), (.int .i64 (0))] : List Value)⟩)) rfl H3 (by kernel_rfl) (by kernel_rfl) ?_
  intro b6 w7 (H8 : Sat w [restC w (fun _ => False), cellC b6 25 ([(.int .i64 (0)), (.int .i64 (0))] : List Value)] w7)
  refine hK5 _ _ ?_
  clear hK5 K5
  refine wl_do (wants0 rfl) (fun K9 hK9 => ?_)
  refine d_storeX (vs := ([(.int .i64 (F)), (.int .i64 (1))] : List Value)) (cs' := ([(.int .i64 (F)), (.int .i64 (1))] : List Value)) rfl H8 1 rfl rfl rfl rfl (by kernel_rfl) (Nat.le_of_ble_eq_true (by kernel_rfl)) (Nat.le_of_ble_eq_true (by kernel_rfl)) (by kernel_rfl) (by kernel_rfl) ?_
  intro w10 (H11 : Sat w [restC w (fun _ => False), cellC b6 25 ([(.int .i64 (F)), (.int .i64 (1))] : List Value)] w10)
  refine hK9 _ _ ?_
  clear hK9 K9
  refine w_nil ?_
  refine then_normal ?_
  refine w_seq ?_
  refine w_lit ?_
  refine wl_pure (wants0 rfl) (d := 22) (v := (.agg ⟨([(.int .i64 (F)), (.int .i64 (1))] : List Value)⟩)) rfl (e_loadN (vs := ([(.int .i64 (F)), (.int .i64 (1))] : List Value)) rfl (by kernel_rfl) (by kernel_rfl) (by exact Nat.le_of_ble_eq_true (by kernel_rfl)) (H11.at 1 rfl) (by kernel_rfl)) ?_
  refine wl_do (wants0 rfl) (fun K13 hK13 => ?_)
  refine d_call (d := 23) rfl (by kernel_rfl) (refN_any w10 F 1 (by omega)) ?_
  rintro _ w14 ⟨rfl, u16⟩
  have H15 := H11.keepU u16
  refine ⟨_, rfl, ?_⟩
  refine hK13 _ _ ?_
  clear hK13 K13
  refine wl_pure (wants0 rfl) (d := 10) (v := (.int .i64 (3 * F + 1))) rfl (by kernel_rfl) ?_
  refine w_nil ?_
  refine then_normal ?_
  refine w_seq ?_
  refine w_lit ?_
  refine wl_pure (wants0 rfl) (d := 25) (v := (.agg ⟨([(.int .i64 (F)), (.int .i64 (1))] : List Value)⟩)) rfl (e_loadN (vs := ([(.int .i64 (F)), (.int .i64 (1))] : List Value)) rfl (by kernel_rfl) (by kernel_rfl) (by exact Nat.le_of_ble_eq_true (by kernel_rfl)) (H15.at 1 rfl) (by kernel_rfl)) ?_
  refine wl_pure (wants0 rfl) (d := 26) (v := (.int .i64 (3 * F + 1))) rfl (by kernel_rfl) ?_
  refine wl_pure (wants0 rfl) (d := 27) (v := (.int .i64 ((3 * F + 1) - 1))) rfl (e_int (z := (3 * F + 1) - 1) (by kernel_rfl) (IntWalk.i64_in _ (by omega))) ?_
  refine wl_do (wants0 rfl) (fun K17 hK17 => ?_)
  refine d_call (d := 28) rfl (by kernel_rfl) (coreNew_any w14 F 1 0 ((3 * F + 1) - 1) (by omega)) ?_
  rintro _ w18 (⟨_, k23, t24, hb25, cb26, ab27, lb28, pb29, rfl, k21, u20, q22⟩ | ⟨hno, _⟩)
  rotate_left
  · exact absurd hno (by rw [hok]; simp)
  rw [hD0] at k21 q22
  have H30 : Sat w [restC w (fun _ => False), cellC b6 25 ([(.int .i64 (F)), (.int .i64 (1))] : List Value), coreC k23 t24 hb25 cb26 ab27 lb28 pb29 D0] w18 := H15.addU u20 k21 q22
  have H19 : Sat w [restC w (fun _ => False), cellC b6 25 ([(.int .i64 (F)), (.int .i64 (1))] : List Value), cellC k23 92 (([(.int .i64 (D0.f)), (.int .i64 (D0.c)), (.int .i64 (D0.epoch)), (.int .i64 (D0.replica)), (.int .i64 (D0.s.round)), (.int .i64 (D0.s.step)), (.int .i64 (D0.s.lr)), (.int .i64 (D0.s.vr))] : List Value) ++ hc D0.s.locked ++ hc D0.s.valid ++ ([(.bool (D0.s.decided))] : List Value) ++ hc D0.s.decision ++ ([(.pointer (some ⟨t24, 0, none⟩)), (.map (some pb29)), (.bool (D0.wv)), (.bool (D0.sp)), (.bool (D0.sc))] : List Value)), talC t24 hb25 cb26 ab27 lb28 D0.f D0.c D0.L, mapC pb29 (Value.int .i64) propV D0.P] w18 := H30.open 2 rfl
  refine ⟨_, rfl, ?_⟩
  refine hK17 _ _ ?_
  clear hK17 K17
  refine wl_pure (wants0 rfl) (d := 24) (v := (.tuple #[(.pointer (some ⟨k23, 0, none⟩)), (.int .i64 (0))])) rfl (by kernel_rfl) ?_
  refine wl_pure (wants0 rfl) (d := 29) (v := (.pointer (some ⟨k23, 0, none⟩))) rfl (by kernel_rfl) ?_
  refine wl_pure (wants0 rfl) (d := 30) (v := (.int .i64 (0))) rfl (by kernel_rfl) ?_
  refine wl_pure (wants0 rfl) (d := 11) (v := (.pointer (some ⟨k23, 0, none⟩))) rfl (by kernel_rfl) ?_
  refine wl_pure (wants0 rfl) (d := 12) (v := (.int .i64 (0))) rfl (by kernel_rfl) ?_
  refine w_nil ?_
  refine then_normal ?_
  refine w_seq ?_
  refine w_seq ?_
  refine w_lit ?_
  refine wl_pure (wants0 rfl) (d := 31) (v := (.int .i64 (0))) rfl (by kernel_rfl) ?_
  refine wl_pure (wants0 rfl) (d := 32) (v := (.bool false)) rfl (by kernel_rfl) ?_
  refine wl_pure (wants0 rfl) (d := 33) (v := (.bool false)) rfl (by kernel_rfl) ?_
  refine wl_pure (wantsY 2 33 false rfl (by kernel_rfl) rfl (by kernel_rfl)) (d := 34) (v := (.pointer (some ⟨k23, 0, none⟩))) rfl (by kernel_rfl) ?_
  refine wl_pure (wantsY 2 33 false rfl (by kernel_rfl) rfl (by kernel_rfl)) (d := 35) (v := (.bool false)) rfl (by kernel_rfl) ?_
  refine wl_pure (wants0 rfl) (d := 36) (v := (.bool false)) rfl (by kernel_rfl) ?_
  refine w_nil ?_
  refine then_normal ?_
  refine wp_iff rfl ?_
  refine w_skip ?_
  refine then_normal ?_
  refine w_seq ?_
  refine w_lit ?_
  refine wl_pure (wants0 rfl) (d := 37) (v := (.pointer (some ⟨k23, 0, none⟩))) rfl (by kernel_rfl) ?_
  refine wl_do (wants0 rfl) (fun K31 hK31 => ?_)
  refine d_call (d := 38) rfl (by kernel_rfl) (coreStart_any w18 k23 t24 hb25 cb26 ab27 lb28 pb29 D0 (ok_of (by kernel_rfl) (H19.fin [2, 3, 4] (by decide) rfl)) C0 ) ?_
  rintro _ w33 ⟨v32, rfl, S34⟩
  replace S34 := Sat.cast (G' := [cellC k23 92 (([(.int .i64 (((startD D0).1).f)), (.int .i64 (((startD D0).1).c)), (.int .i64 (((startD D0).1).epoch)), (.int .i64 (((startD D0).1).replica)), (.int .i64 (((startD D0).1).s.round)), (.int .i64 (((startD D0).1).s.step)), (.int .i64 (((startD D0).1).s.lr)), (.int .i64 (((startD D0).1).s.vr))] : List Value) ++ hc ((startD D0).1).s.locked ++ hc ((startD D0).1).s.valid ++ ([(.bool (((startD D0).1).s.decided))] : List Value) ++ hc ((startD D0).1).s.decision ++ ([(.pointer (some ⟨t24, 0, none⟩)), (.map (some pb29)), (.bool (((startD D0).1).wv)), (.bool (((startD D0).1).sp)), (.bool (((startD D0).1).sc))] : List Value)), talC t24 hb25 cb26 ab27 lb28 ((startD D0).1).f ((startD D0).1).c ((startD D0).1).L, mapC pb29 (Value.int .i64) propV ((startD D0).1).P, rowC 45 35 v32 (((startD D0).2).length) (((startD D0).2).flatMap encA), restC w18 (coreC k23 t24 hb25 cb26 ab27 lb28 pb29 D0).fp]) S34 (by kernel_rfl)
  have H36 : Sat w [restC w (fun _ => False), cellC b6 25 ([(.int .i64 (F)), (.int .i64 (1))] : List Value), cellC k23 92 (([(.int .i64 (((startD D0).1).f)), (.int .i64 (((startD D0).1).c)), (.int .i64 (((startD D0).1).epoch)), (.int .i64 (((startD D0).1).replica)), (.int .i64 (((startD D0).1).s.round)), (.int .i64 (((startD D0).1).s.step)), (.int .i64 (((startD D0).1).s.lr)), (.int .i64 (((startD D0).1).s.vr))] : List Value) ++ hc ((startD D0).1).s.locked ++ hc ((startD D0).1).s.valid ++ ([(.bool (((startD D0).1).s.decided))] : List Value) ++ hc ((startD D0).1).s.decision ++ ([(.pointer (some ⟨t24, 0, none⟩)), (.map (some pb29)), (.bool (((startD D0).1).wv)), (.bool (((startD D0).1).sp)), (.bool (((startD D0).1).sc))] : List Value)), talC t24 hb25 cb26 ab27 lb28 ((startD D0).1).f ((startD D0).1).c ((startD D0).1).L, mapC pb29 (Value.int .i64) propV ((startD D0).1).P, rowC 45 35 v32 (((startD D0).2).length) (((startD D0).2).flatMap encA)] w33 := (Sat.turnL (L' := [cellC k23 92 (([(.int .i64 (((startD D0).1).f)), (.int .i64 (((startD D0).1).c)), (.int .i64 (((startD D0).1).epoch)), (.int .i64 (((startD D0).1).replica)), (.int .i64 (((startD D0).1).s.round)), (.int .i64 (((startD D0).1).s.step)), (.int .i64 (((startD D0).1).s.lr)), (.int .i64 (((startD D0).1).s.vr))] : List Value) ++ hc ((startD D0).1).s.locked ++ hc ((startD D0).1).s.valid ++ ([(.bool (((startD D0).1).s.decided))] : List Value) ++ hc ((startD D0).1).s.decision ++ ([(.pointer (some ⟨t24, 0, none⟩)), (.map (some pb29)), (.bool (((startD D0).1).wv)), (.bool (((startD D0).1).sp)), (.bool (((startD D0).1).sc))] : List Value)), talC t24 hb25 cb26 ab27 lb28 ((startD D0).1).f ((startD D0).1).c ((startD D0).1).L, mapC pb29 (Value.int .i64) propV ((startD D0).1).P, rowC 45 35 v32 (((startD D0).2).length) (((startD D0).2).flatMap encA)]) (R := [restC w (fun _ => False), cellC b6 25 ([(.int .i64 (F)), (.int .i64 (1))] : List Value)]) H19 [2, 3, 4] [0, 1] (by decide) (by kernel_rfl) rfl S34).pick [4, 5, 0, 1, 2, 3] (by decide)
  obtain ⟨a37, c38, rfl⟩ := ownsRow_shape (H36.at 5 rfl)
  refine ⟨_, rfl, ?_⟩
  refine hK31 _ _ ?_
  clear hK31 K31
  refine w_nil ?_
  refine then_normal ?_
  refine w_seq ?_
  refine w_lit ?_
  refine wl_pure (wants0 rfl) (d := 39) (v := (.int .i64 (round))) rfl (by kernel_rfl) ?_
  refine wl_do (wants0 rfl) (fun K39 hK39 => ?_)
  refine d_call (d := 40) rfl (by kernel_rfl) (within_any w33 round 20 (by omega)) ?_
  rintro _ w40 ⟨rfl, u42⟩
  have H41 := H36.keepU u42
  refine ⟨_, rfl, ?_⟩
  refine hK39 _ _ ?_
  clear hK39 K39
  refine wl_pure (wants0 rfl) (d := 41) (v := (.int .i64 (R))) rfl (e_int (z := 1 + (withinV round 20)) (by kernel_rfl) ((by rw [IntWalk.i64_in _ (by omega)]; exact hR.symm))) ?_
  refine wl_pure (wants0 rfl) (d := 1) (v := (.int .i64 (R))) rfl (by kernel_rfl) ?_
  refine w_nil ?_
  refine then_normal ?_
  refine w_seq ?_
  refine w_lit ?_
  refine wl_do (wants0 rfl) (fun K43 hK43 => ?_)
  refine d_makeMap (Value.int .i64) Value.bool rfl H41 ?_
  intro b44 w45 (H46 : Sat w [restC w (fun _ => False), cellC b6 25 ([(.int .i64 (F)), (.int .i64 (1))] : List Value), cellC k23 92 (([(.int .i64 (((startD D0).1).f)), (.int .i64 (((startD D0).1).c)), (.int .i64 (((startD D0).1).epoch)), (.int .i64 (((startD D0).1).replica)), (.int .i64 (((startD D0).1).s.round)), (.int .i64 (((startD D0).1).s.step)), (.int .i64 (((startD D0).1).s.lr)), (.int .i64 (((startD D0).1).s.vr))] : List Value) ++ hc ((startD D0).1).s.locked ++ hc ((startD D0).1).s.valid ++ ([(.bool (((startD D0).1).s.decided))] : List Value) ++ hc ((startD D0).1).s.decision ++ ([(.pointer (some ⟨t24, 0, none⟩)), (.map (some pb29)), (.bool (((startD D0).1).wv)), (.bool (((startD D0).1).sp)), (.bool (((startD D0).1).sc))] : List Value)), talC t24 hb25 cb26 ab27 lb28 ((startD D0).1).f ((startD D0).1).c ((startD D0).1).L, mapC pb29 (Value.int .i64) propV ((startD D0).1).P, rowC 45 35 (.slice a37 (((startD D0).2).length) c38) (((startD D0).2).length) (((startD D0).2).flatMap encA), mapC b44 (Value.int .i64) Value.bool []] w45)
  refine hK43 _ _ ?_
  clear hK43 K43
  refine wl_pure (wants0 rfl) (d := 13) (v := (.map (some b44))) rfl (by kernel_rfl) ?_
  refine w_nil ?_
  refine then_normal ?_
  refine w_seq ?_
  refine w_seq ?_
  refine w_lit ?_
  refine wl_pure (wants0 rfl) (d := 14) (v := (.int .i64 (0))) rfl (by kernel_rfl) ?_
  refine w_nil ?_
  refine then_normal ?_
  refine w_block ?_
  refine wp_round [8, 14, 15, 16, 17, 43, 44, 45, 46, 47, 48, 49, 50, 51, 52, 53, 54, 55, 56, 57, 58, 59, 60, 61, 62, 63, 64, 65, 66, 67, 68, 69, 70, 71, 72, 73, 74, 75, 76, 77, 78, 79, 80, 81, 82, 83, 84, 85, 86, 87, 88, 89, 90, 91, 92, 93, 94, 95, 96, 97, 98] (fun F_ W_ m_ => ∃ (k : Nat), F_ 14 = (.int .i64 ((k : Int))) ∧ (k ≤ who.length ∧ k ≤ 20) ∧ Sat w [restC w (fun _ => False), cellC b6 25 ([(.int .i64 (F)), (.int .i64 (1))] : List Value), cellC k23 92 (([(.int .i64 ((skD F R K who (startD D0).1 k).f)), (.int .i64 ((skD F R K who (startD D0).1 k).c)), (.int .i64 ((skD F R K who (startD D0).1 k).epoch)), (.int .i64 ((skD F R K who (startD D0).1 k).replica)), (.int .i64 ((skD F R K who (startD D0).1 k).s.round)), (.int .i64 ((skD F R K who (startD D0).1 k).s.step)), (.int .i64 ((skD F R K who (startD D0).1 k).s.lr)), (.int .i64 ((skD F R K who (startD D0).1 k).s.vr))] : List Value) ++ hc (skD F R K who (startD D0).1 k).s.locked ++ hc (skD F R K who (startD D0).1 k).s.valid ++ ([(.bool ((skD F R K who (startD D0).1 k).s.decided))] : List Value) ++ hc (skD F R K who (startD D0).1 k).s.decision ++ ([(.pointer (some ⟨t24, 0, none⟩)), (.map (some pb29)), (.bool ((skD F R K who (startD D0).1 k).wv)), (.bool ((skD F R K who (startD D0).1 k).sp)), (.bool ((skD F R K who (startD D0).1 k).sc))] : List Value)), talC t24 hb25 cb26 ab27 lb28 (skD F R K who (startD D0).1 k).f (skD F R K who (startD D0).1 k).c (skD F R K who (startD D0).1 k).L, mapC pb29 (Value.int .i64) propV (skD F R K who (startD D0).1 k).P, rowC 45 35 (.slice a37 (((startD D0).2).length) c38) (((startD D0).2).length) (((startD D0).2).flatMap encA), mapC b44 (Value.int .i64) Value.bool (skM F who k)] W_ ∧ m_ = 20 - k) _ ⟨0, (by first | rfl | go_num), ⟨Nat.zero_le _, Nat.zero_le _⟩, H46, rfl⟩ ?_
  rintro g47 w48 _ ⟨k, v50, hk, H49, rfl⟩
  refine wp_know 14 _ v50 ?_
  have hwp := within_lim (who.getD k 0) (3 * F + 1 - 1) (by omega)
  refine w_seq ?_
  refine wp_meetR [43, 44, 45, 46, 47, 48, 49, 50] (fun G_ W_ => G_ 50 = (.bool (decide ((k : Int) < who.length) && decide ((k : Int) < 20))) ∧ Sat w [restC w (fun _ => False), cellC b6 25 ([(.int .i64 (F)), (.int .i64 (1))] : List Value), cellC k23 92 (([(.int .i64 ((skD F R K who (startD D0).1 k).f)), (.int .i64 ((skD F R K who (startD D0).1 k).c)), (.int .i64 ((skD F R K who (startD D0).1 k).epoch)), (.int .i64 ((skD F R K who (startD D0).1 k).replica)), (.int .i64 ((skD F R K who (startD D0).1 k).s.round)), (.int .i64 ((skD F R K who (startD D0).1 k).s.step)), (.int .i64 ((skD F R K who (startD D0).1 k).s.lr)), (.int .i64 ((skD F R K who (startD D0).1 k).s.vr))] : List Value) ++ hc (skD F R K who (startD D0).1 k).s.locked ++ hc (skD F R K who (startD D0).1 k).s.valid ++ ([(.bool ((skD F R K who (startD D0).1 k).s.decided))] : List Value) ++ hc (skD F R K who (startD D0).1 k).s.decision ++ ([(.pointer (some ⟨t24, 0, none⟩)), (.map (some pb29)), (.bool ((skD F R K who (startD D0).1 k).wv)), (.bool ((skD F R K who (startD D0).1 k).sp)), (.bool ((skD F R K who (startD D0).1 k).sc))] : List Value)), talC t24 hb25 cb26 ab27 lb28 (skD F R K who (startD D0).1 k).f (skD F R K who (startD D0).1 k).c (skD F R K who (startD D0).1 k).L, mapC pb29 (Value.int .i64) propV (skD F R K who (startD D0).1 k).P, rowC 45 35 (.slice a37 (((startD D0).2).length) c38) (((startD D0).2).length) (((startD D0).2).flatMap encA), mapC b44 (Value.int .i64) Value.bool (skM F who k)] W_) ?_ ?_
  · refine w_lit ?_
    refine wl_pure (wants0 rfl) (d := 43) (v := (.int .i64 ((k : Int)))) rfl (by kernel_rfl) ?_
    refine wl_pure (wants0 rfl) (d := 44) (v := (.slice va who.length vc)) rfl (by kernel_rfl) ?_
    refine wl_pure (wants0 rfl) (d := 45) (v := (.int .i64 ((who.length : Int)))) rfl (by kernel_rfl) ?_
    refine wl_pure (wants0 rfl) (d := 46) (v := (.bool (decide ((k : Int) < (who.length : Int))))) rfl (by kernel_rfl) ?_
    refine wl_pure (wants0 rfl) (d := 47) (v := (.bool (decide ((k : Int) < (who.length : Int))))) rfl (by kernel_rfl) ?_
    refine (bsplit (decide ((k : Int) < (who.length : Int)))).elim (fun b53 => ?_) (fun b53 => ?_)
    · have g54 := of_decide_eq_true b53
      refine wl_know 47 (.bool true) (congrArg Value.bool b53) ?_
      refine wl_pure (wantsY 4 47 true rfl (by kernel_rfl) rfl (by kernel_rfl)) (d := 48) (v := (.int .i64 ((k : Int)))) rfl (by kernel_rfl) ?_
      refine wl_pure (wantsY 4 47 true rfl (by kernel_rfl) rfl (by kernel_rfl)) (d := 49) (v := (.bool (decide ((k : Int) < 20)))) rfl (by kernel_rfl) ?_
      refine wl_pure (wants0 rfl) (d := 50) (v := (.bool (decide ((k : Int) < 20)))) rfl (by kernel_rfl) ?_
      refine w_nil ?_
      refine meetR_at ?_ ⟨(congrArg Value.bool (show (decide ((k : Int) < 20)) = (decide ((k : Int) < who.length) && decide ((k : Int) < 20)) by (simp <;> omega))), H49⟩
      exact (same_upd rfl (same_upd rfl (same_upd rfl (same_upd rfl (same_upd rfl (same_upd rfl (same_upd rfl (same_upd rfl (same_upd rfl (same_refl))))))))))
    · have g55 := of_decide_eq_false b53
      refine wl_know 47 (.bool false) (congrArg Value.bool b53) ?_
      refine wl_pass (wantsN 4 47 true rfl (by kernel_rfl) rfl (by kernel_rfl)) rfl ?_
      refine wl_pass (wantsN 4 47 true rfl (by kernel_rfl) rfl (by kernel_rfl)) rfl ?_
      refine wl_pure (wants0 rfl) (d := 50) (v := (.bool false)) rfl (by kernel_rfl) ?_
      refine w_nil ?_
      refine meetR_at ?_ ⟨(congrArg Value.bool (show false = (decide ((k : Int) < who.length) && decide ((k : Int) < 20)) by (simp <;> omega))), H49⟩
      exact (same_upd rfl (same_upd rfl (same_upd rfl (same_upd rfl (same_upd rfl (same_upd rfl (same_upd rfl (same_upd rfl (same_upd rfl (same_refl))))))))))
  · rintro f56 w57 ⟨v59, H58⟩
    refine wp_know 50 _ v59 ?_
    refine (bsplit (decide ((k : Int) < who.length) && decide ((k : Int) < 20))).elim (fun b60 => ?_) (fun b60 => ?_)
    · refine wp_know 50 (.bool true) (congrArg Value.bool b60) ?_
      refine wp_ift rfl ?_
      refine w_skip ?_
      refine then_normal ?_
      refine w_seq ?_
      refine w_block ?_
      refine w_seq ?_
      have hkl : (k : Int) < who.length ∧ (k : Int) < 20 := by simpa using b60
      refine w_lit ?_
      refine wl_pure (wants0 rfl) (d := 53) (v := (.slice va who.length vc)) rfl (by kernel_rfl) ?_
      refine wl_pure (wants0 rfl) (d := 54) (v := (.int .i64 ((k : Int)))) rfl (by kernel_rfl) ?_
      obtain ⟨g61, o62, c63, e64, R65⟩ := hwho.atD (show k < who.length by omega)
      have := hwho.bd k
      refine wl_pure (wants0 rfl) (d := 55) (v := (.pointer (some ⟨g61, o62 + ((k : Int)).toNat * 1, none⟩))) rfl (e_indexAddrW (E := 3) (by kernel_rfl) (by kernel_rfl) (Nat.le_of_ble_eq_true rfl) rfl e64 rfl (by omega) (by omega)) ?_
      refine wl_pure (wants0 rfl) (d := 56) (v := (.int .i64 ((who.getD k 0)))) rfl (e_load1 rfl (by kernel_rfl) (H58.cellR 0 rfl (cells_at R65 0 (by kernel_rfl) (show o62 + ((k : Int)).toNat * 1 = o62 + k * 1 + 0 by omega)) (fun h => h))) ?_
      refine wl_pure (wants0 rfl) (d := 57) (v := (.int .i64 (3 * F + 1))) rfl (by kernel_rfl) ?_
      refine wl_pure (wants0 rfl) (d := 58) (v := (.int .i64 ((3 * F + 1) - 1))) rfl (e_int (z := (3 * F + 1) - 1) (by kernel_rfl) (IntWalk.i64_in _ (by omega))) ?_
      refine wl_do (wants0 rfl) (fun K66 hK66 => ?_)
      refine d_call (d := 59) rfl (by kernel_rfl) (within_any w57 (who.getD k 0) ((3 * F + 1) - 1) (by omega)) ?_
      rintro _ w67 ⟨rfl, u69⟩
      have H68 := H58.keepU u69
      refine ⟨_, rfl, ?_⟩
      refine hK66 _ _ ?_
      clear hK66 K66
      refine wl_pure (wants0 rfl) (d := 15) (v := (.int .i64 (withinV (who.getD k 0) ((3 * F + 1) - 1)))) rfl (by kernel_rfl) ?_
      refine w_nil ?_
      refine then_normal ?_
      refine w_seq ?_
      refine w_lit ?_
      refine wl_pure (wants0 rfl) (d := 60) (v := (.int .i64 (R))) rfl (by kernel_rfl) ?_
      refine wl_pure (wants0 rfl) (d := 61) (v := (.int .i64 ((k : Int)))) rfl (by kernel_rfl) ?_
      refine wl_pure (wants0 rfl) (d := 62) (v := (.int .i64 ((k : Int) % 2))) rfl (e_rem (by kernel_rfl) (by omega) (by omega)) ?_
      refine wl_pure (wants0 rfl) (d := 63) (v := (.int .i64 (R + ((k : Int) % 2)))) rfl (e_int (z := R + ((k : Int) % 2)) (by kernel_rfl) (IntWalk.i64_in _ (by omega))) ?_
      refine wl_pure (wants0 rfl) (d := 16) (v := (.int .i64 (R + ((k : Int) % 2)))) rfl (by kernel_rfl) ?_
      refine w_nil ?_
      refine then_normal ?_
      refine w_seq ?_
      refine w_lit ?_
      refine wl_pure (wants0 rfl) (d := 64) (v := (.pointer (some ⟨k23, 0, none⟩))) rfl (by kernel_rfl) ?_
      refine wl_pure (wants0 rfl) (d := 65) (v := (.int .i64 (kind))) rfl (by kernel_rfl) ?_
      refine wl_do (wants0 rfl) (fun K70 hK70 => ?_)
      refine d_call (d := 66) rfl (by kernel_rfl) (within_any w67 kind 2 (by omega)) ?_
      rintro _ w71 ⟨rfl, u73⟩
      have H72 := H68.keepU u73
      refine ⟨_, rfl, ?_⟩
      refine hK70 _ _ ?_
      clear hK70 K70
      refine wl_pure (wants0 rfl) (d := 67) (v := (.int .i64 (K))) rfl (e_int (z := 1 + (withinV kind 2)) (by kernel_rfl) ((by rw [IntWalk.i64_in _ (by omega)]; exact hK.symm))) ?_
      refine wl_pure (wants0 rfl) (d := 68) (v := (.int .i64 (R + ((k : Int) % 2)))) rfl (by kernel_rfl) ?_
      refine wl_pure (wants0 rfl) (d := 69) (v := (.int .i64 (withinV (who.getD k 0) ((3 * F + 1) - 1)))) rfl (by kernel_rfl) ?_
      refine wl_pure (wants0 rfl) (d := 70) (v := (.agg ⟨(hc hash0)⟩)) rfl (by kernel_rfl) ?_
      refine wl_do (wants0 rfl) (fun K74 hK74 => ?_)
      refine d_call (d := 71) rfl (by kernel_rfl) (coreVote_any w71 k23 t24 hb25 cb26 ab27 lb28 pb29 (skD F R K who (startD D0).1 k) (ok_of (by kernel_rfl) (H72.fin [2, 3, 4] (by decide) rfl)) (skCI C0.start k) K (R + ((k : Int) % 2)) (withinV (who.getD k 0) ((3 * F + 1) - 1)) hash0) ?_
      rintro _ w76 ⟨v75, rfl, S77⟩
      replace S77 := Sat.cast (G' := [cellC k23 92 (([(.int .i64 (((voteD' (skD F R K who (startD D0).1 k) K (R + ((k : Int) % 2)) (withinV (who.getD k 0) ((3 * F + 1) - 1)) hash0).1).f)), (.int .i64 (((voteD' (skD F R K who (startD D0).1 k) K (R + ((k : Int) % 2)) (withinV (who.getD k 0) ((3 * F + 1) - 1)) hash0).1).c)), (.int .i64 (((voteD' (skD F R K who (startD D0).1 k) K (R + ((k : Int) % 2)) (withinV (who.getD k 0) ((3 * F + 1) - 1)) hash0).1).epoch)), (.int .i64 (((voteD' (skD F R K who (startD D0).1 k) K (R + ((k : Int) % 2)) (withinV (who.getD k 0) ((3 * F + 1) - 1)) hash0).1).replica)), (.int .i64 (((voteD' (skD F R K who (startD D0).1 k) K (R + ((k : Int) % 2)) (withinV (who.getD k 0) ((3 * F + 1) - 1)) hash0).1).s.round)), (.int .i64 (((voteD' (skD F R K who (startD D0).1 k) K (R + ((k : Int) % 2)) (withinV (who.getD k 0) ((3 * F + 1) - 1)) hash0).1).s.step)), (.int .i64 (((voteD' (skD F R K who (startD D0).1 k) K (R + ((k : Int) % 2)) (withinV (who.getD k 0) ((3 * F + 1) - 1)) hash0).1).s.lr)), (.int .i64 (((voteD' (skD F R K who (startD D0).1 k) K (R + ((k : Int) % 2)) (withinV (who.getD k 0) ((3 * F + 1) - 1)) hash0).1).s.vr))] : List Value) ++ hc ((voteD' (skD F R K who (startD D0).1 k) K (R + ((k : Int) % 2)) (withinV (who.getD k 0) ((3 * F + 1) - 1)) hash0).1).s.locked ++ hc ((voteD' (skD F R K who (startD D0).1 k) K (R + ((k : Int) % 2)) (withinV (who.getD k 0) ((3 * F + 1) - 1)) hash0).1).s.valid ++ ([(.bool (((voteD' (skD F R K who (startD D0).1 k) K (R + ((k : Int) % 2)) (withinV (who.getD k 0) ((3 * F + 1) - 1)) hash0).1).s.decided))] : List Value) ++ hc ((voteD' (skD F R K who (startD D0).1 k) K (R + ((k : Int) % 2)) (withinV (who.getD k 0) ((3 * F + 1) - 1)) hash0).1).s.decision ++ ([(.pointer (some ⟨t24, 0, none⟩)), (.map (some pb29)), (.bool (((voteD' (skD F R K who (startD D0).1 k) K (R + ((k : Int) % 2)) (withinV (who.getD k 0) ((3 * F + 1) - 1)) hash0).1).wv)), (.bool (((voteD' (skD F R K who (startD D0).1 k) K (R + ((k : Int) % 2)) (withinV (who.getD k 0) ((3 * F + 1) - 1)) hash0).1).sp)), (.bool (((voteD' (skD F R K who (startD D0).1 k) K (R + ((k : Int) % 2)) (withinV (who.getD k 0) ((3 * F + 1) - 1)) hash0).1).sc))] : List Value)), talC t24 hb25 cb26 ab27 lb28 ((voteD' (skD F R K who (startD D0).1 k) K (R + ((k : Int) % 2)) (withinV (who.getD k 0) ((3 * F + 1) - 1)) hash0).1).f ((voteD' (skD F R K who (startD D0).1 k) K (R + ((k : Int) % 2)) (withinV (who.getD k 0) ((3 * F + 1) - 1)) hash0).1).c ((voteD' (skD F R K who (startD D0).1 k) K (R + ((k : Int) % 2)) (withinV (who.getD k 0) ((3 * F + 1) - 1)) hash0).1).L, mapC pb29 (Value.int .i64) propV ((voteD' (skD F R K who (startD D0).1 k) K (R + ((k : Int) % 2)) (withinV (who.getD k 0) ((3 * F + 1) - 1)) hash0).1).P, rowC 45 35 v75 (((voteD' (skD F R K who (startD D0).1 k) K (R + ((k : Int) % 2)) (withinV (who.getD k 0) ((3 * F + 1) - 1)) hash0).2).length) (((voteD' (skD F R K who (startD D0).1 k) K (R + ((k : Int) % 2)) (withinV (who.getD k 0) ((3 * F + 1) - 1)) hash0).2).flatMap encA), restC w71 (coreC k23 t24 hb25 cb26 ab27 lb28 pb29 (skD F R K who (startD D0).1 k)).fp]) S77 (by kernel_rfl)
      have H79 : Sat w [restC w (fun _ => False), cellC b6 25 ([(.int .i64 (F)), (.int .i64 (1))] : List Value), cellC k23 92 (([(.int .i64 (((voteD' (skD F R K who (startD D0).1 k) K (R + ((k : Int) % 2)) (withinV (who.getD k 0) ((3 * F + 1) - 1)) hash0).1).f)), (.int .i64 (((voteD' (skD F R K who (startD D0).1 k) K (R + ((k : Int) % 2)) (withinV (who.getD k 0) ((3 * F + 1) - 1)) hash0).1).c)), (.int .i64 (((voteD' (skD F R K who (startD D0).1 k) K (R + ((k : Int) % 2)) (withinV (who.getD k 0) ((3 * F + 1) - 1)) hash0).1).epoch)), (.int .i64 (((voteD' (skD F R K who (startD D0).1 k) K (R + ((k : Int) % 2)) (withinV (who.getD k 0) ((3 * F + 1) - 1)) hash0).1).replica)), (.int .i64 (((voteD' (skD F R K who (startD D0).1 k) K (R + ((k : Int) % 2)) (withinV (who.getD k 0) ((3 * F + 1) - 1)) hash0).1).s.round)), (.int .i64 (((voteD' (skD F R K who (startD D0).1 k) K (R + ((k : Int) % 2)) (withinV (who.getD k 0) ((3 * F + 1) - 1)) hash0).1).s.step)), (.int .i64 (((voteD' (skD F R K who (startD D0).1 k) K (R + ((k : Int) % 2)) (withinV (who.getD k 0) ((3 * F + 1) - 1)) hash0).1).s.lr)), (.int .i64 (((voteD' (skD F R K who (startD D0).1 k) K (R + ((k : Int) % 2)) (withinV (who.getD k 0) ((3 * F + 1) - 1)) hash0).1).s.vr))] : List Value) ++ hc ((voteD' (skD F R K who (startD D0).1 k) K (R + ((k : Int) % 2)) (withinV (who.getD k 0) ((3 * F + 1) - 1)) hash0).1).s.locked ++ hc ((voteD' (skD F R K who (startD D0).1 k) K (R + ((k : Int) % 2)) (withinV (who.getD k 0) ((3 * F + 1) - 1)) hash0).1).s.valid ++ ([(.bool (((voteD' (skD F R K who (startD D0).1 k) K (R + ((k : Int) % 2)) (withinV (who.getD k 0) ((3 * F + 1) - 1)) hash0).1).s.decided))] : List Value) ++ hc ((voteD' (skD F R K who (startD D0).1 k) K (R + ((k : Int) % 2)) (withinV (who.getD k 0) ((3 * F + 1) - 1)) hash0).1).s.decision ++ ([(.pointer (some ⟨t24, 0, none⟩)), (.map (some pb29)), (.bool (((voteD' (skD F R K who (startD D0).1 k) K (R + ((k : Int) % 2)) (withinV (who.getD k 0) ((3 * F + 1) - 1)) hash0).1).wv)), (.bool (((voteD' (skD F R K who (startD D0).1 k) K (R + ((k : Int) % 2)) (withinV (who.getD k 0) ((3 * F + 1) - 1)) hash0).1).sp)), (.bool (((voteD' (skD F R K who (startD D0).1 k) K (R + ((k : Int) % 2)) (withinV (who.getD k 0) ((3 * F + 1) - 1)) hash0).1).sc))] : List Value)), talC t24 hb25 cb26 ab27 lb28 ((voteD' (skD F R K who (startD D0).1 k) K (R + ((k : Int) % 2)) (withinV (who.getD k 0) ((3 * F + 1) - 1)) hash0).1).f ((voteD' (skD F R K who (startD D0).1 k) K (R + ((k : Int) % 2)) (withinV (who.getD k 0) ((3 * F + 1) - 1)) hash0).1).c ((voteD' (skD F R K who (startD D0).1 k) K (R + ((k : Int) % 2)) (withinV (who.getD k 0) ((3 * F + 1) - 1)) hash0).1).L, mapC pb29 (Value.int .i64) propV ((voteD' (skD F R K who (startD D0).1 k) K (R + ((k : Int) % 2)) (withinV (who.getD k 0) ((3 * F + 1) - 1)) hash0).1).P, rowC 45 35 (.slice a37 (((startD D0).2).length) c38) (((startD D0).2).length) (((startD D0).2).flatMap encA), mapC b44 (Value.int .i64) Value.bool (skM F who k), rowC 45 35 v75 (((voteD' (skD F R K who (startD D0).1 k) K (R + ((k : Int) % 2)) (withinV (who.getD k 0) ((3 * F + 1) - 1)) hash0).2).length) (((voteD' (skD F R K who (startD D0).1 k) K (R + ((k : Int) % 2)) (withinV (who.getD k 0) ((3 * F + 1) - 1)) hash0).2).flatMap encA)] w76 := (Sat.turnL (L' := [cellC k23 92 (([(.int .i64 (((voteD' (skD F R K who (startD D0).1 k) K (R + ((k : Int) % 2)) (withinV (who.getD k 0) ((3 * F + 1) - 1)) hash0).1).f)), (.int .i64 (((voteD' (skD F R K who (startD D0).1 k) K (R + ((k : Int) % 2)) (withinV (who.getD k 0) ((3 * F + 1) - 1)) hash0).1).c)), (.int .i64 (((voteD' (skD F R K who (startD D0).1 k) K (R + ((k : Int) % 2)) (withinV (who.getD k 0) ((3 * F + 1) - 1)) hash0).1).epoch)), (.int .i64 (((voteD' (skD F R K who (startD D0).1 k) K (R + ((k : Int) % 2)) (withinV (who.getD k 0) ((3 * F + 1) - 1)) hash0).1).replica)), (.int .i64 (((voteD' (skD F R K who (startD D0).1 k) K (R + ((k : Int) % 2)) (withinV (who.getD k 0) ((3 * F + 1) - 1)) hash0).1).s.round)), (.int .i64 (((voteD' (skD F R K who (startD D0).1 k) K (R + ((k : Int) % 2)) (withinV (who.getD k 0) ((3 * F + 1) - 1)) hash0).1).s.step)), (.int .i64 (((voteD' (skD F R K who (startD D0).1 k) K (R + ((k : Int) % 2)) (withinV (who.getD k 0) ((3 * F + 1) - 1)) hash0).1).s.lr)), (.int .i64 (((voteD' (skD F R K who (startD D0).1 k) K (R + ((k : Int) % 2)) (withinV (who.getD k 0) ((3 * F + 1) - 1)) hash0).1).s.vr))] : List Value) ++ hc ((voteD' (skD F R K who (startD D0).1 k) K (R + ((k : Int) % 2)) (withinV (who.getD k 0) ((3 * F + 1) - 1)) hash0).1).s.locked ++ hc ((voteD' (skD F R K who (startD D0).1 k) K (R + ((k : Int) % 2)) (withinV (who.getD k 0) ((3 * F + 1) - 1)) hash0).1).s.valid ++ ([(.bool (((voteD' (skD F R K who (startD D0).1 k) K (R + ((k : Int) % 2)) (withinV (who.getD k 0) ((3 * F + 1) - 1)) hash0).1).s.decided))] : List Value) ++ hc ((voteD' (skD F R K who (startD D0).1 k) K (R + ((k : Int) % 2)) (withinV (who.getD k 0) ((3 * F + 1) - 1)) hash0).1).s.decision ++ ([(.pointer (some ⟨t24, 0, none⟩)), (.map (some pb29)), (.bool (((voteD' (skD F R K who (startD D0).1 k) K (R + ((k : Int) % 2)) (withinV (who.getD k 0) ((3 * F + 1) - 1)) hash0).1).wv)), (.bool (((voteD' (skD F R K who (startD D0).1 k) K (R + ((k : Int) % 2)) (withinV (who.getD k 0) ((3 * F + 1) - 1)) hash0).1).sp)), (.bool (((voteD' (skD F R K who (startD D0).1 k) K (R + ((k : Int) % 2)) (withinV (who.getD k 0) ((3 * F + 1) - 1)) hash0).1).sc))] : List Value)), talC t24 hb25 cb26 ab27 lb28 ((voteD' (skD F R K who (startD D0).1 k) K (R + ((k : Int) % 2)) (withinV (who.getD k 0) ((3 * F + 1) - 1)) hash0).1).f ((voteD' (skD F R K who (startD D0).1 k) K (R + ((k : Int) % 2)) (withinV (who.getD k 0) ((3 * F + 1) - 1)) hash0).1).c ((voteD' (skD F R K who (startD D0).1 k) K (R + ((k : Int) % 2)) (withinV (who.getD k 0) ((3 * F + 1) - 1)) hash0).1).L, mapC pb29 (Value.int .i64) propV ((voteD' (skD F R K who (startD D0).1 k) K (R + ((k : Int) % 2)) (withinV (who.getD k 0) ((3 * F + 1) - 1)) hash0).1).P, rowC 45 35 v75 (((voteD' (skD F R K who (startD D0).1 k) K (R + ((k : Int) % 2)) (withinV (who.getD k 0) ((3 * F + 1) - 1)) hash0).2).length) (((voteD' (skD F R K who (startD D0).1 k) K (R + ((k : Int) % 2)) (withinV (who.getD k 0) ((3 * F + 1) - 1)) hash0).2).flatMap encA)]) (R := [restC w (fun _ => False), cellC b6 25 ([(.int .i64 (F)), (.int .i64 (1))] : List Value), rowC 45 35 (.slice a37 (((startD D0).2).length) c38) (((startD D0).2).length) (((startD D0).2).flatMap encA), mapC b44 (Value.int .i64) Value.bool (skM F who k)]) H72 [2, 3, 4] [0, 1, 5, 6] (by decide) (by kernel_rfl) rfl S77).pick [4, 5, 0, 1, 2, 6, 7, 3] (by decide)
      obtain ⟨a80, c81, rfl⟩ := ownsRow_shape (H79.at 7 rfl)
      refine ⟨_, rfl, ?_⟩
      refine hK74 _ _ ?_
      clear hK74 K74
      refine w_nil ?_
      refine then_normal ?_
      refine w_seq ?_
      refine w_lit ?_
      refine wl_pure (wants0 rfl) (d := 72) (v := (.map (some b44))) rfl (by kernel_rfl) ?_
      refine wl_pure (wants0 rfl) (d := 73) (v := (.int .i64 (withinV (who.getD k 0) ((3 * F + 1) - 1)))) rfl (by kernel_rfl) ?_
      refine wl_do (wants0 rfl) (fun K82 hK82 => ?_)
      refine d_mapUpdate (kt := 3) (et := 4) rfl H79 6 rfl (KeyTy.int (by kernel_rfl)) (by kernel_rfl) rfl (withinV (who.getD k 0) ((3 * F + 1) - 1) : Int) rfl true rfl ?_
      intro w83 (H84 : Sat w [restC w (fun _ => False), cellC b6 25 ([(.int .i64 (F)), (.int .i64 (1))] : List Value), cellC k23 92 (([(.int .i64 (((voteD' (skD F R K who (startD D0).1 k) K (R + ((k : Int) % 2)) (withinV (who.getD k 0) ((3 * F + 1) - 1)) hash0).1).f)), (.int .i64 (((voteD' (skD F R K who (startD D0).1 k) K (R + ((k : Int) % 2)) (withinV (who.getD k 0) ((3 * F + 1) - 1)) hash0).1).c)), (.int .i64 (((voteD' (skD F R K who (startD D0).1 k) K (R + ((k : Int) % 2)) (withinV (who.getD k 0) ((3 * F + 1) - 1)) hash0).1).epoch)), (.int .i64 (((voteD' (skD F R K who (startD D0).1 k) K (R + ((k : Int) % 2)) (withinV (who.getD k 0) ((3 * F + 1) - 1)) hash0).1).replica)), (.int .i64 (((voteD' (skD F R K who (startD D0).1 k) K (R + ((k : Int) % 2)) (withinV (who.getD k 0) ((3 * F + 1) - 1)) hash0).1).s.round)), (.int .i64 (((voteD' (skD F R K who (startD D0).1 k) K (R + ((k : Int) % 2)) (withinV (who.getD k 0) ((3 * F + 1) - 1)) hash0).1).s.step)), (.int .i64 (((voteD' (skD F R K who (startD D0).1 k) K (R + ((k : Int) % 2)) (withinV (who.getD k 0) ((3 * F + 1) - 1)) hash0).1).s.lr)), (.int .i64 (((voteD' (skD F R K who (startD D0).1 k) K (R + ((k : Int) % 2)) (withinV (who.getD k 0) ((3 * F + 1) - 1)) hash0).1).s.vr))] : List Value) ++ hc ((voteD' (skD F R K who (startD D0).1 k) K (R + ((k : Int) % 2)) (withinV (who.getD k 0) ((3 * F + 1) - 1)) hash0).1).s.locked ++ hc ((voteD' (skD F R K who (startD D0).1 k) K (R + ((k : Int) % 2)) (withinV (who.getD k 0) ((3 * F + 1) - 1)) hash0).1).s.valid ++ ([(.bool (((voteD' (skD F R K who (startD D0).1 k) K (R + ((k : Int) % 2)) (withinV (who.getD k 0) ((3 * F + 1) - 1)) hash0).1).s.decided))] : List Value) ++ hc ((voteD' (skD F R K who (startD D0).1 k) K (R + ((k : Int) % 2)) (withinV (who.getD k 0) ((3 * F + 1) - 1)) hash0).1).s.decision ++ ([(.pointer (some ⟨t24, 0, none⟩)), (.map (some pb29)), (.bool (((voteD' (skD F R K who (startD D0).1 k) K (R + ((k : Int) % 2)) (withinV (who.getD k 0) ((3 * F + 1) - 1)) hash0).1).wv)), (.bool (((voteD' (skD F R K who (startD D0).1 k) K (R + ((k : Int) % 2)) (withinV (who.getD k 0) ((3 * F + 1) - 1)) hash0).1).sp)), (.bool (((voteD' (skD F R K who (startD D0).1 k) K (R + ((k : Int) % 2)) (withinV (who.getD k 0) ((3 * F + 1) - 1)) hash0).1).sc))] : List Value)), talC t24 hb25 cb26 ab27 lb28 ((voteD' (skD F R K who (startD D0).1 k) K (R + ((k : Int) % 2)) (withinV (who.getD k 0) ((3 * F + 1) - 1)) hash0).1).f ((voteD' (skD F R K who (startD D0).1 k) K (R + ((k : Int) % 2)) (withinV (who.getD k 0) ((3 * F + 1) - 1)) hash0).1).c ((voteD' (skD F R K who (startD D0).1 k) K (R + ((k : Int) % 2)) (withinV (who.getD k 0) ((3 * F + 1) - 1)) hash0).1).L, mapC pb29 (Value.int .i64) propV ((voteD' (skD F R K who (startD D0).1 k) K (R + ((k : Int) % 2)) (withinV (who.getD k 0) ((3 * F + 1) - 1)) hash0).1).P, rowC 45 35 (.slice a37 (((startD D0).2).length) c38) (((startD D0).2).length) (((startD D0).2).flatMap encA), mapC b44 (Value.int .i64) Value.bool (putM (skM F who k) (withinV (who.getD k 0) ((3 * F + 1) - 1) : Int) true), rowC 45 35 (.slice a80 (((voteD' (skD F R K who (startD D0).1 k) K (R + ((k : Int) % 2)) (withinV (who.getD k 0) ((3 * F + 1) - 1)) hash0).2).length) c81) (((voteD' (skD F R K who (startD D0).1 k) K (R + ((k : Int) % 2)) (withinV (who.getD k 0) ((3 * F + 1) - 1)) hash0).2).length) (((voteD' (skD F R K who (startD D0).1 k) K (R + ((k : Int) % 2)) (withinV (who.getD k 0) ((3 * F + 1) - 1)) hash0).2).flatMap encA)] w83)
      refine hK82 _ _ ?_
      clear hK82 K82
      refine w_nil ?_
      refine then_normal ?_
      refine w_seq ?_
      have hSk := hS k (by omega) (by omega)
      simp only [skD, skM, skP] at hSk
      refine w_lit ?_
      refine wl_pure (wants0 rfl) (d := 74) (v := (.pointer (some ⟨k23, 0, none⟩))) rfl (by kernel_rfl) ?_
      refine wl_do (wants0 rfl) (fun K85 hK85 => ?_)
      refine d_call (d := 75) rfl (by kernel_rfl) (coreState_any w83 k23 t24 hb25 cb26 ab27 lb28 pb29 ((voteD' (skD F R K who (startD D0).1 k) K (R + ((k : Int) % 2)) (withinV (who.getD k 0) ((3 * F + 1) - 1)) hash0).1) (ok_of (by kernel_rfl) (H84.fin [2, 3, 4] (by decide) rfl)) ((skCI C0.start k).vote K (R + ((k : Int) % 2)) (withinV (who.getD k 0) ((3 * F + 1) - 1)) hash0)) ?_
      rintro _ w86 ⟨rfl, u88⟩
      have H87 := H84.keepU u88
      refine ⟨_, rfl, ?_⟩
      refine hK85 _ _ ?_
      clear hK85 K85
      refine wl_do (wants0 rfl) (fun K89 hK89 => ?_)
      refine d_alloc (zs := (([(.int .i64 (0)), (.int .i64 (0)), (.int .i64 (0)), (.int .i64 (0))] : List Value) ++ hc hash0 ++ hc hash0 ++ ([(.bool false)] : List Value) ++ hc hash0)) (z := (.agg ⟨(([(.int .i64 (0)), (.int .i64 (0)), (.int .i64 (0)), (.int .i64 (0))] : List Value) ++ hc hash0 ++ hc hash0 ++ ([(.bool false)] : List Value) ++ hc hash0)⟩)) rfl H87 (by kernel_rfl) (by kernel_rfl) ?_
      intro b90 w91 (H92 : Sat w [restC w (fun _ => False), cellC b6 25 ([(.int .i64 (F)), (.int .i64 (1))] : List Value), cellC k23 92 (([(.int .i64 (((voteD' (skD F R K who (startD D0).1 k) K (R + ((k : Int) % 2)) (withinV (who.getD k 0) ((3 * F + 1) - 1)) hash0).1).f)), (.int .i64 (((voteD' (skD F R K who (startD D0).1 k) K (R + ((k : Int) % 2)) (withinV (who.getD k 0) ((3 * F + 1) - 1)) hash0).1).c)), (.int .i64 (((voteD' (skD F R K who (startD D0).1 k) K (R + ((k : Int) % 2)) (withinV (who.getD k 0) ((3 * F + 1) - 1)) hash0).1).epoch)), (.int .i64 (((voteD' (skD F R K who (startD D0).1 k) K (R + ((k : Int) % 2)) (withinV (who.getD k 0) ((3 * F + 1) - 1)) hash0).1).replica)), (.int .i64 (((voteD' (skD F R K who (startD D0).1 k) K (R + ((k : Int) % 2)) (withinV (who.getD k 0) ((3 * F + 1) - 1)) hash0).1).s.round)), (.int .i64 (((voteD' (skD F R K who (startD D0).1 k) K (R + ((k : Int) % 2)) (withinV (who.getD k 0) ((3 * F + 1) - 1)) hash0).1).s.step)), (.int .i64 (((voteD' (skD F R K who (startD D0).1 k) K (R + ((k : Int) % 2)) (withinV (who.getD k 0) ((3 * F + 1) - 1)) hash0).1).s.lr)), (.int .i64 (((voteD' (skD F R K who (startD D0).1 k) K (R + ((k : Int) % 2)) (withinV (who.getD k 0) ((3 * F + 1) - 1)) hash0).1).s.vr))] : List Value) ++ hc ((voteD' (skD F R K who (startD D0).1 k) K (R + ((k : Int) % 2)) (withinV (who.getD k 0) ((3 * F + 1) - 1)) hash0).1).s.locked ++ hc ((voteD' (skD F R K who (startD D0).1 k) K (R + ((k : Int) % 2)) (withinV (who.getD k 0) ((3 * F + 1) - 1)) hash0).1).s.valid ++ ([(.bool (((voteD' (skD F R K who (startD D0).1 k) K (R + ((k : Int) % 2)) (withinV (who.getD k 0) ((3 * F + 1) - 1)) hash0).1).s.decided))] : List Value) ++ hc ((voteD' (skD F R K who (startD D0).1 k) K (R + ((k : Int) % 2)) (withinV (who.getD k 0) ((3 * F + 1) - 1)) hash0).1).s.decision ++ ([(.pointer (some ⟨t24, 0, none⟩)), (.map (some pb29)), (.bool (((voteD' (skD F R K who (startD D0).1 k) K (R + ((k : Int) % 2)) (withinV (who.getD k 0) ((3 * F + 1) - 1)) hash0).1).wv)), (.bool (((voteD' (skD F R K who (startD D0).1 k) K (R + ((k : Int) % 2)) (withinV (who.getD k 0) ((3 * F + 1) - 1)) hash0).1).sp)), (.bool (((voteD' (skD F R K who (startD D0).1 k) K (R + ((k : Int) % 2)) (withinV (who.getD k 0) ((3 * F + 1) - 1)) hash0).1).sc))] : List Value)), talC t24 hb25 cb26 ab27 lb28 ((voteD' (skD F R K who (startD D0).1 k) K (R + ((k : Int) % 2)) (withinV (who.getD k 0) ((3 * F + 1) - 1)) hash0).1).f ((voteD' (skD F R K who (startD D0).1 k) K (R + ((k : Int) % 2)) (withinV (who.getD k 0) ((3 * F + 1) - 1)) hash0).1).c ((voteD' (skD F R K who (startD D0).1 k) K (R + ((k : Int) % 2)) (withinV (who.getD k 0) ((3 * F + 1) - 1)) hash0).1).L, mapC pb29 (Value.int .i64) propV ((voteD' (skD F R K who (startD D0).1 k) K (R + ((k : Int) % 2)) (withinV (who.getD k 0) ((3 * F + 1) - 1)) hash0).1).P, rowC 45 35 (.slice a37 (((startD D0).2).length) c38) (((startD D0).2).length) (((startD D0).2).flatMap encA), mapC b44 (Value.int .i64) Value.bool (putM (skM F who k) (withinV (who.getD k 0) ((3 * F + 1) - 1) : Int) true), rowC 45 35 (.slice a80 (((voteD' (skD F R K who (startD D0).1 k) K (R + ((k : Int) % 2)) (withinV (who.getD k 0) ((3 * F + 1) - 1)) hash0).2).length) c81) (((voteD' (skD F R K who (startD D0).1 k) K (R + ((k : Int) % 2)) (withinV (who.getD k 0) ((3 * F + 1) - 1)) hash0).2).length) (((voteD' (skD F R K who (startD D0).1 k) K (R + ((k : Int) % 2)) (withinV (who.getD k 0) ((3 * F + 1) - 1)) hash0).2).flatMap encA), cellC b90 38 (([(.int .i64 (0)), (.int .i64 (0)), (.int .i64 (0)), (.int .i64 (0))] : List Value) ++ hc hash0 ++ hc hash0 ++ ([(.bool false)] : List Value) ++ hc hash0)] w91)
      refine hK89 _ _ ?_
      clear hK89 K89
      refine wl_do (wants0 rfl) (fun K93 hK93 => ?_)
      refine d_storeX (vs := (([(.int .i64 (((voteD' (skD F R K who (startD D0).1 k) K (R + ((k : Int) % 2)) (withinV (who.getD k 0) ((3 * F + 1) - 1)) hash0).1).s.round)), (.int .i64 (((voteD' (skD F R K who (startD D0).1 k) K (R + ((k : Int) % 2)) (withinV (who.getD k 0) ((3 * F + 1) - 1)) hash0).1).s.step)), (.int .i64 (((voteD' (skD F R K who (startD D0).1 k) K (R + ((k : Int) % 2)) (withinV (who.getD k 0) ((3 * F + 1) - 1)) hash0).1).s.lr)), (.int .i64 (((voteD' (skD F R K who (startD D0).1 k) K (R + ((k : Int) % 2)) (withinV (who.getD k 0) ((3 * F + 1) - 1)) hash0).1).s.vr))] : List Value) ++ hc ((voteD' (skD F R K who (startD D0).1 k) K (R + ((k : Int) % 2)) (withinV (who.getD k 0) ((3 * F + 1) - 1)) hash0).1).s.locked ++ hc ((voteD' (skD F R K who (startD D0).1 k) K (R + ((k : Int) % 2)) (withinV (who.getD k 0) ((3 * F + 1) - 1)) hash0).1).s.valid ++ ([(.bool (((voteD' (skD F R K who (startD D0).1 k) K (R + ((k : Int) % 2)) (withinV (who.getD k 0) ((3 * F + 1) - 1)) hash0).1).s.decided))] : List Value) ++ hc ((voteD' (skD F R K who (startD D0).1 k) K (R + ((k : Int) % 2)) (withinV (who.getD k 0) ((3 * F + 1) - 1)) hash0).1).s.decision)) (cs' := (([(.int .i64 (((voteD' (skD F R K who (startD D0).1 k) K (R + ((k : Int) % 2)) (withinV (who.getD k 0) ((3 * F + 1) - 1)) hash0).1).s.round)), (.int .i64 (((voteD' (skD F R K who (startD D0).1 k) K (R + ((k : Int) % 2)) (withinV (who.getD k 0) ((3 * F + 1) - 1)) hash0).1).s.step)), (.int .i64 (((voteD' (skD F R K who (startD D0).1 k) K (R + ((k : Int) % 2)) (withinV (who.getD k 0) ((3 * F + 1) - 1)) hash0).1).s.lr)), (.int .i64 (((voteD' (skD F R K who (startD D0).1 k) K (R + ((k : Int) % 2)) (withinV (who.getD k 0) ((3 * F + 1) - 1)) hash0).1).s.vr))] : List Value) ++ hc ((voteD' (skD F R K who (startD D0).1 k) K (R + ((k : Int) % 2)) (withinV (who.getD k 0) ((3 * F + 1) - 1)) hash0).1).s.locked ++ hc ((voteD' (skD F R K who (startD D0).1 k) K (R + ((k : Int) % 2)) (withinV (who.getD k 0) ((3 * F + 1) - 1)) hash0).1).s.valid ++ ([(.bool (((voteD' (skD F R K who (startD D0).1 k) K (R + ((k : Int) % 2)) (withinV (who.getD k 0) ((3 * F + 1) - 1)) hash0).1).s.decided))] : List Value) ++ hc ((voteD' (skD F R K who (startD D0).1 k) K (R + ((k : Int) % 2)) (withinV (who.getD k 0) ((3 * F + 1) - 1)) hash0).1).s.decision)) rfl H92 8 rfl rfl rfl rfl (by kernel_rfl) (Nat.le_of_ble_eq_true (by kernel_rfl)) (Nat.le_of_ble_eq_true (by kernel_rfl)) (by kernel_rfl) (by kernel_rfl) ?_
      intro w94 (H95 : Sat w [restC w (fun _ => False), cellC b6 25 ([(.int .i64 (F)), (.int .i64 (1))] : List Value), cellC k23 92 (([(.int .i64 (((voteD' (skD F R K who (startD D0).1 k) K (R + ((k : Int) % 2)) (withinV (who.getD k 0) ((3 * F + 1) - 1)) hash0).1).f)), (.int .i64 (((voteD' (skD F R K who (startD D0).1 k) K (R + ((k : Int) % 2)) (withinV (who.getD k 0) ((3 * F + 1) - 1)) hash0).1).c)), (.int .i64 (((voteD' (skD F R K who (startD D0).1 k) K (R + ((k : Int) % 2)) (withinV (who.getD k 0) ((3 * F + 1) - 1)) hash0).1).epoch)), (.int .i64 (((voteD' (skD F R K who (startD D0).1 k) K (R + ((k : Int) % 2)) (withinV (who.getD k 0) ((3 * F + 1) - 1)) hash0).1).replica)), (.int .i64 (((voteD' (skD F R K who (startD D0).1 k) K (R + ((k : Int) % 2)) (withinV (who.getD k 0) ((3 * F + 1) - 1)) hash0).1).s.round)), (.int .i64 (((voteD' (skD F R K who (startD D0).1 k) K (R + ((k : Int) % 2)) (withinV (who.getD k 0) ((3 * F + 1) - 1)) hash0).1).s.step)), (.int .i64 (((voteD' (skD F R K who (startD D0).1 k) K (R + ((k : Int) % 2)) (withinV (who.getD k 0) ((3 * F + 1) - 1)) hash0).1).s.lr)), (.int .i64 (((voteD' (skD F R K who (startD D0).1 k) K (R + ((k : Int) % 2)) (withinV (who.getD k 0) ((3 * F + 1) - 1)) hash0).1).s.vr))] : List Value) ++ hc ((voteD' (skD F R K who (startD D0).1 k) K (R + ((k : Int) % 2)) (withinV (who.getD k 0) ((3 * F + 1) - 1)) hash0).1).s.locked ++ hc ((voteD' (skD F R K who (startD D0).1 k) K (R + ((k : Int) % 2)) (withinV (who.getD k 0) ((3 * F + 1) - 1)) hash0).1).s.valid ++ ([(.bool (((voteD' (skD F R K who (startD D0).1 k) K (R + ((k : Int) % 2)) (withinV (who.getD k 0) ((3 * F + 1) - 1)) hash0).1).s.decided))] : List Value) ++ hc ((voteD' (skD F R K who (startD D0).1 k) K (R + ((k : Int) % 2)) (withinV (who.getD k 0) ((3 * F + 1) - 1)) hash0).1).s.decision ++ ([(.pointer (some ⟨t24, 0, none⟩)), (.map (some pb29)), (.bool (((voteD' (skD F R K who (startD D0).1 k) K (R + ((k : Int) % 2)) (withinV (who.getD k 0) ((3 * F + 1) - 1)) hash0).1).wv)), (.bool (((voteD' (skD F R K who (startD D0).1 k) K (R + ((k : Int) % 2)) (withinV (who.getD k 0) ((3 * F + 1) - 1)) hash0).1).sp)), (.bool (((voteD' (skD F R K who (startD D0).1 k) K (R + ((k : Int) % 2)) (withinV (who.getD k 0) ((3 * F + 1) - 1)) hash0).1).sc))] : List Value)), talC t24 hb25 cb26 ab27 lb28 ((voteD' (skD F R K who (startD D0).1 k) K (R + ((k : Int) % 2)) (withinV (who.getD k 0) ((3 * F + 1) - 1)) hash0).1).f ((voteD' (skD F R K who (startD D0).1 k) K (R + ((k : Int) % 2)) (withinV (who.getD k 0) ((3 * F + 1) - 1)) hash0).1).c ((voteD' (skD F R K who (startD D0).1 k) K (R + ((k : Int) % 2)) (withinV (who.getD k 0) ((3 * F + 1) - 1)) hash0).1).L, mapC pb29 (Value.int .i64) propV ((voteD' (skD F R K who (startD D0).1 k) K (R + ((k : Int) % 2)) (withinV (who.getD k 0) ((3 * F + 1) - 1)) hash0).1).P, rowC 45 35 (.slice a37 (((startD D0).2).length) c38) (((startD D0).2).length) (((startD D0).2).flatMap encA), mapC b44 (Value.int .i64) Value.bool (putM (skM F who k) (withinV (who.getD k 0) ((3 * F + 1) - 1) : Int) true), rowC 45 35 (.slice a80 (((voteD' (skD F R K who (startD D0).1 k) K (R + ((k : Int) % 2)) (withinV (who.getD k 0) ((3 * F + 1) - 1)) hash0).2).length) c81) (((voteD' (skD F R K who (startD D0).1 k) K (R + ((k : Int) % 2)) (withinV (who.getD k 0) ((3 * F + 1) - 1)) hash0).2).length) (((voteD' (skD F R K who (startD D0).1 k) K (R + ((k : Int) % 2)) (withinV (who.getD k 0) ((3 * F + 1) - 1)) hash0).2).flatMap encA), cellC b90 38 (([(.int .i64 (((voteD' (skD F R K who (startD D0).1 k) K (R + ((k : Int) % 2)) (withinV (who.getD k 0) ((3 * F + 1) - 1)) hash0).1).s.round)), (.int .i64 (((voteD' (skD F R K who (startD D0).1 k) K (R + ((k : Int) % 2)) (withinV (who.getD k 0) ((3 * F + 1) - 1)) hash0).1).s.step)), (.int .i64 (((voteD' (skD F R K who (startD D0).1 k) K (R + ((k : Int) % 2)) (withinV (who.getD k 0) ((3 * F + 1) - 1)) hash0).1).s.lr)), (.int .i64 (((voteD' (skD F R K who (startD D0).1 k) K (R + ((k : Int) % 2)) (withinV (who.getD k 0) ((3 * F + 1) - 1)) hash0).1).s.vr))] : List Value) ++ hc ((voteD' (skD F R K who (startD D0).1 k) K (R + ((k : Int) % 2)) (withinV (who.getD k 0) ((3 * F + 1) - 1)) hash0).1).s.locked ++ hc ((voteD' (skD F R K who (startD D0).1 k) K (R + ((k : Int) % 2)) (withinV (who.getD k 0) ((3 * F + 1) - 1)) hash0).1).s.valid ++ ([(.bool (((voteD' (skD F R K who (startD D0).1 k) K (R + ((k : Int) % 2)) (withinV (who.getD k 0) ((3 * F + 1) - 1)) hash0).1).s.decided))] : List Value) ++ hc ((voteD' (skD F R K who (startD D0).1 k) K (R + ((k : Int) % 2)) (withinV (who.getD k 0) ((3 * F + 1) - 1)) hash0).1).s.decision)] w94)
      refine hK93 _ _ ?_
      clear hK93 K93
      refine w_nil ?_
      refine then_normal ?_
      refine w_seq ?_
      refine w_lit ?_
      refine wl_pure (wants0 rfl) (d := 76) (v := (.pointer (some ⟨b90, 0, none⟩))) rfl (by kernel_rfl) ?_
      refine wl_pure (wants0 rfl) (d := 77) (v := (.int .i64 (((voteD' (skD F R K who (startD D0).1 k) K (R + ((k : Int) % 2)) (withinV (who.getD k 0) ((3 * F + 1) - 1)) hash0).1).s.round))) rfl (e_load1 rfl (by kernel_rfl) (H95.cell 8 rfl (by kernel_rfl))) ?_
      refine wl_pure (wants0 rfl) (d := 78) (v := (.int .i64 (R))) rfl (by kernel_rfl) ?_
      refine wl_pure (wants0 rfl) (d := 79) (v := (.bool (decide ((((voteD' (skD F R K who (startD D0).1 k) K (R + ((k : Int) % 2)) (withinV (who.getD k 0) ((3 * F + 1) - 1)) hash0).1).s.round) ≥ R)))) rfl (by kernel_rfl) ?_
      refine wl_pure (wants0 rfl) (d := 80) (v := (.map (some b44))) rfl (by kernel_rfl) ?_
      refine wl_pure (wants0 rfl) (d := 81) (v := (.int .i64 ((((putM (skM F who k) (withinV (who.getD k 0) ((3 * F + 1) - 1) : Int) true)).length : Int)))) rfl (e_len (kt := 3) (et := 4) (by kernel_rfl) (H95.at 6 rfl) rfl) ?_
      refine wl_pure (wants0 rfl) (d := 82) (v := (.pointer (some ⟨b6, 0, none⟩))) rfl (by kernel_rfl) ?_
      refine wl_pure (wants0 rfl) (d := 83) (v := (.int .i64 (F))) rfl (e_load1 rfl (by kernel_rfl) (H95.cell 1 rfl rfl)) ?_
      refine wl_pure (wants0 rfl) (d := 84) (v := (.int .i64 (F + 1))) rfl (e_int (z := F + 1) (by kernel_rfl) (IntWalk.i64_in _ (by omega))) ?_
      refine wl_pure (wants0 rfl) (d := 85) (v := (.bool (decide ((((putM (skM F who k) (withinV (who.getD k 0) ((3 * F + 1) - 1) : Int) true)).length : Int) ≥ (F + 1))))) rfl (by kernel_rfl) ?_
      refine wl_pure (wants0 rfl) (d := 86) (v := (.bool (!((decide ((((voteD' (skD F R K who (startD D0).1 k) K (R + ((k : Int) % 2)) (withinV (who.getD k 0) ((3 * F + 1) - 1)) hash0).1).s.round) ≥ R)) == (decide ((((putM (skM F who k) (withinV (who.getD k 0) ((3 * F + 1) - 1) : Int) true)).length : Int) ≥ (F + 1))))))) rfl (by kernel_rfl) ?_
      refine wl_pure (wants0 rfl) (d := 87) (v := (.bool (!((decide ((((voteD' (skD F R K who (startD D0).1 k) K (R + ((k : Int) % 2)) (withinV (who.getD k 0) ((3 * F + 1) - 1)) hash0).1).s.round) ≥ R)) == (decide ((((putM (skM F who k) (withinV (who.getD k 0) ((3 * F + 1) - 1) : Int) true)).length : Int) ≥ (F + 1))))))) rfl (by kernel_rfl) ?_
      have b97 : (!((decide ((((voteD' (skD F R K who (startD D0).1 k) K (R + ((k : Int) % 2)) (withinV (who.getD k 0) ((3 * F + 1) - 1)) hash0).1).s.round) ≥ R)) == (decide ((((putM (skM F who k) (withinV (who.getD k 0) ((3 * F + 1) - 1) : Int) true)).length : Int) ≥ (F + 1))))) = false := by (rw [hSk.r]; rfl)
      refine wl_know 87 (.bool false) (congrArg Value.bool b97) ?_
      refine wl_pure (wantsY 11 87 false rfl (by kernel_rfl) rfl (by kernel_rfl)) (d := 88) (v := (.pointer (some ⟨b90, 0, none⟩))) rfl (by kernel_rfl) ?_
      refine wl_pure (wantsY 11 87 false rfl (by kernel_rfl) rfl (by kernel_rfl)) (d := 89) (v := (.int .i64 (((voteD' (skD F R K who (startD D0).1 k) K (R + ((k : Int) % 2)) (withinV (who.getD k 0) ((3 * F + 1) - 1)) hash0).1).s.round))) rfl (e_load1 rfl (by kernel_rfl) (H95.cell 8 rfl (by kernel_rfl))) ?_
      refine wl_pure (wantsY 11 87 false rfl (by kernel_rfl) rfl (by kernel_rfl)) (d := 90) (v := (.int .i64 (R))) rfl (by kernel_rfl) ?_
      refine wl_pure (wantsY 11 87 false rfl (by kernel_rfl) rfl (by kernel_rfl)) (d := 91) (v := (.int .i64 (R + 1))) rfl (e_int (z := R + 1) (by kernel_rfl) (IntWalk.i64_in _ (by omega))) ?_
      refine wl_pure (wantsY 11 87 false rfl (by kernel_rfl) rfl (by kernel_rfl)) (d := 92) (v := (.bool (decide ((((voteD' (skD F R K who (startD D0).1 k) K (R + ((k : Int) % 2)) (withinV (who.getD k 0) ((3 * F + 1) - 1)) hash0).1).s.round) > (R + 1))))) rfl (by kernel_rfl) ?_
      refine wl_pure (wants0 rfl) (d := 93) (v := (.bool (decide ((((voteD' (skD F R K who (startD D0).1 k) K (R + ((k : Int) % 2)) (withinV (who.getD k 0) ((3 * F + 1) - 1)) hash0).1).s.round) > (R + 1))))) rfl (by kernel_rfl) ?_
      refine wl_pure (wants0 rfl) (d := 94) (v := (.bool (decide ((((voteD' (skD F R K who (startD D0).1 k) K (R + ((k : Int) % 2)) (withinV (who.getD k 0) ((3 * F + 1) - 1)) hash0).1).s.round) > (R + 1))))) rfl (by kernel_rfl) ?_
      have b98 : (decide ((((voteD' (skD F R K who (startD D0).1 k) K (R + ((k : Int) % 2)) (withinV (who.getD k 0) ((3 * F + 1) - 1)) hash0).1).s.round) > (R + 1))) = false := by (exact decide_eq_false (by have := hSk.m; show ¬ _; exact Int.not_lt.2 this))
      refine wl_know 94 (.bool false) (congrArg Value.bool b98) ?_
      refine wl_pure (wantsY 18 94 false rfl (by kernel_rfl) rfl (by kernel_rfl)) (d := 95) (v := (.pointer (some ⟨b90, 2, none⟩))) rfl (by kernel_rfl) ?_
      refine wl_pure (wantsY 18 94 false rfl (by kernel_rfl) rfl (by kernel_rfl)) (d := 96) (v := (.int .i64 (((voteD' (skD F R K who (startD D0).1 k) K (R + ((k : Int) % 2)) (withinV (who.getD k 0) ((3 * F + 1) - 1)) hash0).1).s.lr))) rfl (e_load1 rfl (by kernel_rfl) (H95.cell 8 rfl (by kernel_rfl))) ?_
      refine wl_pure (wantsY 18 94 false rfl (by kernel_rfl) rfl (by kernel_rfl)) (d := 97) (v := (.bool (!(decide ((((voteD' (skD F R K who (startD D0).1 k) K (R + ((k : Int) % 2)) (withinV (who.getD k 0) ((3 * F + 1) - 1)) hash0).1).s.lr) = (-1)))))) rfl (by kernel_rfl) ?_
      refine wl_pure (wants0 rfl) (d := 98) (v := (.bool (!(decide ((((voteD' (skD F R K who (startD D0).1 k) K (R + ((k : Int) % 2)) (withinV (who.getD k 0) ((3 * F + 1) - 1)) hash0).1).s.lr) = (-1)))))) rfl (by kernel_rfl) ?_
      refine w_nil ?_
      refine then_normal ?_
      have b99 : (!(decide ((((voteD' (skD F R K who (startD D0).1 k) K (R + ((k : Int) % 2)) (withinV (who.getD k 0) ((3 * F + 1) - 1)) hash0).1).s.lr) = (-1)))) = false := by (rw [hSk.l]; rfl)
      refine wp_know 98 (.bool false) (congrArg Value.bool b99) ?_
      have g100 := bnot_false b99
      have g101 := of_decide_eq_true g100
      refine wp_iff rfl ?_
      refine w_skip ?_
      refine blk_normal ?_
      refine then_normal ?_
      refine w_lit ?_
      refine wl_pure (wants0 rfl) (d := 51) (v := (.int .i64 ((k : Int)))) rfl (by kernel_rfl) ?_
      refine wl_pure (wants0 rfl) (d := 52) (v := (.int .i64 ((k : Int) + 1))) rfl (e_int (z := (k : Int) + 1) (by kernel_rfl) (IntWalk.i64_in _ (by omega))) ?_
      refine wl_pure (wants0 rfl) (d := 14) (v := (.int .i64 ((k : Int) + 1))) rfl (by kernel_rfl) ?_
      refine w_nil ?_
      have H102 : Sat w [restC w (fun _ => False), cellC b6 25 ([(.int .i64 (F)), (.int .i64 (1))] : List Value), cellC k23 92 (([(.int .i64 ((skD F R K who (startD D0).1 (k + 1)).f)), (.int .i64 ((skD F R K who (startD D0).1 (k + 1)).c)), (.int .i64 ((skD F R K who (startD D0).1 (k + 1)).epoch)), (.int .i64 ((skD F R K who (startD D0).1 (k + 1)).replica)), (.int .i64 ((skD F R K who (startD D0).1 (k + 1)).s.round)), (.int .i64 ((skD F R K who (startD D0).1 (k + 1)).s.step)), (.int .i64 ((skD F R K who (startD D0).1 (k + 1)).s.lr)), (.int .i64 ((skD F R K who (startD D0).1 (k + 1)).s.vr))] : List Value) ++ hc (skD F R K who (startD D0).1 (k + 1)).s.locked ++ hc (skD F R K who (startD D0).1 (k + 1)).s.valid ++ ([(.bool ((skD F R K who (startD D0).1 (k + 1)).s.decided))] : List Value) ++ hc (skD F R K who (startD D0).1 (k + 1)).s.decision ++ ([(.pointer (some ⟨t24, 0, none⟩)), (.map (some pb29)), (.bool ((skD F R K who (startD D0).1 (k + 1)).wv)), (.bool ((skD F R K who (startD D0).1 (k + 1)).sp)), (.bool ((skD F R K who (startD D0).1 (k + 1)).sc))] : List Value)), talC t24 hb25 cb26 ab27 lb28 (skD F R K who (startD D0).1 (k + 1)).f (skD F R K who (startD D0).1 (k + 1)).c (skD F R K who (startD D0).1 (k + 1)).L, mapC pb29 (Value.int .i64) propV (skD F R K who (startD D0).1 (k + 1)).P, rowC 45 35 (.slice a37 (((startD D0).2).length) c38) (((startD D0).2).length) (((startD D0).2).flatMap encA), mapC b44 (Value.int .i64) Value.bool (skM F who (k + 1)), rowC 45 35 (.slice a80 (((voteD' (skD F R K who (startD D0).1 k) K (R + ((k : Int) % 2)) (withinV (who.getD k 0) ((3 * F + 1) - 1)) hash0).2).length) c81) (((voteD' (skD F R K who (startD D0).1 k) K (R + ((k : Int) % 2)) (withinV (who.getD k 0) ((3 * F + 1) - 1)) hash0).2).length) (((voteD' (skD F R K who (startD D0).1 k) K (R + ((k : Int) % 2)) (withinV (who.getD k 0) ((3 * F + 1) - 1)) hash0).2).flatMap encA), cellC b90 38 (([(.int .i64 (((voteD' (skD F R K who (startD D0).1 k) K (R + ((k : Int) % 2)) (withinV (who.getD k 0) ((3 * F + 1) - 1)) hash0).1).s.round)), (.int .i64 (((voteD' (skD F R K who (startD D0).1 k) K (R + ((k : Int) % 2)) (withinV (who.getD k 0) ((3 * F + 1) - 1)) hash0).1).s.step)), (.int .i64 (((voteD' (skD F R K who (startD D0).1 k) K (R + ((k : Int) % 2)) (withinV (who.getD k 0) ((3 * F + 1) - 1)) hash0).1).s.lr)), (.int .i64 (((voteD' (skD F R K who (startD D0).1 k) K (R + ((k : Int) % 2)) (withinV (who.getD k 0) ((3 * F + 1) - 1)) hash0).1).s.vr))] : List Value) ++ hc ((voteD' (skD F R K who (startD D0).1 k) K (R + ((k : Int) % 2)) (withinV (who.getD k 0) ((3 * F + 1) - 1)) hash0).1).s.locked ++ hc ((voteD' (skD F R K who (startD D0).1 k) K (R + ((k : Int) % 2)) (withinV (who.getD k 0) ((3 * F + 1) - 1)) hash0).1).s.valid ++ ([(.bool (((voteD' (skD F R K who (startD D0).1 k) K (R + ((k : Int) % 2)) (withinV (who.getD k 0) ((3 * F + 1) - 1)) hash0).1).s.decided))] : List Value) ++ hc ((voteD' (skD F R K who (startD D0).1 k) K (R + ((k : Int) % 2)) (withinV (who.getD k 0) ((3 * F + 1) - 1)) hash0).1).s.decision)] w94 := H95.cast (by kernel_rfl)
      have H103 : Sat w [restC w (fun _ => False), cellC b6 25 ([(.int .i64 (F)), (.int .i64 (1))] : List Value), cellC k23 92 (([(.int .i64 ((skD F R K who (startD D0).1 (k + 1)).f)), (.int .i64 ((skD F R K who (startD D0).1 (k + 1)).c)), (.int .i64 ((skD F R K who (startD D0).1 (k + 1)).epoch)), (.int .i64 ((skD F R K who (startD D0).1 (k + 1)).replica)), (.int .i64 ((skD F R K who (startD D0).1 (k + 1)).s.round)), (.int .i64 ((skD F R K who (startD D0).1 (k + 1)).s.step)), (.int .i64 ((skD F R K who (startD D0).1 (k + 1)).s.lr)), (.int .i64 ((skD F R K who (startD D0).1 (k + 1)).s.vr))] : List Value) ++ hc (skD F R K who (startD D0).1 (k + 1)).s.locked ++ hc (skD F R K who (startD D0).1 (k + 1)).s.valid ++ ([(.bool ((skD F R K who (startD D0).1 (k + 1)).s.decided))] : List Value) ++ hc (skD F R K who (startD D0).1 (k + 1)).s.decision ++ ([(.pointer (some ⟨t24, 0, none⟩)), (.map (some pb29)), (.bool ((skD F R K who (startD D0).1 (k + 1)).wv)), (.bool ((skD F R K who (startD D0).1 (k + 1)).sp)), (.bool ((skD F R K who (startD D0).1 (k + 1)).sc))] : List Value)), talC t24 hb25 cb26 ab27 lb28 (skD F R K who (startD D0).1 (k + 1)).f (skD F R K who (startD D0).1 (k + 1)).c (skD F R K who (startD D0).1 (k + 1)).L, mapC pb29 (Value.int .i64) propV (skD F R K who (startD D0).1 (k + 1)).P, rowC 45 35 (.slice a37 (((startD D0).2).length) c38) (((startD D0).2).length) (((startD D0).2).flatMap encA), mapC b44 (Value.int .i64) Value.bool (skM F who (k + 1))] w94 := H102.pick [0, 1, 2, 3, 4, 5, 6] (by decide)
      refine round_back ?_ _ ⟨(k + 1), (show ((.int .i64 ((k : Int) + 1)) : Value) = _ by first | rfl | go_num), (by omega), H103, rfl⟩ (by omega)
      exact (same_upd rfl (same_upd rfl (same_upd rfl (same_upd rfl (same_upd rfl (same_upd rfl (same_upd rfl (same_upd rfl (same_upd rfl (same_upd rfl (same_upd rfl (same_upd rfl (same_upd rfl (same_upd rfl (same_upd rfl (same_upd rfl (same_upd rfl (same_upd rfl (same_upd rfl (same_upd rfl (same_upd rfl (same_upd rfl (same_upd rfl (same_upd rfl (same_upd rfl (same_upd rfl (same_upd rfl (same_upd rfl (same_upd rfl (same_upd rfl (same_upd rfl (same_upd rfl (same_upd rfl (same_upd rfl (same_upd rfl (same_upd rfl (same_upd rfl (same_upd rfl (same_upd rfl (same_upd rfl (same_upd rfl (same_upd rfl (same_upd rfl (same_upd rfl (same_upd rfl (same_upd rfl (same_upd rfl (same_upd rfl (same_upd rfl (same_upd rfl (same_upd rfl (same_upd rfl (same_upd rfl (same_upd rfl (same_upd rfl (same_upd rfl (same_upd rfl (same_ovr2 rfl (same_upd rfl (same_ovr))))))))))))))))))))))))))))))))))))))))))))))))))))))))))))
    · refine wp_know 50 (.bool false) (congrArg Value.bool b60) ?_
      refine wp_iff rfl ?_
      refine w_exit ?_
      refine then_exit ?_
      refine back_exit ?_
      refine blk_hit ?_
      refine then_normal ?_
      refine w_seq ?_
      refine w_lit ?_
      refine wl_do (wants0 rfl) (fun K104 hK104 => ?_)
      refine d_call (d := 99) rfl (by kernel_rfl) (wakes_any w57) ?_
      rintro _ w105 ⟨rfl, u107⟩
      have H106 := H58.keepU u107
      refine ⟨_, rfl, ?_⟩
      refine hK104 _ _ ?_
      clear hK104 K104
      refine wl_pure (wants0 rfl) (d := 8) (v := (.bool true)) rfl (by kernel_rfl) ?_
      refine w_nil ?_
      refine then_normal ?_
      refine w_ret ?_
      refine end1 rfl (res_tmp (v := (.bool true)) rfl) ?_
      exact ⟨rfl, H106.upd 0 rfl [] (fun _ h => h.elim)⟩

end Go.Proofs.Ythjmbhneifjeeaa
