/- WHAT IS PROVED: the walk of CoreAgrees. Conditions: stated with each. -/
import Derived.Test.YthjmbhneifjeeaaWakes14
import Derived.Test.YthjmbhneifjeeaaCut14
import Derived.Test.YthjmbhneifjeeaaSpeak14
import Derived.Test.YthjmbhneifjeeaaAgrees14M
namespace Go.Proofs.Ythjmbhneifjeeaa
open Go.RowKit

set_option maxRecDepth 100000 in
set_option maxHeartbeats 1000000 in
theorem agrees14_walk (w : World) (f epoch F : Int) (va : Option Addr) (vc : Nat) (steps : List Int) (hsteps : IntsAt w (.slice va steps.length vc) steps) (vb : Option Addr) (vd : Nat) (lies : List InputD) (hlies : InputsAt w (.slice vb lies.length vd) lies) (hll : lies.length ≤ 9223372036854775807) (hF : F = 1 + withinV f 2) (hf : 1 ≤ F ∧ F ≤ 2) :
    Calls Try.prog 11 #[(.int .i64 (f)), (.slice va steps.length vc), (.slice vb lies.length vd), (.int .i64 (epoch))] w fun e w' => e = .returned (.bool true) ∧ Upd [] w w' := by
  have H := Sat.start0 w
  have hwe := within_lim epoch 9 (by omega)
  obtain ⟨E, hE⟩ : ∃ E, withinV epoch 9 = E := ⟨_, rfl⟩
  rw [hE] at hwe
  refine calls_fr Try.func11 rfl 279 rfl (Nat.le_of_ble_eq_true rfl) ?_
  refine w_seq ?_
  refine w_lit ?_
  refine wl_pure (wants0 rfl) (d := 8) (v := (.bool false)) rfl (by kernel_rfl) ?_
  refine w_nil ?_
  refine then_normal ?_
  refine w_seq ?_
  refine w_lit ?_
  refine wl_pure (wants0 rfl) (d := 26) (v := (.int .i64 (f))) rfl (by kernel_rfl) ?_
  refine wl_do (wants0 rfl) (fun K1 hK1 => ?_)
  refine d_call (d := 27) rfl (by kernel_rfl) (withinBig_any w f 2 (by omega)) ?_
  rintro _ w2 ⟨rfl, u4⟩
  have H3 := H.keepU u4
  refine ⟨_, rfl, ?_⟩
  refine hK1 _ _ ?_
  clear hK1 K1
  refine wl_pure (wants0 rfl) (d := 28) (v := (.int .i64 (F))) rfl (e_int (z := 1 + (withinV f 2)) (by kernel_rfl) ((by rw [IntWalk.i64_in _ (by omega)]; exact hF.symm))) ?_
  refine wl_pure (wants0 rfl) (d := 29) (v := (.agg ⟨([(.int .i64 (F)), (.int .i64 (1))] : List Value)⟩)) rfl (by kernel_rfl) ?_
  refine wl_do (wants0 rfl) (fun K5 hK5 => ?_)
  refine d_alloc (zs := ([(.int .i64 (0)), (.int .i64 (0))] : List Value)) (z := (.agg ⟨([(.int .i64 (0)), (.int .i64 (0))] : List Value)⟩)) rfl H3 (by kernel_rfl) (by kernel_rfl) ?_
  intro b6 w7 (H8 : Sat w [restC w (fun _ => False), cellC b6 25 ([(.int .i64 (0)), (.int .i64 (0))] : List Value)] w7)
  refine hK5 _ _ ?_
  clear hK5 K5
  refine wl_do (wants0 rfl) (fun K9 hK9 => ?_)
  refine d_storeX (vs := ([(.int .i64 (F)), (.int .i64 (1))] : List Value)) (cs' := ([(.int .i64 (F)), (.int .i64 (1))] : List Value)) rfl H8 1 rfl rfl rfl rfl (by kernel_rfl) (Nat.le_of_ble_eq_true (by kernel_rfl)) (Nat.le_of_ble_eq_true (by kernel_rfl)) (by kernel_rfl) (by kernel_rfl) ?_
  intro w10 (H11 : Sat w [restC w (fun _ => False), cellC b6 25 ([(.int .i64 (F)), (.int .i64 (1))] : List Value)] w10)
  refine hK9 _ _ ?_
  clear hK9 K9
  refine w_nil ?_
  refine then_normal ?_
  refine w_seq ?_
  refine w_lit ?_
  refine wl_pure (wants0 rfl) (d := 30) (v := (.agg ⟨([(.int .i64 (F)), (.int .i64 (1))] : List Value)⟩)) rfl (e_loadN (vs := ([(.int .i64 (F)), (.int .i64 (1))] : List Value)) rfl (by kernel_rfl) (by kernel_rfl) (by exact Nat.le_of_ble_eq_true (by kernel_rfl)) (H11.at 1 rfl) (by kernel_rfl)) ?_
  refine wl_do (wants0 rfl) (fun K13 hK13 => ?_)
  refine d_call (d := 31) rfl (by kernel_rfl) (refN_any w10 F 1 (by omega)) ?_
  rintro _ w14 ⟨rfl, u16⟩
  have H15 := H11.keepU u16
  refine ⟨_, rfl, ?_⟩
  refine hK13 _ _ ?_
  clear hK13 K13
  refine wl_pure (wants0 rfl) (d := 10) (v := (.int .i64 (3 * F + 1))) rfl (by kernel_rfl) ?_
  refine w_nil ?_
  refine then_normal ?_
  refine w_seq ?_
  refine w_lit ?_
  refine wl_pure (wants0 rfl) (d := 32) (v := (.int .i64 (epoch))) rfl (by kernel_rfl) ?_
  refine wl_do (wants0 rfl) (fun K17 hK17 => ?_)
  refine d_call (d := 33) rfl (by kernel_rfl) (calls_conv (withinBig_any w14 epoch 9 (by omega)) (congrArg (Value.int .i64) hE)) ?_
  rintro _ w18 ⟨rfl, u20⟩
  have H19 := H15.keepU u20
  refine ⟨_, rfl, ?_⟩
  refine hK17 _ _ ?_
  clear hK17 K17
  refine wl_pure (wants0 rfl) (d := 3) (v := (.int .i64 (E))) rfl (by kernel_rfl) ?_
  refine w_nil ?_
  refine then_normal ?_
  refine w_seq ?_
  refine w_lit ?_
  refine wl_pure (wants0 rfl) (d := 11) (v := (.slice none 0 0)) rfl (by kernel_rfl) ?_
  refine w_nil ?_
  refine then_normal ?_
  refine w_seq ?_
  refine w_lit ?_
  refine wl_pure (wants0 rfl) (d := 12) (v := (.slice none 0 0)) rfl (by kernel_rfl) ?_
  refine w_nil ?_
  refine then_normal ?_
  refine w_seq ?_
  refine w_lit ?_
  refine wl_pure (wants0 rfl) (d := 34) (v := (.int .i64 (3 * F + 1))) rfl (by kernel_rfl) ?_
  refine wl_pure (wants0 rfl) (d := 35) (v := (.pointer (some ⟨b6, 0, none⟩))) rfl (by kernel_rfl) ?_
  refine wl_pure (wants0 rfl) (d := 36) (v := (.int .i64 (F))) rfl (e_load1 rfl (by kernel_rfl) (H19.cell 1 rfl rfl)) ?_
  refine wl_pure (wants0 rfl) (d := 37) (v := (.int .i64 (2 * F + 1))) rfl (e_int (z := (3 * F + 1) - F) (by kernel_rfl) ((by rw [IntWalk.i64_in _ (by omega)]; omega))) ?_
  refine wl_pure (wants0 rfl) (d := 13) (v := (.int .i64 (2 * F + 1))) rfl (by kernel_rfl) ?_
  refine w_nil ?_
  refine then_normal ?_
  refine w_seq ?_
  refine w_seq ?_
  refine w_lit ?_
  refine wl_pure (wants0 rfl) (d := 14) (v := (.int .i64 (0))) rfl (by kernel_rfl) ?_
  refine w_nil ?_
  refine then_normal ?_
  refine w_block ?_
  have Hn0 := (H19.famNil (ck := coreK)).addNil 27 1
  have Hn := Hn0.addNil 52 37
  have H21 : Sat w [famC coreK ([] : List CoreB) ([] : List CoreD), restC w (fun _ => False), cellC b6 25 ([(.int .i64 (F)), (.int .i64 (1))] : List Value), rowC 27 1 (.slice none ([] : List CoreB).length 0) (([] : List CoreB).length) (([] : List CoreB).flatMap encP), rowC 52 37 (.slice none ([] : List SaidD).length 0) (([] : List SaidD).length) (([] : List SaidD).flatMap encS)] w18 := Hn.pick [2, 0, 1, 3, 4] (by decide)
  refine wp_round [8, 11, 12, 14, 15, 16, 38, 39, 40, 41, 42, 43, 44, 45, 46, 47, 48, 49, 50, 51, 52, 53, 54, 55, 56, 57, 58, 59, 60, 61, 62, 63, 64, 65, 66, 67] (fun F_ W_ m_ => ∃ (bs : List CoreB) (Ds : List CoreD) (all : List SaidD) (a1 : Option Addr) (q1 : Nat) (a2 : Option Addr) (q2 : Nat), F_ 14 = (.int .i64 ((Ds.length : Int))) ∧ F_ 11 = (.slice a1 bs.length q1) ∧ F_ 12 = (.slice a2 all.length q2) ∧ (AgE F Ds all) ∧ ((Ds.length : Int) ≤ 2 * F + 1) ∧ (all.length ≤ Ds.length * 8388621) ∧ Sat w [famC coreK bs Ds, restC w (fun _ => False), cellC b6 25 ([(.int .i64 (F)), (.int .i64 (1))] : List Value), rowC 27 1 (.slice a1 bs.length q1) bs.length (bs.flatMap encP), rowC 52 37 (.slice a2 all.length q2) all.length (all.flatMap encS)] W_ ∧ m_ = (2 * F + 1 - (Ds.length : Int)).toNat) _ ⟨[], [], [], none, 0, none, 0, (show ((.int .i64 (0)) : Value) = _ by first | rfl | go_num), (by first | rfl | go_num), (by first | rfl | go_num), (AgE.nil F), (by simp; omega), (by simp), H21, rfl⟩ ?_
  rintro g22 w23 _ ⟨bs, Ds, all, a1, q1, a2, q2, v25, v26, v27, hAg, hDl, hal, H24, rfl⟩
  refine wp_know 14 _ v25 ?_
  refine wp_know 11 _ v26 ?_
  refine wp_know 12 _ v27 ?_
  refine w_seq ?_
  refine w_seq ?_
  refine w_lit ?_
  refine wl_pure (wants0 rfl) (d := 38) (v := (.int .i64 ((Ds.length : Int)))) rfl (by kernel_rfl) ?_
  refine wl_pure (wants0 rfl) (d := 39) (v := (.int .i64 (2 * F + 1))) rfl (by kernel_rfl) ?_
  refine wl_pure (wants0 rfl) (d := 40) (v := (.bool (decide ((Ds.length : Int) < (2 * F + 1))))) rfl (by kernel_rfl) ?_
  refine w_nil ?_
  refine then_normal ?_
  refine (bsplit (decide ((Ds.length : Int) < (2 * F + 1)))).elim (fun b29 => ?_) (fun b29 => ?_)
  · have g30 := of_decide_eq_true b29
    refine wp_know 40 (.bool true) (congrArg Value.bool b29) ?_
    have g31 := of_decide_eq_true b29
    refine wp_ift rfl ?_
    refine w_skip ?_
    refine then_normal ?_
    refine w_seq ?_
    refine w_block ?_
    refine w_seq ?_
    have hok : newOk F 1 E (Ds.length : Int) = true := by simp [newOk, confB, inB]; omega
    obtain ⟨D0, hD0⟩ : ∃ D, newD F 1 E (Ds.length : Int) = D := ⟨_, rfl⟩
    have C0 : CI D0 := hD0 ▸ CI.new hok
    obtain ⟨D1, A1, hst⟩ : ∃ D1 A1, startD D0 = (D1, A1) := ⟨_, _, rfl⟩
    have hlA : A1.length ≤ 8388621 := by have q := start_le C0; rwa [hst] at q
    have hbl : bs.length = Ds.length := famC_len (H24.at 0 rfl)
    refine w_lit ?_
    refine wl_pure (wants0 rfl) (d := 44) (v := (.agg ⟨([(.int .i64 (F)), (.int .i64 (1))] : List Value)⟩)) rfl (e_loadN (vs := ([(.int .i64 (F)), (.int .i64 (1))] : List Value)) rfl (by kernel_rfl) (by kernel_rfl) (by exact Nat.le_of_ble_eq_true (by kernel_rfl)) (H24.at 2 rfl) (by kernel_rfl)) ?_
    refine wl_pure (wants0 rfl) (d := 45) (v := (.int .i64 (E))) rfl (by kernel_rfl) ?_
    refine wl_pure (wants0 rfl) (d := 46) (v := (.int .i64 ((Ds.length : Int)))) rfl (by kernel_rfl) ?_
    refine wl_do (wants0 rfl) (fun K32 hK32 => ?_)
    refine d_call (d := 47) rfl (by kernel_rfl) (coreNew_any w23 F 1 E (Ds.length : Int) (by omega)) ?_
    rintro _ w33 (⟨_, k38, t39, hb40, cb41, ab42, lb43, pb44, rfl, k36, u35, q37⟩ | ⟨hno, _⟩)
    rotate_left
    · exact absurd hno (by rw [hok]; simp)
    rw [hD0] at k36 q37
    have H45 : Sat w [famC coreK bs Ds, restC w (fun _ => False), cellC b6 25 ([(.int .i64 (F)), (.int .i64 (1))] : List Value), rowC 27 1 (.slice a1 bs.length q1) bs.length (bs.flatMap encP), rowC 52 37 (.slice a2 all.length q2) all.length (all.flatMap encS), coreC k38 t39 hb40 cb41 ab42 lb43 pb44 D0] w33 := H24.addU u35 k36 q37
    have H34 : Sat w [famC coreK bs Ds, restC w (fun _ => False), cellC b6 25 ([(.int .i64 (F)), (.int .i64 (1))] : List Value), rowC 27 1 (.slice a1 bs.length q1) bs.length (bs.flatMap encP), rowC 52 37 (.slice a2 all.length q2) all.length (all.flatMap encS), cellC k38 92 (([(.int .i64 (D0.f)), (.int .i64 (D0.c)), (.int .i64 (D0.epoch)), (.int .i64 (D0.replica)), (.int .i64 (D0.s.round)), (.int .i64 (D0.s.step)), (.int .i64 (D0.s.lr)), (.int .i64 (D0.s.vr))] : List Value) ++ hc D0.s.locked ++ hc D0.s.valid ++ ([(.bool (D0.s.decided))] : List Value) ++ hc D0.s.decision ++ ([(.pointer (some ⟨t39, 0, none⟩)), (.map (some pb44)), (.bool (D0.wv)), (.bool (D0.sp)), (.bool (D0.sc))] : List Value)), talC t39 hb40 cb41 ab42 lb43 D0.f D0.c D0.L, mapC pb44 (Value.int .i64) propV D0.P] w33 := H45.open 5 rfl
    refine ⟨_, rfl, ?_⟩
    refine hK32 _ _ ?_
    clear hK32 K32
    refine wl_pure (wants0 rfl) (d := 43) (v := (.tuple #[(.pointer (some ⟨k38, 0, none⟩)), (.int .i64 (0))])) rfl (by kernel_rfl) ?_
    refine wl_pure (wants0 rfl) (d := 48) (v := (.pointer (some ⟨k38, 0, none⟩))) rfl (by kernel_rfl) ?_
    refine wl_pure (wants0 rfl) (d := 49) (v := (.int .i64 (0))) rfl (by kernel_rfl) ?_
    refine wl_pure (wants0 rfl) (d := 15) (v := (.pointer (some ⟨k38, 0, none⟩))) rfl (by kernel_rfl) ?_
    refine wl_pure (wants0 rfl) (d := 16) (v := (.int .i64 (0))) rfl (by kernel_rfl) ?_
    refine w_nil ?_
    refine then_normal ?_
    refine w_seq ?_
    refine w_seq ?_
    refine w_lit ?_
    refine wl_pure (wants0 rfl) (d := 50) (v := (.int .i64 (0))) rfl (by kernel_rfl) ?_
    refine wl_pure (wants0 rfl) (d := 51) (v := (.bool false)) rfl (by kernel_rfl) ?_
    refine wl_pure (wants0 rfl) (d := 52) (v := (.bool false)) rfl (by kernel_rfl) ?_
    refine wl_pure (wantsY 2 52 false rfl (by kernel_rfl) rfl (by kernel_rfl)) (d := 53) (v := (.pointer (some ⟨k38, 0, none⟩))) rfl (by kernel_rfl) ?_
    refine wl_pure (wantsY 2 52 false rfl (by kernel_rfl) rfl (by kernel_rfl)) (d := 54) (v := (.bool false)) rfl (by kernel_rfl) ?_
    refine wl_pure (wants0 rfl) (d := 55) (v := (.bool false)) rfl (by kernel_rfl) ?_
    refine w_nil ?_
    refine then_normal ?_
    refine wp_iff rfl ?_
    refine w_skip ?_
    refine then_normal ?_
    refine w_seq ?_
    refine w_lit ?_
    refine wl_pure (wants0 rfl) (d := 56) (v := (.slice a1 bs.length q1)) rfl (by kernel_rfl) ?_
    refine wl_pure (wants0 rfl) (d := 57) (v := (.pointer (some ⟨k38, 0, none⟩))) rfl (by kernel_rfl) ?_
    refine wl_do (wants0 rfl) (fun K46 hK46 => ?_)
    refine d_buildSlice (e := 27) (size := 1) (bytes := 8) (z := (.pointer none)) (pvs := [(0, (.pointer (some ⟨k38, 0, none⟩)))]) (vs := ([(.pointer (some ⟨k38, 0, none⟩))] : List Value)) rfl H34 (by kernel_rfl) (by kernel_rfl) (by kernel_rfl) (by kernel_rfl) (by kernel_rfl) rfl rfl ?_
    intro b47 w48 (H49 : Sat w [famC coreK bs Ds, restC w (fun _ => False), cellC b6 25 ([(.int .i64 (F)), (.int .i64 (1))] : List Value), rowC 27 1 (.slice a1 bs.length q1) bs.length (bs.flatMap encP), rowC 52 37 (.slice a2 all.length q2) all.length (all.flatMap encS), cellC k38 92 (([(.int .i64 (D0.f)), (.int .i64 (D0.c)), (.int .i64 (D0.epoch)), (.int .i64 (D0.replica)), (.int .i64 (D0.s.round)), (.int .i64 (D0.s.step)), (.int .i64 (D0.s.lr)), (.int .i64 (D0.s.vr))] : List Value) ++ hc D0.s.locked ++ hc D0.s.valid ++ ([(.bool (D0.s.decided))] : List Value) ++ hc D0.s.decision ++ ([(.pointer (some ⟨t39, 0, none⟩)), (.map (some pb44)), (.bool (D0.wv)), (.bool (D0.sp)), (.bool (D0.sc))] : List Value)), talC t39 hb40 cb41 ab42 lb43 D0.f D0.c D0.L, mapC pb44 (Value.int .i64) propV D0.P, rowC 27 1 (.slice (some ⟨b47, 0, none⟩) 1 1) 1 ([(.pointer (some ⟨k38, 0, none⟩))] : List Value)] w48)
    refine hK46 _ _ ?_
    clear hK46 K46
    refine wl_do (wants0 rfl) (fun K50 hK50 => ?_)
    refine d_append (T := 47) (e := 27) (size := 1) (bytes := 8) rfl H49 (by kernel_rfl) 3 8 rfl rfl rfl rfl (by kernel_rfl) (by omega) (by omega) ?_
    intro v51 w52 (H53 : Sat w [famC coreK bs Ds, restC w (fun _ => False), cellC b6 25 ([(.int .i64 (F)), (.int .i64 (1))] : List Value), rowC 27 1 v51 (bs.length + 1) ((bs.flatMap encP) ++ ([(.pointer (some ⟨k38, 0, none⟩))] : List Value)), rowC 52 37 (.slice a2 all.length q2) all.length (all.flatMap encS), cellC k38 92 (([(.int .i64 (D0.f)), (.int .i64 (D0.c)), (.int .i64 (D0.epoch)), (.int .i64 (D0.replica)), (.int .i64 (D0.s.round)), (.int .i64 (D0.s.step)), (.int .i64 (D0.s.lr)), (.int .i64 (D0.s.vr))] : List Value) ++ hc D0.s.locked ++ hc D0.s.valid ++ ([(.bool (D0.s.decided))] : List Value) ++ hc D0.s.decision ++ ([(.pointer (some ⟨t39, 0, none⟩)), (.map (some pb44)), (.bool (D0.wv)), (.bool (D0.sp)), (.bool (D0.sc))] : List Value)), talC t39 hb40 cb41 ab42 lb43 D0.f D0.c D0.L, mapC pb44 (Value.int .i64) propV D0.P, rowC 27 1 (.slice (some ⟨b47, 0, none⟩) 1 1) 1 ([(.pointer (some ⟨k38, 0, none⟩))] : List Value)] w52)
    have H56 : Sat w [famC coreK bs Ds, restC w (fun _ => False), cellC b6 25 ([(.int .i64 (F)), (.int .i64 (1))] : List Value), rowC 27 1 v51 ((bs ++ [(⟨k38, t39, hb40, cb41, ab42, lb43, pb44⟩ : CoreB)]).length) ((bs ++ [(⟨k38, t39, hb40, cb41, ab42, lb43, pb44⟩ : CoreB)]).flatMap encP), rowC 52 37 (.slice a2 all.length q2) all.length (all.flatMap encS), cellC k38 92 (([(.int .i64 (D0.f)), (.int .i64 (D0.c)), (.int .i64 (D0.epoch)), (.int .i64 (D0.replica)), (.int .i64 (D0.s.round)), (.int .i64 (D0.s.step)), (.int .i64 (D0.s.lr)), (.int .i64 (D0.s.vr))] : List Value) ++ hc D0.s.locked ++ hc D0.s.valid ++ ([(.bool (D0.s.decided))] : List Value) ++ hc D0.s.decision ++ ([(.pointer (some ⟨t39, 0, none⟩)), (.map (some pb44)), (.bool (D0.wv)), (.bool (D0.sp)), (.bool (D0.sc))] : List Value)), talC t39 hb40 cb41 ab42 lb43 D0.f D0.c D0.L, mapC pb44 (Value.int .i64) propV D0.P, rowC 27 1 (.slice (some ⟨b47, 0, none⟩) 1 1) 1 ([(.pointer (some ⟨k38, 0, none⟩))] : List Value)] w52 := H53.cast (by simp only [List.length_append, List.flatMap_append] <;> rfl)
    obtain ⟨a54, c55, rfl⟩ := ownsRow_shape (H56.at 3 rfl)
    refine hK50 _ _ ?_
    clear hK50 K50
    refine wl_pure (wants0 rfl) (d := 11) (v := (.slice a54 ((bs ++ [(⟨k38, t39, hb40, cb41, ab42, lb43, pb44⟩ : CoreB)]).length) c55)) rfl (by kernel_rfl) ?_
    refine w_nil ?_
    refine then_normal ?_
    refine h_start H56 [famC coreK bs Ds, restC w (fun _ => False), cellC b6 25 ([(.int .i64 (F)), (.int .i64 (1))] : List Value), rowC 27 1 (.slice a54 ((bs ++ [(⟨k38, t39, hb40, cb41, ab42, lb43, pb44⟩ : CoreB)]).length) c55) ((bs ++ [(⟨k38, t39, hb40, cb41, ab42, lb43, pb44⟩ : CoreB)]).length) ((bs ++ [(⟨k38, t39, hb40, cb41, ab42, lb43, pb44⟩ : CoreB)]).flatMap encP), rowC 27 1 (.slice (some ⟨b47, 0, none⟩) 1 1) 1 ([(.pointer (some ⟨k38, 0, none⟩))] : List Value)] 9 rfl (by kernel_rfl) (fun Hx => (Hx.pick [0, 1, 2, 3, 8] (by decide))) ?_
    intro w57 H58 S59
    refine h_val 0 rfl (by kernel_rfl) (by kernel_rfl) (by kernel_rfl) (fun _ _ _ h => h) S59 (wants0 rfl) (d := 60) (v := (.slice a2 all.length q2)) rfl (fun _ H' => (by kernel_rfl)) ?_
    refine h_val 1 rfl (by kernel_rfl) (by kernel_rfl) (by kernel_rfl) (fun _ _ _ h => h) S59 (wants0 rfl) (d := 61) (v := (.agg ⟨([(.int .i64 (F)), (.int .i64 (1))] : List Value)⟩)) rfl (fun _ H' => (e_loadN (vs := ([(.int .i64 (F)), (.int .i64 (1))] : List Value)) rfl (by kernel_rfl) (by kernel_rfl) (by exact Nat.le_of_ble_eq_true (by kernel_rfl)) (H'.at 2 rfl) (by kernel_rfl))) ?_
    refine h_val 2 rfl (by kernel_rfl) (by kernel_rfl) (by kernel_rfl) (fun _ _ _ h => h) S59 (wants0 rfl) (d := 62) (v := (.int .i64 (E))) rfl (fun _ H' => (by kernel_rfl)) ?_
    refine h_val 3 rfl (by kernel_rfl) (by kernel_rfl) (by kernel_rfl) (fun _ _ _ h => h) S59 (wants0 rfl) (d := 63) (v := (.int .i64 ((Ds.length : Int)))) rfl (fun _ H' => (by kernel_rfl)) ?_
    refine h_val 4 rfl (by kernel_rfl) (by kernel_rfl) (by kernel_rfl) (fun _ _ _ h => h) S59 (wants0 rfl) (d := 64) (v := (.pointer (some ⟨k38, 0, none⟩))) rfl (fun _ H' => (by kernel_rfl)) ?_
    refine h_do 5 rfl (by kernel_rfl) (wants0 rfl) (fun K60 hK60 => ?_)
    refine d_call (d := 65) rfl (by kernel_rfl) (coreStart_any w57 k38 t39 hb40 cb41 ab42 lb43 pb44 D0 (ok_of (by kernel_rfl) (H58.fin [5, 6, 7] (by decide) rfl)) C0 ) ?_
    rintro _ w62 ⟨v61, rfl, S63⟩
    rw [hst] at S63
    replace S63 := Sat.cast (G' := [cellC k38 92 (([(.int .i64 (D1.f)), (.int .i64 (D1.c)), (.int .i64 (D1.epoch)), (.int .i64 (D1.replica)), (.int .i64 (D1.s.round)), (.int .i64 (D1.s.step)), (.int .i64 (D1.s.lr)), (.int .i64 (D1.s.vr))] : List Value) ++ hc D1.s.locked ++ hc D1.s.valid ++ ([(.bool (D1.s.decided))] : List Value) ++ hc D1.s.decision ++ ([(.pointer (some ⟨t39, 0, none⟩)), (.map (some pb44)), (.bool (D1.wv)), (.bool (D1.sp)), (.bool (D1.sc))] : List Value)), talC t39 hb40 cb41 ab42 lb43 D1.f D1.c D1.L, mapC pb44 (Value.int .i64) propV D1.P, rowC 45 35 v61 A1.length (A1.flatMap encA), restC w57 (coreC k38 t39 hb40 cb41 ab42 lb43 pb44 D0).fp]) S63 (by kernel_rfl)
    have H65 : Sat w [famC coreK bs Ds, restC w (fun _ => False), cellC b6 25 ([(.int .i64 (F)), (.int .i64 (1))] : List Value), rowC 27 1 (.slice a54 ((bs ++ [(⟨k38, t39, hb40, cb41, ab42, lb43, pb44⟩ : CoreB)]).length) c55) ((bs ++ [(⟨k38, t39, hb40, cb41, ab42, lb43, pb44⟩ : CoreB)]).length) ((bs ++ [(⟨k38, t39, hb40, cb41, ab42, lb43, pb44⟩ : CoreB)]).flatMap encP), rowC 52 37 (.slice a2 all.length q2) all.length (all.flatMap encS), cellC k38 92 (([(.int .i64 (D1.f)), (.int .i64 (D1.c)), (.int .i64 (D1.epoch)), (.int .i64 (D1.replica)), (.int .i64 (D1.s.round)), (.int .i64 (D1.s.step)), (.int .i64 (D1.s.lr)), (.int .i64 (D1.s.vr))] : List Value) ++ hc D1.s.locked ++ hc D1.s.valid ++ ([(.bool (D1.s.decided))] : List Value) ++ hc D1.s.decision ++ ([(.pointer (some ⟨t39, 0, none⟩)), (.map (some pb44)), (.bool (D1.wv)), (.bool (D1.sp)), (.bool (D1.sc))] : List Value)), talC t39 hb40 cb41 ab42 lb43 D1.f D1.c D1.L, mapC pb44 (Value.int .i64) propV D1.P, rowC 27 1 (.slice (some ⟨b47, 0, none⟩) 1 1) 1 ([(.pointer (some ⟨k38, 0, none⟩))] : List Value), rowC 45 35 v61 A1.length (A1.flatMap encA)] w62 := (Sat.turnL (L' := [cellC k38 92 (([(.int .i64 (D1.f)), (.int .i64 (D1.c)), (.int .i64 (D1.epoch)), (.int .i64 (D1.replica)), (.int .i64 (D1.s.round)), (.int .i64 (D1.s.step)), (.int .i64 (D1.s.lr)), (.int .i64 (D1.s.vr))] : List Value) ++ hc D1.s.locked ++ hc D1.s.valid ++ ([(.bool (D1.s.decided))] : List Value) ++ hc D1.s.decision ++ ([(.pointer (some ⟨t39, 0, none⟩)), (.map (some pb44)), (.bool (D1.wv)), (.bool (D1.sp)), (.bool (D1.sc))] : List Value)), talC t39 hb40 cb41 ab42 lb43 D1.f D1.c D1.L, mapC pb44 (Value.int .i64) propV D1.P, rowC 45 35 v61 A1.length (A1.flatMap encA)]) (R := [famC coreK bs Ds, restC w (fun _ => False), cellC b6 25 ([(.int .i64 (F)), (.int .i64 (1))] : List Value), rowC 27 1 (.slice a54 ((bs ++ [(⟨k38, t39, hb40, cb41, ab42, lb43, pb44⟩ : CoreB)]).length) c55) ((bs ++ [(⟨k38, t39, hb40, cb41, ab42, lb43, pb44⟩ : CoreB)]).length) ((bs ++ [(⟨k38, t39, hb40, cb41, ab42, lb43, pb44⟩ : CoreB)]).flatMap encP), rowC 52 37 (.slice a2 all.length q2) all.length (all.flatMap encS), rowC 27 1 (.slice (some ⟨b47, 0, none⟩) 1 1) 1 ([(.pointer (some ⟨k38, 0, none⟩))] : List Value)]) H58 [5, 6, 7] [0, 1, 2, 3, 4, 8] (by decide) (by kernel_rfl) rfl S63).pick [4, 5, 6, 7, 8, 0, 1, 2, 9, 3] (by decide)
    obtain ⟨a66, c67, rfl⟩ := ownsRow_shape (H65.at 9 rfl)
    refine ⟨_, rfl, ?_⟩
    have S68 := H65.pick [0, 1, 2, 3, 8] (by decide)
    refine hK60 _ _ S68 ?_
    clear hK60 K60
    refine h_do 6 rfl (by kernel_rfl) (wants0 rfl) (fun K69 hK69 => ?_)
    have hsk := speakA_len (Ds.length : Int) A1
    refine d_call (d := 66) rfl (by kernel_rfl) (speak_any w62 F 1 E (Ds.length : Int) _ A1 (H65.at 9 rfl) (by omega)) ?_
    rintro _ w71 ⟨u70, rfl, k73, u74, f75⟩
    have H72 : Sat w [famC coreK bs Ds, restC w (fun _ => False), cellC b6 25 ([(.int .i64 (F)), (.int .i64 (1))] : List Value), rowC 27 1 (.slice a54 ((bs ++ [(⟨k38, t39, hb40, cb41, ab42, lb43, pb44⟩ : CoreB)]).length) c55) ((bs ++ [(⟨k38, t39, hb40, cb41, ab42, lb43, pb44⟩ : CoreB)]).length) ((bs ++ [(⟨k38, t39, hb40, cb41, ab42, lb43, pb44⟩ : CoreB)]).flatMap encP), rowC 52 37 (.slice a2 all.length q2) all.length (all.flatMap encS), cellC k38 92 (([(.int .i64 (D1.f)), (.int .i64 (D1.c)), (.int .i64 (D1.epoch)), (.int .i64 (D1.replica)), (.int .i64 (D1.s.round)), (.int .i64 (D1.s.step)), (.int .i64 (D1.s.lr)), (.int .i64 (D1.s.vr))] : List Value) ++ hc D1.s.locked ++ hc D1.s.valid ++ ([(.bool (D1.s.decided))] : List Value) ++ hc D1.s.decision ++ ([(.pointer (some ⟨t39, 0, none⟩)), (.map (some pb44)), (.bool (D1.wv)), (.bool (D1.sp)), (.bool (D1.sc))] : List Value)), talC t39 hb40 cb41 ab42 lb43 D1.f D1.c D1.L, mapC pb44 (Value.int .i64) propV D1.P, rowC 27 1 (.slice (some ⟨b47, 0, none⟩) 1 1) 1 ([(.pointer (some ⟨k38, 0, none⟩))] : List Value), rowC 45 35 (.slice a66 A1.length c67) A1.length (A1.flatMap encA), rowC 52 37 u70 ((A1.flatMap (speakA (Ds.length : Int))).length) ((A1.flatMap (speakA (Ds.length : Int))).flatMap encS)] w71 := H65.addU u74 k73 f75
    obtain ⟨a76, c77, rfl⟩ := ownsRow_shape (H72.at 10 rfl)
    refine ⟨_, rfl, ?_⟩
    have S78 := H72.pick [0, 1, 2, 3, 8] (by decide)
    refine hK69 _ _ S78 ?_
    clear hK69 K69
    refine h_do 7 rfl (by kernel_rfl) (wants0 rfl) (fun K79 hK79 => ?_)
    refine d_append (T := 48) (e := 52) (size := 37) (bytes := 72) rfl H72 (by kernel_rfl) 4 10 rfl rfl rfl rfl (flat_one encS encS_one (A1.flatMap (speakA (Ds.length : Int)))) (by omega) (by omega) ?_
    intro v80 w81 (H82 : Sat w [famC coreK bs Ds, restC w (fun _ => False), cellC b6 25 ([(.int .i64 (F)), (.int .i64 (1))] : List Value), rowC 27 1 (.slice a54 ((bs ++ [(⟨k38, t39, hb40, cb41, ab42, lb43, pb44⟩ : CoreB)]).length) c55) ((bs ++ [(⟨k38, t39, hb40, cb41, ab42, lb43, pb44⟩ : CoreB)]).length) ((bs ++ [(⟨k38, t39, hb40, cb41, ab42, lb43, pb44⟩ : CoreB)]).flatMap encP), rowC 52 37 v80 (all.length + (A1.flatMap (speakA (Ds.length : Int))).length) ((all.flatMap encS) ++ ((A1.flatMap (speakA (Ds.length : Int))).flatMap encS)), cellC k38 92 (([(.int .i64 (D1.f)), (.int .i64 (D1.c)), (.int .i64 (D1.epoch)), (.int .i64 (D1.replica)), (.int .i64 (D1.s.round)), (.int .i64 (D1.s.step)), (.int .i64 (D1.s.lr)), (.int .i64 (D1.s.vr))] : List Value) ++ hc D1.s.locked ++ hc D1.s.valid ++ ([(.bool (D1.s.decided))] : List Value) ++ hc D1.s.decision ++ ([(.pointer (some ⟨t39, 0, none⟩)), (.map (some pb44)), (.bool (D1.wv)), (.bool (D1.sp)), (.bool (D1.sc))] : List Value)), talC t39 hb40 cb41 ab42 lb43 D1.f D1.c D1.L, mapC pb44 (Value.int .i64) propV D1.P, rowC 27 1 (.slice (some ⟨b47, 0, none⟩) 1 1) 1 ([(.pointer (some ⟨k38, 0, none⟩))] : List Value), rowC 45 35 (.slice a66 A1.length c67) A1.length (A1.flatMap encA), rowC 52 37 (.slice a76 ((A1.flatMap (speakA (Ds.length : Int))).length) c77) ((A1.flatMap (speakA (Ds.length : Int))).length) ((A1.flatMap (speakA (Ds.length : Int))).flatMap encS)] w81)
    have H85 : Sat w [famC coreK bs Ds, restC w (fun _ => False), cellC b6 25 ([(.int .i64 (F)), (.int .i64 (1))] : List Value), rowC 27 1 (.slice a54 ((bs ++ [(⟨k38, t39, hb40, cb41, ab42, lb43, pb44⟩ : CoreB)]).length) c55) ((bs ++ [(⟨k38, t39, hb40, cb41, ab42, lb43, pb44⟩ : CoreB)]).length) ((bs ++ [(⟨k38, t39, hb40, cb41, ab42, lb43, pb44⟩ : CoreB)]).flatMap encP), rowC 52 37 v80 ((all ++ (A1.flatMap (speakA (Ds.length : Int)))).length) ((all ++ (A1.flatMap (speakA (Ds.length : Int)))).flatMap encS), cellC k38 92 (([(.int .i64 (D1.f)), (.int .i64 (D1.c)), (.int .i64 (D1.epoch)), (.int .i64 (D1.replica)), (.int .i64 (D1.s.round)), (.int .i64 (D1.s.step)), (.int .i64 (D1.s.lr)), (.int .i64 (D1.s.vr))] : List Value) ++ hc D1.s.locked ++ hc D1.s.valid ++ ([(.bool (D1.s.decided))] : List Value) ++ hc D1.s.decision ++ ([(.pointer (some ⟨t39, 0, none⟩)), (.map (some pb44)), (.bool (D1.wv)), (.bool (D1.sp)), (.bool (D1.sc))] : List Value)), talC t39 hb40 cb41 ab42 lb43 D1.f D1.c D1.L, mapC pb44 (Value.int .i64) propV D1.P, rowC 27 1 (.slice (some ⟨b47, 0, none⟩) 1 1) 1 ([(.pointer (some ⟨k38, 0, none⟩))] : List Value), rowC 45 35 (.slice a66 A1.length c67) A1.length (A1.flatMap encA), rowC 52 37 (.slice a76 ((A1.flatMap (speakA (Ds.length : Int))).length) c77) ((A1.flatMap (speakA (Ds.length : Int))).length) ((A1.flatMap (speakA (Ds.length : Int))).flatMap encS)] w81 := H82.cast (by simp only [List.length_append, List.flatMap_append] <;> rfl)
    obtain ⟨a83, c84, rfl⟩ := ownsRow_shape (H85.at 4 rfl)
    have S86 := H85.pick [0, 1, 2, 3, 8] (by decide)
    refine hK79 _ _ S86 ?_
    clear hK79 K79
    refine h_val 8 rfl (by kernel_rfl) (by kernel_rfl) (by kernel_rfl) (fun _ _ _ h => h) S86 (wants0 rfl) (d := 12) (v := (.slice a83 ((all ++ (A1.flatMap (speakA (Ds.length : Int)))).length) c84)) rfl (fun _ H' => (by kernel_rfl)) ?_
    refine h_fin (by kernel_rfl) ?_
    refine blk_normal ?_
    refine then_normal ?_
    refine w_lit ?_
    refine wl_pure (wants0 rfl) (d := 41) (v := (.int .i64 ((Ds.length : Int)))) rfl (by kernel_rfl) ?_
    refine wl_pure (wants0 rfl) (d := 42) (v := (.int .i64 ((Ds.length : Int) + 1))) rfl (e_int (z := (Ds.length : Int) + 1) (by kernel_rfl) (IntWalk.i64_in _ (by omega))) ?_
    refine wl_pure (wants0 rfl) (d := 14) (v := (.int .i64 ((Ds.length : Int) + 1))) rfl (by kernel_rfl) ?_
    refine w_nil ?_
    have H87 : Sat w [famC coreK bs Ds, restC w (fun _ => False), cellC b6 25 ([(.int .i64 (F)), (.int .i64 (1))] : List Value), rowC 27 1 (.slice a54 ((bs ++ [(⟨k38, t39, hb40, cb41, ab42, lb43, pb44⟩ : CoreB)]).length) c55) ((bs ++ [(⟨k38, t39, hb40, cb41, ab42, lb43, pb44⟩ : CoreB)]).length) ((bs ++ [(⟨k38, t39, hb40, cb41, ab42, lb43, pb44⟩ : CoreB)]).flatMap encP), rowC 52 37 (.slice a83 ((all ++ (A1.flatMap (speakA (Ds.length : Int)))).length) c84) ((all ++ (A1.flatMap (speakA (Ds.length : Int)))).length) ((all ++ (A1.flatMap (speakA (Ds.length : Int)))).flatMap encS), cellC k38 92 (([(.int .i64 (D1.f)), (.int .i64 (D1.c)), (.int .i64 (D1.epoch)), (.int .i64 (D1.replica)), (.int .i64 (D1.s.round)), (.int .i64 (D1.s.step)), (.int .i64 (D1.s.lr)), (.int .i64 (D1.s.vr))] : List Value) ++ hc D1.s.locked ++ hc D1.s.valid ++ ([(.bool (D1.s.decided))] : List Value) ++ hc D1.s.decision ++ ([(.pointer (some ⟨t39, 0, none⟩)), (.map (some pb44)), (.bool (D1.wv)), (.bool (D1.sp)), (.bool (D1.sc))] : List Value)), talC t39 hb40 cb41 ab42 lb43 D1.f D1.c D1.L, mapC pb44 (Value.int .i64) propV D1.P] w81 := H85.pick [0, 1, 2, 3, 4, 5, 6, 7] (by decide)
    have H88 : Sat w [famC coreK (bs ++ [(⟨k38, t39, hb40, cb41, ab42, lb43, pb44⟩ : CoreB)]) (Ds ++ [D1]), restC w (fun _ => False), cellC b6 25 ([(.int .i64 (F)), (.int .i64 (1))] : List Value), rowC 27 1 (.slice a54 ((bs ++ [(⟨k38, t39, hb40, cb41, ab42, lb43, pb44⟩ : CoreB)]).length) c55) ((bs ++ [(⟨k38, t39, hb40, cb41, ab42, lb43, pb44⟩ : CoreB)]).length) ((bs ++ [(⟨k38, t39, hb40, cb41, ab42, lb43, pb44⟩ : CoreB)]).flatMap encP), rowC 52 37 (.slice a83 ((all ++ (A1.flatMap (speakA (Ds.length : Int)))).length) c84) ((all ++ (A1.flatMap (speakA (Ds.length : Int)))).length) ((all ++ (A1.flatMap (speakA (Ds.length : Int)))).flatMap encS)] w81 := Sat.famSnoc (ck := coreK) (⟨k38, t39, hb40, cb41, ab42, lb43, pb44⟩ : CoreB) D1 ((Sat.closeL (L := coreG k38 t39 hb40 cb41 ab42 lb43 pb44 D1) (R := [famC coreK bs Ds, restC w (fun _ => False), cellC b6 25 ([(.int .i64 (F)), (.int .i64 (1))] : List Value), rowC 27 1 (.slice a54 ((bs ++ [(⟨k38, t39, hb40, cb41, ab42, lb43, pb44⟩ : CoreB)]).length) c55) ((bs ++ [(⟨k38, t39, hb40, cb41, ab42, lb43, pb44⟩ : CoreB)]).length) ((bs ++ [(⟨k38, t39, hb40, cb41, ab42, lb43, pb44⟩ : CoreB)]).flatMap encP), rowC 52 37 (.slice a83 ((all ++ (A1.flatMap (speakA (Ds.length : Int)))).length) c84) ((all ++ (A1.flatMap (speakA (Ds.length : Int)))).length) ((all ++ (A1.flatMap (speakA (Ds.length : Int)))).flatMap encS)]) (H87.pick [5, 6, 7, 0, 1, 2, 3, 4] (by decide))).pick [1, 0, 2, 3, 4, 5] (by decide))
    have hAg2 := hAg.born hok ((congrArg startD hD0).trans hst)
    have hl3 := speakA_len (Ds.length : Int) A1
    refine round_back ?_ _ ⟨(bs ++ [(⟨k38, t39, hb40, cb41, ab42, lb43, pb44⟩ : CoreB)]), (Ds ++ [D1]), (all ++ (A1.flatMap (speakA (Ds.length : Int)))), a54, c55, a83, c84, (show ((.int .i64 ((Ds.length : Int) + 1)) : Value) = _ by (rw [List.length_append, List.length_singleton]; rfl)), (show ((.slice a54 ((bs ++ [(⟨k38, t39, hb40, cb41, ab42, lb43, pb44⟩ : CoreB)]).length) c55) : Value) = _ by first | rfl | go_num), (show ((.slice a83 ((all ++ (A1.flatMap (speakA (Ds.length : Int)))).length) c84) : Value) = _ by first | rfl | go_num), hAg2, (by rw [List.length_append, List.length_singleton]; omega), (by simp only [List.length_append, List.length_singleton]; omega), H88, rfl⟩ (by rw [List.length_append, List.length_singleton]; omega)
    exact (same_upd rfl (same_upd rfl (same_upd rfl (same_upd rfl (same_upd rfl (same_upd rfl (same_upd rfl (same_upd rfl (same_upd rfl (same_upd rfl (same_upd rfl (same_upd rfl (same_upd rfl (same_upd rfl (same_upd rfl (same_upd rfl (same_upd rfl (same_upd rfl (same_upd rfl (same_upd rfl (same_upd rfl (same_upd rfl (same_upd rfl (same_upd rfl (same_upd rfl (same_upd rfl (same_upd rfl (same_upd rfl (same_upd rfl (same_upd rfl (same_upd rfl (same_upd rfl (same_upd rfl (same_upd rfl (same_upd rfl (same_upd rfl (same_upd rfl (same_upd rfl (same_upd rfl (same_ovr))))))))))))))))))))))))))))))))))))))))
  · have g89 := of_decide_eq_false b29
    refine wp_know 40 (.bool false) (congrArg Value.bool b29) ?_
    have g90 := of_decide_eq_false b29
    refine wp_iff rfl ?_
    refine w_exit ?_
    refine then_exit ?_
    refine back_exit ?_
    refine blk_hit ?_
    refine then_normal ?_
    refine w_seq ?_
    refine w_seq ?_
    refine w_lit ?_
    refine wl_pure (wants0 rfl) (d := 17) (v := (.int .i64 (0))) rfl (by kernel_rfl) ?_
    refine w_nil ?_
    refine then_normal ?_
    refine w_block ?_
    have hDn : (Ds.length : Int) = 2 * F + 1 := by have := of_decide_eq_false b29; omega
    have hal2 : all.length ≤ 50000000 := by omega
    refine wp_round [12, 17, 18, 19, 20, 21, 22, 68, 69, 70, 71, 72, 73, 74, 75, 76, 77, 78, 79, 80, 81, 82, 83, 84, 85, 86, 87, 88, 89, 90, 91, 92, 93, 94, 95, 96, 97, 98, 99, 100, 101, 102, 103, 104, 105, 106, 107, 108, 109, 110, 111, 112, 113, 114, 115, 116, 117, 118, 119, 120, 121, 122, 123, 124, 125, 126, 127, 128, 129, 130, 131, 132, 133, 134, 135, 136, 137, 138, 139, 140, 141, 142, 143, 144, 145, 146, 147, 148, 149, 150, 151, 152, 153, 154, 155, 156, 157, 158, 159, 160, 161, 162, 163, 164, 165, 166, 167, 168, 169, 170, 171, 172, 173, 174, 175, 176, 177, 178, 179, 180, 181, 182, 183, 184, 185, 186, 187, 188, 189, 190, 191, 192, 193, 194, 195, 196, 197, 198, 199, 200, 201, 202, 203, 204, 205, 206, 207, 208, 209, 210, 211, 212, 213, 214, 215, 216, 217, 218, 219, 220, 221, 222, 223, 224, 225, 226, 227, 228, 229, 230, 231, 232, 233, 234, 235, 236, 237, 238, 239, 240, 241, 242, 243, 244, 245, 246, 247] (fun F_ W_ m_ => ∃ (k : Nat) (Ds : List CoreD) (all : List SaidD) (a2 : Option Addr) (q2 : Nat), F_ 17 = (.int .i64 ((k : Int))) ∧ F_ 12 = (.slice a2 all.length q2) ∧ (k ≤ 150) ∧ (AgE F Ds all) ∧ ((Ds.length : Int) = 2 * F + 1) ∧ (all.length ≤ 50000000) ∧ Sat w [famC coreK bs Ds, restC w (fun _ => False), cellC b6 25 ([(.int .i64 (F)), (.int .i64 (1))] : List Value), rowC 27 1 (.slice a1 bs.length q1) bs.length (bs.flatMap encP), rowC 52 37 (.slice a2 all.length q2) all.length (all.flatMap encS)] W_ ∧ m_ = 150 - k) _ ⟨0, Ds, all, a2, q2, (show ((.int .i64 (0)) : Value) = _ by first | rfl | go_num), (by first | rfl | go_num), (Nat.zero_le _), hAg, hDn, hal2, H24, rfl⟩ ?_
    rintro g91 w92 _ ⟨k, Ds, all, a2, q2, v94, v95, hk, hAg, hDn, hal2, H93, rfl⟩
    refine wp_know 17 _ v94 ?_
    refine wp_know 12 _ v95 ?_
    have hbl : bs.length = Ds.length := famC_len (H93.at 0 rfl)
    refine w_seq ?_
    refine wp_meetR [68, 69, 70, 71, 72, 73, 74, 75] (fun G_ W_ => G_ 75 = (.bool (decide ((k : Int) < steps.length) && decide ((k : Int) < 150))) ∧ Sat w [famC coreK bs Ds, restC w (fun _ => False), cellC b6 25 ([(.int .i64 (F)), (.int .i64 (1))] : List Value), rowC 27 1 (.slice a1 bs.length q1) bs.length (bs.flatMap encP), rowC 52 37 (.slice a2 all.length q2) all.length (all.flatMap encS)] W_) ?_ ?_
    · refine w_lit ?_
      refine wl_pure (wants0 rfl) (d := 68) (v := (.int .i64 ((k : Int)))) rfl (by kernel_rfl) ?_
      refine wl_pure (wants0 rfl) (d := 69) (v := (.slice va steps.length vc)) rfl (by kernel_rfl) ?_
      refine wl_pure (wants0 rfl) (d := 70) (v := (.int .i64 ((steps.length : Int)))) rfl (by kernel_rfl) ?_
      refine wl_pure (wants0 rfl) (d := 71) (v := (.bool (decide ((k : Int) < (steps.length : Int))))) rfl (by kernel_rfl) ?_
      refine wl_pure (wants0 rfl) (d := 72) (v := (.bool (decide ((k : Int) < (steps.length : Int))))) rfl (by kernel_rfl) ?_
      refine (bsplit (decide ((k : Int) < (steps.length : Int)))).elim (fun b98 => ?_) (fun b98 => ?_)
      · have g99 := of_decide_eq_true b98
        refine wl_know 72 (.bool true) (congrArg Value.bool b98) ?_
        have g100 := of_decide_eq_true b98
        refine wl_pure (wantsY 4 72 true rfl (by kernel_rfl) rfl (by kernel_rfl)) (d := 73) (v := (.int .i64 ((k : Int)))) rfl (by kernel_rfl) ?_
        refine wl_pure (wantsY 4 72 true rfl (by kernel_rfl) rfl (by kernel_rfl)) (d := 74) (v := (.bool (decide ((k : Int) < 150)))) rfl (by kernel_rfl) ?_
        refine wl_pure (wants0 rfl) (d := 75) (v := (.bool (decide ((k : Int) < 150)))) rfl (by kernel_rfl) ?_
        refine w_nil ?_
        refine meetR_at ?_ ⟨(congrArg Value.bool (show (decide ((k : Int) < 150)) = (decide ((k : Int) < steps.length) && decide ((k : Int) < 150)) by (simp <;> omega))), H93⟩
        exact (same_upd rfl (same_upd rfl (same_upd rfl (same_upd rfl (same_upd rfl (same_upd rfl (same_upd rfl (same_upd rfl (same_upd rfl (same_refl))))))))))
      · have g101 := of_decide_eq_false b98
        refine wl_know 72 (.bool false) (congrArg Value.bool b98) ?_
        have g102 := of_decide_eq_false b98
        refine wl_pass (wantsN 4 72 true rfl (by kernel_rfl) rfl (by kernel_rfl)) rfl ?_
        refine wl_pass (wantsN 4 72 true rfl (by kernel_rfl) rfl (by kernel_rfl)) rfl ?_
        refine wl_pure (wants0 rfl) (d := 75) (v := (.bool false)) rfl (by kernel_rfl) ?_
        refine w_nil ?_
        refine meetR_at ?_ ⟨(congrArg Value.bool (show false = (decide ((k : Int) < steps.length) && decide ((k : Int) < 150)) by (simp <;> omega))), H93⟩
        exact (same_upd rfl (same_upd rfl (same_upd rfl (same_upd rfl (same_upd rfl (same_upd rfl (same_upd rfl (same_upd rfl (same_upd rfl (same_refl))))))))))
    · rintro f103 w104 ⟨v106, H105⟩
      refine wp_know 75 _ v106 ?_
      refine (bsplit (decide ((k : Int) < steps.length) && decide ((k : Int) < 150))).elim (fun b107 => ?_) (fun b107 => ?_)
      · refine wp_know 75 (.bool true) (congrArg Value.bool b107) ?_
        refine wp_ift rfl ?_
        refine w_skip ?_
        refine then_normal ?_
        refine w_seq ?_
        refine w_block ?_
        refine w_seq ?_
        have hkl : (k : Int) < steps.length ∧ (k : Int) < 150 := by simpa using b107
        obtain ⟨S, hS⟩ : ∃ S, steps.getD k 0 = S := ⟨_, rfl⟩
        have hs := hsteps.bd k
        rw [hS] at hs
        have hwt := within_lim (Int.tdiv S 1000) (2 * F + 1) (by omega)
        obtain ⟨to, hto⟩ : ∃ to : Nat, withinV (Int.tdiv S 1000) (2 * F + 1) = (to : Int) := ⟨_, (Int.toNat_of_nonneg hwt.1).symm⟩
        rw [hto] at hwt
        refine w_lit ?_
        refine wl_pure (wants0 rfl) (d := 78) (v := (.slice va steps.length vc)) rfl (by kernel_rfl) ?_
        refine wl_pure (wants0 rfl) (d := 79) (v := (.int .i64 ((k : Int)))) rfl (by kernel_rfl) ?_
        obtain ⟨g108, o109, c110, e111, R112⟩ := hsteps.atD (show k < steps.length by omega)
        have := hsteps.bd k
        refine wl_pure (wants0 rfl) (d := 80) (v := (.pointer (some ⟨g108, o109 + ((k : Int)).toNat * 1, none⟩))) rfl (e_indexAddrW (E := 3) (by kernel_rfl) (by kernel_rfl) (Nat.le_of_ble_eq_true rfl) rfl e111 rfl (by omega) (by omega)) ?_
        refine wl_pure (wants0 rfl) (d := 81) (v := (.int .i64 ((steps.getD k 0)))) rfl (e_load1 rfl (by kernel_rfl) (H105.cellR 1 rfl (cells_at R112 0 (by kernel_rfl) (show o109 + ((k : Int)).toNat * 1 = o109 + k * 1 + 0 by omega)) (fun h => h))) ?_
        refine wl_pure (wants0 rfl) (d := 18) (v := (.int .i64 ((steps.getD k 0)))) rfl (by kernel_rfl) ?_
        refine w_nil ?_
        refine then_normal ?_
        refine w_seq ?_
        refine wp_know 18 (.int .i64 S) (by exact congrArg (Value.int .i64) hS) ?_
        refine w_lit ?_
        refine wl_pure (wants0 rfl) (d := 82) (v := (.int .i64 (S))) rfl (by kernel_rfl) ?_
        refine wl_pure (wants0 rfl) (d := 83) (v := (.int .i64 (Int.tdiv S 1000))) rfl (e_tdiv (by kernel_rfl) (by omega) (tdiv_i64 hs (by omega))) ?_
        refine wl_pure (wants0 rfl) (d := 84) (v := (.int .i64 (2 * F + 1))) rfl (by kernel_rfl) ?_
        refine wl_do (wants0 rfl) (fun K113 hK113 => ?_)
        refine d_call (d := 85) rfl (by kernel_rfl) (calls_conv (withinBig_any w104 (Int.tdiv S 1000) (2 * F + 1) (by omega)) (congrArg (Value.int .i64) hto)) ?_
        rintro _ w114 ⟨rfl, u116⟩
        have H115 := H105.keepU u116
        refine ⟨_, rfl, ?_⟩
        refine hK113 _ _ ?_
        clear hK113 K113
        refine wl_pure (wants0 rfl) (d := 19) (v := (.int .i64 ((to : Int)))) rfl (by kernel_rfl) ?_
        refine w_nil ?_
        refine then_normal ?_
        refine wp_meetR [12, 20, 21, 22, 86, 87, 88, 89, 90, 91, 92, 93, 94, 95, 96, 97, 98, 99, 100, 101, 102, 103, 104, 105, 106, 107, 108, 109, 110, 111, 112, 113, 114, 115, 116, 117, 118, 119, 120, 121, 122, 123, 124, 125, 126, 127, 128, 129, 130, 131, 132, 133, 134, 135, 136, 137, 138, 139, 140, 141, 142, 143, 144, 145, 146, 147, 148, 149, 150, 151, 152, 153, 154, 155, 156, 157, 158, 159, 160, 161, 162, 163, 164, 165, 166, 167, 168, 169, 170, 171, 172, 173, 174, 175, 176, 177, 178, 179, 180, 181, 182, 183, 184, 185, 186, 187, 188, 189, 190, 191, 192, 193, 194, 195, 196, 197, 198, 199, 200, 201, 202, 203, 204, 205, 206, 207, 208, 209, 210, 211, 212, 213, 214, 215, 216, 217, 218, 219, 220, 221, 222, 223, 224, 225, 226, 227, 228, 229, 230, 231, 232, 233, 234, 235, 236, 237, 238, 239, 240, 241, 242, 243, 244] (fun G_ W_ => ∃ (Ds2 : List CoreD) (all2 : List SaidD) (a3 : Option Addr) (q3 : Nat), G_ 12 = (.slice a3 all2.length q3) ∧ (AgE F Ds2 all2) ∧ ((Ds2.length : Int) = 2 * F + 1) ∧ (all2.length ≤ 58388621) ∧ Sat w [famC coreK bs Ds2, restC w (fun _ => False), cellC b6 25 ([(.int .i64 (F)), (.int .i64 (1))] : List Value), rowC 27 1 (.slice a1 bs.length q1) bs.length (bs.flatMap encP), rowC 52 37 (.slice a3 all2.length q3) all2.length (all2.flatMap encS)] W_) ?_ ?_
        · refine w_block ?_
          refine w_seq ?_
          refine w_lit ?_
          refine wl_pure (wants0 rfl) (d := 87) (v := (.int .i64 (S))) rfl (by kernel_rfl) ?_
          refine wl_pure (wants0 rfl) (d := 88) (v := (.int .i64 (Int.tmod S 11))) rfl (e_tmod (by kernel_rfl) (by omega)) ?_
          refine wl_pure (wants0 rfl) (d := 89) (v := (.bool (decide ((Int.tmod S 11) = 10)))) rfl (by kernel_rfl) ?_
          refine wl_pure (wants0 rfl) (d := 90) (v := (.bool (decide ((Int.tmod S 11) = 10)))) rfl (by kernel_rfl) ?_
          refine (bsplit (decide ((Int.tmod S 11) = 10))).elim (fun b118 => ?_) (fun b118 => ?_)
          · have g119 := of_decide_eq_true b118
            refine wl_know 90 (.bool true) (congrArg Value.bool b118) ?_
            have g120 := of_decide_eq_true b118
            refine wl_pure (wantsY 3 90 true rfl (by kernel_rfl) rfl (by kernel_rfl)) (d := 91) (v := (.slice vb lies.length vd)) rfl (by kernel_rfl) ?_
            refine wl_pure (wantsY 3 90 true rfl (by kernel_rfl) rfl (by kernel_rfl)) (d := 92) (v := (.int .i64 ((lies.length : Int)))) rfl (by kernel_rfl) ?_
            refine wl_pure (wantsY 3 90 true rfl (by kernel_rfl) rfl (by kernel_rfl)) (d := 93) (v := (.bool (decide ((lies.length : Int) > 0)))) rfl (by kernel_rfl) ?_
            refine wl_pure (wants0 rfl) (d := 94) (v := (.bool (decide ((lies.length : Int) > 0)))) rfl (by kernel_rfl) ?_
            refine wl_pure (wants0 rfl) (d := 86) (v := (.bool (decide ((lies.length : Int) > 0)))) rfl (by kernel_rfl) ?_
            refine w_nil ?_
            refine then_normal ?_
            refine (bsplit (decide ((lies.length : Int) > 0))).elim (fun b121 => ?_) (fun b121 => ?_)
            · have g122 := of_decide_eq_true b121
              refine wp_know 86 (.bool true) (congrArg Value.bool b121) ?_
              have g123 := of_decide_eq_true b121
              refine wp_ift rfl ?_
              refine w_seq ?_
              have hlw := within_lim (Int.tdiv S 7) (lies.length : Int) (by omega)
              refine w_lit ?_
              refine wl_pure (wants0 rfl) (d := 95) (v := (.slice vb lies.length vd)) rfl (by kernel_rfl) ?_
              refine wl_pure (wants0 rfl) (d := 96) (v := (.int .i64 (S))) rfl (by kernel_rfl) ?_
              refine wl_pure (wants0 rfl) (d := 97) (v := (.int .i64 (Int.tdiv S 7))) rfl (e_tdiv (by kernel_rfl) (by omega) (tdiv_i64 hs (by omega))) ?_
              refine wl_pure (wants0 rfl) (d := 98) (v := (.slice vb lies.length vd)) rfl (by kernel_rfl) ?_
              refine wl_pure (wants0 rfl) (d := 99) (v := (.int .i64 ((lies.length : Int)))) rfl (by kernel_rfl) ?_
              refine wl_do (wants0 rfl) (fun K124 hK124 => ?_)
              refine d_call (d := 100) rfl (by kernel_rfl) (withinBig_any w114 (Int.tdiv S 7) (lies.length : Int) (by omega)) ?_
              rintro _ w125 ⟨rfl, u127⟩
              have H126 := H115.keepU u127
              refine ⟨_, rfl, ?_⟩
              refine hK124 _ _ ?_
              clear hK124 K124
              obtain ⟨g128, o129, c130, e131, R132⟩ := SliceOf.atD hlies inD0 (show (withinV (Int.tdiv S 7) (lies.length : Int)).toNat < lies.length by omega)
              refine wl_pure (wants0 rfl) (d := 101) (v := (.pointer (some ⟨g128, o129 + (withinV (Int.tdiv S 7) (lies.length : Int)).toNat * 39, none⟩))) rfl (e_indexAddrW (E := 57) (by kernel_rfl) (by kernel_rfl) (Nat.le_of_ble_eq_true rfl) rfl e131 rfl (by omega) (by omega)) ?_
              refine wl_pure (wants0 rfl) (d := 102) (v := (.agg ⟨(([(.int .i64 ((lies.getD (withinV (Int.tdiv S 7) (lies.length : Int)).toNat inD0).doo)), (.int .i64 ((lies.getD (withinV (Int.tdiv S 7) (lies.length : Int)).toNat inD0).kind)), (.int .i64 ((lies.getD (withinV (Int.tdiv S 7) (lies.length : Int)).toNat inD0).round)), (.int .i64 ((lies.getD (withinV (Int.tdiv S 7) (lies.length : Int)).toNat inD0).valid)), (.int .i64 ((lies.getD (withinV (Int.tdiv S 7) (lies.length : Int)).toNat inD0).replica))] : List Value) ++ hc (lies.getD (withinV (Int.tdiv S 7) (lies.length : Int)).toNat inD0).h ++ ([(.bool ((lies.getD (withinV (Int.tdiv S 7) (lies.length : Int)).toNat inD0).ok)), (.bool ((lies.getD (withinV (Int.tdiv S 7) (lies.length : Int)).toNat inD0).raw))] : List Value))⟩)) rfl (e_loadRun (vs := (([(.int .i64 ((lies.getD (withinV (Int.tdiv S 7) (lies.length : Int)).toNat inD0).doo)), (.int .i64 ((lies.getD (withinV (Int.tdiv S 7) (lies.length : Int)).toNat inD0).kind)), (.int .i64 ((lies.getD (withinV (Int.tdiv S 7) (lies.length : Int)).toNat inD0).round)), (.int .i64 ((lies.getD (withinV (Int.tdiv S 7) (lies.length : Int)).toNat inD0).valid)), (.int .i64 ((lies.getD (withinV (Int.tdiv S 7) (lies.length : Int)).toNat inD0).replica))] : List Value) ++ hc (lies.getD (withinV (Int.tdiv S 7) (lies.length : Int)).toNat inD0).h ++ ([(.bool ((lies.getD (withinV (Int.tdiv S 7) (lies.length : Int)).toNat inD0).ok)), (.bool ((lies.getD (withinV (Int.tdiv S 7) (lies.length : Int)).toNat inD0).raw))] : List Value))) rfl (by kernel_rfl) (by kernel_rfl) (Nat.le_of_ble_eq_true (by kernel_rfl)) (H126.runR 1 rfl (cells_run R132 0 (by kernel_rfl) (show o129 + (withinV (Int.tdiv S 7) (lies.length : Int)).toNat * 39 = o129 + (withinV (Int.tdiv S 7) (lies.length : Int)).toNat * 39 + 0 by omega)) (fun h => h))) ?_
              refine wl_pure (wants0 rfl) (d := 103) (v := (.int .i64 (3 * F + 1))) rfl (by kernel_rfl) ?_
              refine wl_do (wants0 rfl) (fun K133 hK133 => ?_)
              obtain ⟨x134, hx135⟩ : ∃ x, cutI (3 * F + 1) (lies.getD (withinV (Int.tdiv S 7) (lies.length : Int)).toNat inD0) = x := ⟨_, rfl⟩
              refine d_call (d := 104) rfl (by kernel_rfl) (cutI_any w125 (lies.getD (withinV (Int.tdiv S 7) (lies.length : Int)).toNat inD0) (3 * F + 1) (by omega)) ?_
              rw [hx135]
              rintro _ w136 ⟨rfl, u138⟩
              have H137 := H126.keepU u138
              refine ⟨_, rfl, ?_⟩
              refine hK133 _ _ ?_
              clear hK133 K133
              refine wl_do (wants0 rfl) (fun K139 hK139 => ?_)
              refine d_alloc (zs := (([(.int .i64 (0)), (.int .i64 (0)), (.int .i64 (0)), (.int .i64 (0)), (.int .i64 (0))] : List Value) ++ hc hash0 ++ ([(.bool false), (.bool false)] : List Value))) (z := (.agg ⟨(([(.int .i64 (0)), (.int .i64 (0)), (.int .i64 (0)), (.int .i64 (0)), (.int .i64 (0))] : List Value) ++ hc hash0 ++ ([(.bool false), (.bool false)] : List Value))⟩)) rfl H137 (by kernel_rfl) (by kernel_rfl) ?_
              intro b140 w141 (H142 : Sat w [famC coreK bs Ds, restC w (fun _ => False), cellC b6 25 ([(.int .i64 (F)), (.int .i64 (1))] : List Value), rowC 27 1 (.slice a1 bs.length q1) bs.length (bs.flatMap encP), rowC 52 37 (.slice a2 all.length q2) all.length (all.flatMap encS), cellC b140 57 (([(.int .i64 (0)), (.int .i64 (0)), (.int .i64 (0)), (.int .i64 (0)), (.int .i64 (0))] : List Value) ++ hc hash0 ++ ([(.bool false), (.bool false)] : List Value))] w141)
              refine hK139 _ _ ?_
              clear hK139 K139
              refine wl_do (wants0 rfl) (fun K143 hK143 => ?_)
              refine d_storeX (vs := (([(.int .i64 (x134.doo)), (.int .i64 (x134.kind)), (.int .i64 (x134.round)), (.int .i64 (x134.valid)), (.int .i64 (x134.replica))] : List Value) ++ hc x134.h ++ ([(.bool (x134.ok)), (.bool (x134.raw))] : List Value))) (cs' := (([(.int .i64 (x134.doo)), (.int .i64 (x134.kind)), (.int .i64 (x134.round)), (.int .i64 (x134.valid)), (.int .i64 (x134.replica))] : List Value) ++ hc x134.h ++ ([(.bool (x134.ok)), (.bool (x134.raw))] : List Value))) rfl H142 5 rfl rfl rfl rfl (by kernel_rfl) (Nat.le_of_ble_eq_true (by kernel_rfl)) (Nat.le_of_ble_eq_true (by kernel_rfl)) (by kernel_rfl) (by kernel_rfl) ?_
              intro w144 (H145 : Sat w [famC coreK bs Ds, restC w (fun _ => False), cellC b6 25 ([(.int .i64 (F)), (.int .i64 (1))] : List Value), rowC 27 1 (.slice a1 bs.length q1) bs.length (bs.flatMap encP), rowC 52 37 (.slice a2 all.length q2) all.length (all.flatMap encS), cellC b140 57 (([(.int .i64 (x134.doo)), (.int .i64 (x134.kind)), (.int .i64 (x134.round)), (.int .i64 (x134.valid)), (.int .i64 (x134.replica))] : List Value) ++ hc x134.h ++ ([(.bool (x134.ok)), (.bool (x134.raw))] : List Value))] w144)
              refine hK143 _ _ ?_
              clear hK143 K143
              refine w_nil ?_
              refine then_normal ?_
              refine w_seq ?_
              have hrw := within_lim x134.replica F (by omega)
              refine w_lit ?_
              refine wl_pure (wants0 rfl) (d := 105) (v := (.int .i64 (2 * F + 1))) rfl (by kernel_rfl) ?_
              refine wl_pure (wants0 rfl) (d := 106) (v := (.pointer (some ⟨b140, 4, none⟩))) rfl (by kernel_rfl) ?_
              refine wl_pure (wants0 rfl) (d := 107) (v := (.int .i64 (x134.replica))) rfl (e_load1 rfl (by kernel_rfl) (H145.cell 5 rfl (by kernel_rfl))) ?_
              refine wl_pure (wants0 rfl) (d := 108) (v := (.pointer (some ⟨b6, 0, none⟩))) rfl (by kernel_rfl) ?_
              refine wl_pure (wants0 rfl) (d := 109) (v := (.int .i64 (F))) rfl (e_load1 rfl (by kernel_rfl) (H145.cell 2 rfl rfl)) ?_
              refine wl_do (wants0 rfl) (fun K147 hK147 => ?_)
              refine d_call (d := 110) rfl (by kernel_rfl) (withinBig_any w144 x134.replica F (by omega)) ?_
              rintro _ w148 ⟨rfl, u150⟩
              have H149 := H145.keepU u150
              refine ⟨_, rfl, ?_⟩
              refine hK147 _ _ ?_
              clear hK147 K147
              refine wl_pure (wants0 rfl) (d := 111) (v := (.int .i64 ((2 * F + 1) + (withinV x134.replica F)))) rfl (e_int (z := (2 * F + 1) + (withinV x134.replica F)) (by kernel_rfl) (IntWalk.i64_in _ (by omega))) ?_
              refine wl_pure (wants0 rfl) (d := 112) (v := (.pointer (some ⟨b140, 4, none⟩))) rfl (by kernel_rfl) ?_
              refine wl_do (wants0 rfl) (fun K151 hK151 => ?_)
              refine d_storeX (vs := ([(.int .i64 ((2 * F + 1) + (withinV x134.replica F)))] : List Value)) (cs' := (([(.int .i64 (x134.doo)), (.int .i64 (x134.kind)), (.int .i64 (x134.round)), (.int .i64 (x134.valid)), (.int .i64 ((2 * F + 1) + (withinV x134.replica F)))] : List Value) ++ hc x134.h ++ ([(.bool (x134.ok)), (.bool (x134.raw))] : List Value))) rfl H149 5 rfl rfl rfl rfl (by kernel_rfl) (Nat.le_of_ble_eq_true (by kernel_rfl)) (Nat.le_of_ble_eq_true (by kernel_rfl)) (by kernel_rfl) (by kernel_rfl) ?_
              intro w152 (H153 : Sat w [famC coreK bs Ds, restC w (fun _ => False), cellC b6 25 ([(.int .i64 (F)), (.int .i64 (1))] : List Value), rowC 27 1 (.slice a1 bs.length q1) bs.length (bs.flatMap encP), rowC 52 37 (.slice a2 all.length q2) all.length (all.flatMap encS), cellC b140 57 (([(.int .i64 (x134.doo)), (.int .i64 (x134.kind)), (.int .i64 (x134.round)), (.int .i64 (x134.valid)), (.int .i64 ((2 * F + 1) + (withinV x134.replica F)))] : List Value) ++ hc x134.h ++ ([(.bool (x134.ok)), (.bool (x134.raw))] : List Value))] w152)
              refine hK151 _ _ ?_
              clear hK151 K151
              refine w_nil ?_
              refine then_normal ?_
              refine w_seq ?_
              have hdw := within_lim x134.doo 8 (by omega)
              refine w_lit ?_
              refine wl_pure (wants0 rfl) (d := 113) (v := (.pointer (some ⟨b140, 0, none⟩))) rfl (by kernel_rfl) ?_
              refine wl_pure (wants0 rfl) (d := 114) (v := (.int .i64 (x134.doo))) rfl (e_load1 rfl (by kernel_rfl) (H153.cell 5 rfl (by kernel_rfl))) ?_
              refine wl_do (wants0 rfl) (fun K155 hK155 => ?_)
              refine d_call (d := 115) rfl (by kernel_rfl) (withinBig_any w152 x134.doo 8 (by omega)) ?_
              rintro _ w156 ⟨rfl, u158⟩
              have H157 := H153.keepU u158
              refine ⟨_, rfl, ?_⟩
              refine hK155 _ _ ?_
              clear hK155 K155
              refine wl_pure (wants0 rfl) (d := 116) (v := (.bool (decide ((withinV x134.doo 8) < 2)))) rfl (by kernel_rfl) ?_
              refine wl_pure (wants0 rfl) (d := 117) (v := (.bool (decide ((withinV x134.doo 8) < 2)))) rfl (by kernel_rfl) ?_
              refine (bsplit (decide ((withinV x134.doo 8) < 2))).elim (fun b159 => ?_) (fun b159 => ?_)
              · have g160 := of_decide_eq_true b159
                refine wl_know 117 (.bool true) (congrArg Value.bool b159) ?_
                have g161 := of_decide_eq_true b159
                refine wl_pure (wantsY 4 117 true rfl (by kernel_rfl) rfl (by kernel_rfl)) (d := 118) (v := (.agg ⟨([(.int .i64 (F)), (.int .i64 (1))] : List Value)⟩)) rfl (e_loadN (vs := ([(.int .i64 (F)), (.int .i64 (1))] : List Value)) rfl (by kernel_rfl) (by kernel_rfl) (by exact Nat.le_of_ble_eq_true (by kernel_rfl)) (H157.at 2 rfl) (by kernel_rfl)) ?_
                refine wl_pure (wantsY 4 117 true rfl (by kernel_rfl) rfl (by kernel_rfl)) (d := 119) (v := (.int .i64 (E))) rfl (by kernel_rfl) ?_
                refine wl_pure (wantsY 4 117 true rfl (by kernel_rfl) rfl (by kernel_rfl)) (d := 120) (v := (.pointer (some ⟨b140, 2, none⟩))) rfl (by kernel_rfl) ?_
                refine wl_pure (wantsY 4 117 true rfl (by kernel_rfl) rfl (by kernel_rfl)) (d := 121) (v := (.int .i64 (x134.round))) rfl (e_load1 rfl (by kernel_rfl) (H157.cell 5 rfl (by kernel_rfl))) ?_
                refine wl_do (wantsY 4 117 true rfl (by kernel_rfl) rfl (by kernel_rfl)) (fun K162 hK162 => ?_)
                refine d_call (d := 122) rfl (by kernel_rfl) (coreProposer_any w156 F 1 (by omega) E x134.round) ?_
                rintro _ w163 ⟨rfl, u165⟩
                have H164 := H157.keepU u165
                refine ⟨_, rfl, ?_⟩
                refine hK162 _ _ ?_
                clear hK162 K162
                refine wl_pure (wantsY 4 117 true rfl (by kernel_rfl) rfl (by kernel_rfl)) (d := 123) (v := (.int .i64 (2 * F + 1))) rfl (by kernel_rfl) ?_
                refine wl_pure (wantsY 4 117 true rfl (by kernel_rfl) rfl (by kernel_rfl)) (d := 124) (v := (.bool (decide ((proposerV F E x134.round) ≥ (2 * F + 1))))) rfl (by kernel_rfl) ?_
                refine wl_pure (wants0 rfl) (d := 125) (v := (.bool (decide ((proposerV F E x134.round) ≥ (2 * F + 1))))) rfl (by kernel_rfl) ?_
                refine wl_pure (wants0 rfl) (d := 126) (v := (.bool (decide ((proposerV F E x134.round) ≥ (2 * F + 1))))) rfl (by kernel_rfl) ?_
                refine (bsplit (decide ((proposerV F E x134.round) ≥ (2 * F + 1)))).elim (fun b166 => ?_) (fun b166 => ?_)
                · have g167 := of_decide_eq_true b166
                  refine wl_know 126 (.bool true) (congrArg Value.bool b166) ?_
                  have g168 := of_decide_eq_true b166
                  refine wl_pure (wantsY 13 126 true rfl (by kernel_rfl) rfl (by kernel_rfl)) (d := 127) (v := (.pointer (some ⟨b140, 38, none⟩))) rfl (by kernel_rfl) ?_
                  refine wl_pure (wantsY 13 126 true rfl (by kernel_rfl) rfl (by kernel_rfl)) (d := 128) (v := (.bool (x134.raw))) rfl (e_load1 rfl (by kernel_rfl) (H164.cell 5 rfl (by kernel_rfl))) ?_
                  refine wl_pure (wantsY 13 126 true rfl (by kernel_rfl) rfl (by kernel_rfl)) (d := 129) (v := (.bool (!(x134.raw)))) rfl (by kernel_rfl) ?_
                  refine wl_pure (wants0 rfl) (d := 130) (v := (.bool (!(x134.raw)))) rfl (by kernel_rfl) ?_
                  refine w_nil ?_
                  refine then_normal ?_
                  refine (bsplit (!(x134.raw))).elim (fun b169 => ?_) (fun b169 => ?_)
                  · have g170 := bnot_true b169
                    refine wp_know 130 (.bool true) (congrArg Value.bool b169) ?_
                    have g171 := bnot_true b169
                    refine wp_ift rfl ?_
                    obtain ⟨g172, c173, e174⟩ := row_shape (H164.at 3 rfl) (by omega)
                    obtain ⟨x175, h176⟩ := get_at (show to < bs.length by omega)
                    obtain ⟨g177, c178, e179⟩ := row_shape (H164.at 3 rfl) (by omega)
                    obtain ⟨x180, h181⟩ := get_at (show to < bs.length by omega)
                    refine h_start H164 [restC w (fun _ => False), cellC b6 25 ([(.int .i64 (F)), (.int .i64 (1))] : List Value), rowC 27 1 (.slice a1 bs.length q1) bs.length (bs.flatMap encP), cellC b140 57 (([(.int .i64 (x134.doo)), (.int .i64 (x134.kind)), (.int .i64 (x134.round)), (.int .i64 (x134.valid)), (.int .i64 ((2 * F + 1) + (withinV x134.replica F)))] : List Value) ++ hc x134.h ++ ([(.bool (x134.ok)), (.bool (x134.raw))] : List Value))] 20 rfl (by kernel_rfl) (fun Hx => (Hx.pick [1, 2, 3, 5] (by decide))) ?_
                    intro w182 H183 S184
                    refine h_val 0 rfl (by kernel_rfl) (by kernel_rfl) (by kernel_rfl) (fun _ _ _ h => h) S184 (wants0 rfl) (d := 131) (v := (.slice a2 all.length q2)) rfl (fun _ H' => (by kernel_rfl)) ?_
                    refine h_val 1 rfl (by kernel_rfl) (by kernel_rfl) (by kernel_rfl) (fun _ _ _ h => h) S184 (wants0 rfl) (d := 132) (v := (.agg ⟨([(.int .i64 (F)), (.int .i64 (1))] : List Value)⟩)) rfl (fun _ H' => (e_loadN (vs := ([(.int .i64 (F)), (.int .i64 (1))] : List Value)) rfl (by kernel_rfl) (by kernel_rfl) (by exact Nat.le_of_ble_eq_true (by kernel_rfl)) (H'.at 1 rfl) (by kernel_rfl))) ?_
                    refine h_val 2 rfl (by kernel_rfl) (by kernel_rfl) (by kernel_rfl) (fun _ _ _ h => h) S184 (wants0 rfl) (d := 133) (v := (.int .i64 (E))) rfl (fun _ H' => (by kernel_rfl)) ?_
                    refine h_val 3 rfl (by kernel_rfl) (by kernel_rfl) (by kernel_rfl) (fun _ _ _ h => h) S184 (wants0 rfl) (d := 134) (v := (.int .i64 ((to : Int)))) rfl (fun _ H' => (by kernel_rfl)) ?_
                    refine h_val 4 rfl (by kernel_rfl) (by kernel_rfl) (by kernel_rfl) (fun _ _ _ h => h) S184 (wants0 rfl) (d := 135) (v := (.slice a1 bs.length q1)) rfl (fun _ H' => (by kernel_rfl)) ?_
                    refine h_val 5 rfl (by kernel_rfl) (by kernel_rfl) (by kernel_rfl) (fun _ _ _ h => h) S184 (wants0 rfl) (d := 136) (v := (.int .i64 ((to : Int)))) rfl (fun _ H' => (by kernel_rfl)) ?_
                    obtain ⟨g185, c186, e187⟩ := row_shape (H183.at 3 rfl) (by omega)
                    obtain ⟨x188, h189⟩ := get_at (show to < bs.length by omega)
                    refine h_val 6 rfl (by kernel_rfl) (by kernel_rfl) (by kernel_rfl) (fun _ _ _ h => h) S184 (wants0 rfl) (d := 137) (v := (.pointer (some ⟨g185, 0 + ((to : Int)).toNat * 1, none⟩))) rfl (fun _ H' => (e_indexAddrV (E := 27) (by kernel_rfl) (by kernel_rfl) (Nat.le_of_ble_eq_true rfl) rfl e187 rfl (by omega) (by omega))) ?_
                    refine h_val 7 rfl (by kernel_rfl) (by kernel_rfl) (by kernel_rfl) (fun _ _ _ h => h) S184 (wants0 rfl) (d := 138) (v := (.pointer (some ⟨x188.k, 0, none⟩))) rfl (fun _ H' => (e_load1 rfl (by kernel_rfl) (rows_cell (H'.at 2 rfl) e187 encP_len h189 0 rfl (show 0 + ((to : Int)).toNat * 1 = to * 1 + 0 by omega) (by kernel_rfl)))) ?_
                    refine h_val 8 rfl (by kernel_rfl) (by kernel_rfl) (by kernel_rfl) (fun _ _ _ h => h) S184 (wants0 rfl) (d := 139) (v := (.pointer (some ⟨b140, 2, none⟩))) rfl (fun _ H' => (by kernel_rfl)) ?_
                    refine h_val 9 rfl (by kernel_rfl) (by kernel_rfl) (by kernel_rfl) (fun _ _ _ h => h) S184 (wants0 rfl) (d := 140) (v := (.int .i64 (x134.round))) rfl (fun _ H' => (e_load1 rfl (by kernel_rfl) (H'.cell 3 rfl (by kernel_rfl)))) ?_
                    refine h_val 10 rfl (by kernel_rfl) (by kernel_rfl) (by kernel_rfl) (fun _ _ _ h => h) S184 (wants0 rfl) (d := 141) (v := (.pointer (some ⟨b140, 3, none⟩))) rfl (fun _ H' => (by kernel_rfl)) ?_
                    refine h_val 11 rfl (by kernel_rfl) (by kernel_rfl) (by kernel_rfl) (fun _ _ _ h => h) S184 (wants0 rfl) (d := 142) (v := (.int .i64 (x134.valid))) rfl (fun _ H' => (e_load1 rfl (by kernel_rfl) (H'.cell 3 rfl (by kernel_rfl)))) ?_
                    refine h_val 12 rfl (by kernel_rfl) (by kernel_rfl) (by kernel_rfl) (fun _ _ _ h => h) S184 (wants0 rfl) (d := 143) (v := (.pointer (some ⟨b140, 5, none⟩))) rfl (fun _ H' => (by kernel_rfl)) ?_
                    refine h_val 13 rfl (by kernel_rfl) (by kernel_rfl) (by kernel_rfl) (fun _ _ _ h => h) S184 (wants0 rfl) (d := 144) (v := (.agg ⟨(hc x134.h)⟩)) rfl (fun _ H' => (e_loadN (vs := (hc x134.h)) rfl (by kernel_rfl) (by kernel_rfl) (by exact Nat.le_of_ble_eq_true (by kernel_rfl)) (H'.at 3 rfl) (by kernel_rfl))) ?_
                    refine h_val 14 rfl (by kernel_rfl) (by kernel_rfl) (by kernel_rfl) (fun _ _ _ h => h) S184 (wants0 rfl) (d := 145) (v := (.pointer (some ⟨b140, 37, none⟩))) rfl (fun _ H' => (by kernel_rfl)) ?_
                    refine h_val 15 rfl (by kernel_rfl) (by kernel_rfl) (by kernel_rfl) (fun _ _ _ h => h) S184 (wants0 rfl) (d := 146) (v := (.bool (x134.ok))) rfl (fun _ H' => (e_load1 rfl (by kernel_rfl) (H'.cell 3 rfl (by kernel_rfl)))) ?_
                    refine h_do 16 rfl (by kernel_rfl) (wants0 rfl) (fun K190 hK190 => ?_)
                    obtain ⟨D191, hD192⟩ := get_at (show to < Ds.length by have q := famC_len (H183.at 0 rfl); omega)
                    obtain ⟨D193, A194, hst195⟩ : ∃ D2 A2, proposeD D191 x134.round x134.valid x134.h (x134.ok) = (D2, A2) := ⟨_, _, rfl⟩
                    have hlA : A194.length ≤ 8388621 := by have q := propose_le ((hAg.core hD192).1) x134.round x134.valid x134.h (x134.ok); rw [hst195] at q; exact Nat.le_trans q (by decide)
                    refine d_call (d := 147) rfl (by kernel_rfl) (calls_fam (T := 45) (D' := (proposeD D191 x134.round x134.valid x134.h (x134.ok)).1) (A := (proposeD D191 x134.round x134.valid x134.h (x134.ok)).2) (H183.at 0 rfl) h189 hD192 (corePropose_any w182 x188.k x188.t x188.hb x188.cb x188.ab x188.lb x188.pb D191 (famC_at (ck := coreK) (H183.at 0 rfl) h189 hD192) ((hAg.core hD192).1) x134.round x134.valid x134.h (x134.ok))) ?_
                    rw [hst195]
                    rintro _ w197 ⟨v196, rfl, S198⟩
                    have H199 : Sat w [famC coreK bs (Ds.set to D193), restC w (fun _ => False), cellC b6 25 ([(.int .i64 (F)), (.int .i64 (1))] : List Value), rowC 27 1 (.slice a1 bs.length q1) bs.length (bs.flatMap encP), rowC 52 37 (.slice a2 all.length q2) all.length (all.flatMap encS), cellC b140 57 (([(.int .i64 (x134.doo)), (.int .i64 (x134.kind)), (.int .i64 (x134.round)), (.int .i64 (x134.valid)), (.int .i64 ((2 * F + 1) + (withinV x134.replica F)))] : List Value) ++ hc x134.h ++ ([(.bool (x134.ok)), (.bool (x134.raw))] : List Value)), rowC 45 35 v196 A194.length (A194.flatMap encA)] w197 := (Sat.turn1 (L' := [famC coreK bs (Ds.set to D193), rowC 45 35 v196 A194.length (A194.flatMap encA)]) (R := [restC w (fun _ => False), cellC b6 25 ([(.int .i64 (F)), (.int .i64 (1))] : List Value), rowC 27 1 (.slice a1 bs.length q1) bs.length (bs.flatMap encP), rowC 52 37 (.slice a2 all.length q2) all.length (all.flatMap encS), cellC b140 57 (([(.int .i64 (x134.doo)), (.int .i64 (x134.kind)), (.int .i64 (x134.round)), (.int .i64 (x134.valid)), (.int .i64 ((2 * F + 1) + (withinV x134.replica F)))] : List Value) ++ hc x134.h ++ ([(.bool (x134.ok)), (.bool (x134.raw))] : List Value))]) H183 0 [1, 2, 3, 4, 5] (by decide) rfl rfl S198).pick [0, 2, 3, 4, 5, 6, 1] (by decide)
                    obtain ⟨a200, c201, rfl⟩ := ownsRow_shape (H199.at 6 rfl)
                    refine ⟨_, rfl, ?_⟩
                    have S202 := H199.pick [1, 2, 3, 5] (by decide)
                    refine hK190 _ _ S202 ?_
                    clear hK190 K190
                    refine h_do 17 rfl (by kernel_rfl) (wants0 rfl) (fun K203 hK203 => ?_)
                    have hsk := speakA_len (to : Int) A194
                    refine d_call (d := 148) rfl (by kernel_rfl) (speak_any w197 F 1 E (to : Int) _ A194 (H199.at 6 rfl) (by omega)) ?_
                    rintro _ w205 ⟨u204, rfl, k207, u208, f209⟩
                    have H206 : Sat w [famC coreK bs (Ds.set to D193), restC w (fun _ => False), cellC b6 25 ([(.int .i64 (F)), (.int .i64 (1))] : List Value), rowC 27 1 (.slice a1 bs.length q1) bs.length (bs.flatMap encP), rowC 52 37 (.slice a2 all.length q2) all.length (all.flatMap encS), cellC b140 57 (([(.int .i64 (x134.doo)), (.int .i64 (x134.kind)), (.int .i64 (x134.round)), (.int .i64 (x134.valid)), (.int .i64 ((2 * F + 1) + (withinV x134.replica F)))] : List Value) ++ hc x134.h ++ ([(.bool (x134.ok)), (.bool (x134.raw))] : List Value)), rowC 45 35 (.slice a200 A194.length c201) A194.length (A194.flatMap encA), rowC 52 37 u204 ((A194.flatMap (speakA (to : Int))).length) ((A194.flatMap (speakA (to : Int))).flatMap encS)] w205 := H199.addU u208 k207 f209
                    obtain ⟨a210, c211, rfl⟩ := ownsRow_shape (H206.at 7 rfl)
                    refine ⟨_, rfl, ?_⟩
                    have S212 := H206.pick [1, 2, 3, 5] (by decide)
                    refine hK203 _ _ S212 ?_
                    clear hK203 K203
                    refine h_do 18 rfl (by kernel_rfl) (wants0 rfl) (fun K213 hK213 => ?_)
                    refine d_append (T := 48) (e := 52) (size := 37) (bytes := 72) rfl H206 (by kernel_rfl) 4 7 rfl rfl rfl rfl (flat_one encS encS_one (A194.flatMap (speakA (to : Int)))) (by omega) (by omega) ?_
                    intro v214 w215 (H216 : Sat w [famC coreK bs (Ds.set to D193), restC w (fun _ => False), cellC b6 25 ([(.int .i64 (F)), (.int .i64 (1))] : List Value), rowC 27 1 (.slice a1 bs.length q1) bs.length (bs.flatMap encP), rowC 52 37 v214 (all.length + (A194.flatMap (speakA (to : Int))).length) ((all.flatMap encS) ++ ((A194.flatMap (speakA (to : Int))).flatMap encS)), cellC b140 57 (([(.int .i64 (x134.doo)), (.int .i64 (x134.kind)), (.int .i64 (x134.round)), (.int .i64 (x134.valid)), (.int .i64 ((2 * F + 1) + (withinV x134.replica F)))] : List Value) ++ hc x134.h ++ ([(.bool (x134.ok)), (.bool (x134.raw))] : List Value)), rowC 45 35 (.slice a200 A194.length c201) A194.length (A194.flatMap encA), rowC 52 37 (.slice a210 ((A194.flatMap (speakA (to : Int))).length) c211) ((A194.flatMap (speakA (to : Int))).length) ((A194.flatMap (speakA (to : Int))).flatMap encS)] w215)
                    have H219 : Sat w [famC coreK bs (Ds.set to D193), restC w (fun _ => False), cellC b6 25 ([(.int .i64 (F)), (.int .i64 (1))] : List Value), rowC 27 1 (.slice a1 bs.length q1) bs.length (bs.flatMap encP), rowC 52 37 v214 ((all ++ (A194.flatMap (speakA (to : Int)))).length) ((all ++ (A194.flatMap (speakA (to : Int)))).flatMap encS), cellC b140 57 (([(.int .i64 (x134.doo)), (.int .i64 (x134.kind)), (.int .i64 (x134.round)), (.int .i64 (x134.valid)), (.int .i64 ((2 * F + 1) + (withinV x134.replica F)))] : List Value) ++ hc x134.h ++ ([(.bool (x134.ok)), (.bool (x134.raw))] : List Value)), rowC 45 35 (.slice a200 A194.length c201) A194.length (A194.flatMap encA), rowC 52 37 (.slice a210 ((A194.flatMap (speakA (to : Int))).length) c211) ((A194.flatMap (speakA (to : Int))).length) ((A194.flatMap (speakA (to : Int))).flatMap encS)] w215 := H216.cast (by simp only [List.length_append, List.flatMap_append] <;> rfl)
                    obtain ⟨a217, c218, rfl⟩ := ownsRow_shape (H219.at 4 rfl)
                    have S220 := H219.pick [1, 2, 3, 5] (by decide)
                    refine hK213 _ _ S220 ?_
                    clear hK213 K213
                    refine h_val 19 rfl (by kernel_rfl) (by kernel_rfl) (by kernel_rfl) (fun _ _ _ h => h) S220 (wants0 rfl) (d := 12) (v := (.slice a217 ((all ++ (A194.flatMap (speakA (to : Int)))).length) c218)) rfl (fun _ H' => (by kernel_rfl)) ?_
                    refine h_fin (by kernel_rfl) ?_
                    refine blk_normal ?_
                    have hsl := speakA_len (to : Int) A194
                    have H221 : Sat w [famC coreK bs (Ds.set to D193), restC w (fun _ => False), cellC b6 25 ([(.int .i64 (F)), (.int .i64 (1))] : List Value), rowC 27 1 (.slice a1 bs.length q1) bs.length (bs.flatMap encP), rowC 52 37 (.slice a217 ((all ++ (A194.flatMap (speakA (to : Int)))).length) c218) ((all ++ (A194.flatMap (speakA (to : Int)))).length) ((all ++ (A194.flatMap (speakA (to : Int)))).flatMap encS)] w215 := H219.pick [0, 1, 2, 3, 4] (by decide)
                    refine meetR_at ?_ ⟨(Ds.set to D193), (all ++ (A194.flatMap (speakA (to : Int)))), a217, c218, rfl, (hAg.propose hD192 hst195), (by first | exact hDn | (rw [List.length_set]; exact hDn)), (by first | exact Nat.le_trans hal2 (by decide) | (rw [List.length_append]; omega)), H221⟩
                    exact (same_upd rfl (same_upd rfl (same_upd rfl (same_upd rfl (same_upd rfl (same_upd rfl (same_upd rfl (same_upd rfl (same_upd rfl (same_upd rfl (same_upd rfl (same_upd rfl (same_upd rfl (same_upd rfl (same_upd rfl (same_upd rfl (same_upd rfl (same_upd rfl (same_upd rfl (same_upd rfl (same_upd rfl (same_upd rfl (same_upd rfl (same_upd rfl (same_upd rfl (same_upd rfl (same_upd rfl (same_upd rfl (same_upd rfl (same_upd rfl (same_upd rfl (same_upd rfl (same_upd rfl (same_upd rfl (same_upd rfl (same_upd rfl (same_upd rfl (same_upd rfl (same_upd rfl (same_upd rfl (same_upd rfl (same_upd rfl (same_upd rfl (same_upd rfl (same_upd rfl (same_upd rfl (same_upd rfl (same_upd rfl (same_upd rfl (same_upd rfl (same_upd rfl (same_upd rfl (same_upd rfl (same_upd rfl (same_upd rfl (same_upd rfl (same_upd rfl (same_upd rfl (same_upd rfl (same_upd rfl (same_upd rfl (same_upd rfl (same_upd rfl (same_upd rfl (same_upd rfl (same_upd rfl (same_upd rfl (same_upd rfl (same_upd rfl (same_upd rfl (same_upd rfl (same_refl))))))))))))))))))))))))))))))))))))))))))))))))))))))))))))))))))))))))
                  · have g222 := bnot_false b169
                    refine wp_know 130 (.bool false) (congrArg Value.bool b169) ?_
                    have g223 := bnot_false b169
                    refine wp_iff rfl ?_
                    obtain ⟨g224, c225, e226⟩ := row_shape (H164.at 3 rfl) (by omega)
                    obtain ⟨x227, h228⟩ := get_at (show to < bs.length by omega)
                    obtain ⟨g229, c230, e231⟩ := row_shape (H164.at 3 rfl) (by omega)
                    obtain ⟨x232, h233⟩ := get_at (show to < bs.length by omega)
                    refine h_start H164 [restC w (fun _ => False), cellC b6 25 ([(.int .i64 (F)), (.int .i64 (1))] : List Value), rowC 27 1 (.slice a1 bs.length q1) bs.length (bs.flatMap encP), cellC b140 57 (([(.int .i64 (x134.doo)), (.int .i64 (x134.kind)), (.int .i64 (x134.round)), (.int .i64 (x134.valid)), (.int .i64 ((2 * F + 1) + (withinV x134.replica F)))] : List Value) ++ hc x134.h ++ ([(.bool (x134.ok)), (.bool (x134.raw))] : List Value))] 20 rfl (by kernel_rfl) (fun Hx => (Hx.pick [1, 2, 3, 5] (by decide))) ?_
                    intro w234 H235 S236
                    refine h_val 0 rfl (by kernel_rfl) (by kernel_rfl) (by kernel_rfl) (fun _ _ _ h => h) S236 (wants0 rfl) (d := 150) (v := (.slice a2 all.length q2)) rfl (fun _ H' => (by kernel_rfl)) ?_
                    refine h_val 1 rfl (by kernel_rfl) (by kernel_rfl) (by kernel_rfl) (fun _ _ _ h => h) S236 (wants0 rfl) (d := 151) (v := (.agg ⟨([(.int .i64 (F)), (.int .i64 (1))] : List Value)⟩)) rfl (fun _ H' => (e_loadN (vs := ([(.int .i64 (F)), (.int .i64 (1))] : List Value)) rfl (by kernel_rfl) (by kernel_rfl) (by exact Nat.le_of_ble_eq_true (by kernel_rfl)) (H'.at 1 rfl) (by kernel_rfl))) ?_
                    refine h_val 2 rfl (by kernel_rfl) (by kernel_rfl) (by kernel_rfl) (fun _ _ _ h => h) S236 (wants0 rfl) (d := 152) (v := (.int .i64 (E))) rfl (fun _ H' => (by kernel_rfl)) ?_
                    refine h_val 3 rfl (by kernel_rfl) (by kernel_rfl) (by kernel_rfl) (fun _ _ _ h => h) S236 (wants0 rfl) (d := 153) (v := (.int .i64 ((to : Int)))) rfl (fun _ H' => (by kernel_rfl)) ?_
                    refine h_val 4 rfl (by kernel_rfl) (by kernel_rfl) (by kernel_rfl) (fun _ _ _ h => h) S236 (wants0 rfl) (d := 154) (v := (.slice a1 bs.length q1)) rfl (fun _ H' => (by kernel_rfl)) ?_
                    refine h_val 5 rfl (by kernel_rfl) (by kernel_rfl) (by kernel_rfl) (fun _ _ _ h => h) S236 (wants0 rfl) (d := 155) (v := (.int .i64 ((to : Int)))) rfl (fun _ H' => (by kernel_rfl)) ?_
                    obtain ⟨g237, c238, e239⟩ := row_shape (H235.at 3 rfl) (by omega)
                    obtain ⟨x240, h241⟩ := get_at (show to < bs.length by omega)
                    refine h_val 6 rfl (by kernel_rfl) (by kernel_rfl) (by kernel_rfl) (fun _ _ _ h => h) S236 (wants0 rfl) (d := 156) (v := (.pointer (some ⟨g237, 0 + ((to : Int)).toNat * 1, none⟩))) rfl (fun _ H' => (e_indexAddrV (E := 27) (by kernel_rfl) (by kernel_rfl) (Nat.le_of_ble_eq_true rfl) rfl e239 rfl (by omega) (by omega))) ?_
                    refine h_val 7 rfl (by kernel_rfl) (by kernel_rfl) (by kernel_rfl) (fun _ _ _ h => h) S236 (wants0 rfl) (d := 157) (v := (.pointer (some ⟨x240.k, 0, none⟩))) rfl (fun _ H' => (e_load1 rfl (by kernel_rfl) (rows_cell (H'.at 2 rfl) e239 encP_len h241 0 rfl (show 0 + ((to : Int)).toNat * 1 = to * 1 + 0 by omega) (by kernel_rfl)))) ?_
                    refine h_val 8 rfl (by kernel_rfl) (by kernel_rfl) (by kernel_rfl) (fun _ _ _ h => h) S236 (wants0 rfl) (d := 158) (v := (.pointer (some ⟨b140, 1, none⟩))) rfl (fun _ H' => (by kernel_rfl)) ?_
                    refine h_val 9 rfl (by kernel_rfl) (by kernel_rfl) (by kernel_rfl) (fun _ _ _ h => h) S236 (wants0 rfl) (d := 159) (v := (.int .i64 (x134.kind))) rfl (fun _ H' => (e_load1 rfl (by kernel_rfl) (H'.cell 3 rfl (by kernel_rfl)))) ?_
                    refine h_val 10 rfl (by kernel_rfl) (by kernel_rfl) (by kernel_rfl) (fun _ _ _ h => h) S236 (wants0 rfl) (d := 160) (v := (.pointer (some ⟨b140, 2, none⟩))) rfl (fun _ H' => (by kernel_rfl)) ?_
                    refine h_val 11 rfl (by kernel_rfl) (by kernel_rfl) (by kernel_rfl) (fun _ _ _ h => h) S236 (wants0 rfl) (d := 161) (v := (.int .i64 (x134.round))) rfl (fun _ H' => (e_load1 rfl (by kernel_rfl) (H'.cell 3 rfl (by kernel_rfl)))) ?_
                    refine h_val 12 rfl (by kernel_rfl) (by kernel_rfl) (by kernel_rfl) (fun _ _ _ h => h) S236 (wants0 rfl) (d := 162) (v := (.pointer (some ⟨b140, 4, none⟩))) rfl (fun _ H' => (by kernel_rfl)) ?_
                    refine h_val 13 rfl (by kernel_rfl) (by kernel_rfl) (by kernel_rfl) (fun _ _ _ h => h) S236 (wants0 rfl) (d := 163) (v := (.int .i64 ((2 * F + 1) + (withinV x134.replica F)))) rfl (fun _ H' => (e_load1 rfl (by kernel_rfl) (H'.cell 3 rfl (by kernel_rfl)))) ?_
                    refine h_val 14 rfl (by kernel_rfl) (by kernel_rfl) (by kernel_rfl) (fun _ _ _ h => h) S236 (wants0 rfl) (d := 164) (v := (.pointer (some ⟨b140, 5, none⟩))) rfl (fun _ H' => (by kernel_rfl)) ?_
                    refine h_val 15 rfl (by kernel_rfl) (by kernel_rfl) (by kernel_rfl) (fun _ _ _ h => h) S236 (wants0 rfl) (d := 165) (v := (.agg ⟨(hc x134.h)⟩)) rfl (fun _ H' => (e_loadN (vs := (hc x134.h)) rfl (by kernel_rfl) (by kernel_rfl) (by exact Nat.le_of_ble_eq_true (by kernel_rfl)) (H'.at 3 rfl) (by kernel_rfl))) ?_
                    refine h_do 16 rfl (by kernel_rfl) (wants0 rfl) (fun K242 hK242 => ?_)
                    obtain ⟨D243, hD244⟩ := get_at (show to < Ds.length by have q := famC_len (H235.at 0 rfl); omega)
                    obtain ⟨D245, A246, hst247⟩ : ∃ D2 A2, voteD' D243 x134.kind x134.round ((2 * F + 1) + (withinV x134.replica F)) x134.h = (D2, A2) := ⟨_, _, rfl⟩
                    have hlA : A246.length ≤ 8388621 := by have q := vote_le ((hAg.core hD244).1) x134.kind x134.round ((2 * F + 1) + (withinV x134.replica F)) x134.h; rw [hst247] at q; exact Nat.le_trans q (by decide)
                    refine d_call (d := 166) rfl (by kernel_rfl) (calls_fam (T := 45) (D' := (voteD' D243 x134.kind x134.round ((2 * F + 1) + (withinV x134.replica F)) x134.h).1) (A := (voteD' D243 x134.kind x134.round ((2 * F + 1) + (withinV x134.replica F)) x134.h).2) (H235.at 0 rfl) h241 hD244 (coreVote_any w234 x240.k x240.t x240.hb x240.cb x240.ab x240.lb x240.pb D243 (famC_at (ck := coreK) (H235.at 0 rfl) h241 hD244) ((hAg.core hD244).1) x134.kind x134.round ((2 * F + 1) + (withinV x134.replica F)) x134.h)) ?_
                    rw [hst247]
                    rintro _ w249 ⟨v248, rfl, S250⟩
                    have H251 : Sat w [famC coreK bs (Ds.set to D245), restC w (fun _ => False), cellC b6 25 ([(.int .i64 (F)), (.int .i64 (1))] : List Value), rowC 27 1 (.slice a1 bs.length q1) bs.length (bs.flatMap encP), rowC 52 37 (.slice a2 all.length q2) all.length (all.flatMap encS), cellC b140 57 (([(.int .i64 (x134.doo)), (.int .i64 (x134.kind)), (.int .i64 (x134.round)), (.int .i64 (x134.valid)), (.int .i64 ((2 * F + 1) + (withinV x134.replica F)))] : List Value) ++ hc x134.h ++ ([(.bool (x134.ok)), (.bool (x134.raw))] : List Value)), rowC 45 35 v248 A246.length (A246.flatMap encA)] w249 := (Sat.turn1 (L' := [famC coreK bs (Ds.set to D245), rowC 45 35 v248 A246.length (A246.flatMap encA)]) (R := [restC w (fun _ => False), cellC b6 25 ([(.int .i64 (F)), (.int .i64 (1))] : List Value), rowC 27 1 (.slice a1 bs.length q1) bs.length (bs.flatMap encP), rowC 52 37 (.slice a2 all.length q2) all.length (all.flatMap encS), cellC b140 57 (([(.int .i64 (x134.doo)), (.int .i64 (x134.kind)), (.int .i64 (x134.round)), (.int .i64 (x134.valid)), (.int .i64 ((2 * F + 1) + (withinV x134.replica F)))] : List Value) ++ hc x134.h ++ ([(.bool (x134.ok)), (.bool (x134.raw))] : List Value))]) H235 0 [1, 2, 3, 4, 5] (by decide) rfl rfl S250).pick [0, 2, 3, 4, 5, 6, 1] (by decide)
                    obtain ⟨a252, c253, rfl⟩ := ownsRow_shape (H251.at 6 rfl)
                    refine ⟨_, rfl, ?_⟩
                    have S254 := H251.pick [1, 2, 3, 5] (by decide)
                    refine hK242 _ _ S254 ?_
                    clear hK242 K242
                    refine h_do 17 rfl (by kernel_rfl) (wants0 rfl) (fun K255 hK255 => ?_)
                    have hsk := speakA_len (to : Int) A246
                    refine d_call (d := 167) rfl (by kernel_rfl) (speak_any w249 F 1 E (to : Int) _ A246 (H251.at 6 rfl) (by omega)) ?_
                    rintro _ w257 ⟨u256, rfl, k259, u260, f261⟩
                    have H258 : Sat w [famC coreK bs (Ds.set to D245), restC w (fun _ => False), cellC b6 25 ([(.int .i64 (F)), (.int .i64 (1))] : List Value), rowC 27 1 (.slice a1 bs.length q1) bs.length (bs.flatMap encP), rowC 52 37 (.slice a2 all.length q2) all.length (all.flatMap encS), cellC b140 57 (([(.int .i64 (x134.doo)), (.int .i64 (x134.kind)), (.int .i64 (x134.round)), (.int .i64 (x134.valid)), (.int .i64 ((2 * F + 1) + (withinV x134.replica F)))] : List Value) ++ hc x134.h ++ ([(.bool (x134.ok)), (.bool (x134.raw))] : List Value)), rowC 45 35 (.slice a252 A246.length c253) A246.length (A246.flatMap encA), rowC 52 37 u256 ((A246.flatMap (speakA (to : Int))).length) ((A246.flatMap (speakA (to : Int))).flatMap encS)] w257 := H251.addU u260 k259 f261
                    obtain ⟨a262, c263, rfl⟩ := ownsRow_shape (H258.at 7 rfl)
                    refine ⟨_, rfl, ?_⟩
                    have S264 := H258.pick [1, 2, 3, 5] (by decide)
                    refine hK255 _ _ S264 ?_
                    clear hK255 K255
                    refine h_do 18 rfl (by kernel_rfl) (wants0 rfl) (fun K265 hK265 => ?_)
                    refine d_append (T := 48) (e := 52) (size := 37) (bytes := 72) rfl H258 (by kernel_rfl) 4 7 rfl rfl rfl rfl (flat_one encS encS_one (A246.flatMap (speakA (to : Int)))) (by omega) (by omega) ?_
                    intro v266 w267 (H268 : Sat w [famC coreK bs (Ds.set to D245), restC w (fun _ => False), cellC b6 25 ([(.int .i64 (F)), (.int .i64 (1))] : List Value), rowC 27 1 (.slice a1 bs.length q1) bs.length (bs.flatMap encP), rowC 52 37 v266 (all.length + (A246.flatMap (speakA (to : Int))).length) ((all.flatMap encS) ++ ((A246.flatMap (speakA (to : Int))).flatMap encS)), cellC b140 57 (([(.int .i64 (x134.doo)), (.int .i64 (x134.kind)), (.int .i64 (x134.round)), (.int .i64 (x134.valid)), (.int .i64 ((2 * F + 1) + (withinV x134.replica F)))] : List Value) ++ hc x134.h ++ ([(.bool (x134.ok)), (.bool (x134.raw))] : List Value)), rowC 45 35 (.slice a252 A246.length c253) A246.length (A246.flatMap encA), rowC 52 37 (.slice a262 ((A246.flatMap (speakA (to : Int))).length) c263) ((A246.flatMap (speakA (to : Int))).length) ((A246.flatMap (speakA (to : Int))).flatMap encS)] w267)
                    have H271 : Sat w [famC coreK bs (Ds.set to D245), restC w (fun _ => False), cellC b6 25 ([(.int .i64 (F)), (.int .i64 (1))] : List Value), rowC 27 1 (.slice a1 bs.length q1) bs.length (bs.flatMap encP), rowC 52 37 v266 ((all ++ (A246.flatMap (speakA (to : Int)))).length) ((all ++ (A246.flatMap (speakA (to : Int)))).flatMap encS), cellC b140 57 (([(.int .i64 (x134.doo)), (.int .i64 (x134.kind)), (.int .i64 (x134.round)), (.int .i64 (x134.valid)), (.int .i64 ((2 * F + 1) + (withinV x134.replica F)))] : List Value) ++ hc x134.h ++ ([(.bool (x134.ok)), (.bool (x134.raw))] : List Value)), rowC 45 35 (.slice a252 A246.length c253) A246.length (A246.flatMap encA), rowC 52 37 (.slice a262 ((A246.flatMap (speakA (to : Int))).length) c263) ((A246.flatMap (speakA (to : Int))).length) ((A246.flatMap (speakA (to : Int))).flatMap encS)] w267 := H268.cast (by simp only [List.length_append, List.flatMap_append] <;> rfl)
                    obtain ⟨a269, c270, rfl⟩ := ownsRow_shape (H271.at 4 rfl)
                    have S272 := H271.pick [1, 2, 3, 5] (by decide)
                    refine hK265 _ _ S272 ?_
                    clear hK265 K265
                    refine h_val 19 rfl (by kernel_rfl) (by kernel_rfl) (by kernel_rfl) (fun _ _ _ h => h) S272 (wants0 rfl) (d := 12) (v := (.slice a269 ((all ++ (A246.flatMap (speakA (to : Int)))).length) c270)) rfl (fun _ H' => (by kernel_rfl)) ?_
                    refine h_fin (by kernel_rfl) ?_
                    refine blk_normal ?_
                    have hsl := speakA_len (to : Int) A246
                    have H273 : Sat w [famC coreK bs (Ds.set to D245), restC w (fun _ => False), cellC b6 25 ([(.int .i64 (F)), (.int .i64 (1))] : List Value), rowC 27 1 (.slice a1 bs.length q1) bs.length (bs.flatMap encP), rowC 52 37 (.slice a269 ((all ++ (A246.flatMap (speakA (to : Int)))).length) c270) ((all ++ (A246.flatMap (speakA (to : Int)))).length) ((all ++ (A246.flatMap (speakA (to : Int)))).flatMap encS)] w267 := H271.pick [0, 1, 2, 3, 4] (by decide)
                    refine meetR_at ?_ ⟨(Ds.set to D245), (all ++ (A246.flatMap (speakA (to : Int)))), a269, c270, rfl, (hAg.lie hD244 (by omega) (by omega) hst247), (by first | exact hDn | (rw [List.length_set]; exact hDn)), (by first | exact Nat.le_trans hal2 (by decide) | (rw [List.length_append]; omega)), H273⟩
                    exact (same_upd rfl (same_upd rfl (same_upd rfl (same_upd rfl (same_upd rfl (same_upd rfl (same_upd rfl (same_upd rfl (same_upd rfl (same_upd rfl (same_upd rfl (same_upd rfl (same_upd rfl (same_upd rfl (same_upd rfl (same_upd rfl (same_upd rfl (same_upd rfl (same_upd rfl (same_upd rfl (same_upd rfl (same_upd rfl (same_upd rfl (same_upd rfl (same_upd rfl (same_upd rfl (same_upd rfl (same_upd rfl (same_upd rfl (same_upd rfl (same_upd rfl (same_upd rfl (same_upd rfl (same_upd rfl (same_upd rfl (same_upd rfl (same_upd rfl (same_upd rfl (same_upd rfl (same_upd rfl (same_upd rfl (same_upd rfl (same_upd rfl (same_upd rfl (same_upd rfl (same_upd rfl (same_upd rfl (same_upd rfl (same_upd rfl (same_upd rfl (same_upd rfl (same_upd rfl (same_upd rfl (same_upd rfl (same_upd rfl (same_upd rfl (same_upd rfl (same_upd rfl (same_upd rfl (same_upd rfl (same_upd rfl (same_upd rfl (same_upd rfl (same_upd rfl (same_upd rfl (same_upd rfl (same_upd rfl (same_upd rfl (same_upd rfl (same_upd rfl (same_upd rfl (same_refl))))))))))))))))))))))))))))))))))))))))))))))))))))))))))))))))))))))))
                · have g274 := of_decide_eq_false b166
                  refine wl_know 126 (.bool false) (congrArg Value.bool b166) ?_
                  have g275 := of_decide_eq_false b166
                  refine wl_pass (wantsN 13 126 true rfl (by kernel_rfl) rfl (by kernel_rfl)) rfl ?_
                  refine wl_pass (wantsN 13 126 true rfl (by kernel_rfl) rfl (by kernel_rfl)) rfl ?_
                  refine wl_pass (wantsN 13 126 true rfl (by kernel_rfl) rfl (by kernel_rfl)) rfl ?_
                  refine wl_pure (wants0 rfl) (d := 130) (v := (.bool false)) rfl (by kernel_rfl) ?_
                  refine w_nil ?_
                  refine then_normal ?_
                  refine wp_iff rfl ?_
                  obtain ⟨g276, c277, e278⟩ := row_shape (H164.at 3 rfl) (by omega)
                  obtain ⟨x279, h280⟩ := get_at (show to < bs.length by omega)
                  obtain ⟨g281, c282, e283⟩ := row_shape (H164.at 3 rfl) (by omega)
                  obtain ⟨x284, h285⟩ := get_at (show to < bs.length by omega)
                  refine h_start H164 [restC w (fun _ => False), cellC b6 25 ([(.int .i64 (F)), (.int .i64 (1))] : List Value), rowC 27 1 (.slice a1 bs.length q1) bs.length (bs.flatMap encP), cellC b140 57 (([(.int .i64 (x134.doo)), (.int .i64 (x134.kind)), (.int .i64 (x134.round)), (.int .i64 (x134.valid)), (.int .i64 ((2 * F + 1) + (withinV x134.replica F)))] : List Value) ++ hc x134.h ++ ([(.bool (x134.ok)), (.bool (x134.raw))] : List Value))] 20 rfl (by kernel_rfl) (fun Hx => (Hx.pick [1, 2, 3, 5] (by decide))) ?_
                  intro w286 H287 S288
                  refine h_val 0 rfl (by kernel_rfl) (by kernel_rfl) (by kernel_rfl) (fun _ _ _ h => h) S288 (wants0 rfl) (d := 150) (v := (.slice a2 all.length q2)) rfl (fun _ H' => (by kernel_rfl)) ?_
                  refine h_val 1 rfl (by kernel_rfl) (by kernel_rfl) (by kernel_rfl) (fun _ _ _ h => h) S288 (wants0 rfl) (d := 151) (v := (.agg ⟨([(.int .i64 (F)), (.int .i64 (1))] : List Value)⟩)) rfl (fun _ H' => (e_loadN (vs := ([(.int .i64 (F)), (.int .i64 (1))] : List Value)) rfl (by kernel_rfl) (by kernel_rfl) (by exact Nat.le_of_ble_eq_true (by kernel_rfl)) (H'.at 1 rfl) (by kernel_rfl))) ?_
                  refine h_val 2 rfl (by kernel_rfl) (by kernel_rfl) (by kernel_rfl) (fun _ _ _ h => h) S288 (wants0 rfl) (d := 152) (v := (.int .i64 (E))) rfl (fun _ H' => (by kernel_rfl)) ?_
                  refine h_val 3 rfl (by kernel_rfl) (by kernel_rfl) (by kernel_rfl) (fun _ _ _ h => h) S288 (wants0 rfl) (d := 153) (v := (.int .i64 ((to : Int)))) rfl (fun _ H' => (by kernel_rfl)) ?_
                  refine h_val 4 rfl (by kernel_rfl) (by kernel_rfl) (by kernel_rfl) (fun _ _ _ h => h) S288 (wants0 rfl) (d := 154) (v := (.slice a1 bs.length q1)) rfl (fun _ H' => (by kernel_rfl)) ?_
                  refine h_val 5 rfl (by kernel_rfl) (by kernel_rfl) (by kernel_rfl) (fun _ _ _ h => h) S288 (wants0 rfl) (d := 155) (v := (.int .i64 ((to : Int)))) rfl (fun _ H' => (by kernel_rfl)) ?_
                  obtain ⟨g289, c290, e291⟩ := row_shape (H287.at 3 rfl) (by omega)
                  obtain ⟨x292, h293⟩ := get_at (show to < bs.length by omega)
                  refine h_val 6 rfl (by kernel_rfl) (by kernel_rfl) (by kernel_rfl) (fun _ _ _ h => h) S288 (wants0 rfl) (d := 156) (v := (.pointer (some ⟨g289, 0 + ((to : Int)).toNat * 1, none⟩))) rfl (fun _ H' => (e_indexAddrV (E := 27) (by kernel_rfl) (by kernel_rfl) (Nat.le_of_ble_eq_true rfl) rfl e291 rfl (by omega) (by omega))) ?_
                  refine h_val 7 rfl (by kernel_rfl) (by kernel_rfl) (by kernel_rfl) (fun _ _ _ h => h) S288 (wants0 rfl) (d := 157) (v := (.pointer (some ⟨x292.k, 0, none⟩))) rfl (fun _ H' => (e_load1 rfl (by kernel_rfl) (rows_cell (H'.at 2 rfl) e291 encP_len h293 0 rfl (show 0 + ((to : Int)).toNat * 1 = to * 1 + 0 by omega) (by kernel_rfl)))) ?_
                  refine h_val 8 rfl (by kernel_rfl) (by kernel_rfl) (by kernel_rfl) (fun _ _ _ h => h) S288 (wants0 rfl) (d := 158) (v := (.pointer (some ⟨b140, 1, none⟩))) rfl (fun _ H' => (by kernel_rfl)) ?_
                  refine h_val 9 rfl (by kernel_rfl) (by kernel_rfl) (by kernel_rfl) (fun _ _ _ h => h) S288 (wants0 rfl) (d := 159) (v := (.int .i64 (x134.kind))) rfl (fun _ H' => (e_load1 rfl (by kernel_rfl) (H'.cell 3 rfl (by kernel_rfl)))) ?_
                  refine h_val 10 rfl (by kernel_rfl) (by kernel_rfl) (by kernel_rfl) (fun _ _ _ h => h) S288 (wants0 rfl) (d := 160) (v := (.pointer (some ⟨b140, 2, none⟩))) rfl (fun _ H' => (by kernel_rfl)) ?_
                  refine h_val 11 rfl (by kernel_rfl) (by kernel_rfl) (by kernel_rfl) (fun _ _ _ h => h) S288 (wants0 rfl) (d := 161) (v := (.int .i64 (x134.round))) rfl (fun _ H' => (e_load1 rfl (by kernel_rfl) (H'.cell 3 rfl (by kernel_rfl)))) ?_
                  refine h_val 12 rfl (by kernel_rfl) (by kernel_rfl) (by kernel_rfl) (fun _ _ _ h => h) S288 (wants0 rfl) (d := 162) (v := (.pointer (some ⟨b140, 4, none⟩))) rfl (fun _ H' => (by kernel_rfl)) ?_
                  refine h_val 13 rfl (by kernel_rfl) (by kernel_rfl) (by kernel_rfl) (fun _ _ _ h => h) S288 (wants0 rfl) (d := 163) (v := (.int .i64 ((2 * F + 1) + (withinV x134.replica F)))) rfl (fun _ H' => (e_load1 rfl (by kernel_rfl) (H'.cell 3 rfl (by kernel_rfl)))) ?_
                  refine h_val 14 rfl (by kernel_rfl) (by kernel_rfl) (by kernel_rfl) (fun _ _ _ h => h) S288 (wants0 rfl) (d := 164) (v := (.pointer (some ⟨b140, 5, none⟩))) rfl (fun _ H' => (by kernel_rfl)) ?_
                  refine h_val 15 rfl (by kernel_rfl) (by kernel_rfl) (by kernel_rfl) (fun _ _ _ h => h) S288 (wants0 rfl) (d := 165) (v := (.agg ⟨(hc x134.h)⟩)) rfl (fun _ H' => (e_loadN (vs := (hc x134.h)) rfl (by kernel_rfl) (by kernel_rfl) (by exact Nat.le_of_ble_eq_true (by kernel_rfl)) (H'.at 3 rfl) (by kernel_rfl))) ?_
                  refine h_do 16 rfl (by kernel_rfl) (wants0 rfl) (fun K294 hK294 => ?_)
                  obtain ⟨D295, hD296⟩ := get_at (show to < Ds.length by have q := famC_len (H287.at 0 rfl); omega)
                  obtain ⟨D297, A298, hst299⟩ : ∃ D2 A2, voteD' D295 x134.kind x134.round ((2 * F + 1) + (withinV x134.replica F)) x134.h = (D2, A2) := ⟨_, _, rfl⟩
                  have hlA : A298.length ≤ 8388621 := by have q := vote_le ((hAg.core hD296).1) x134.kind x134.round ((2 * F + 1) + (withinV x134.replica F)) x134.h; rw [hst299] at q; exact Nat.le_trans q (by decide)
                  refine d_call (d := 166) rfl (by kernel_rfl) (calls_fam (T := 45) (D' := (voteD' D295 x134.kind x134.round ((2 * F + 1) + (withinV x134.replica F)) x134.h).1) (A := (voteD' D295 x134.kind x134.round ((2 * F + 1) + (withinV x134.replica F)) x134.h).2) (H287.at 0 rfl) h293 hD296 (coreVote_any w286 x292.k x292.t x292.hb x292.cb x292.ab x292.lb x292.pb D295 (famC_at (ck := coreK) (H287.at 0 rfl) h293 hD296) ((hAg.core hD296).1) x134.kind x134.round ((2 * F + 1) + (withinV x134.replica F)) x134.h)) ?_
                  rw [hst299]
                  rintro _ w301 ⟨v300, rfl, S302⟩
                  have H303 : Sat w [famC coreK bs (Ds.set to D297), restC w (fun _ => False), cellC b6 25 ([(.int .i64 (F)), (.int .i64 (1))] : List Value), rowC 27 1 (.slice a1 bs.length q1) bs.length (bs.flatMap encP), rowC 52 37 (.slice a2 all.length q2) all.length (all.flatMap encS), cellC b140 57 (([(.int .i64 (x134.doo)), (.int .i64 (x134.kind)), (.int .i64 (x134.round)), (.int .i64 (x134.valid)), (.int .i64 ((2 * F + 1) + (withinV x134.replica F)))] : List Value) ++ hc x134.h ++ ([(.bool (x134.ok)), (.bool (x134.raw))] : List Value)), rowC 45 35 v300 A298.length (A298.flatMap encA)] w301 := (Sat.turn1 (L' := [famC coreK bs (Ds.set to D297), rowC 45 35 v300 A298.length (A298.flatMap encA)]) (R := [restC w (fun _ => False), cellC b6 25 ([(.int .i64 (F)), (.int .i64 (1))] : List Value), rowC 27 1 (.slice a1 bs.length q1) bs.length (bs.flatMap encP), rowC 52 37 (.slice a2 all.length q2) all.length (all.flatMap encS), cellC b140 57 (([(.int .i64 (x134.doo)), (.int .i64 (x134.kind)), (.int .i64 (x134.round)), (.int .i64 (x134.valid)), (.int .i64 ((2 * F + 1) + (withinV x134.replica F)))] : List Value) ++ hc x134.h ++ ([(.bool (x134.ok)), (.bool (x134.raw))] : List Value))]) H287 0 [1, 2, 3, 4, 5] (by decide) rfl rfl S302).pick [0, 2, 3, 4, 5, 6, 1] (by decide)
                  obtain ⟨a304, c305, rfl⟩ := ownsRow_shape (H303.at 6 rfl)
                  refine ⟨_, rfl, ?_⟩
                  have S306 := H303.pick [1, 2, 3, 5] (by decide)
                  refine hK294 _ _ S306 ?_
                  clear hK294 K294
                  refine h_do 17 rfl (by kernel_rfl) (wants0 rfl) (fun K307 hK307 => ?_)
                  have hsk := speakA_len (to : Int) A298
                  refine d_call (d := 167) rfl (by kernel_rfl) (speak_any w301 F 1 E (to : Int) _ A298 (H303.at 6 rfl) (by omega)) ?_
                  rintro _ w309 ⟨u308, rfl, k311, u312, f313⟩
                  have H310 : Sat w [famC coreK bs (Ds.set to D297), restC w (fun _ => False), cellC b6 25 ([(.int .i64 (F)), (.int .i64 (1))] : List Value), rowC 27 1 (.slice a1 bs.length q1) bs.length (bs.flatMap encP), rowC 52 37 (.slice a2 all.length q2) all.length (all.flatMap encS), cellC b140 57 (([(.int .i64 (x134.doo)), (.int .i64 (x134.kind)), (.int .i64 (x134.round)), (.int .i64 (x134.valid)), (.int .i64 ((2 * F + 1) + (withinV x134.replica F)))] : List Value) ++ hc x134.h ++ ([(.bool (x134.ok)), (.bool (x134.raw))] : List Value)), rowC 45 35 (.slice a304 A298.length c305) A298.length (A298.flatMap encA), rowC 52 37 u308 ((A298.flatMap (speakA (to : Int))).length) ((A298.flatMap (speakA (to : Int))).flatMap encS)] w309 := H303.addU u312 k311 f313
                  obtain ⟨a314, c315, rfl⟩ := ownsRow_shape (H310.at 7 rfl)
                  refine ⟨_, rfl, ?_⟩
                  have S316 := H310.pick [1, 2, 3, 5] (by decide)
                  refine hK307 _ _ S316 ?_
                  clear hK307 K307
                  refine h_do 18 rfl (by kernel_rfl) (wants0 rfl) (fun K317 hK317 => ?_)
                  refine d_append (T := 48) (e := 52) (size := 37) (bytes := 72) rfl H310 (by kernel_rfl) 4 7 rfl rfl rfl rfl (flat_one encS encS_one (A298.flatMap (speakA (to : Int)))) (by omega) (by omega) ?_
                  intro v318 w319 (H320 : Sat w [famC coreK bs (Ds.set to D297), restC w (fun _ => False), cellC b6 25 ([(.int .i64 (F)), (.int .i64 (1))] : List Value), rowC 27 1 (.slice a1 bs.length q1) bs.length (bs.flatMap encP), rowC 52 37 v318 (all.length + (A298.flatMap (speakA (to : Int))).length) ((all.flatMap encS) ++ ((A298.flatMap (speakA (to : Int))).flatMap encS)), cellC b140 57 (([(.int .i64 (x134.doo)), (.int .i64 (x134.kind)), (.int .i64 (x134.round)), (.int .i64 (x134.valid)), (.int .i64 ((2 * F + 1) + (withinV x134.replica F)))] : List Value) ++ hc x134.h ++ ([(.bool (x134.ok)), (.bool (x134.raw))] : List Value)), rowC 45 35 (.slice a304 A298.length c305) A298.length (A298.flatMap encA), rowC 52 37 (.slice a314 ((A298.flatMap (speakA (to : Int))).length) c315) ((A298.flatMap (speakA (to : Int))).length) ((A298.flatMap (speakA (to : Int))).flatMap encS)] w319)
                  have H323 : Sat w [famC coreK bs (Ds.set to D297), restC w (fun _ => False), cellC b6 25 ([(.int .i64 (F)), (.int .i64 (1))] : List Value), rowC 27 1 (.slice a1 bs.length q1) bs.length (bs.flatMap encP), rowC 52 37 v318 ((all ++ (A298.flatMap (speakA (to : Int)))).length) ((all ++ (A298.flatMap (speakA (to : Int)))).flatMap encS), cellC b140 57 (([(.int .i64 (x134.doo)), (.int .i64 (x134.kind)), (.int .i64 (x134.round)), (.int .i64 (x134.valid)), (.int .i64 ((2 * F + 1) + (withinV x134.replica F)))] : List Value) ++ hc x134.h ++ ([(.bool (x134.ok)), (.bool (x134.raw))] : List Value)), rowC 45 35 (.slice a304 A298.length c305) A298.length (A298.flatMap encA), rowC 52 37 (.slice a314 ((A298.flatMap (speakA (to : Int))).length) c315) ((A298.flatMap (speakA (to : Int))).length) ((A298.flatMap (speakA (to : Int))).flatMap encS)] w319 := H320.cast (by simp only [List.length_append, List.flatMap_append] <;> rfl)
                  obtain ⟨a321, c322, rfl⟩ := ownsRow_shape (H323.at 4 rfl)
                  have S324 := H323.pick [1, 2, 3, 5] (by decide)
                  refine hK317 _ _ S324 ?_
                  clear hK317 K317
                  refine h_val 19 rfl (by kernel_rfl) (by kernel_rfl) (by kernel_rfl) (fun _ _ _ h => h) S324 (wants0 rfl) (d := 12) (v := (.slice a321 ((all ++ (A298.flatMap (speakA (to : Int)))).length) c322)) rfl (fun _ H' => (by kernel_rfl)) ?_
                  refine h_fin (by kernel_rfl) ?_
                  refine blk_normal ?_
                  have hsl := speakA_len (to : Int) A298
                  have H325 : Sat w [famC coreK bs (Ds.set to D297), restC w (fun _ => False), cellC b6 25 ([(.int .i64 (F)), (.int .i64 (1))] : List Value), rowC 27 1 (.slice a1 bs.length q1) bs.length (bs.flatMap encP), rowC 52 37 (.slice a321 ((all ++ (A298.flatMap (speakA (to : Int)))).length) c322) ((all ++ (A298.flatMap (speakA (to : Int)))).length) ((all ++ (A298.flatMap (speakA (to : Int)))).flatMap encS)] w319 := H323.pick [0, 1, 2, 3, 4] (by decide)
                  refine meetR_at ?_ ⟨(Ds.set to D297), (all ++ (A298.flatMap (speakA (to : Int)))), a321, c322, rfl, (hAg.lie hD296 (by omega) (by omega) hst299), (by first | exact hDn | (rw [List.length_set]; exact hDn)), (by first | exact Nat.le_trans hal2 (by decide) | (rw [List.length_append]; omega)), H325⟩
                  exact (same_upd rfl (same_upd rfl (same_upd rfl (same_upd rfl (same_upd rfl (same_upd rfl (same_upd rfl (same_upd rfl (same_upd rfl (same_upd rfl (same_upd rfl (same_upd rfl (same_upd rfl (same_upd rfl (same_upd rfl (same_upd rfl (same_upd rfl (same_upd rfl (same_upd rfl (same_upd rfl (same_upd rfl (same_upd rfl (same_upd rfl (same_upd rfl (same_upd rfl (same_upd rfl (same_upd rfl (same_upd rfl (same_upd rfl (same_upd rfl (same_upd rfl (same_upd rfl (same_upd rfl (same_upd rfl (same_upd rfl (same_upd rfl (same_upd rfl (same_upd rfl (same_upd rfl (same_upd rfl (same_upd rfl (same_upd rfl (same_upd rfl (same_upd rfl (same_upd rfl (same_upd rfl (same_upd rfl (same_upd rfl (same_upd rfl (same_upd rfl (same_upd rfl (same_upd rfl (same_upd rfl (same_upd rfl (same_upd rfl (same_upd rfl (same_upd rfl (same_upd rfl (same_upd rfl (same_upd rfl (same_upd rfl (same_upd rfl (same_upd rfl (same_upd rfl (same_upd rfl (same_upd rfl (same_upd rfl (same_upd rfl (same_upd rfl (same_upd rfl (same_refl)))))))))))))))))))))))))))))))))))))))))))))))))))))))))))))))))))))))
              · have g326 := of_decide_eq_false b159
                refine wl_know 117 (.bool false) (congrArg Value.bool b159) ?_
                have g327 := of_decide_eq_false b159
                refine wl_pass (wantsN 4 117 true rfl (by kernel_rfl) rfl (by kernel_rfl)) rfl ?_
                refine wl_pass (wantsN 4 117 true rfl (by kernel_rfl) rfl (by kernel_rfl)) rfl ?_
                refine wl_pass (wantsN 4 117 true rfl (by kernel_rfl) rfl (by kernel_rfl)) rfl ?_
                refine wl_pass (wantsN 4 117 true rfl (by kernel_rfl) rfl (by kernel_rfl)) rfl ?_
                refine wl_pass (wantsN 4 117 true rfl (by kernel_rfl) rfl (by kernel_rfl)) rfl ?_
                refine wl_pass (wantsN 4 117 true rfl (by kernel_rfl) rfl (by kernel_rfl)) rfl ?_
                refine wl_pass (wantsN 4 117 true rfl (by kernel_rfl) rfl (by kernel_rfl)) rfl ?_
                refine wl_pure (wants0 rfl) (d := 125) (v := (.bool false)) rfl (by kernel_rfl) ?_
                refine wl_pure (wants0 rfl) (d := 126) (v := (.bool false)) rfl (by kernel_rfl) ?_
                refine wl_pass (wantsN 13 126 true rfl (by kernel_rfl) rfl (by kernel_rfl)) rfl ?_
                refine wl_pass (wantsN 13 126 true rfl (by kernel_rfl) rfl (by kernel_rfl)) rfl ?_
                refine wl_pass (wantsN 13 126 true rfl (by kernel_rfl) rfl (by kernel_rfl)) rfl ?_
                refine wl_pure (wants0 rfl) (d := 130) (v := (.bool false)) rfl (by kernel_rfl) ?_
                refine w_nil ?_
                refine then_normal ?_
                refine wp_iff rfl ?_
                obtain ⟨g328, c329, e330⟩ := row_shape (H157.at 3 rfl) (by omega)
                obtain ⟨x331, h332⟩ := get_at (show to < bs.length by omega)
                obtain ⟨g333, c334, e335⟩ := row_shape (H157.at 3 rfl) (by omega)
                obtain ⟨x336, h337⟩ := get_at (show to < bs.length by omega)
                refine h_start H157 [restC w (fun _ => False), cellC b6 25 ([(.int .i64 (F)), (.int .i64 (1))] : List Value), rowC 27 1 (.slice a1 bs.length q1) bs.length (bs.flatMap encP), cellC b140 57 (([(.int .i64 (x134.doo)), (.int .i64 (x134.kind)), (.int .i64 (x134.round)), (.int .i64 (x134.valid)), (.int .i64 ((2 * F + 1) + (withinV x134.replica F)))] : List Value) ++ hc x134.h ++ ([(.bool (x134.ok)), (.bool (x134.raw))] : List Value))] 20 rfl (by kernel_rfl) (fun Hx => (Hx.pick [1, 2, 3, 5] (by decide))) ?_
                intro w338 H339 S340
                refine h_val 0 rfl (by kernel_rfl) (by kernel_rfl) (by kernel_rfl) (fun _ _ _ h => h) S340 (wants0 rfl) (d := 150) (v := (.slice a2 all.length q2)) rfl (fun _ H' => (by kernel_rfl)) ?_
                refine h_val 1 rfl (by kernel_rfl) (by kernel_rfl) (by kernel_rfl) (fun _ _ _ h => h) S340 (wants0 rfl) (d := 151) (v := (.agg ⟨([(.int .i64 (F)), (.int .i64 (1))] : List Value)⟩)) rfl (fun _ H' => (e_loadN (vs := ([(.int .i64 (F)), (.int .i64 (1))] : List Value)) rfl (by kernel_rfl) (by kernel_rfl) (by exact Nat.le_of_ble_eq_true (by kernel_rfl)) (H'.at 1 rfl) (by kernel_rfl))) ?_
                refine h_val 2 rfl (by kernel_rfl) (by kernel_rfl) (by kernel_rfl) (fun _ _ _ h => h) S340 (wants0 rfl) (d := 152) (v := (.int .i64 (E))) rfl (fun _ H' => (by kernel_rfl)) ?_
                refine h_val 3 rfl (by kernel_rfl) (by kernel_rfl) (by kernel_rfl) (fun _ _ _ h => h) S340 (wants0 rfl) (d := 153) (v := (.int .i64 ((to : Int)))) rfl (fun _ H' => (by kernel_rfl)) ?_
                refine h_val 4 rfl (by kernel_rfl) (by kernel_rfl) (by kernel_rfl) (fun _ _ _ h => h) S340 (wants0 rfl) (d := 154) (v := (.slice a1 bs.length q1)) rfl (fun _ H' => (by kernel_rfl)) ?_
                refine h_val 5 rfl (by kernel_rfl) (by kernel_rfl) (by kernel_rfl) (fun _ _ _ h => h) S340 (wants0 rfl) (d := 155) (v := (.int .i64 ((to : Int)))) rfl (fun _ H' => (by kernel_rfl)) ?_
                obtain ⟨g341, c342, e343⟩ := row_shape (H339.at 3 rfl) (by omega)
                obtain ⟨x344, h345⟩ := get_at (show to < bs.length by omega)
                refine h_val 6 rfl (by kernel_rfl) (by kernel_rfl) (by kernel_rfl) (fun _ _ _ h => h) S340 (wants0 rfl) (d := 156) (v := (.pointer (some ⟨g341, 0 + ((to : Int)).toNat * 1, none⟩))) rfl (fun _ H' => (e_indexAddrV (E := 27) (by kernel_rfl) (by kernel_rfl) (Nat.le_of_ble_eq_true rfl) rfl e343 rfl (by omega) (by omega))) ?_
                refine h_val 7 rfl (by kernel_rfl) (by kernel_rfl) (by kernel_rfl) (fun _ _ _ h => h) S340 (wants0 rfl) (d := 157) (v := (.pointer (some ⟨x344.k, 0, none⟩))) rfl (fun _ H' => (e_load1 rfl (by kernel_rfl) (rows_cell (H'.at 2 rfl) e343 encP_len h345 0 rfl (show 0 + ((to : Int)).toNat * 1 = to * 1 + 0 by omega) (by kernel_rfl)))) ?_
                refine h_val 8 rfl (by kernel_rfl) (by kernel_rfl) (by kernel_rfl) (fun _ _ _ h => h) S340 (wants0 rfl) (d := 158) (v := (.pointer (some ⟨b140, 1, none⟩))) rfl (fun _ H' => (by kernel_rfl)) ?_
                refine h_val 9 rfl (by kernel_rfl) (by kernel_rfl) (by kernel_rfl) (fun _ _ _ h => h) S340 (wants0 rfl) (d := 159) (v := (.int .i64 (x134.kind))) rfl (fun _ H' => (e_load1 rfl (by kernel_rfl) (H'.cell 3 rfl (by kernel_rfl)))) ?_
                refine h_val 10 rfl (by kernel_rfl) (by kernel_rfl) (by kernel_rfl) (fun _ _ _ h => h) S340 (wants0 rfl) (d := 160) (v := (.pointer (some ⟨b140, 2, none⟩))) rfl (fun _ H' => (by kernel_rfl)) ?_
                refine h_val 11 rfl (by kernel_rfl) (by kernel_rfl) (by kernel_rfl) (fun _ _ _ h => h) S340 (wants0 rfl) (d := 161) (v := (.int .i64 (x134.round))) rfl (fun _ H' => (e_load1 rfl (by kernel_rfl) (H'.cell 3 rfl (by kernel_rfl)))) ?_
                refine h_val 12 rfl (by kernel_rfl) (by kernel_rfl) (by kernel_rfl) (fun _ _ _ h => h) S340 (wants0 rfl) (d := 162) (v := (.pointer (some ⟨b140, 4, none⟩))) rfl (fun _ H' => (by kernel_rfl)) ?_
                refine h_val 13 rfl (by kernel_rfl) (by kernel_rfl) (by kernel_rfl) (fun _ _ _ h => h) S340 (wants0 rfl) (d := 163) (v := (.int .i64 ((2 * F + 1) + (withinV x134.replica F)))) rfl (fun _ H' => (e_load1 rfl (by kernel_rfl) (H'.cell 3 rfl (by kernel_rfl)))) ?_
                refine h_val 14 rfl (by kernel_rfl) (by kernel_rfl) (by kernel_rfl) (fun _ _ _ h => h) S340 (wants0 rfl) (d := 164) (v := (.pointer (some ⟨b140, 5, none⟩))) rfl (fun _ H' => (by kernel_rfl)) ?_
                refine h_val 15 rfl (by kernel_rfl) (by kernel_rfl) (by kernel_rfl) (fun _ _ _ h => h) S340 (wants0 rfl) (d := 165) (v := (.agg ⟨(hc x134.h)⟩)) rfl (fun _ H' => (e_loadN (vs := (hc x134.h)) rfl (by kernel_rfl) (by kernel_rfl) (by exact Nat.le_of_ble_eq_true (by kernel_rfl)) (H'.at 3 rfl) (by kernel_rfl))) ?_
                refine h_do 16 rfl (by kernel_rfl) (wants0 rfl) (fun K346 hK346 => ?_)
                obtain ⟨D347, hD348⟩ := get_at (show to < Ds.length by have q := famC_len (H339.at 0 rfl); omega)
                obtain ⟨D349, A350, hst351⟩ : ∃ D2 A2, voteD' D347 x134.kind x134.round ((2 * F + 1) + (withinV x134.replica F)) x134.h = (D2, A2) := ⟨_, _, rfl⟩
                have hlA : A350.length ≤ 8388621 := by have q := vote_le ((hAg.core hD348).1) x134.kind x134.round ((2 * F + 1) + (withinV x134.replica F)) x134.h; rw [hst351] at q; exact Nat.le_trans q (by decide)
                refine d_call (d := 166) rfl (by kernel_rfl) (calls_fam (T := 45) (D' := (voteD' D347 x134.kind x134.round ((2 * F + 1) + (withinV x134.replica F)) x134.h).1) (A := (voteD' D347 x134.kind x134.round ((2 * F + 1) + (withinV x134.replica F)) x134.h).2) (H339.at 0 rfl) h345 hD348 (coreVote_any w338 x344.k x344.t x344.hb x344.cb x344.ab x344.lb x344.pb D347 (famC_at (ck := coreK) (H339.at 0 rfl) h345 hD348) ((hAg.core hD348).1) x134.kind x134.round ((2 * F + 1) + (withinV x134.replica F)) x134.h)) ?_
                rw [hst351]
                rintro _ w353 ⟨v352, rfl, S354⟩
                have H355 : Sat w [famC coreK bs (Ds.set to D349), restC w (fun _ => False), cellC b6 25 ([(.int .i64 (F)), (.int .i64 (1))] : List Value), rowC 27 1 (.slice a1 bs.length q1) bs.length (bs.flatMap encP), rowC 52 37 (.slice a2 all.length q2) all.length (all.flatMap encS), cellC b140 57 (([(.int .i64 (x134.doo)), (.int .i64 (x134.kind)), (.int .i64 (x134.round)), (.int .i64 (x134.valid)), (.int .i64 ((2 * F + 1) + (withinV x134.replica F)))] : List Value) ++ hc x134.h ++ ([(.bool (x134.ok)), (.bool (x134.raw))] : List Value)), rowC 45 35 v352 A350.length (A350.flatMap encA)] w353 := (Sat.turn1 (L' := [famC coreK bs (Ds.set to D349), rowC 45 35 v352 A350.length (A350.flatMap encA)]) (R := [restC w (fun _ => False), cellC b6 25 ([(.int .i64 (F)), (.int .i64 (1))] : List Value), rowC 27 1 (.slice a1 bs.length q1) bs.length (bs.flatMap encP), rowC 52 37 (.slice a2 all.length q2) all.length (all.flatMap encS), cellC b140 57 (([(.int .i64 (x134.doo)), (.int .i64 (x134.kind)), (.int .i64 (x134.round)), (.int .i64 (x134.valid)), (.int .i64 ((2 * F + 1) + (withinV x134.replica F)))] : List Value) ++ hc x134.h ++ ([(.bool (x134.ok)), (.bool (x134.raw))] : List Value))]) H339 0 [1, 2, 3, 4, 5] (by decide) rfl rfl S354).pick [0, 2, 3, 4, 5, 6, 1] (by decide)
                obtain ⟨a356, c357, rfl⟩ := ownsRow_shape (H355.at 6 rfl)
                refine ⟨_, rfl, ?_⟩
                have S358 := H355.pick [1, 2, 3, 5] (by decide)
                refine hK346 _ _ S358 ?_
                clear hK346 K346
                refine h_do 17 rfl (by kernel_rfl) (wants0 rfl) (fun K359 hK359 => ?_)
                have hsk := speakA_len (to : Int) A350
                refine d_call (d := 167) rfl (by kernel_rfl) (speak_any w353 F 1 E (to : Int) _ A350 (H355.at 6 rfl) (by omega)) ?_
                rintro _ w361 ⟨u360, rfl, k363, u364, f365⟩
                have H362 : Sat w [famC coreK bs (Ds.set to D349), restC w (fun _ => False), cellC b6 25 ([(.int .i64 (F)), (.int .i64 (1))] : List Value), rowC 27 1 (.slice a1 bs.length q1) bs.length (bs.flatMap encP), rowC 52 37 (.slice a2 all.length q2) all.length (all.flatMap encS), cellC b140 57 (([(.int .i64 (x134.doo)), (.int .i64 (x134.kind)), (.int .i64 (x134.round)), (.int .i64 (x134.valid)), (.int .i64 ((2 * F + 1) + (withinV x134.replica F)))] : List Value) ++ hc x134.h ++ ([(.bool (x134.ok)), (.bool (x134.raw))] : List Value)), rowC 45 35 (.slice a356 A350.length c357) A350.length (A350.flatMap encA), rowC 52 37 u360 ((A350.flatMap (speakA (to : Int))).length) ((A350.flatMap (speakA (to : Int))).flatMap encS)] w361 := H355.addU u364 k363 f365
                obtain ⟨a366, c367, rfl⟩ := ownsRow_shape (H362.at 7 rfl)
                refine ⟨_, rfl, ?_⟩
                have S368 := H362.pick [1, 2, 3, 5] (by decide)
                refine hK359 _ _ S368 ?_
                clear hK359 K359
                refine h_do 18 rfl (by kernel_rfl) (wants0 rfl) (fun K369 hK369 => ?_)
                refine d_append (T := 48) (e := 52) (size := 37) (bytes := 72) rfl H362 (by kernel_rfl) 4 7 rfl rfl rfl rfl (flat_one encS encS_one (A350.flatMap (speakA (to : Int)))) (by omega) (by omega) ?_
                intro v370 w371 (H372 : Sat w [famC coreK bs (Ds.set to D349), restC w (fun _ => False), cellC b6 25 ([(.int .i64 (F)), (.int .i64 (1))] : List Value), rowC 27 1 (.slice a1 bs.length q1) bs.length (bs.flatMap encP), rowC 52 37 v370 (all.length + (A350.flatMap (speakA (to : Int))).length) ((all.flatMap encS) ++ ((A350.flatMap (speakA (to : Int))).flatMap encS)), cellC b140 57 (([(.int .i64 (x134.doo)), (.int .i64 (x134.kind)), (.int .i64 (x134.round)), (.int .i64 (x134.valid)), (.int .i64 ((2 * F + 1) + (withinV x134.replica F)))] : List Value) ++ hc x134.h ++ ([(.bool (x134.ok)), (.bool (x134.raw))] : List Value)), rowC 45 35 (.slice a356 A350.length c357) A350.length (A350.flatMap encA), rowC 52 37 (.slice a366 ((A350.flatMap (speakA (to : Int))).length) c367) ((A350.flatMap (speakA (to : Int))).length) ((A350.flatMap (speakA (to : Int))).flatMap encS)] w371)
                have H375 : Sat w [famC coreK bs (Ds.set to D349), restC w (fun _ => False), cellC b6 25 ([(.int .i64 (F)), (.int .i64 (1))] : List Value), rowC 27 1 (.slice a1 bs.length q1) bs.length (bs.flatMap encP), rowC 52 37 v370 ((all ++ (A350.flatMap (speakA (to : Int)))).length) ((all ++ (A350.flatMap (speakA (to : Int)))).flatMap encS), cellC b140 57 (([(.int .i64 (x134.doo)), (.int .i64 (x134.kind)), (.int .i64 (x134.round)), (.int .i64 (x134.valid)), (.int .i64 ((2 * F + 1) + (withinV x134.replica F)))] : List Value) ++ hc x134.h ++ ([(.bool (x134.ok)), (.bool (x134.raw))] : List Value)), rowC 45 35 (.slice a356 A350.length c357) A350.length (A350.flatMap encA), rowC 52 37 (.slice a366 ((A350.flatMap (speakA (to : Int))).length) c367) ((A350.flatMap (speakA (to : Int))).length) ((A350.flatMap (speakA (to : Int))).flatMap encS)] w371 := H372.cast (by simp only [List.length_append, List.flatMap_append] <;> rfl)
                obtain ⟨a373, c374, rfl⟩ := ownsRow_shape (H375.at 4 rfl)
                have S376 := H375.pick [1, 2, 3, 5] (by decide)
                refine hK369 _ _ S376 ?_
                clear hK369 K369
                refine h_val 19 rfl (by kernel_rfl) (by kernel_rfl) (by kernel_rfl) (fun _ _ _ h => h) S376 (wants0 rfl) (d := 12) (v := (.slice a373 ((all ++ (A350.flatMap (speakA (to : Int)))).length) c374)) rfl (fun _ H' => (by kernel_rfl)) ?_
                refine h_fin (by kernel_rfl) ?_
                refine blk_normal ?_
                have hsl := speakA_len (to : Int) A350
                have H377 : Sat w [famC coreK bs (Ds.set to D349), restC w (fun _ => False), cellC b6 25 ([(.int .i64 (F)), (.int .i64 (1))] : List Value), rowC 27 1 (.slice a1 bs.length q1) bs.length (bs.flatMap encP), rowC 52 37 (.slice a373 ((all ++ (A350.flatMap (speakA (to : Int)))).length) c374) ((all ++ (A350.flatMap (speakA (to : Int)))).length) ((all ++ (A350.flatMap (speakA (to : Int)))).flatMap encS)] w371 := H375.pick [0, 1, 2, 3, 4] (by decide)
                refine meetR_at ?_ ⟨(Ds.set to D349), (all ++ (A350.flatMap (speakA (to : Int)))), a373, c374, rfl, (hAg.lie hD348 (by omega) (by omega) hst351), (by first | exact hDn | (rw [List.length_set]; exact hDn)), (by first | exact Nat.le_trans hal2 (by decide) | (rw [List.length_append]; omega)), H377⟩
                exact (same_upd rfl (same_upd rfl (same_upd rfl (same_upd rfl (same_upd rfl (same_upd rfl (same_upd rfl (same_upd rfl (same_upd rfl (same_upd rfl (same_upd rfl (same_upd rfl (same_upd rfl (same_upd rfl (same_upd rfl (same_upd rfl (same_upd rfl (same_upd rfl (same_upd rfl (same_upd rfl (same_upd rfl (same_upd rfl (same_upd rfl (same_upd rfl (same_upd rfl (same_upd rfl (same_upd rfl (same_upd rfl (same_upd rfl (same_upd rfl (same_upd rfl (same_upd rfl (same_upd rfl (same_upd rfl (same_upd rfl (same_upd rfl (same_upd rfl (same_upd rfl (same_upd rfl (same_upd rfl (same_upd rfl (same_upd rfl (same_upd rfl (same_upd rfl (same_upd rfl (same_upd rfl (same_upd rfl (same_upd rfl (same_upd rfl (same_upd rfl (same_upd rfl (same_upd rfl (same_upd rfl (same_upd rfl (same_upd rfl (same_upd rfl (same_upd rfl (same_upd rfl (same_upd rfl (same_upd rfl (same_upd rfl (same_upd rfl (same_upd rfl (same_upd rfl (same_upd rfl (same_upd rfl (same_upd rfl (same_upd rfl (same_upd rfl (same_refl))))))))))))))))))))))))))))))))))))))))))))))))))))))))))))))))))))))
            · have g378 := of_decide_eq_false b121
              refine wp_know 86 (.bool false) (congrArg Value.bool b121) ?_
              have g379 := of_decide_eq_false b121
              refine wp_iff rfl ?_
              refine w_seq ?_
              refine w_lit ?_
              refine wl_pure (wants0 rfl) (d := 170) (v := (.int .i64 (S))) rfl (by kernel_rfl) ?_
              refine wl_pure (wants0 rfl) (d := 171) (v := (.int .i64 (Int.tmod S 11))) rfl (e_tmod (by kernel_rfl) (by omega)) ?_
              refine wl_pure (wants0 rfl) (d := 172) (v := (.bool (decide ((Int.tmod S 11) = 9)))) rfl (by kernel_rfl) ?_
              refine wl_pure (wants0 rfl) (d := 169) (v := (.bool (decide ((Int.tmod S 11) = 9)))) rfl (by kernel_rfl) ?_
              refine w_nil ?_
              refine then_normal ?_
              refine (bsplit (decide ((Int.tmod S 11) = 9))).elim (fun b380 => ?_) (fun b380 => ?_)
              · have g381 := of_decide_eq_true b380
                refine wp_know 169 (.bool true) (congrArg Value.bool b380) ?_
                have g382 := of_decide_eq_true b380
                refine wp_ift rfl ?_
                refine w_seq ?_
                refine w_lit ?_
                refine wl_pure (wants0 rfl) (d := 173) (v := (.slice a1 bs.length q1)) rfl (by kernel_rfl) ?_
                refine wl_pure (wants0 rfl) (d := 174) (v := (.int .i64 ((to : Int)))) rfl (by kernel_rfl) ?_
                obtain ⟨g383, c384, e385⟩ := row_shape (H115.at 3 rfl) (by omega)
                obtain ⟨x386, h387⟩ := get_at (show to < bs.length by omega)
                refine wl_pure (wants0 rfl) (d := 175) (v := (.pointer (some ⟨g383, 0 + ((to : Int)).toNat * 1, none⟩))) rfl (e_indexAddrV (E := 27) (by kernel_rfl) (by kernel_rfl) (Nat.le_of_ble_eq_true rfl) rfl e385 rfl (by omega) (by omega)) ?_
                refine wl_pure (wants0 rfl) (d := 176) (v := (.pointer (some ⟨x386.k, 0, none⟩))) rfl (e_load1 rfl (by kernel_rfl) (rows_cell (H115.at 3 rfl) e385 encP_len h387 0 rfl (show 0 + ((to : Int)).toNat * 1 = to * 1 + 0 by omega) (by kernel_rfl))) ?_
                refine wl_do (wants0 rfl) (fun K388 hK388 => ?_)
                obtain ⟨D389, hD390⟩ := get_at (show to < Ds.length by have q := famC_len (H115.at 0 rfl); omega)
                refine d_call (d := 177) rfl (by kernel_rfl) (coreState_any w114 x386.k x386.t x386.hb x386.cb x386.ab x386.lb x386.pb D389 (famC_at (ck := coreK) (H115.at 0 rfl) h387 hD390) ((hAg.core hD390).1)) ?_
                rintro _ w391 ⟨rfl, u393⟩
                have H392 := H115.keepU u393
                refine ⟨_, rfl, ?_⟩
                refine hK388 _ _ ?_
                clear hK388 K388
                refine wl_do (wants0 rfl) (fun K394 hK394 => ?_)
                refine d_alloc (zs := (([(.int .i64 (0)), (.int .i64 (0)), (.int .i64 (0)), (.int .i64 (0))] : List Value) ++ hc hash0 ++ hc hash0 ++ ([(.bool false)] : List Value) ++ hc hash0)) (z := (.agg ⟨(([(.int .i64 (0)), (.int .i64 (0)), (.int .i64 (0)), (.int .i64 (0))] : List Value) ++ hc hash0 ++ hc hash0 ++ ([(.bool false)] : List Value) ++ hc hash0)⟩)) rfl H392 (by kernel_rfl) (by kernel_rfl) ?_
                intro b395 w396 (H397 : Sat w [famC coreK bs Ds, restC w (fun _ => False), cellC b6 25 ([(.int .i64 (F)), (.int .i64 (1))] : List Value), rowC 27 1 (.slice a1 bs.length q1) bs.length (bs.flatMap encP), rowC 52 37 (.slice a2 all.length q2) all.length (all.flatMap encS), cellC b395 38 (([(.int .i64 (0)), (.int .i64 (0)), (.int .i64 (0)), (.int .i64 (0))] : List Value) ++ hc hash0 ++ hc hash0 ++ ([(.bool false)] : List Value) ++ hc hash0)] w396)
                refine hK394 _ _ ?_
                clear hK394 K394
                refine wl_do (wants0 rfl) (fun K398 hK398 => ?_)
                refine d_storeX (vs := (([(.int .i64 (D389.s.round)), (.int .i64 (D389.s.step)), (.int .i64 (D389.s.lr)), (.int .i64 (D389.s.vr))] : List Value) ++ hc D389.s.locked ++ hc D389.s.valid ++ ([(.bool (D389.s.decided))] : List Value) ++ hc D389.s.decision)) (cs' := (([(.int .i64 (D389.s.round)), (.int .i64 (D389.s.step)), (.int .i64 (D389.s.lr)), (.int .i64 (D389.s.vr))] : List Value) ++ hc D389.s.locked ++ hc D389.s.valid ++ ([(.bool (D389.s.decided))] : List Value) ++ hc D389.s.decision)) rfl H397 5 rfl rfl rfl rfl (by kernel_rfl) (Nat.le_of_ble_eq_true (by kernel_rfl)) (Nat.le_of_ble_eq_true (by kernel_rfl)) (by kernel_rfl) (by kernel_rfl) ?_
                intro w399 (H400 : Sat w [famC coreK bs Ds, restC w (fun _ => False), cellC b6 25 ([(.int .i64 (F)), (.int .i64 (1))] : List Value), rowC 27 1 (.slice a1 bs.length q1) bs.length (bs.flatMap encP), rowC 52 37 (.slice a2 all.length q2) all.length (all.flatMap encS), cellC b395 38 (([(.int .i64 (D389.s.round)), (.int .i64 (D389.s.step)), (.int .i64 (D389.s.lr)), (.int .i64 (D389.s.vr))] : List Value) ++ hc D389.s.locked ++ hc D389.s.valid ++ ([(.bool (D389.s.decided))] : List Value) ++ hc D389.s.decision)] w399)
                refine hK398 _ _ ?_
                clear hK398 K398
                refine w_nil ?_
                refine then_normal ?_
                have h3w := within_lim (Int.tdiv S 11) 3 (by omega)
                refine h_start H400 [restC w (fun _ => False), cellC b6 25 ([(.int .i64 (F)), (.int .i64 (1))] : List Value), rowC 27 1 (.slice a1 bs.length q1) bs.length (bs.flatMap encP), cellC b395 38 (([(.int .i64 (D389.s.round)), (.int .i64 (D389.s.step)), (.int .i64 (D389.s.lr)), (.int .i64 (D389.s.vr))] : List Value) ++ hc D389.s.locked ++ hc D389.s.valid ++ ([(.bool (D389.s.decided))] : List Value) ++ hc D389.s.decision)] 19 rfl (by kernel_rfl) (fun Hx => (Hx.pick [1, 2, 3, 5] (by decide))) ?_
                intro w402 H403 S404
                refine h_val 0 rfl (by kernel_rfl) (by kernel_rfl) (by kernel_rfl) (fun _ _ _ h => h) S404 (wants0 rfl) (d := 178) (v := (.slice a2 all.length q2)) rfl (fun _ H' => (by kernel_rfl)) ?_
                refine h_val 1 rfl (by kernel_rfl) (by kernel_rfl) (by kernel_rfl) (fun _ _ _ h => h) S404 (wants0 rfl) (d := 179) (v := (.agg ⟨([(.int .i64 (F)), (.int .i64 (1))] : List Value)⟩)) rfl (fun _ H' => (e_loadN (vs := ([(.int .i64 (F)), (.int .i64 (1))] : List Value)) rfl (by kernel_rfl) (by kernel_rfl) (by exact Nat.le_of_ble_eq_true (by kernel_rfl)) (H'.at 1 rfl) (by kernel_rfl))) ?_
                refine h_val 2 rfl (by kernel_rfl) (by kernel_rfl) (by kernel_rfl) (fun _ _ _ h => h) S404 (wants0 rfl) (d := 180) (v := (.int .i64 (E))) rfl (fun _ H' => (by kernel_rfl)) ?_
                refine h_val 3 rfl (by kernel_rfl) (by kernel_rfl) (by kernel_rfl) (fun _ _ _ h => h) S404 (wants0 rfl) (d := 181) (v := (.int .i64 ((to : Int)))) rfl (fun _ H' => (by kernel_rfl)) ?_
                refine h_val 4 rfl (by kernel_rfl) (by kernel_rfl) (by kernel_rfl) (fun _ _ _ h => h) S404 (wants0 rfl) (d := 182) (v := (.slice a1 bs.length q1)) rfl (fun _ H' => (by kernel_rfl)) ?_
                refine h_val 5 rfl (by kernel_rfl) (by kernel_rfl) (by kernel_rfl) (fun _ _ _ h => h) S404 (wants0 rfl) (d := 183) (v := (.int .i64 ((to : Int)))) rfl (fun _ H' => (by kernel_rfl)) ?_
                refine h_val 6 rfl (by kernel_rfl) (by kernel_rfl) (by kernel_rfl) (fun _ _ _ h => h) S404 (wants0 rfl) (d := 184) (v := (.pointer (some ⟨g383, 0 + ((to : Int)).toNat * 1, none⟩))) rfl (fun _ H' => (e_indexAddrV (E := 27) (by kernel_rfl) (by kernel_rfl) (Nat.le_of_ble_eq_true rfl) rfl e385 rfl (by omega) (by omega))) ?_
                refine h_val 7 rfl (by kernel_rfl) (by kernel_rfl) (by kernel_rfl) (fun _ _ _ h => h) S404 (wants0 rfl) (d := 185) (v := (.pointer (some ⟨x386.k, 0, none⟩))) rfl (fun _ H' => (e_load1 rfl (by kernel_rfl) (rows_cell (H'.at 2 rfl) e385 encP_len h387 0 rfl (show 0 + ((to : Int)).toNat * 1 = to * 1 + 0 by omega) (by kernel_rfl)))) ?_
                refine h_val 8 rfl (by kernel_rfl) (by kernel_rfl) (by kernel_rfl) (fun _ _ _ h => h) S404 (wants0 rfl) (d := 186) (v := (.int .i64 (S))) rfl (fun _ H' => (by kernel_rfl)) ?_
                refine h_val 9 rfl (by kernel_rfl) (by kernel_rfl) (by kernel_rfl) (fun _ _ _ h => h) S404 (wants0 rfl) (d := 187) (v := (.int .i64 (Int.tdiv S 11))) rfl (fun _ H' => (e_tdiv (by kernel_rfl) (by omega) (tdiv_i64 hs (by omega)))) ?_
                refine h_val 12 rfl (by kernel_rfl) (by kernel_rfl) (by kernel_rfl) (fun _ _ _ h => h) S404 (wants0 rfl) (d := 190) (v := (.pointer (some ⟨b395, 0, none⟩))) rfl (fun _ H' => (by kernel_rfl)) ?_
                refine h_val 13 rfl (by kernel_rfl) (by kernel_rfl) (by kernel_rfl) (fun _ _ _ h => h) S404 (wants0 rfl) (d := 191) (v := (.int .i64 (D389.s.round))) rfl (fun _ H' => (e_load1 rfl (by kernel_rfl) (H'.cell 3 rfl (by kernel_rfl)))) ?_
                refine h_do 10 rfl (by kernel_rfl) (wants0 rfl) (fun K405 hK405 => ?_)
                refine d_call (d := 188) rfl (by kernel_rfl) (withinBig_any w402 (Int.tdiv S 11) 3 (by omega)) ?_
                rintro _ w406 ⟨rfl, u408⟩
                have H407 := H403.keepU u408
                refine ⟨_, rfl, ?_⟩
                have S409 := H407.pick [1, 2, 3, 5] (by decide)
                refine hK405 _ _ S409 ?_
                clear hK405 K405
                refine h_val 11 rfl (by kernel_rfl) (by kernel_rfl) (by kernel_rfl) (fun _ _ _ h => h) S409 (wants0 rfl) (d := 189) (v := (.int .i64 (1 + (withinV (Int.tdiv S 11) 3)))) rfl (fun _ H' => (e_int (z := 1 + (withinV (Int.tdiv S 11) 3)) (by kernel_rfl) (IntWalk.i64_in _ (by omega)))) ?_
                refine h_val 14 rfl (by kernel_rfl) (by kernel_rfl) (by kernel_rfl) (fun _ _ _ h => h) S409 (wants0 rfl) (d := 192) (v := (.agg ⟨([(.int .i64 (1 + (withinV (Int.tdiv S 11) 3))), (.int .i64 (D389.s.round))] : List Value)⟩)) rfl (fun _ H' => (by kernel_rfl)) ?_
                refine h_do 15 rfl (by kernel_rfl) (wants0 rfl) (fun K410 hK410 => ?_)
                obtain ⟨D411, hD412⟩ := get_at (show to < Ds.length by have q := famC_len (H407.at 0 rfl); omega)
                obtain ⟨D413, A414, hst415⟩ : ∃ D2 A2, timeD D411 (1 + (withinV (Int.tdiv S 11) 3)) D389.s.round = (D2, A2) := ⟨_, _, rfl⟩
                have hlA : A414.length ≤ 8388621 := by have q := time_le ((hAg.core hD412).1) (1 + (withinV (Int.tdiv S 11) 3)) D389.s.round; rw [hst415] at q; exact Nat.le_trans q (by decide)
                refine d_call (d := 193) rfl (by kernel_rfl) (calls_fam (T := 45) (D' := (timeD D411 (1 + (withinV (Int.tdiv S 11) 3)) D389.s.round).1) (A := (timeD D411 (1 + (withinV (Int.tdiv S 11) 3)) D389.s.round).2) (H407.at 0 rfl) h387 hD412 (coreTimeout_any w406 x386.k x386.t x386.hb x386.cb x386.ab x386.lb x386.pb D411 (famC_at (ck := coreK) (H407.at 0 rfl) h387 hD412) ((hAg.core hD412).1) (1 + (withinV (Int.tdiv S 11) 3)) D389.s.round)) ?_
                rw [hst415]
                rintro _ w417 ⟨v416, rfl, S418⟩
                have H419 : Sat w [famC coreK bs (Ds.set to D413), restC w (fun _ => False), cellC b6 25 ([(.int .i64 (F)), (.int .i64 (1))] : List Value), rowC 27 1 (.slice a1 bs.length q1) bs.length (bs.flatMap encP), rowC 52 37 (.slice a2 all.length q2) all.length (all.flatMap encS), cellC b395 38 (([(.int .i64 (D389.s.round)), (.int .i64 (D389.s.step)), (.int .i64 (D389.s.lr)), (.int .i64 (D389.s.vr))] : List Value) ++ hc D389.s.locked ++ hc D389.s.valid ++ ([(.bool (D389.s.decided))] : List Value) ++ hc D389.s.decision), rowC 45 35 v416 A414.length (A414.flatMap encA)] w417 := (Sat.turn1 (L' := [famC coreK bs (Ds.set to D413), rowC 45 35 v416 A414.length (A414.flatMap encA)]) (R := [restC w (fun _ => False), cellC b6 25 ([(.int .i64 (F)), (.int .i64 (1))] : List Value), rowC 27 1 (.slice a1 bs.length q1) bs.length (bs.flatMap encP), rowC 52 37 (.slice a2 all.length q2) all.length (all.flatMap encS), cellC b395 38 (([(.int .i64 (D389.s.round)), (.int .i64 (D389.s.step)), (.int .i64 (D389.s.lr)), (.int .i64 (D389.s.vr))] : List Value) ++ hc D389.s.locked ++ hc D389.s.valid ++ ([(.bool (D389.s.decided))] : List Value) ++ hc D389.s.decision)]) H407 0 [1, 2, 3, 4, 5] (by decide) rfl rfl S418).pick [0, 2, 3, 4, 5, 6, 1] (by decide)
                obtain ⟨a420, c421, rfl⟩ := ownsRow_shape (H419.at 6 rfl)
                refine ⟨_, rfl, ?_⟩
                have S422 := H419.pick [1, 2, 3, 5] (by decide)
                refine hK410 _ _ S422 ?_
                clear hK410 K410
                refine h_do 16 rfl (by kernel_rfl) (wants0 rfl) (fun K423 hK423 => ?_)
                have hsk := speakA_len (to : Int) A414
                refine d_call (d := 194) rfl (by kernel_rfl) (speak_any w417 F 1 E (to : Int) _ A414 (H419.at 6 rfl) (by omega)) ?_
                rintro _ w425 ⟨u424, rfl, k427, u428, f429⟩
                have H426 : Sat w [famC coreK bs (Ds.set to D413), restC w (fun _ => False), cellC b6 25 ([(.int .i64 (F)), (.int .i64 (1))] : List Value), rowC 27 1 (.slice a1 bs.length q1) bs.length (bs.flatMap encP), rowC 52 37 (.slice a2 all.length q2) all.length (all.flatMap encS), cellC b395 38 (([(.int .i64 (D389.s.round)), (.int .i64 (D389.s.step)), (.int .i64 (D389.s.lr)), (.int .i64 (D389.s.vr))] : List Value) ++ hc D389.s.locked ++ hc D389.s.valid ++ ([(.bool (D389.s.decided))] : List Value) ++ hc D389.s.decision), rowC 45 35 (.slice a420 A414.length c421) A414.length (A414.flatMap encA), rowC 52 37 u424 ((A414.flatMap (speakA (to : Int))).length) ((A414.flatMap (speakA (to : Int))).flatMap encS)] w425 := H419.addU u428 k427 f429
                obtain ⟨a430, c431, rfl⟩ := ownsRow_shape (H426.at 7 rfl)
                refine ⟨_, rfl, ?_⟩
                have S432 := H426.pick [1, 2, 3, 5] (by decide)
                refine hK423 _ _ S432 ?_
                clear hK423 K423
                refine h_do 17 rfl (by kernel_rfl) (wants0 rfl) (fun K433 hK433 => ?_)
                refine d_append (T := 48) (e := 52) (size := 37) (bytes := 72) rfl H426 (by kernel_rfl) 4 7 rfl rfl rfl rfl (flat_one encS encS_one (A414.flatMap (speakA (to : Int)))) (by omega) (by omega) ?_
                intro v434 w435 (H436 : Sat w [famC coreK bs (Ds.set to D413), restC w (fun _ => False), cellC b6 25 ([(.int .i64 (F)), (.int .i64 (1))] : List Value), rowC 27 1 (.slice a1 bs.length q1) bs.length (bs.flatMap encP), rowC 52 37 v434 (all.length + (A414.flatMap (speakA (to : Int))).length) ((all.flatMap encS) ++ ((A414.flatMap (speakA (to : Int))).flatMap encS)), cellC b395 38 (([(.int .i64 (D389.s.round)), (.int .i64 (D389.s.step)), (.int .i64 (D389.s.lr)), (.int .i64 (D389.s.vr))] : List Value) ++ hc D389.s.locked ++ hc D389.s.valid ++ ([(.bool (D389.s.decided))] : List Value) ++ hc D389.s.decision), rowC 45 35 (.slice a420 A414.length c421) A414.length (A414.flatMap encA), rowC 52 37 (.slice a430 ((A414.flatMap (speakA (to : Int))).length) c431) ((A414.flatMap (speakA (to : Int))).length) ((A414.flatMap (speakA (to : Int))).flatMap encS)] w435)
                have H439 : Sat w [famC coreK bs (Ds.set to D413), restC w (fun _ => False), cellC b6 25 ([(.int .i64 (F)), (.int .i64 (1))] : List Value), rowC 27 1 (.slice a1 bs.length q1) bs.length (bs.flatMap encP), rowC 52 37 v434 ((all ++ (A414.flatMap (speakA (to : Int)))).length) ((all ++ (A414.flatMap (speakA (to : Int)))).flatMap encS), cellC b395 38 (([(.int .i64 (D389.s.round)), (.int .i64 (D389.s.step)), (.int .i64 (D389.s.lr)), (.int .i64 (D389.s.vr))] : List Value) ++ hc D389.s.locked ++ hc D389.s.valid ++ ([(.bool (D389.s.decided))] : List Value) ++ hc D389.s.decision), rowC 45 35 (.slice a420 A414.length c421) A414.length (A414.flatMap encA), rowC 52 37 (.slice a430 ((A414.flatMap (speakA (to : Int))).length) c431) ((A414.flatMap (speakA (to : Int))).length) ((A414.flatMap (speakA (to : Int))).flatMap encS)] w435 := H436.cast (by simp only [List.length_append, List.flatMap_append] <;> rfl)
                obtain ⟨a437, c438, rfl⟩ := ownsRow_shape (H439.at 4 rfl)
                have S440 := H439.pick [1, 2, 3, 5] (by decide)
                refine hK433 _ _ S440 ?_
                clear hK433 K433
                refine h_val 18 rfl (by kernel_rfl) (by kernel_rfl) (by kernel_rfl) (fun _ _ _ h => h) S440 (wants0 rfl) (d := 12) (v := (.slice a437 ((all ++ (A414.flatMap (speakA (to : Int)))).length) c438)) rfl (fun _ H' => (by kernel_rfl)) ?_
                refine h_fin (by kernel_rfl) ?_
                refine blk_normal ?_
                have hsl := speakA_len (to : Int) A414
                have H441 : Sat w [famC coreK bs (Ds.set to D413), restC w (fun _ => False), cellC b6 25 ([(.int .i64 (F)), (.int .i64 (1))] : List Value), rowC 27 1 (.slice a1 bs.length q1) bs.length (bs.flatMap encP), rowC 52 37 (.slice a437 ((all ++ (A414.flatMap (speakA (to : Int)))).length) c438) ((all ++ (A414.flatMap (speakA (to : Int)))).length) ((all ++ (A414.flatMap (speakA (to : Int)))).flatMap encS)] w435 := H439.pick [0, 1, 2, 3, 4] (by decide)
                refine meetR_at ?_ ⟨(Ds.set to D413), (all ++ (A414.flatMap (speakA (to : Int)))), a437, c438, rfl, (hAg.time hD412 hst415), (by first | exact hDn | (rw [List.length_set]; exact hDn)), (by first | exact Nat.le_trans hal2 (by decide) | (rw [List.length_append]; omega)), H441⟩
                exact (same_upd rfl (same_upd rfl (same_upd rfl (same_upd rfl (same_upd rfl (same_upd rfl (same_upd rfl (same_upd rfl (same_upd rfl (same_upd rfl (same_upd rfl (same_upd rfl (same_upd rfl (same_upd rfl (same_upd rfl (same_upd rfl (same_upd rfl (same_upd rfl (same_upd rfl (same_upd rfl (same_upd rfl (same_upd rfl (same_upd rfl (same_upd rfl (same_upd rfl (same_upd rfl (same_upd rfl (same_upd rfl (same_upd rfl (same_upd rfl (same_upd rfl (same_upd rfl (same_upd rfl (same_upd rfl (same_upd rfl (same_upd rfl (same_upd rfl (same_upd rfl (same_upd rfl (same_upd rfl (same_upd rfl (same_refl))))))))))))))))))))))))))))))))))))))))))
              · have g442 := of_decide_eq_false b380
                refine wp_know 169 (.bool false) (congrArg Value.bool b380) ?_
                have g443 := of_decide_eq_false b380
                refine wp_iff rfl ?_
                refine w_seq ?_
                refine w_lit ?_
                refine wl_pure (wants0 rfl) (d := 197) (v := (.slice a2 all.length q2)) rfl (by kernel_rfl) ?_
                refine wl_pure (wants0 rfl) (d := 198) (v := (.int .i64 ((all.length : Int)))) rfl (by kernel_rfl) ?_
                refine wl_pure (wants0 rfl) (d := 199) (v := (.bool (decide ((all.length : Int) > 0)))) rfl (by kernel_rfl) ?_
                refine wl_pure (wants0 rfl) (d := 196) (v := (.bool (decide ((all.length : Int) > 0)))) rfl (by kernel_rfl) ?_
                refine w_nil ?_
                refine then_normal ?_
                refine (bsplit (decide ((all.length : Int) > 0))).elim (fun b444 => ?_) (fun b444 => ?_)
                · have g445 := of_decide_eq_true b444
                  refine wp_know 196 (.bool true) (congrArg Value.bool b444) ?_
                  have g446 := of_decide_eq_true b444
                  refine wp_ift rfl ?_
                  refine w_seq ?_
                  have haw := within_lim S (all.length : Int) (by omega)
                  refine w_lit ?_
                  refine wl_pure (wants0 rfl) (d := 200) (v := (.slice a2 all.length q2)) rfl (by kernel_rfl) ?_
                  refine wl_pure (wants0 rfl) (d := 201) (v := (.int .i64 (S))) rfl (by kernel_rfl) ?_
                  refine wl_pure (wants0 rfl) (d := 202) (v := (.slice a2 all.length q2)) rfl (by kernel_rfl) ?_
                  refine wl_pure (wants0 rfl) (d := 203) (v := (.int .i64 ((all.length : Int)))) rfl (by kernel_rfl) ?_
                  refine wl_do (wants0 rfl) (fun K447 hK447 => ?_)
                  refine d_call (d := 204) rfl (by kernel_rfl) (withinBig_any w114 S (all.length : Int) (by omega)) ?_
                  rintro _ w448 ⟨rfl, u450⟩
                  have H449 := H115.keepU u450
                  refine ⟨_, rfl, ?_⟩
                  refine hK447 _ _ ?_
                  clear hK447 K447
                  obtain ⟨g451, c452, e453⟩ := row_shape (H449.at 4 rfl) (by omega)
                  obtain ⟨x454, h455⟩ := get_at (show (withinV S (all.length : Int)).toNat < all.length by omega)
                  refine wl_pure (wants0 rfl) (d := 205) (v := (.pointer (some ⟨g451, 0 + (withinV S (all.length : Int)).toNat * 37, none⟩))) rfl (e_indexAddrV (E := 52) (by kernel_rfl) (by kernel_rfl) (Nat.le_of_ble_eq_true rfl) rfl e453 rfl (by omega) (by omega)) ?_
                  refine wl_pure (wants0 rfl) (d := 206) (v := (.agg ⟨(([(.bool (x454.vote)), (.int .i64 (x454.kind)), (.int .i64 (x454.round)), (.int .i64 (x454.valid)), (.int .i64 (x454.from'))] : List Value) ++ hc x454.h)⟩)) rfl (e_loadRun (vs := (([(.bool (x454.vote)), (.int .i64 (x454.kind)), (.int .i64 (x454.round)), (.int .i64 (x454.valid)), (.int .i64 (x454.from'))] : List Value) ++ hc x454.h)) rfl (by kernel_rfl) (by kernel_rfl) (Nat.le_of_ble_eq_true (by kernel_rfl)) (rows_run (H449.at 4 rfl) e453 encS_len h455 0 (show 0 + (withinV S (all.length : Int)).toNat * 37 = (withinV S (all.length : Int)).toNat * 37 + 0 by omega) (by kernel_rfl) (by kernel_rfl))) ?_
                  refine wl_do (wants0 rfl) (fun K456 hK456 => ?_)
                  refine d_alloc (zs := (([(.bool false), (.int .i64 (0)), (.int .i64 (0)), (.int .i64 (0)), (.int .i64 (0))] : List Value) ++ hc hash0)) (z := (.agg ⟨(([(.bool false), (.int .i64 (0)), (.int .i64 (0)), (.int .i64 (0)), (.int .i64 (0))] : List Value) ++ hc hash0)⟩)) rfl H449 (by kernel_rfl) (by kernel_rfl) ?_
                  intro b457 w458 (H459 : Sat w [famC coreK bs Ds, restC w (fun _ => False), cellC b6 25 ([(.int .i64 (F)), (.int .i64 (1))] : List Value), rowC 27 1 (.slice a1 bs.length q1) bs.length (bs.flatMap encP), rowC 52 37 (.slice a2 all.length q2) all.length (all.flatMap encS), cellC b457 52 (([(.bool false), (.int .i64 (0)), (.int .i64 (0)), (.int .i64 (0)), (.int .i64 (0))] : List Value) ++ hc hash0)] w458)
                  refine hK456 _ _ ?_
                  clear hK456 K456
                  refine wl_do (wants0 rfl) (fun K460 hK460 => ?_)
                  refine d_storeX (vs := (([(.bool (x454.vote)), (.int .i64 (x454.kind)), (.int .i64 (x454.round)), (.int .i64 (x454.valid)), (.int .i64 (x454.from'))] : List Value) ++ hc x454.h)) (cs' := (([(.bool (x454.vote)), (.int .i64 (x454.kind)), (.int .i64 (x454.round)), (.int .i64 (x454.valid)), (.int .i64 (x454.from'))] : List Value) ++ hc x454.h)) rfl H459 5 rfl rfl rfl rfl (by kernel_rfl) (Nat.le_of_ble_eq_true (by kernel_rfl)) (Nat.le_of_ble_eq_true (by kernel_rfl)) (by kernel_rfl) (by kernel_rfl) ?_
                  intro w461 (H462 : Sat w [famC coreK bs Ds, restC w (fun _ => False), cellC b6 25 ([(.int .i64 (F)), (.int .i64 (1))] : List Value), rowC 27 1 (.slice a1 bs.length q1) bs.length (bs.flatMap encP), rowC 52 37 (.slice a2 all.length q2) all.length (all.flatMap encS), cellC b457 52 (([(.bool (x454.vote)), (.int .i64 (x454.kind)), (.int .i64 (x454.round)), (.int .i64 (x454.valid)), (.int .i64 (x454.from'))] : List Value) ++ hc x454.h)] w461)
                  refine hK460 _ _ ?_
                  clear hK460 K460
                  refine w_nil ?_
                  refine then_normal ?_
                  refine w_seq ?_
                  refine w_lit ?_
                  refine wl_pure (wants0 rfl) (d := 207) (v := (.pointer (some ⟨b457, 0, none⟩))) rfl (by kernel_rfl) ?_
                  refine wl_pure (wants0 rfl) (d := 208) (v := (.bool (x454.vote))) rfl (e_load1 rfl (by kernel_rfl) (H462.cell 5 rfl (by kernel_rfl))) ?_
                  refine w_nil ?_
                  refine then_normal ?_
                  refine (bsplit (x454.vote)).elim (fun b464 => ?_) (fun b464 => ?_)
                  · refine wp_know 208 (.bool true) (congrArg Value.bool b464) ?_
                    refine wp_ift rfl ?_
                    obtain ⟨g465, c466, e467⟩ := row_shape (H462.at 3 rfl) (by omega)
                    obtain ⟨x468, h469⟩ := get_at (show to < bs.length by omega)
                    obtain ⟨g470, c471, e472⟩ := row_shape (H462.at 3 rfl) (by omega)
                    obtain ⟨x473, h474⟩ := get_at (show to < bs.length by omega)
                    refine h_start H462 [restC w (fun _ => False), cellC b6 25 ([(.int .i64 (F)), (.int .i64 (1))] : List Value), rowC 27 1 (.slice a1 bs.length q1) bs.length (bs.flatMap encP), cellC b457 52 (([(.bool (x454.vote)), (.int .i64 (x454.kind)), (.int .i64 (x454.round)), (.int .i64 (x454.valid)), (.int .i64 (x454.from'))] : List Value) ++ hc x454.h)] 20 rfl (by kernel_rfl) (fun Hx => (Hx.pick [1, 2, 3, 5] (by decide))) ?_
                    intro w475 H476 S477
                    refine h_val 0 rfl (by kernel_rfl) (by kernel_rfl) (by kernel_rfl) (fun _ _ _ h => h) S477 (wants0 rfl) (d := 209) (v := (.slice a2 all.length q2)) rfl (fun _ H' => (by kernel_rfl)) ?_
                    refine h_val 1 rfl (by kernel_rfl) (by kernel_rfl) (by kernel_rfl) (fun _ _ _ h => h) S477 (wants0 rfl) (d := 210) (v := (.agg ⟨([(.int .i64 (F)), (.int .i64 (1))] : List Value)⟩)) rfl (fun _ H' => (e_loadN (vs := ([(.int .i64 (F)), (.int .i64 (1))] : List Value)) rfl (by kernel_rfl) (by kernel_rfl) (by exact Nat.le_of_ble_eq_true (by kernel_rfl)) (H'.at 1 rfl) (by kernel_rfl))) ?_
                    refine h_val 2 rfl (by kernel_rfl) (by kernel_rfl) (by kernel_rfl) (fun _ _ _ h => h) S477 (wants0 rfl) (d := 211) (v := (.int .i64 (E))) rfl (fun _ H' => (by kernel_rfl)) ?_
                    refine h_val 3 rfl (by kernel_rfl) (by kernel_rfl) (by kernel_rfl) (fun _ _ _ h => h) S477 (wants0 rfl) (d := 212) (v := (.int .i64 ((to : Int)))) rfl (fun _ H' => (by kernel_rfl)) ?_
                    refine h_val 4 rfl (by kernel_rfl) (by kernel_rfl) (by kernel_rfl) (fun _ _ _ h => h) S477 (wants0 rfl) (d := 213) (v := (.slice a1 bs.length q1)) rfl (fun _ H' => (by kernel_rfl)) ?_
                    refine h_val 5 rfl (by kernel_rfl) (by kernel_rfl) (by kernel_rfl) (fun _ _ _ h => h) S477 (wants0 rfl) (d := 214) (v := (.int .i64 ((to : Int)))) rfl (fun _ H' => (by kernel_rfl)) ?_
                    obtain ⟨g478, c479, e480⟩ := row_shape (H476.at 3 rfl) (by omega)
                    obtain ⟨x481, h482⟩ := get_at (show to < bs.length by omega)
                    refine h_val 6 rfl (by kernel_rfl) (by kernel_rfl) (by kernel_rfl) (fun _ _ _ h => h) S477 (wants0 rfl) (d := 215) (v := (.pointer (some ⟨g478, 0 + ((to : Int)).toNat * 1, none⟩))) rfl (fun _ H' => (e_indexAddrV (E := 27) (by kernel_rfl) (by kernel_rfl) (Nat.le_of_ble_eq_true rfl) rfl e480 rfl (by omega) (by omega))) ?_
                    refine h_val 7 rfl (by kernel_rfl) (by kernel_rfl) (by kernel_rfl) (fun _ _ _ h => h) S477 (wants0 rfl) (d := 216) (v := (.pointer (some ⟨x481.k, 0, none⟩))) rfl (fun _ H' => (e_load1 rfl (by kernel_rfl) (rows_cell (H'.at 2 rfl) e480 encP_len h482 0 rfl (show 0 + ((to : Int)).toNat * 1 = to * 1 + 0 by omega) (by kernel_rfl)))) ?_
                    refine h_val 8 rfl (by kernel_rfl) (by kernel_rfl) (by kernel_rfl) (fun _ _ _ h => h) S477 (wants0 rfl) (d := 217) (v := (.pointer (some ⟨b457, 1, none⟩))) rfl (fun _ H' => (by kernel_rfl)) ?_
                    refine h_val 9 rfl (by kernel_rfl) (by kernel_rfl) (by kernel_rfl) (fun _ _ _ h => h) S477 (wants0 rfl) (d := 218) (v := (.int .i64 (x454.kind))) rfl (fun _ H' => (e_load1 rfl (by kernel_rfl) (H'.cell 3 rfl (by kernel_rfl)))) ?_
                    refine h_val 10 rfl (by kernel_rfl) (by kernel_rfl) (by kernel_rfl) (fun _ _ _ h => h) S477 (wants0 rfl) (d := 219) (v := (.pointer (some ⟨b457, 2, none⟩))) rfl (fun _ H' => (by kernel_rfl)) ?_
                    refine h_val 11 rfl (by kernel_rfl) (by kernel_rfl) (by kernel_rfl) (fun _ _ _ h => h) S477 (wants0 rfl) (d := 220) (v := (.int .i64 (x454.round))) rfl (fun _ H' => (e_load1 rfl (by kernel_rfl) (H'.cell 3 rfl (by kernel_rfl)))) ?_
                    refine h_val 12 rfl (by kernel_rfl) (by kernel_rfl) (by kernel_rfl) (fun _ _ _ h => h) S477 (wants0 rfl) (d := 221) (v := (.pointer (some ⟨b457, 4, none⟩))) rfl (fun _ H' => (by kernel_rfl)) ?_
                    refine h_val 13 rfl (by kernel_rfl) (by kernel_rfl) (by kernel_rfl) (fun _ _ _ h => h) S477 (wants0 rfl) (d := 222) (v := (.int .i64 (x454.from'))) rfl (fun _ H' => (e_load1 rfl (by kernel_rfl) (H'.cell 3 rfl (by kernel_rfl)))) ?_
                    refine h_val 14 rfl (by kernel_rfl) (by kernel_rfl) (by kernel_rfl) (fun _ _ _ h => h) S477 (wants0 rfl) (d := 223) (v := (.pointer (some ⟨b457, 5, none⟩))) rfl (fun _ H' => (by kernel_rfl)) ?_
                    refine h_val 15 rfl (by kernel_rfl) (by kernel_rfl) (by kernel_rfl) (fun _ _ _ h => h) S477 (wants0 rfl) (d := 224) (v := (.agg ⟨(hc x454.h)⟩)) rfl (fun _ H' => (e_loadN (vs := (hc x454.h)) rfl (by kernel_rfl) (by kernel_rfl) (by exact Nat.le_of_ble_eq_true (by kernel_rfl)) (H'.at 3 rfl) (by kernel_rfl))) ?_
                    refine h_do 16 rfl (by kernel_rfl) (wants0 rfl) (fun K483 hK483 => ?_)
                    obtain ⟨D484, hD485⟩ := get_at (show to < Ds.length by have q := famC_len (H476.at 0 rfl); omega)
                    obtain ⟨D486, A487, hst488⟩ : ∃ D2 A2, voteD' D484 x454.kind x454.round (x454.from') x454.h = (D2, A2) := ⟨_, _, rfl⟩
                    have hlA : A487.length ≤ 8388621 := by have q := vote_le ((hAg.core hD485).1) x454.kind x454.round (x454.from') x454.h; rw [hst488] at q; exact Nat.le_trans q (by decide)
                    refine d_call (d := 225) rfl (by kernel_rfl) (calls_fam (T := 45) (D' := (voteD' D484 x454.kind x454.round (x454.from') x454.h).1) (A := (voteD' D484 x454.kind x454.round (x454.from') x454.h).2) (H476.at 0 rfl) h482 hD485 (coreVote_any w475 x481.k x481.t x481.hb x481.cb x481.ab x481.lb x481.pb D484 (famC_at (ck := coreK) (H476.at 0 rfl) h482 hD485) ((hAg.core hD485).1) x454.kind x454.round (x454.from') x454.h)) ?_
                    rw [hst488]
                    rintro _ w490 ⟨v489, rfl, S491⟩
                    have H492 : Sat w [famC coreK bs (Ds.set to D486), restC w (fun _ => False), cellC b6 25 ([(.int .i64 (F)), (.int .i64 (1))] : List Value), rowC 27 1 (.slice a1 bs.length q1) bs.length (bs.flatMap encP), rowC 52 37 (.slice a2 all.length q2) all.length (all.flatMap encS), cellC b457 52 (([(.bool (x454.vote)), (.int .i64 (x454.kind)), (.int .i64 (x454.round)), (.int .i64 (x454.valid)), (.int .i64 (x454.from'))] : List Value) ++ hc x454.h), rowC 45 35 v489 A487.length (A487.flatMap encA)] w490 := (Sat.turn1 (L' := [famC coreK bs (Ds.set to D486), rowC 45 35 v489 A487.length (A487.flatMap encA)]) (R := [restC w (fun _ => False), cellC b6 25 ([(.int .i64 (F)), (.int .i64 (1))] : List Value), rowC 27 1 (.slice a1 bs.length q1) bs.length (bs.flatMap encP), rowC 52 37 (.slice a2 all.length q2) all.length (all.flatMap encS), cellC b457 52 (([(.bool (x454.vote)), (.int .i64 (x454.kind)), (.int .i64 (x454.round)), (.int .i64 (x454.valid)), (.int .i64 (x454.from'))] : List Value) ++ hc x454.h)]) H476 0 [1, 2, 3, 4, 5] (by decide) rfl rfl S491).pick [0, 2, 3, 4, 5, 6, 1] (by decide)
                    obtain ⟨a493, c494, rfl⟩ := ownsRow_shape (H492.at 6 rfl)
                    refine ⟨_, rfl, ?_⟩
                    have S495 := H492.pick [1, 2, 3, 5] (by decide)
                    refine hK483 _ _ S495 ?_
                    clear hK483 K483
                    refine h_do 17 rfl (by kernel_rfl) (wants0 rfl) (fun K496 hK496 => ?_)
                    have hsk := speakA_len (to : Int) A487
                    refine d_call (d := 226) rfl (by kernel_rfl) (speak_any w490 F 1 E (to : Int) _ A487 (H492.at 6 rfl) (by omega)) ?_
                    rintro _ w498 ⟨u497, rfl, k500, u501, f502⟩
                    have H499 : Sat w [famC coreK bs (Ds.set to D486), restC w (fun _ => False), cellC b6 25 ([(.int .i64 (F)), (.int .i64 (1))] : List Value), rowC 27 1 (.slice a1 bs.length q1) bs.length (bs.flatMap encP), rowC 52 37 (.slice a2 all.length q2) all.length (all.flatMap encS), cellC b457 52 (([(.bool (x454.vote)), (.int .i64 (x454.kind)), (.int .i64 (x454.round)), (.int .i64 (x454.valid)), (.int .i64 (x454.from'))] : List Value) ++ hc x454.h), rowC 45 35 (.slice a493 A487.length c494) A487.length (A487.flatMap encA), rowC 52 37 u497 ((A487.flatMap (speakA (to : Int))).length) ((A487.flatMap (speakA (to : Int))).flatMap encS)] w498 := H492.addU u501 k500 f502
                    obtain ⟨a503, c504, rfl⟩ := ownsRow_shape (H499.at 7 rfl)
                    refine ⟨_, rfl, ?_⟩
                    have S505 := H499.pick [1, 2, 3, 5] (by decide)
                    refine hK496 _ _ S505 ?_
                    clear hK496 K496
                    refine h_do 18 rfl (by kernel_rfl) (wants0 rfl) (fun K506 hK506 => ?_)
                    refine d_append (T := 48) (e := 52) (size := 37) (bytes := 72) rfl H499 (by kernel_rfl) 4 7 rfl rfl rfl rfl (flat_one encS encS_one (A487.flatMap (speakA (to : Int)))) (by omega) (by omega) ?_
                    intro v507 w508 (H509 : Sat w [famC coreK bs (Ds.set to D486), restC w (fun _ => False), cellC b6 25 ([(.int .i64 (F)), (.int .i64 (1))] : List Value), rowC 27 1 (.slice a1 bs.length q1) bs.length (bs.flatMap encP), rowC 52 37 v507 (all.length + (A487.flatMap (speakA (to : Int))).length) ((all.flatMap encS) ++ ((A487.flatMap (speakA (to : Int))).flatMap encS)), cellC b457 52 (([(.bool (x454.vote)), (.int .i64 (x454.kind)), (.int .i64 (x454.round)), (.int .i64 (x454.valid)), (.int .i64 (x454.from'))] : List Value) ++ hc x454.h), rowC 45 35 (.slice a493 A487.length c494) A487.length (A487.flatMap encA), rowC 52 37 (.slice a503 ((A487.flatMap (speakA (to : Int))).length) c504) ((A487.flatMap (speakA (to : Int))).length) ((A487.flatMap (speakA (to : Int))).flatMap encS)] w508)
                    have H512 : Sat w [famC coreK bs (Ds.set to D486), restC w (fun _ => False), cellC b6 25 ([(.int .i64 (F)), (.int .i64 (1))] : List Value), rowC 27 1 (.slice a1 bs.length q1) bs.length (bs.flatMap encP), rowC 52 37 v507 ((all ++ (A487.flatMap (speakA (to : Int)))).length) ((all ++ (A487.flatMap (speakA (to : Int)))).flatMap encS), cellC b457 52 (([(.bool (x454.vote)), (.int .i64 (x454.kind)), (.int .i64 (x454.round)), (.int .i64 (x454.valid)), (.int .i64 (x454.from'))] : List Value) ++ hc x454.h), rowC 45 35 (.slice a493 A487.length c494) A487.length (A487.flatMap encA), rowC 52 37 (.slice a503 ((A487.flatMap (speakA (to : Int))).length) c504) ((A487.flatMap (speakA (to : Int))).length) ((A487.flatMap (speakA (to : Int))).flatMap encS)] w508 := H509.cast (by simp only [List.length_append, List.flatMap_append] <;> rfl)
                    obtain ⟨a510, c511, rfl⟩ := ownsRow_shape (H512.at 4 rfl)
                    have S513 := H512.pick [1, 2, 3, 5] (by decide)
                    refine hK506 _ _ S513 ?_
                    clear hK506 K506
                    refine h_val 19 rfl (by kernel_rfl) (by kernel_rfl) (by kernel_rfl) (fun _ _ _ h => h) S513 (wants0 rfl) (d := 12) (v := (.slice a510 ((all ++ (A487.flatMap (speakA (to : Int)))).length) c511)) rfl (fun _ H' => (by kernel_rfl)) ?_
                    refine h_fin (by kernel_rfl) ?_
                    refine blk_normal ?_
                    have hsl := speakA_len (to : Int) A487
                    have H514 : Sat w [famC coreK bs (Ds.set to D486), restC w (fun _ => False), cellC b6 25 ([(.int .i64 (F)), (.int .i64 (1))] : List Value), rowC 27 1 (.slice a1 bs.length q1) bs.length (bs.flatMap encP), rowC 52 37 (.slice a510 ((all ++ (A487.flatMap (speakA (to : Int)))).length) c511) ((all ++ (A487.flatMap (speakA (to : Int)))).length) ((all ++ (A487.flatMap (speakA (to : Int)))).flatMap encS)] w508 := H512.pick [0, 1, 2, 3, 4] (by decide)
                    refine meetR_at ?_ ⟨(Ds.set to D486), (all ++ (A487.flatMap (speakA (to : Int)))), a510, c511, rfl, (hAg.heard hD485 (List.mem_of_getElem? h455) b464 hst488), (by first | exact hDn | (rw [List.length_set]; exact hDn)), (by first | exact Nat.le_trans hal2 (by decide) | (rw [List.length_append]; omega)), H514⟩
                    exact (same_upd rfl (same_upd rfl (same_upd rfl (same_upd rfl (same_upd rfl (same_upd rfl (same_upd rfl (same_upd rfl (same_upd rfl (same_upd rfl (same_upd rfl (same_upd rfl (same_upd rfl (same_upd rfl (same_upd rfl (same_upd rfl (same_upd rfl (same_upd rfl (same_upd rfl (same_upd rfl (same_upd rfl (same_upd rfl (same_upd rfl (same_upd rfl (same_upd rfl (same_upd rfl (same_upd rfl (same_upd rfl (same_upd rfl (same_upd rfl (same_upd rfl (same_upd rfl (same_upd rfl (same_upd rfl (same_upd rfl (same_upd rfl (same_upd rfl (same_upd rfl (same_upd rfl (same_upd rfl (same_upd rfl (same_upd rfl (same_upd rfl (same_upd rfl (same_upd rfl (same_upd rfl (same_upd rfl (same_upd rfl (same_upd rfl (same_upd rfl (same_upd rfl (same_upd rfl (same_refl)))))))))))))))))))))))))))))))))))))))))))))))))))))
                  · refine wp_know 208 (.bool false) (congrArg Value.bool b464) ?_
                    refine wp_iff rfl ?_
                    obtain ⟨g515, c516, e517⟩ := row_shape (H462.at 3 rfl) (by omega)
                    obtain ⟨x518, h519⟩ := get_at (show to < bs.length by omega)
                    obtain ⟨g520, c521, e522⟩ := row_shape (H462.at 3 rfl) (by omega)
                    obtain ⟨x523, h524⟩ := get_at (show to < bs.length by omega)
                    refine h_start H462 [restC w (fun _ => False), cellC b6 25 ([(.int .i64 (F)), (.int .i64 (1))] : List Value), rowC 27 1 (.slice a1 bs.length q1) bs.length (bs.flatMap encP), cellC b457 52 (([(.bool (x454.vote)), (.int .i64 (x454.kind)), (.int .i64 (x454.round)), (.int .i64 (x454.valid)), (.int .i64 (x454.from'))] : List Value) ++ hc x454.h)] 18 rfl (by kernel_rfl) (fun Hx => (Hx.pick [1, 2, 3, 5] (by decide))) ?_
                    intro w525 H526 S527
                    refine h_val 0 rfl (by kernel_rfl) (by kernel_rfl) (by kernel_rfl) (fun _ _ _ h => h) S527 (wants0 rfl) (d := 228) (v := (.slice a2 all.length q2)) rfl (fun _ H' => (by kernel_rfl)) ?_
                    refine h_val 1 rfl (by kernel_rfl) (by kernel_rfl) (by kernel_rfl) (fun _ _ _ h => h) S527 (wants0 rfl) (d := 229) (v := (.agg ⟨([(.int .i64 (F)), (.int .i64 (1))] : List Value)⟩)) rfl (fun _ H' => (e_loadN (vs := ([(.int .i64 (F)), (.int .i64 (1))] : List Value)) rfl (by kernel_rfl) (by kernel_rfl) (by exact Nat.le_of_ble_eq_true (by kernel_rfl)) (H'.at 1 rfl) (by kernel_rfl))) ?_
                    refine h_val 2 rfl (by kernel_rfl) (by kernel_rfl) (by kernel_rfl) (fun _ _ _ h => h) S527 (wants0 rfl) (d := 230) (v := (.int .i64 (E))) rfl (fun _ H' => (by kernel_rfl)) ?_
                    refine h_val 3 rfl (by kernel_rfl) (by kernel_rfl) (by kernel_rfl) (fun _ _ _ h => h) S527 (wants0 rfl) (d := 231) (v := (.int .i64 ((to : Int)))) rfl (fun _ H' => (by kernel_rfl)) ?_
                    refine h_val 4 rfl (by kernel_rfl) (by kernel_rfl) (by kernel_rfl) (fun _ _ _ h => h) S527 (wants0 rfl) (d := 232) (v := (.slice a1 bs.length q1)) rfl (fun _ H' => (by kernel_rfl)) ?_
                    refine h_val 5 rfl (by kernel_rfl) (by kernel_rfl) (by kernel_rfl) (fun _ _ _ h => h) S527 (wants0 rfl) (d := 233) (v := (.int .i64 ((to : Int)))) rfl (fun _ H' => (by kernel_rfl)) ?_
                    obtain ⟨g528, c529, e530⟩ := row_shape (H526.at 3 rfl) (by omega)
                    obtain ⟨x531, h532⟩ := get_at (show to < bs.length by omega)
                    refine h_val 6 rfl (by kernel_rfl) (by kernel_rfl) (by kernel_rfl) (fun _ _ _ h => h) S527 (wants0 rfl) (d := 234) (v := (.pointer (some ⟨g528, 0 + ((to : Int)).toNat * 1, none⟩))) rfl (fun _ H' => (e_indexAddrV (E := 27) (by kernel_rfl) (by kernel_rfl) (Nat.le_of_ble_eq_true rfl) rfl e530 rfl (by omega) (by omega))) ?_
                    refine h_val 7 rfl (by kernel_rfl) (by kernel_rfl) (by kernel_rfl) (fun _ _ _ h => h) S527 (wants0 rfl) (d := 235) (v := (.pointer (some ⟨x531.k, 0, none⟩))) rfl (fun _ H' => (e_load1 rfl (by kernel_rfl) (rows_cell (H'.at 2 rfl) e530 encP_len h532 0 rfl (show 0 + ((to : Int)).toNat * 1 = to * 1 + 0 by omega) (by kernel_rfl)))) ?_
                    refine h_val 8 rfl (by kernel_rfl) (by kernel_rfl) (by kernel_rfl) (fun _ _ _ h => h) S527 (wants0 rfl) (d := 236) (v := (.pointer (some ⟨b457, 2, none⟩))) rfl (fun _ H' => (by kernel_rfl)) ?_
                    refine h_val 9 rfl (by kernel_rfl) (by kernel_rfl) (by kernel_rfl) (fun _ _ _ h => h) S527 (wants0 rfl) (d := 237) (v := (.int .i64 (x454.round))) rfl (fun _ H' => (e_load1 rfl (by kernel_rfl) (H'.cell 3 rfl (by kernel_rfl)))) ?_
                    refine h_val 10 rfl (by kernel_rfl) (by kernel_rfl) (by kernel_rfl) (fun _ _ _ h => h) S527 (wants0 rfl) (d := 238) (v := (.pointer (some ⟨b457, 3, none⟩))) rfl (fun _ H' => (by kernel_rfl)) ?_
                    refine h_val 11 rfl (by kernel_rfl) (by kernel_rfl) (by kernel_rfl) (fun _ _ _ h => h) S527 (wants0 rfl) (d := 239) (v := (.int .i64 (x454.valid))) rfl (fun _ H' => (e_load1 rfl (by kernel_rfl) (H'.cell 3 rfl (by kernel_rfl)))) ?_
                    refine h_val 12 rfl (by kernel_rfl) (by kernel_rfl) (by kernel_rfl) (fun _ _ _ h => h) S527 (wants0 rfl) (d := 240) (v := (.pointer (some ⟨b457, 5, none⟩))) rfl (fun _ H' => (by kernel_rfl)) ?_
                    refine h_val 13 rfl (by kernel_rfl) (by kernel_rfl) (by kernel_rfl) (fun _ _ _ h => h) S527 (wants0 rfl) (d := 241) (v := (.agg ⟨(hc x454.h)⟩)) rfl (fun _ H' => (e_loadN (vs := (hc x454.h)) rfl (by kernel_rfl) (by kernel_rfl) (by exact Nat.le_of_ble_eq_true (by kernel_rfl)) (H'.at 3 rfl) (by kernel_rfl))) ?_
                    refine h_do 14 rfl (by kernel_rfl) (wants0 rfl) (fun K533 hK533 => ?_)
                    obtain ⟨D534, hD535⟩ := get_at (show to < Ds.length by have q := famC_len (H526.at 0 rfl); omega)
                    obtain ⟨D536, A537, hst538⟩ : ∃ D2 A2, proposeD D534 x454.round x454.valid x454.h true = (D2, A2) := ⟨_, _, rfl⟩
                    have hlA : A537.length ≤ 8388621 := by have q := propose_le ((hAg.core hD535).1) x454.round x454.valid x454.h true; rw [hst538] at q; exact Nat.le_trans q (by decide)
                    refine d_call (d := 242) rfl (by kernel_rfl) (calls_fam (T := 45) (D' := (proposeD D534 x454.round x454.valid x454.h true).1) (A := (proposeD D534 x454.round x454.valid x454.h true).2) (H526.at 0 rfl) h532 hD535 (corePropose_any w525 x531.k x531.t x531.hb x531.cb x531.ab x531.lb x531.pb D534 (famC_at (ck := coreK) (H526.at 0 rfl) h532 hD535) ((hAg.core hD535).1) x454.round x454.valid x454.h true)) ?_
                    rw [hst538]
                    rintro _ w540 ⟨v539, rfl, S541⟩
                    have H542 : Sat w [famC coreK bs (Ds.set to D536), restC w (fun _ => False), cellC b6 25 ([(.int .i64 (F)), (.int .i64 (1))] : List Value), rowC 27 1 (.slice a1 bs.length q1) bs.length (bs.flatMap encP), rowC 52 37 (.slice a2 all.length q2) all.length (all.flatMap encS), cellC b457 52 (([(.bool (x454.vote)), (.int .i64 (x454.kind)), (.int .i64 (x454.round)), (.int .i64 (x454.valid)), (.int .i64 (x454.from'))] : List Value) ++ hc x454.h), rowC 45 35 v539 A537.length (A537.flatMap encA)] w540 := (Sat.turn1 (L' := [famC coreK bs (Ds.set to D536), rowC 45 35 v539 A537.length (A537.flatMap encA)]) (R := [restC w (fun _ => False), cellC b6 25 ([(.int .i64 (F)), (.int .i64 (1))] : List Value), rowC 27 1 (.slice a1 bs.length q1) bs.length (bs.flatMap encP), rowC 52 37 (.slice a2 all.length q2) all.length (all.flatMap encS), cellC b457 52 (([(.bool (x454.vote)), (.int .i64 (x454.kind)), (.int .i64 (x454.round)), (.int .i64 (x454.valid)), (.int .i64 (x454.from'))] : List Value) ++ hc x454.h)]) H526 0 [1, 2, 3, 4, 5] (by decide) rfl rfl S541).pick [0, 2, 3, 4, 5, 6, 1] (by decide)
                    obtain ⟨a543, c544, rfl⟩ := ownsRow_shape (H542.at 6 rfl)
                    refine ⟨_, rfl, ?_⟩
                    have S545 := H542.pick [1, 2, 3, 5] (by decide)
                    refine hK533 _ _ S545 ?_
                    clear hK533 K533
                    refine h_do 15 rfl (by kernel_rfl) (wants0 rfl) (fun K546 hK546 => ?_)
                    have hsk := speakA_len (to : Int) A537
                    refine d_call (d := 243) rfl (by kernel_rfl) (speak_any w540 F 1 E (to : Int) _ A537 (H542.at 6 rfl) (by omega)) ?_
                    rintro _ w548 ⟨u547, rfl, k550, u551, f552⟩
                    have H549 : Sat w [famC coreK bs (Ds.set to D536), restC w (fun _ => False), cellC b6 25 ([(.int .i64 (F)), (.int .i64 (1))] : List Value), rowC 27 1 (.slice a1 bs.length q1) bs.length (bs.flatMap encP), rowC 52 37 (.slice a2 all.length q2) all.length (all.flatMap encS), cellC b457 52 (([(.bool (x454.vote)), (.int .i64 (x454.kind)), (.int .i64 (x454.round)), (.int .i64 (x454.valid)), (.int .i64 (x454.from'))] : List Value) ++ hc x454.h), rowC 45 35 (.slice a543 A537.length c544) A537.length (A537.flatMap encA), rowC 52 37 u547 ((A537.flatMap (speakA (to : Int))).length) ((A537.flatMap (speakA (to : Int))).flatMap encS)] w548 := H542.addU u551 k550 f552
                    obtain ⟨a553, c554, rfl⟩ := ownsRow_shape (H549.at 7 rfl)
                    refine ⟨_, rfl, ?_⟩
                    have S555 := H549.pick [1, 2, 3, 5] (by decide)
                    refine hK546 _ _ S555 ?_
                    clear hK546 K546
                    refine h_do 16 rfl (by kernel_rfl) (wants0 rfl) (fun K556 hK556 => ?_)
                    refine d_append (T := 48) (e := 52) (size := 37) (bytes := 72) rfl H549 (by kernel_rfl) 4 7 rfl rfl rfl rfl (flat_one encS encS_one (A537.flatMap (speakA (to : Int)))) (by omega) (by omega) ?_
                    intro v557 w558 (H559 : Sat w [famC coreK bs (Ds.set to D536), restC w (fun _ => False), cellC b6 25 ([(.int .i64 (F)), (.int .i64 (1))] : List Value), rowC 27 1 (.slice a1 bs.length q1) bs.length (bs.flatMap encP), rowC 52 37 v557 (all.length + (A537.flatMap (speakA (to : Int))).length) ((all.flatMap encS) ++ ((A537.flatMap (speakA (to : Int))).flatMap encS)), cellC b457 52 (([(.bool (x454.vote)), (.int .i64 (x454.kind)), (.int .i64 (x454.round)), (.int .i64 (x454.valid)), (.int .i64 (x454.from'))] : List Value) ++ hc x454.h), rowC 45 35 (.slice a543 A537.length c544) A537.length (A537.flatMap encA), rowC 52 37 (.slice a553 ((A537.flatMap (speakA (to : Int))).length) c554) ((A537.flatMap (speakA (to : Int))).length) ((A537.flatMap (speakA (to : Int))).flatMap encS)] w558)
                    have H562 : Sat w [famC coreK bs (Ds.set to D536), restC w (fun _ => False), cellC b6 25 ([(.int .i64 (F)), (.int .i64 (1))] : List Value), rowC 27 1 (.slice a1 bs.length q1) bs.length (bs.flatMap encP), rowC 52 37 v557 ((all ++ (A537.flatMap (speakA (to : Int)))).length) ((all ++ (A537.flatMap (speakA (to : Int)))).flatMap encS), cellC b457 52 (([(.bool (x454.vote)), (.int .i64 (x454.kind)), (.int .i64 (x454.round)), (.int .i64 (x454.valid)), (.int .i64 (x454.from'))] : List Value) ++ hc x454.h), rowC 45 35 (.slice a543 A537.length c544) A537.length (A537.flatMap encA), rowC 52 37 (.slice a553 ((A537.flatMap (speakA (to : Int))).length) c554) ((A537.flatMap (speakA (to : Int))).length) ((A537.flatMap (speakA (to : Int))).flatMap encS)] w558 := H559.cast (by simp only [List.length_append, List.flatMap_append] <;> rfl)
                    obtain ⟨a560, c561, rfl⟩ := ownsRow_shape (H562.at 4 rfl)
                    have S563 := H562.pick [1, 2, 3, 5] (by decide)
                    refine hK556 _ _ S563 ?_
                    clear hK556 K556
                    refine h_val 17 rfl (by kernel_rfl) (by kernel_rfl) (by kernel_rfl) (fun _ _ _ h => h) S563 (wants0 rfl) (d := 12) (v := (.slice a560 ((all ++ (A537.flatMap (speakA (to : Int)))).length) c561)) rfl (fun _ H' => (by kernel_rfl)) ?_
                    refine h_fin (by kernel_rfl) ?_
                    refine blk_normal ?_
                    have hsl := speakA_len (to : Int) A537
                    have H564 : Sat w [famC coreK bs (Ds.set to D536), restC w (fun _ => False), cellC b6 25 ([(.int .i64 (F)), (.int .i64 (1))] : List Value), rowC 27 1 (.slice a1 bs.length q1) bs.length (bs.flatMap encP), rowC 52 37 (.slice a560 ((all ++ (A537.flatMap (speakA (to : Int)))).length) c561) ((all ++ (A537.flatMap (speakA (to : Int)))).length) ((all ++ (A537.flatMap (speakA (to : Int)))).flatMap encS)] w558 := H562.pick [0, 1, 2, 3, 4] (by decide)
                    refine meetR_at ?_ ⟨(Ds.set to D536), (all ++ (A537.flatMap (speakA (to : Int)))), a560, c561, rfl, (hAg.propose hD535 hst538), (by first | exact hDn | (rw [List.length_set]; exact hDn)), (by first | exact Nat.le_trans hal2 (by decide) | (rw [List.length_append]; omega)), H564⟩
                    exact (same_upd rfl (same_upd rfl (same_upd rfl (same_upd rfl (same_upd rfl (same_upd rfl (same_upd rfl (same_upd rfl (same_upd rfl (same_upd rfl (same_upd rfl (same_upd rfl (same_upd rfl (same_upd rfl (same_upd rfl (same_upd rfl (same_upd rfl (same_upd rfl (same_upd rfl (same_upd rfl (same_upd rfl (same_upd rfl (same_upd rfl (same_upd rfl (same_upd rfl (same_upd rfl (same_upd rfl (same_upd rfl (same_upd rfl (same_upd rfl (same_upd rfl (same_upd rfl (same_upd rfl (same_upd rfl (same_upd rfl (same_upd rfl (same_upd rfl (same_upd rfl (same_upd rfl (same_upd rfl (same_upd rfl (same_upd rfl (same_upd rfl (same_upd rfl (same_upd rfl (same_upd rfl (same_upd rfl (same_upd rfl (same_upd rfl (same_upd rfl (same_refl)))))))))))))))))))))))))))))))))))))))))))))))))))
                · have g565 := of_decide_eq_false b444
                  refine wp_know 196 (.bool false) (congrArg Value.bool b444) ?_
                  have g566 := of_decide_eq_false b444
                  refine wp_iff rfl ?_
                  refine w_skip ?_
                  refine blk_normal ?_
                  have H567 : Sat w [famC coreK bs Ds, restC w (fun _ => False), cellC b6 25 ([(.int .i64 (F)), (.int .i64 (1))] : List Value), rowC 27 1 (.slice a1 bs.length q1) bs.length (bs.flatMap encP), rowC 52 37 (.slice a2 all.length q2) all.length (all.flatMap encS)] w114 := H115.pick [0, 1, 2, 3, 4] (by decide)
                  refine meetR_at ?_ ⟨Ds, all, a2, q2, rfl, hAg, (by first | exact hDn | (rw [List.length_set]; exact hDn)), (by first | exact Nat.le_trans hal2 (by decide) | (rw [List.length_append]; omega)), H567⟩
                  exact (same_upd rfl (same_upd rfl (same_upd rfl (same_upd rfl (same_upd rfl (same_upd rfl (same_upd rfl (same_upd rfl (same_upd rfl (same_upd rfl (same_upd rfl (same_upd rfl (same_upd rfl (same_upd rfl (same_upd rfl (same_upd rfl (same_upd rfl (same_upd rfl (same_upd rfl (same_upd rfl (same_upd rfl (same_refl))))))))))))))))))))))
          · have g568 := of_decide_eq_false b118
            refine wl_know 90 (.bool false) (congrArg Value.bool b118) ?_
            have g569 := of_decide_eq_false b118
            refine wl_pass (wantsN 3 90 true rfl (by kernel_rfl) rfl (by kernel_rfl)) rfl ?_
            refine wl_pass (wantsN 3 90 true rfl (by kernel_rfl) rfl (by kernel_rfl)) rfl ?_
            refine wl_pass (wantsN 3 90 true rfl (by kernel_rfl) rfl (by kernel_rfl)) rfl ?_
            refine wl_pure (wants0 rfl) (d := 94) (v := (.bool false)) rfl (by kernel_rfl) ?_
            refine wl_pure (wants0 rfl) (d := 86) (v := (.bool false)) rfl (by kernel_rfl) ?_
            refine w_nil ?_
            refine then_normal ?_
            refine wp_iff rfl ?_
            refine w_seq ?_
            refine w_lit ?_
            refine wl_pure (wants0 rfl) (d := 170) (v := (.int .i64 (S))) rfl (by kernel_rfl) ?_
            refine wl_pure (wants0 rfl) (d := 171) (v := (.int .i64 (Int.tmod S 11))) rfl (e_tmod (by kernel_rfl) (by omega)) ?_
            refine wl_pure (wants0 rfl) (d := 172) (v := (.bool (decide ((Int.tmod S 11) = 9)))) rfl (by kernel_rfl) ?_
            refine wl_pure (wants0 rfl) (d := 169) (v := (.bool (decide ((Int.tmod S 11) = 9)))) rfl (by kernel_rfl) ?_
            refine w_nil ?_
            refine then_normal ?_
            refine (bsplit (decide ((Int.tmod S 11) = 9))).elim (fun b570 => ?_) (fun b570 => ?_)
            · have g571 := of_decide_eq_true b570
              refine wp_know 169 (.bool true) (congrArg Value.bool b570) ?_
              have g572 := of_decide_eq_true b570
              refine wp_ift rfl ?_
              refine w_seq ?_
              refine w_lit ?_
              refine wl_pure (wants0 rfl) (d := 173) (v := (.slice a1 bs.length q1)) rfl (by kernel_rfl) ?_
              refine wl_pure (wants0 rfl) (d := 174) (v := (.int .i64 ((to : Int)))) rfl (by kernel_rfl) ?_
              obtain ⟨g573, c574, e575⟩ := row_shape (H115.at 3 rfl) (by omega)
              obtain ⟨x576, h577⟩ := get_at (show to < bs.length by omega)
              refine wl_pure (wants0 rfl) (d := 175) (v := (.pointer (some ⟨g573, 0 + ((to : Int)).toNat * 1, none⟩))) rfl (e_indexAddrV (E := 27) (by kernel_rfl) (by kernel_rfl) (Nat.le_of_ble_eq_true rfl) rfl e575 rfl (by omega) (by omega)) ?_
              refine wl_pure (wants0 rfl) (d := 176) (v := (.pointer (some ⟨x576.k, 0, none⟩))) rfl (e_load1 rfl (by kernel_rfl) (rows_cell (H115.at 3 rfl) e575 encP_len h577 0 rfl (show 0 + ((to : Int)).toNat * 1 = to * 1 + 0 by omega) (by kernel_rfl))) ?_
              refine wl_do (wants0 rfl) (fun K578 hK578 => ?_)
              obtain ⟨D579, hD580⟩ := get_at (show to < Ds.length by have q := famC_len (H115.at 0 rfl); omega)
              refine d_call (d := 177) rfl (by kernel_rfl) (coreState_any w114 x576.k x576.t x576.hb x576.cb x576.ab x576.lb x576.pb D579 (famC_at (ck := coreK) (H115.at 0 rfl) h577 hD580) ((hAg.core hD580).1)) ?_
              rintro _ w581 ⟨rfl, u583⟩
              have H582 := H115.keepU u583
              refine ⟨_, rfl, ?_⟩
              refine hK578 _ _ ?_
              clear hK578 K578
              refine wl_do (wants0 rfl) (fun K584 hK584 => ?_)
              refine d_alloc (zs := (([(.int .i64 (0)), (.int .i64 (0)), (.int .i64 (0)), (.int .i64 (0))] : List Value) ++ hc hash0 ++ hc hash0 ++ ([(.bool false)] : List Value) ++ hc hash0)) (z := (.agg ⟨(([(.int .i64 (0)), (.int .i64 (0)), (.int .i64 (0)), (.int .i64 (0))] : List Value) ++ hc hash0 ++ hc hash0 ++ ([(.bool false)] : List Value) ++ hc hash0)⟩)) rfl H582 (by kernel_rfl) (by kernel_rfl) ?_
              intro b585 w586 (H587 : Sat w [famC coreK bs Ds, restC w (fun _ => False), cellC b6 25 ([(.int .i64 (F)), (.int .i64 (1))] : List Value), rowC 27 1 (.slice a1 bs.length q1) bs.length (bs.flatMap encP), rowC 52 37 (.slice a2 all.length q2) all.length (all.flatMap encS), cellC b585 38 (([(.int .i64 (0)), (.int .i64 (0)), (.int .i64 (0)), (.int .i64 (0))] : List Value) ++ hc hash0 ++ hc hash0 ++ ([(.bool false)] : List Value) ++ hc hash0)] w586)
              refine hK584 _ _ ?_
              clear hK584 K584
              refine wl_do (wants0 rfl) (fun K588 hK588 => ?_)
              refine d_storeX (vs := (([(.int .i64 (D579.s.round)), (.int .i64 (D579.s.step)), (.int .i64 (D579.s.lr)), (.int .i64 (D579.s.vr))] : List Value) ++ hc D579.s.locked ++ hc D579.s.valid ++ ([(.bool (D579.s.decided))] : List Value) ++ hc D579.s.decision)) (cs' := (([(.int .i64 (D579.s.round)), (.int .i64 (D579.s.step)), (.int .i64 (D579.s.lr)), (.int .i64 (D579.s.vr))] : List Value) ++ hc D579.s.locked ++ hc D579.s.valid ++ ([(.bool (D579.s.decided))] : List Value) ++ hc D579.s.decision)) rfl H587 5 rfl rfl rfl rfl (by kernel_rfl) (Nat.le_of_ble_eq_true (by kernel_rfl)) (Nat.le_of_ble_eq_true (by kernel_rfl)) (by kernel_rfl) (by kernel_rfl) ?_
              intro w589 (H590 : Sat w [famC coreK bs Ds, restC w (fun _ => False), cellC b6 25 ([(.int .i64 (F)), (.int .i64 (1))] : List Value), rowC 27 1 (.slice a1 bs.length q1) bs.length (bs.flatMap encP), rowC 52 37 (.slice a2 all.length q2) all.length (all.flatMap encS), cellC b585 38 (([(.int .i64 (D579.s.round)), (.int .i64 (D579.s.step)), (.int .i64 (D579.s.lr)), (.int .i64 (D579.s.vr))] : List Value) ++ hc D579.s.locked ++ hc D579.s.valid ++ ([(.bool (D579.s.decided))] : List Value) ++ hc D579.s.decision)] w589)
              refine hK588 _ _ ?_
              clear hK588 K588
              refine w_nil ?_
              refine then_normal ?_
              have h3w := within_lim (Int.tdiv S 11) 3 (by omega)
              refine h_start H590 [restC w (fun _ => False), cellC b6 25 ([(.int .i64 (F)), (.int .i64 (1))] : List Value), rowC 27 1 (.slice a1 bs.length q1) bs.length (bs.flatMap encP), cellC b585 38 (([(.int .i64 (D579.s.round)), (.int .i64 (D579.s.step)), (.int .i64 (D579.s.lr)), (.int .i64 (D579.s.vr))] : List Value) ++ hc D579.s.locked ++ hc D579.s.valid ++ ([(.bool (D579.s.decided))] : List Value) ++ hc D579.s.decision)] 19 rfl (by kernel_rfl) (fun Hx => (Hx.pick [1, 2, 3, 5] (by decide))) ?_
              intro w592 H593 S594
              refine h_val 0 rfl (by kernel_rfl) (by kernel_rfl) (by kernel_rfl) (fun _ _ _ h => h) S594 (wants0 rfl) (d := 178) (v := (.slice a2 all.length q2)) rfl (fun _ H' => (by kernel_rfl)) ?_
              refine h_val 1 rfl (by kernel_rfl) (by kernel_rfl) (by kernel_rfl) (fun _ _ _ h => h) S594 (wants0 rfl) (d := 179) (v := (.agg ⟨([(.int .i64 (F)), (.int .i64 (1))] : List Value)⟩)) rfl (fun _ H' => (e_loadN (vs := ([(.int .i64 (F)), (.int .i64 (1))] : List Value)) rfl (by kernel_rfl) (by kernel_rfl) (by exact Nat.le_of_ble_eq_true (by kernel_rfl)) (H'.at 1 rfl) (by kernel_rfl))) ?_
              refine h_val 2 rfl (by kernel_rfl) (by kernel_rfl) (by kernel_rfl) (fun _ _ _ h => h) S594 (wants0 rfl) (d := 180) (v := (.int .i64 (E))) rfl (fun _ H' => (by kernel_rfl)) ?_
              refine h_val 3 rfl (by kernel_rfl) (by kernel_rfl) (by kernel_rfl) (fun _ _ _ h => h) S594 (wants0 rfl) (d := 181) (v := (.int .i64 ((to : Int)))) rfl (fun _ H' => (by kernel_rfl)) ?_
              refine h_val 4 rfl (by kernel_rfl) (by kernel_rfl) (by kernel_rfl) (fun _ _ _ h => h) S594 (wants0 rfl) (d := 182) (v := (.slice a1 bs.length q1)) rfl (fun _ H' => (by kernel_rfl)) ?_
              refine h_val 5 rfl (by kernel_rfl) (by kernel_rfl) (by kernel_rfl) (fun _ _ _ h => h) S594 (wants0 rfl) (d := 183) (v := (.int .i64 ((to : Int)))) rfl (fun _ H' => (by kernel_rfl)) ?_
              refine h_val 6 rfl (by kernel_rfl) (by kernel_rfl) (by kernel_rfl) (fun _ _ _ h => h) S594 (wants0 rfl) (d := 184) (v := (.pointer (some ⟨g573, 0 + ((to : Int)).toNat * 1, none⟩))) rfl (fun _ H' => (e_indexAddrV (E := 27) (by kernel_rfl) (by kernel_rfl) (Nat.le_of_ble_eq_true rfl) rfl e575 rfl (by omega) (by omega))) ?_
              refine h_val 7 rfl (by kernel_rfl) (by kernel_rfl) (by kernel_rfl) (fun _ _ _ h => h) S594 (wants0 rfl) (d := 185) (v := (.pointer (some ⟨x576.k, 0, none⟩))) rfl (fun _ H' => (e_load1 rfl (by kernel_rfl) (rows_cell (H'.at 2 rfl) e575 encP_len h577 0 rfl (show 0 + ((to : Int)).toNat * 1 = to * 1 + 0 by omega) (by kernel_rfl)))) ?_
              refine h_val 8 rfl (by kernel_rfl) (by kernel_rfl) (by kernel_rfl) (fun _ _ _ h => h) S594 (wants0 rfl) (d := 186) (v := (.int .i64 (S))) rfl (fun _ H' => (by kernel_rfl)) ?_
              refine h_val 9 rfl (by kernel_rfl) (by kernel_rfl) (by kernel_rfl) (fun _ _ _ h => h) S594 (wants0 rfl) (d := 187) (v := (.int .i64 (Int.tdiv S 11))) rfl (fun _ H' => (e_tdiv (by kernel_rfl) (by omega) (tdiv_i64 hs (by omega)))) ?_
              refine h_val 12 rfl (by kernel_rfl) (by kernel_rfl) (by kernel_rfl) (fun _ _ _ h => h) S594 (wants0 rfl) (d := 190) (v := (.pointer (some ⟨b585, 0, none⟩))) rfl (fun _ H' => (by kernel_rfl)) ?_
              refine h_val 13 rfl (by kernel_rfl) (by kernel_rfl) (by kernel_rfl) (fun _ _ _ h => h) S594 (wants0 rfl) (d := 191) (v := (.int .i64 (D579.s.round))) rfl (fun _ H' => (e_load1 rfl (by kernel_rfl) (H'.cell 3 rfl (by kernel_rfl)))) ?_
              refine h_do 10 rfl (by kernel_rfl) (wants0 rfl) (fun K595 hK595 => ?_)
              refine d_call (d := 188) rfl (by kernel_rfl) (withinBig_any w592 (Int.tdiv S 11) 3 (by omega)) ?_
              rintro _ w596 ⟨rfl, u598⟩
              have H597 := H593.keepU u598
              refine ⟨_, rfl, ?_⟩
              have S599 := H597.pick [1, 2, 3, 5] (by decide)
              refine hK595 _ _ S599 ?_
              clear hK595 K595
              refine h_val 11 rfl (by kernel_rfl) (by kernel_rfl) (by kernel_rfl) (fun _ _ _ h => h) S599 (wants0 rfl) (d := 189) (v := (.int .i64 (1 + (withinV (Int.tdiv S 11) 3)))) rfl (fun _ H' => (e_int (z := 1 + (withinV (Int.tdiv S 11) 3)) (by kernel_rfl) (IntWalk.i64_in _ (by omega)))) ?_
              refine h_val 14 rfl (by kernel_rfl) (by kernel_rfl) (by kernel_rfl) (fun _ _ _ h => h) S599 (wants0 rfl) (d := 192) (v := (.agg ⟨([(.int .i64 (1 + (withinV (Int.tdiv S 11) 3))), (.int .i64 (D579.s.round))] : List Value)⟩)) rfl (fun _ H' => (by kernel_rfl)) ?_
              refine h_do 15 rfl (by kernel_rfl) (wants0 rfl) (fun K600 hK600 => ?_)
              obtain ⟨D601, hD602⟩ := get_at (show to < Ds.length by have q := famC_len (H597.at 0 rfl); omega)
              obtain ⟨D603, A604, hst605⟩ : ∃ D2 A2, timeD D601 (1 + (withinV (Int.tdiv S 11) 3)) D579.s.round = (D2, A2) := ⟨_, _, rfl⟩
              have hlA : A604.length ≤ 8388621 := by have q := time_le ((hAg.core hD602).1) (1 + (withinV (Int.tdiv S 11) 3)) D579.s.round; rw [hst605] at q; exact Nat.le_trans q (by decide)
              refine d_call (d := 193) rfl (by kernel_rfl) (calls_fam (T := 45) (D' := (timeD D601 (1 + (withinV (Int.tdiv S 11) 3)) D579.s.round).1) (A := (timeD D601 (1 + (withinV (Int.tdiv S 11) 3)) D579.s.round).2) (H597.at 0 rfl) h577 hD602 (coreTimeout_any w596 x576.k x576.t x576.hb x576.cb x576.ab x576.lb x576.pb D601 (famC_at (ck := coreK) (H597.at 0 rfl) h577 hD602) ((hAg.core hD602).1) (1 + (withinV (Int.tdiv S 11) 3)) D579.s.round)) ?_
              rw [hst605]
              rintro _ w607 ⟨v606, rfl, S608⟩
              have H609 : Sat w [famC coreK bs (Ds.set to D603), restC w (fun _ => False), cellC b6 25 ([(.int .i64 (F)), (.int .i64 (1))] : List Value), rowC 27 1 (.slice a1 bs.length q1) bs.length (bs.flatMap encP), rowC 52 37 (.slice a2 all.length q2) all.length (all.flatMap encS), cellC b585 38 (([(.int .i64 (D579.s.round)), (.int .i64 (D579.s.step)), (.int .i64 (D579.s.lr)), (.int .i64 (D579.s.vr))] : List Value) ++ hc D579.s.locked ++ hc D579.s.valid ++ ([(.bool (D579.s.decided))] : List Value) ++ hc D579.s.decision), rowC 45 35 v606 A604.length (A604.flatMap encA)] w607 := (Sat.turn1 (L' := [famC coreK bs (Ds.set to D603), rowC 45 35 v606 A604.length (A604.flatMap encA)]) (R := [restC w (fun _ => False), cellC b6 25 ([(.int .i64 (F)), (.int .i64 (1))] : List Value), rowC 27 1 (.slice a1 bs.length q1) bs.length (bs.flatMap encP), rowC 52 37 (.slice a2 all.length q2) all.length (all.flatMap encS), cellC b585 38 (([(.int .i64 (D579.s.round)), (.int .i64 (D579.s.step)), (.int .i64 (D579.s.lr)), (.int .i64 (D579.s.vr))] : List Value) ++ hc D579.s.locked ++ hc D579.s.valid ++ ([(.bool (D579.s.decided))] : List Value) ++ hc D579.s.decision)]) H597 0 [1, 2, 3, 4, 5] (by decide) rfl rfl S608).pick [0, 2, 3, 4, 5, 6, 1] (by decide)
              obtain ⟨a610, c611, rfl⟩ := ownsRow_shape (H609.at 6 rfl)
              refine ⟨_, rfl, ?_⟩
              have S612 := H609.pick [1, 2, 3, 5] (by decide)
              refine hK600 _ _ S612 ?_
              clear hK600 K600
              refine h_do 16 rfl (by kernel_rfl) (wants0 rfl) (fun K613 hK613 => ?_)
              have hsk := speakA_len (to : Int) A604
              refine d_call (d := 194) rfl (by kernel_rfl) (speak_any w607 F 1 E (to : Int) _ A604 (H609.at 6 rfl) (by omega)) ?_
              rintro _ w615 ⟨u614, rfl, k617, u618, f619⟩
              have H616 : Sat w [famC coreK bs (Ds.set to D603), restC w (fun _ => False), cellC b6 25 ([(.int .i64 (F)), (.int .i64 (1))] : List Value), rowC 27 1 (.slice a1 bs.length q1) bs.length (bs.flatMap encP), rowC 52 37 (.slice a2 all.length q2) all.length (all.flatMap encS), cellC b585 38 (([(.int .i64 (D579.s.round)), (.int .i64 (D579.s.step)), (.int .i64 (D579.s.lr)), (.int .i64 (D579.s.vr))] : List Value) ++ hc D579.s.locked ++ hc D579.s.valid ++ ([(.bool (D579.s.decided))] : List Value) ++ hc D579.s.decision), rowC 45 35 (.slice a610 A604.length c611) A604.length (A604.flatMap encA), rowC 52 37 u614 ((A604.flatMap (speakA (to : Int))).length) ((A604.flatMap (speakA (to : Int))).flatMap encS)] w615 := H609.addU u618 k617 f619
              obtain ⟨a620, c621, rfl⟩ := ownsRow_shape (H616.at 7 rfl)
              refine ⟨_, rfl, ?_⟩
              have S622 := H616.pick [1, 2, 3, 5] (by decide)
              refine hK613 _ _ S622 ?_
              clear hK613 K613
              refine h_do 17 rfl (by kernel_rfl) (wants0 rfl) (fun K623 hK623 => ?_)
              refine d_append (T := 48) (e := 52) (size := 37) (bytes := 72) rfl H616 (by kernel_rfl) 4 7 rfl rfl rfl rfl (flat_one encS encS_one (A604.flatMap (speakA (to : Int)))) (by omega) (by omega) ?_
              intro v624 w625 (H626 : Sat w [famC coreK bs (Ds.set to D603), restC w (fun _ => False), cellC b6 25 ([(.int .i64 (F)), (.int .i64 (1))] : List Value), rowC 27 1 (.slice a1 bs.length q1) bs.length (bs.flatMap encP), rowC 52 37 v624 (all.length + (A604.flatMap (speakA (to : Int))).length) ((all.flatMap encS) ++ ((A604.flatMap (speakA (to : Int))).flatMap encS)), cellC b585 38 (([(.int .i64 (D579.s.round)), (.int .i64 (D579.s.step)), (.int .i64 (D579.s.lr)), (.int .i64 (D579.s.vr))] : List Value) ++ hc D579.s.locked ++ hc D579.s.valid ++ ([(.bool (D579.s.decided))] : List Value) ++ hc D579.s.decision), rowC 45 35 (.slice a610 A604.length c611) A604.length (A604.flatMap encA), rowC 52 37 (.slice a620 ((A604.flatMap (speakA (to : Int))).length) c621) ((A604.flatMap (speakA (to : Int))).length) ((A604.flatMap (speakA (to : Int))).flatMap encS)] w625)
              have H629 : Sat w [famC coreK bs (Ds.set to D603), restC w (fun _ => False), cellC b6 25 ([(.int .i64 (F)), (.int .i64 (1))] : List Value), rowC 27 1 (.slice a1 bs.length q1) bs.length (bs.flatMap encP), rowC 52 37 v624 ((all ++ (A604.flatMap (speakA (to : Int)))).length) ((all ++ (A604.flatMap (speakA (to : Int)))).flatMap encS), cellC b585 38 (([(.int .i64 (D579.s.round)), (.int .i64 (D579.s.step)), (.int .i64 (D579.s.lr)), (.int .i64 (D579.s.vr))] : List Value) ++ hc D579.s.locked ++ hc D579.s.valid ++ ([(.bool (D579.s.decided))] : List Value) ++ hc D579.s.decision), rowC 45 35 (.slice a610 A604.length c611) A604.length (A604.flatMap encA), rowC 52 37 (.slice a620 ((A604.flatMap (speakA (to : Int))).length) c621) ((A604.flatMap (speakA (to : Int))).length) ((A604.flatMap (speakA (to : Int))).flatMap encS)] w625 := H626.cast (by simp only [List.length_append, List.flatMap_append] <;> rfl)
              obtain ⟨a627, c628, rfl⟩ := ownsRow_shape (H629.at 4 rfl)
              have S630 := H629.pick [1, 2, 3, 5] (by decide)
              refine hK623 _ _ S630 ?_
              clear hK623 K623
              refine h_val 18 rfl (by kernel_rfl) (by kernel_rfl) (by kernel_rfl) (fun _ _ _ h => h) S630 (wants0 rfl) (d := 12) (v := (.slice a627 ((all ++ (A604.flatMap (speakA (to : Int)))).length) c628)) rfl (fun _ H' => (by kernel_rfl)) ?_
              refine h_fin (by kernel_rfl) ?_
              refine blk_normal ?_
              have hsl := speakA_len (to : Int) A604
              have H631 : Sat w [famC coreK bs (Ds.set to D603), restC w (fun _ => False), cellC b6 25 ([(.int .i64 (F)), (.int .i64 (1))] : List Value), rowC 27 1 (.slice a1 bs.length q1) bs.length (bs.flatMap encP), rowC 52 37 (.slice a627 ((all ++ (A604.flatMap (speakA (to : Int)))).length) c628) ((all ++ (A604.flatMap (speakA (to : Int)))).length) ((all ++ (A604.flatMap (speakA (to : Int)))).flatMap encS)] w625 := H629.pick [0, 1, 2, 3, 4] (by decide)
              refine meetR_at ?_ ⟨(Ds.set to D603), (all ++ (A604.flatMap (speakA (to : Int)))), a627, c628, rfl, (hAg.time hD602 hst605), (by first | exact hDn | (rw [List.length_set]; exact hDn)), (by first | exact Nat.le_trans hal2 (by decide) | (rw [List.length_append]; omega)), H631⟩
              exact (same_upd rfl (same_upd rfl (same_upd rfl (same_upd rfl (same_upd rfl (same_upd rfl (same_upd rfl (same_upd rfl (same_upd rfl (same_upd rfl (same_upd rfl (same_upd rfl (same_upd rfl (same_upd rfl (same_upd rfl (same_upd rfl (same_upd rfl (same_upd rfl (same_upd rfl (same_upd rfl (same_upd rfl (same_upd rfl (same_upd rfl (same_upd rfl (same_upd rfl (same_upd rfl (same_upd rfl (same_upd rfl (same_upd rfl (same_upd rfl (same_upd rfl (same_upd rfl (same_upd rfl (same_upd rfl (same_upd rfl (same_upd rfl (same_upd rfl (same_upd rfl (same_upd rfl (same_upd rfl (same_refl)))))))))))))))))))))))))))))))))))))))))
            · have g632 := of_decide_eq_false b570
              refine wp_know 169 (.bool false) (congrArg Value.bool b570) ?_
              have g633 := of_decide_eq_false b570
              refine wp_iff rfl ?_
              refine w_seq ?_
              refine w_lit ?_
              refine wl_pure (wants0 rfl) (d := 197) (v := (.slice a2 all.length q2)) rfl (by kernel_rfl) ?_
              refine wl_pure (wants0 rfl) (d := 198) (v := (.int .i64 ((all.length : Int)))) rfl (by kernel_rfl) ?_
              refine wl_pure (wants0 rfl) (d := 199) (v := (.bool (decide ((all.length : Int) > 0)))) rfl (by kernel_rfl) ?_
              refine wl_pure (wants0 rfl) (d := 196) (v := (.bool (decide ((all.length : Int) > 0)))) rfl (by kernel_rfl) ?_
              refine w_nil ?_
              refine then_normal ?_
              refine (bsplit (decide ((all.length : Int) > 0))).elim (fun b634 => ?_) (fun b634 => ?_)
              · have g635 := of_decide_eq_true b634
                refine wp_know 196 (.bool true) (congrArg Value.bool b634) ?_
                have g636 := of_decide_eq_true b634
                refine wp_ift rfl ?_
                refine w_seq ?_
                have haw := within_lim S (all.length : Int) (by omega)
                refine w_lit ?_
                refine wl_pure (wants0 rfl) (d := 200) (v := (.slice a2 all.length q2)) rfl (by kernel_rfl) ?_
                refine wl_pure (wants0 rfl) (d := 201) (v := (.int .i64 (S))) rfl (by kernel_rfl) ?_
                refine wl_pure (wants0 rfl) (d := 202) (v := (.slice a2 all.length q2)) rfl (by kernel_rfl) ?_
                refine wl_pure (wants0 rfl) (d := 203) (v := (.int .i64 ((all.length : Int)))) rfl (by kernel_rfl) ?_
                refine wl_do (wants0 rfl) (fun K637 hK637 => ?_)
                refine d_call (d := 204) rfl (by kernel_rfl) (withinBig_any w114 S (all.length : Int) (by omega)) ?_
                rintro _ w638 ⟨rfl, u640⟩
                have H639 := H115.keepU u640
                refine ⟨_, rfl, ?_⟩
                refine hK637 _ _ ?_
                clear hK637 K637
                obtain ⟨g641, c642, e643⟩ := row_shape (H639.at 4 rfl) (by omega)
                obtain ⟨x644, h645⟩ := get_at (show (withinV S (all.length : Int)).toNat < all.length by omega)
                refine wl_pure (wants0 rfl) (d := 205) (v := (.pointer (some ⟨g641, 0 + (withinV S (all.length : Int)).toNat * 37, none⟩))) rfl (e_indexAddrV (E := 52) (by kernel_rfl) (by kernel_rfl) (Nat.le_of_ble_eq_true rfl) rfl e643 rfl (by omega) (by omega)) ?_
                refine wl_pure (wants0 rfl) (d := 206) (v := (.agg ⟨(([(.bool (x644.vote)), (.int .i64 (x644.kind)), (.int .i64 (x644.round)), (.int .i64 (x644.valid)), (.int .i64 (x644.from'))] : List Value) ++ hc x644.h)⟩)) rfl (e_loadRun (vs := (([(.bool (x644.vote)), (.int .i64 (x644.kind)), (.int .i64 (x644.round)), (.int .i64 (x644.valid)), (.int .i64 (x644.from'))] : List Value) ++ hc x644.h)) rfl (by kernel_rfl) (by kernel_rfl) (Nat.le_of_ble_eq_true (by kernel_rfl)) (rows_run (H639.at 4 rfl) e643 encS_len h645 0 (show 0 + (withinV S (all.length : Int)).toNat * 37 = (withinV S (all.length : Int)).toNat * 37 + 0 by omega) (by kernel_rfl) (by kernel_rfl))) ?_
                refine wl_do (wants0 rfl) (fun K646 hK646 => ?_)
                refine d_alloc (zs := (([(.bool false), (.int .i64 (0)), (.int .i64 (0)), (.int .i64 (0)), (.int .i64 (0))] : List Value) ++ hc hash0)) (z := (.agg ⟨(([(.bool false), (.int .i64 (0)), (.int .i64 (0)), (.int .i64 (0)), (.int .i64 (0))] : List Value) ++ hc hash0)⟩)) rfl H639 (by kernel_rfl) (by kernel_rfl) ?_
                intro b647 w648 (H649 : Sat w [famC coreK bs Ds, restC w (fun _ => False), cellC b6 25 ([(.int .i64 (F)), (.int .i64 (1))] : List Value), rowC 27 1 (.slice a1 bs.length q1) bs.length (bs.flatMap encP), rowC 52 37 (.slice a2 all.length q2) all.length (all.flatMap encS), cellC b647 52 (([(.bool false), (.int .i64 (0)), (.int .i64 (0)), (.int .i64 (0)), (.int .i64 (0))] : List Value) ++ hc hash0)] w648)
                refine hK646 _ _ ?_
                clear hK646 K646
                refine wl_do (wants0 rfl) (fun K650 hK650 => ?_)
                refine d_storeX (vs := (([(.bool (x644.vote)), (.int .i64 (x644.kind)), (.int .i64 (x644.round)), (.int .i64 (x644.valid)), (.int .i64 (x644.from'))] : List Value) ++ hc x644.h)) (cs' := (([(.bool (x644.vote)), (.int .i64 (x644.kind)), (.int .i64 (x644.round)), (.int .i64 (x644.valid)), (.int .i64 (x644.from'))] : List Value) ++ hc x644.h)) rfl H649 5 rfl rfl rfl rfl (by kernel_rfl) (Nat.le_of_ble_eq_true (by kernel_rfl)) (Nat.le_of_ble_eq_true (by kernel_rfl)) (by kernel_rfl) (by kernel_rfl) ?_
                intro w651 (H652 : Sat w [famC coreK bs Ds, restC w (fun _ => False), cellC b6 25 ([(.int .i64 (F)), (.int .i64 (1))] : List Value), rowC 27 1 (.slice a1 bs.length q1) bs.length (bs.flatMap encP), rowC 52 37 (.slice a2 all.length q2) all.length (all.flatMap encS), cellC b647 52 (([(.bool (x644.vote)), (.int .i64 (x644.kind)), (.int .i64 (x644.round)), (.int .i64 (x644.valid)), (.int .i64 (x644.from'))] : List Value) ++ hc x644.h)] w651)
                refine hK650 _ _ ?_
                clear hK650 K650
                refine w_nil ?_
                refine then_normal ?_
                refine w_seq ?_
                refine w_lit ?_
                refine wl_pure (wants0 rfl) (d := 207) (v := (.pointer (some ⟨b647, 0, none⟩))) rfl (by kernel_rfl) ?_
                refine wl_pure (wants0 rfl) (d := 208) (v := (.bool (x644.vote))) rfl (e_load1 rfl (by kernel_rfl) (H652.cell 5 rfl (by kernel_rfl))) ?_
                refine w_nil ?_
                refine then_normal ?_
                refine (bsplit (x644.vote)).elim (fun b654 => ?_) (fun b654 => ?_)
                · refine wp_know 208 (.bool true) (congrArg Value.bool b654) ?_
                  refine wp_ift rfl ?_
                  obtain ⟨g655, c656, e657⟩ := row_shape (H652.at 3 rfl) (by omega)
                  obtain ⟨x658, h659⟩ := get_at (show to < bs.length by omega)
                  obtain ⟨g660, c661, e662⟩ := row_shape (H652.at 3 rfl) (by omega)
                  obtain ⟨x663, h664⟩ := get_at (show to < bs.length by omega)
                  refine h_start H652 [restC w (fun _ => False), cellC b6 25 ([(.int .i64 (F)), (.int .i64 (1))] : List Value), rowC 27 1 (.slice a1 bs.length q1) bs.length (bs.flatMap encP), cellC b647 52 (([(.bool (x644.vote)), (.int .i64 (x644.kind)), (.int .i64 (x644.round)), (.int .i64 (x644.valid)), (.int .i64 (x644.from'))] : List Value) ++ hc x644.h)] 20 rfl (by kernel_rfl) (fun Hx => (Hx.pick [1, 2, 3, 5] (by decide))) ?_
                  intro w665 H666 S667
                  refine h_val 0 rfl (by kernel_rfl) (by kernel_rfl) (by kernel_rfl) (fun _ _ _ h => h) S667 (wants0 rfl) (d := 209) (v := (.slice a2 all.length q2)) rfl (fun _ H' => (by kernel_rfl)) ?_
                  refine h_val 1 rfl (by kernel_rfl) (by kernel_rfl) (by kernel_rfl) (fun _ _ _ h => h) S667 (wants0 rfl) (d := 210) (v := (.agg ⟨([(.int .i64 (F)), (.int .i64 (1))] : List Value)⟩)) rfl (fun _ H' => (e_loadN (vs := ([(.int .i64 (F)), (.int .i64 (1))] : List Value)) rfl (by kernel_rfl) (by kernel_rfl) (by exact Nat.le_of_ble_eq_true (by kernel_rfl)) (H'.at 1 rfl) (by kernel_rfl))) ?_
                  refine h_val 2 rfl (by kernel_rfl) (by kernel_rfl) (by kernel_rfl) (fun _ _ _ h => h) S667 (wants0 rfl) (d := 211) (v := (.int .i64 (E))) rfl (fun _ H' => (by kernel_rfl)) ?_
                  refine h_val 3 rfl (by kernel_rfl) (by kernel_rfl) (by kernel_rfl) (fun _ _ _ h => h) S667 (wants0 rfl) (d := 212) (v := (.int .i64 ((to : Int)))) rfl (fun _ H' => (by kernel_rfl)) ?_
                  refine h_val 4 rfl (by kernel_rfl) (by kernel_rfl) (by kernel_rfl) (fun _ _ _ h => h) S667 (wants0 rfl) (d := 213) (v := (.slice a1 bs.length q1)) rfl (fun _ H' => (by kernel_rfl)) ?_
                  refine h_val 5 rfl (by kernel_rfl) (by kernel_rfl) (by kernel_rfl) (fun _ _ _ h => h) S667 (wants0 rfl) (d := 214) (v := (.int .i64 ((to : Int)))) rfl (fun _ H' => (by kernel_rfl)) ?_
                  obtain ⟨g668, c669, e670⟩ := row_shape (H666.at 3 rfl) (by omega)
                  obtain ⟨x671, h672⟩ := get_at (show to < bs.length by omega)
                  refine h_val 6 rfl (by kernel_rfl) (by kernel_rfl) (by kernel_rfl) (fun _ _ _ h => h) S667 (wants0 rfl) (d := 215) (v := (.pointer (some ⟨g668, 0 + ((to : Int)).toNat * 1, none⟩))) rfl (fun _ H' => (e_indexAddrV (E := 27) (by kernel_rfl) (by kernel_rfl) (Nat.le_of_ble_eq_true rfl) rfl e670 rfl (by omega) (by omega))) ?_
                  refine h_val 7 rfl (by kernel_rfl) (by kernel_rfl) (by kernel_rfl) (fun _ _ _ h => h) S667 (wants0 rfl) (d := 216) (v := (.pointer (some ⟨x671.k, 0, none⟩))) rfl (fun _ H' => (e_load1 rfl (by kernel_rfl) (rows_cell (H'.at 2 rfl) e670 encP_len h672 0 rfl (show 0 + ((to : Int)).toNat * 1 = to * 1 + 0 by omega) (by kernel_rfl)))) ?_
                  refine h_val 8 rfl (by kernel_rfl) (by kernel_rfl) (by kernel_rfl) (fun _ _ _ h => h) S667 (wants0 rfl) (d := 217) (v := (.pointer (some ⟨b647, 1, none⟩))) rfl (fun _ H' => (by kernel_rfl)) ?_
                  refine h_val 9 rfl (by kernel_rfl) (by kernel_rfl) (by kernel_rfl) (fun _ _ _ h => h) S667 (wants0 rfl) (d := 218) (v := (.int .i64 (x644.kind))) rfl (fun _ H' => (e_load1 rfl (by kernel_rfl) (H'.cell 3 rfl (by kernel_rfl)))) ?_
                  refine h_val 10 rfl (by kernel_rfl) (by kernel_rfl) (by kernel_rfl) (fun _ _ _ h => h) S667 (wants0 rfl) (d := 219) (v := (.pointer (some ⟨b647, 2, none⟩))) rfl (fun _ H' => (by kernel_rfl)) ?_
                  refine h_val 11 rfl (by kernel_rfl) (by kernel_rfl) (by kernel_rfl) (fun _ _ _ h => h) S667 (wants0 rfl) (d := 220) (v := (.int .i64 (x644.round))) rfl (fun _ H' => (e_load1 rfl (by kernel_rfl) (H'.cell 3 rfl (by kernel_rfl)))) ?_
                  refine h_val 12 rfl (by kernel_rfl) (by kernel_rfl) (by kernel_rfl) (fun _ _ _ h => h) S667 (wants0 rfl) (d := 221) (v := (.pointer (some ⟨b647, 4, none⟩))) rfl (fun _ H' => (by kernel_rfl)) ?_
                  refine h_val 13 rfl (by kernel_rfl) (by kernel_rfl) (by kernel_rfl) (fun _ _ _ h => h) S667 (wants0 rfl) (d := 222) (v := (.int .i64 (x644.from'))) rfl (fun _ H' => (e_load1 rfl (by kernel_rfl) (H'.cell 3 rfl (by kernel_rfl)))) ?_
                  refine h_val 14 rfl (by kernel_rfl) (by kernel_rfl) (by kernel_rfl) (fun _ _ _ h => h) S667 (wants0 rfl) (d := 223) (v := (.pointer (some ⟨b647, 5, none⟩))) rfl (fun _ H' => (by kernel_rfl)) ?_
                  refine h_val 15 rfl (by kernel_rfl) (by kernel_rfl) (by kernel_rfl) (fun _ _ _ h => h) S667 (wants0 rfl) (d := 224) (v := (.agg ⟨(hc x644.h)⟩)) rfl (fun _ H' => (e_loadN (vs := (hc x644.h)) rfl (by kernel_rfl) (by kernel_rfl) (by exact Nat.le_of_ble_eq_true (by kernel_rfl)) (H'.at 3 rfl) (by kernel_rfl))) ?_
                  refine h_do 16 rfl (by kernel_rfl) (wants0 rfl) (fun K673 hK673 => ?_)
                  obtain ⟨D674, hD675⟩ := get_at (show to < Ds.length by have q := famC_len (H666.at 0 rfl); omega)
                  obtain ⟨D676, A677, hst678⟩ : ∃ D2 A2, voteD' D674 x644.kind x644.round (x644.from') x644.h = (D2, A2) := ⟨_, _, rfl⟩
                  have hlA : A677.length ≤ 8388621 := by have q := vote_le ((hAg.core hD675).1) x644.kind x644.round (x644.from') x644.h; rw [hst678] at q; exact Nat.le_trans q (by decide)
                  refine d_call (d := 225) rfl (by kernel_rfl) (calls_fam (T := 45) (D' := (voteD' D674 x644.kind x644.round (x644.from') x644.h).1) (A := (voteD' D674 x644.kind x644.round (x644.from') x644.h).2) (H666.at 0 rfl) h672 hD675 (coreVote_any w665 x671.k x671.t x671.hb x671.cb x671.ab x671.lb x671.pb D674 (famC_at (ck := coreK) (H666.at 0 rfl) h672 hD675) ((hAg.core hD675).1) x644.kind x644.round (x644.from') x644.h)) ?_
                  rw [hst678]
                  rintro _ w680 ⟨v679, rfl, S681⟩
                  have H682 : Sat w [famC coreK bs (Ds.set to D676), restC w (fun _ => False), cellC b6 25 ([(.int .i64 (F)), (.int .i64 (1))] : List Value), rowC 27 1 (.slice a1 bs.length q1) bs.length (bs.flatMap encP), rowC 52 37 (.slice a2 all.length q2) all.length (all.flatMap encS), cellC b647 52 (([(.bool (x644.vote)), (.int .i64 (x644.kind)), (.int .i64 (x644.round)), (.int .i64 (x644.valid)), (.int .i64 (x644.from'))] : List Value) ++ hc x644.h), rowC 45 35 v679 A677.length (A677.flatMap encA)] w680 := (Sat.turn1 (L' := [famC coreK bs (Ds.set to D676), rowC 45 35 v679 A677.length (A677.flatMap encA)]) (R := [restC w (fun _ => False), cellC b6 25 ([(.int .i64 (F)), (.int .i64 (1))] : List Value), rowC 27 1 (.slice a1 bs.length q1) bs.length (bs.flatMap encP), rowC 52 37 (.slice a2 all.length q2) all.length (all.flatMap encS), cellC b647 52 (([(.bool (x644.vote)), (.int .i64 (x644.kind)), (.int .i64 (x644.round)), (.int .i64 (x644.valid)), (.int .i64 (x644.from'))] : List Value) ++ hc x644.h)]) H666 0 [1, 2, 3, 4, 5] (by decide) rfl rfl S681).pick [0, 2, 3, 4, 5, 6, 1] (by decide)
                  obtain ⟨a683, c684, rfl⟩ := ownsRow_shape (H682.at 6 rfl)
                  refine ⟨_, rfl, ?_⟩
                  have S685 := H682.pick [1, 2, 3, 5] (by decide)
                  refine hK673 _ _ S685 ?_
                  clear hK673 K673
                  refine h_do 17 rfl (by kernel_rfl) (wants0 rfl) (fun K686 hK686 => ?_)
                  have hsk := speakA_len (to : Int) A677
                  refine d_call (d := 226) rfl (by kernel_rfl) (speak_any w680 F 1 E (to : Int) _ A677 (H682.at 6 rfl) (by omega)) ?_
                  rintro _ w688 ⟨u687, rfl, k690, u691, f692⟩
                  have H689 : Sat w [famC coreK bs (Ds.set to D676), restC w (fun _ => False), cellC b6 25 ([(.int .i64 (F)), (.int .i64 (1))] : List Value), rowC 27 1 (.slice a1 bs.length q1) bs.length (bs.flatMap encP), rowC 52 37 (.slice a2 all.length q2) all.length (all.flatMap encS), cellC b647 52 (([(.bool (x644.vote)), (.int .i64 (x644.kind)), (.int .i64 (x644.round)), (.int .i64 (x644.valid)), (.int .i64 (x644.from'))] : List Value) ++ hc x644.h), rowC 45 35 (.slice a683 A677.length c684) A677.length (A677.flatMap encA), rowC 52 37 u687 ((A677.flatMap (speakA (to : Int))).length) ((A677.flatMap (speakA (to : Int))).flatMap encS)] w688 := H682.addU u691 k690 f692
                  obtain ⟨a693, c694, rfl⟩ := ownsRow_shape (H689.at 7 rfl)
                  refine ⟨_, rfl, ?_⟩
                  have S695 := H689.pick [1, 2, 3, 5] (by decide)
                  refine hK686 _ _ S695 ?_
                  clear hK686 K686
                  refine h_do 18 rfl (by kernel_rfl) (wants0 rfl) (fun K696 hK696 => ?_)
                  refine d_append (T := 48) (e := 52) (size := 37) (bytes := 72) rfl H689 (by kernel_rfl) 4 7 rfl rfl rfl rfl (flat_one encS encS_one (A677.flatMap (speakA (to : Int)))) (by omega) (by omega) ?_
                  intro v697 w698 (H699 : Sat w [famC coreK bs (Ds.set to D676), restC w (fun _ => False), cellC b6 25 ([(.int .i64 (F)), (.int .i64 (1))] : List Value), rowC 27 1 (.slice a1 bs.length q1) bs.length (bs.flatMap encP), rowC 52 37 v697 (all.length + (A677.flatMap (speakA (to : Int))).length) ((all.flatMap encS) ++ ((A677.flatMap (speakA (to : Int))).flatMap encS)), cellC b647 52 (([(.bool (x644.vote)), (.int .i64 (x644.kind)), (.int .i64 (x644.round)), (.int .i64 (x644.valid)), (.int .i64 (x644.from'))] : List Value) ++ hc x644.h), rowC 45 35 (.slice a683 A677.length c684) A677.length (A677.flatMap encA), rowC 52 37 (.slice a693 ((A677.flatMap (speakA (to : Int))).length) c694) ((A677.flatMap (speakA (to : Int))).length) ((A677.flatMap (speakA (to : Int))).flatMap encS)] w698)
                  have H702 : Sat w [famC coreK bs (Ds.set to D676), restC w (fun _ => False), cellC b6 25 ([(.int .i64 (F)), (.int .i64 (1))] : List Value), rowC 27 1 (.slice a1 bs.length q1) bs.length (bs.flatMap encP), rowC 52 37 v697 ((all ++ (A677.flatMap (speakA (to : Int)))).length) ((all ++ (A677.flatMap (speakA (to : Int)))).flatMap encS), cellC b647 52 (([(.bool (x644.vote)), (.int .i64 (x644.kind)), (.int .i64 (x644.round)), (.int .i64 (x644.valid)), (.int .i64 (x644.from'))] : List Value) ++ hc x644.h), rowC 45 35 (.slice a683 A677.length c684) A677.length (A677.flatMap encA), rowC 52 37 (.slice a693 ((A677.flatMap (speakA (to : Int))).length) c694) ((A677.flatMap (speakA (to : Int))).length) ((A677.flatMap (speakA (to : Int))).flatMap encS)] w698 := H699.cast (by simp only [List.length_append, List.flatMap_append] <;> rfl)
                  obtain ⟨a700, c701, rfl⟩ := ownsRow_shape (H702.at 4 rfl)
                  have S703 := H702.pick [1, 2, 3, 5] (by decide)
                  refine hK696 _ _ S703 ?_
                  clear hK696 K696
                  refine h_val 19 rfl (by kernel_rfl) (by kernel_rfl) (by kernel_rfl) (fun _ _ _ h => h) S703 (wants0 rfl) (d := 12) (v := (.slice a700 ((all ++ (A677.flatMap (speakA (to : Int)))).length) c701)) rfl (fun _ H' => (by kernel_rfl)) ?_
                  refine h_fin (by kernel_rfl) ?_
                  refine blk_normal ?_
                  have hsl := speakA_len (to : Int) A677
                  have H704 : Sat w [famC coreK bs (Ds.set to D676), restC w (fun _ => False), cellC b6 25 ([(.int .i64 (F)), (.int .i64 (1))] : List Value), rowC 27 1 (.slice a1 bs.length q1) bs.length (bs.flatMap encP), rowC 52 37 (.slice a700 ((all ++ (A677.flatMap (speakA (to : Int)))).length) c701) ((all ++ (A677.flatMap (speakA (to : Int)))).length) ((all ++ (A677.flatMap (speakA (to : Int)))).flatMap encS)] w698 := H702.pick [0, 1, 2, 3, 4] (by decide)
                  refine meetR_at ?_ ⟨(Ds.set to D676), (all ++ (A677.flatMap (speakA (to : Int)))), a700, c701, rfl, (hAg.heard hD675 (List.mem_of_getElem? h645) b654 hst678), (by first | exact hDn | (rw [List.length_set]; exact hDn)), (by first | exact Nat.le_trans hal2 (by decide) | (rw [List.length_append]; omega)), H704⟩
                  exact (same_upd rfl (same_upd rfl (same_upd rfl (same_upd rfl (same_upd rfl (same_upd rfl (same_upd rfl (same_upd rfl (same_upd rfl (same_upd rfl (same_upd rfl (same_upd rfl (same_upd rfl (same_upd rfl (same_upd rfl (same_upd rfl (same_upd rfl (same_upd rfl (same_upd rfl (same_upd rfl (same_upd rfl (same_upd rfl (same_upd rfl (same_upd rfl (same_upd rfl (same_upd rfl (same_upd rfl (same_upd rfl (same_upd rfl (same_upd rfl (same_upd rfl (same_upd rfl (same_upd rfl (same_upd rfl (same_upd rfl (same_upd rfl (same_upd rfl (same_upd rfl (same_upd rfl (same_upd rfl (same_upd rfl (same_upd rfl (same_upd rfl (same_upd rfl (same_upd rfl (same_upd rfl (same_upd rfl (same_upd rfl (same_upd rfl (same_upd rfl (same_upd rfl (same_refl))))))))))))))))))))))))))))))))))))))))))))))))))))
                · refine wp_know 208 (.bool false) (congrArg Value.bool b654) ?_
                  refine wp_iff rfl ?_
                  obtain ⟨g705, c706, e707⟩ := row_shape (H652.at 3 rfl) (by omega)
                  obtain ⟨x708, h709⟩ := get_at (show to < bs.length by omega)
                  obtain ⟨g710, c711, e712⟩ := row_shape (H652.at 3 rfl) (by omega)
                  obtain ⟨x713, h714⟩ := get_at (show to < bs.length by omega)
                  refine h_start H652 [restC w (fun _ => False), cellC b6 25 ([(.int .i64 (F)), (.int .i64 (1))] : List Value), rowC 27 1 (.slice a1 bs.length q1) bs.length (bs.flatMap encP), cellC b647 52 (([(.bool (x644.vote)), (.int .i64 (x644.kind)), (.int .i64 (x644.round)), (.int .i64 (x644.valid)), (.int .i64 (x644.from'))] : List Value) ++ hc x644.h)] 18 rfl (by kernel_rfl) (fun Hx => (Hx.pick [1, 2, 3, 5] (by decide))) ?_
                  intro w715 H716 S717
                  refine h_val 0 rfl (by kernel_rfl) (by kernel_rfl) (by kernel_rfl) (fun _ _ _ h => h) S717 (wants0 rfl) (d := 228) (v := (.slice a2 all.length q2)) rfl (fun _ H' => (by kernel_rfl)) ?_
                  refine h_val 1 rfl (by kernel_rfl) (by kernel_rfl) (by kernel_rfl) (fun _ _ _ h => h) S717 (wants0 rfl) (d := 229) (v := (.agg ⟨([(.int .i64 (F)), (.int .i64 (1))] : List Value)⟩)) rfl (fun _ H' => (e_loadN (vs := ([(.int .i64 (F)), (.int .i64 (1))] : List Value)) rfl (by kernel_rfl) (by kernel_rfl) (by exact Nat.le_of_ble_eq_true (by kernel_rfl)) (H'.at 1 rfl) (by kernel_rfl))) ?_
                  refine h_val 2 rfl (by kernel_rfl) (by kernel_rfl) (by kernel_rfl) (fun _ _ _ h => h) S717 (wants0 rfl) (d := 230) (v := (.int .i64 (E))) rfl (fun _ H' => (by kernel_rfl)) ?_
                  refine h_val 3 rfl (by kernel_rfl) (by kernel_rfl) (by kernel_rfl) (fun _ _ _ h => h) S717 (wants0 rfl) (d := 231) (v := (.int .i64 ((to : Int)))) rfl (fun _ H' => (by kernel_rfl)) ?_
                  refine h_val 4 rfl (by kernel_rfl) (by kernel_rfl) (by kernel_rfl) (fun _ _ _ h => h) S717 (wants0 rfl) (d := 232) (v := (.slice a1 bs.length q1)) rfl (fun _ H' => (by kernel_rfl)) ?_
                  refine h_val 5 rfl (by kernel_rfl) (by kernel_rfl) (by kernel_rfl) (fun _ _ _ h => h) S717 (wants0 rfl) (d := 233) (v := (.int .i64 ((to : Int)))) rfl (fun _ H' => (by kernel_rfl)) ?_
                  obtain ⟨g718, c719, e720⟩ := row_shape (H716.at 3 rfl) (by omega)
                  obtain ⟨x721, h722⟩ := get_at (show to < bs.length by omega)
                  refine h_val 6 rfl (by kernel_rfl) (by kernel_rfl) (by kernel_rfl) (fun _ _ _ h => h) S717 (wants0 rfl) (d := 234) (v := (.pointer (some ⟨g718, 0 + ((to : Int)).toNat * 1, none⟩))) rfl (fun _ H' => (e_indexAddrV (E := 27) (by kernel_rfl) (by kernel_rfl) (Nat.le_of_ble_eq_true rfl) rfl e720 rfl (by omega) (by omega))) ?_
                  refine h_val 7 rfl (by kernel_rfl) (by kernel_rfl) (by kernel_rfl) (fun _ _ _ h => h) S717 (wants0 rfl) (d := 235) (v := (.pointer (some ⟨x721.k, 0, none⟩))) rfl (fun _ H' => (e_load1 rfl (by kernel_rfl) (rows_cell (H'.at 2 rfl) e720 encP_len h722 0 rfl (show 0 + ((to : Int)).toNat * 1 = to * 1 + 0 by omega) (by kernel_rfl)))) ?_
                  refine h_val 8 rfl (by kernel_rfl) (by kernel_rfl) (by kernel_rfl) (fun _ _ _ h => h) S717 (wants0 rfl) (d := 236) (v := (.pointer (some ⟨b647, 2, none⟩))) rfl (fun _ H' => (by kernel_rfl)) ?_
                  refine h_val 9 rfl (by kernel_rfl) (by kernel_rfl) (by kernel_rfl) (fun _ _ _ h => h) S717 (wants0 rfl) (d := 237) (v := (.int .i64 (x644.round))) rfl (fun _ H' => (e_load1 rfl (by kernel_rfl) (H'.cell 3 rfl (by kernel_rfl)))) ?_
                  refine h_val 10 rfl (by kernel_rfl) (by kernel_rfl) (by kernel_rfl) (fun _ _ _ h => h) S717 (wants0 rfl) (d := 238) (v := (.pointer (some ⟨b647, 3, none⟩))) rfl (fun _ H' => (by kernel_rfl)) ?_
                  refine h_val 11 rfl (by kernel_rfl) (by kernel_rfl) (by kernel_rfl) (fun _ _ _ h => h) S717 (wants0 rfl) (d := 239) (v := (.int .i64 (x644.valid))) rfl (fun _ H' => (e_load1 rfl (by kernel_rfl) (H'.cell 3 rfl (by kernel_rfl)))) ?_
                  refine h_val 12 rfl (by kernel_rfl) (by kernel_rfl) (by kernel_rfl) (fun _ _ _ h => h) S717 (wants0 rfl) (d := 240) (v := (.pointer (some ⟨b647, 5, none⟩))) rfl (fun _ H' => (by kernel_rfl)) ?_
                  refine h_val 13 rfl (by kernel_rfl) (by kernel_rfl) (by kernel_rfl) (fun _ _ _ h => h) S717 (wants0 rfl) (d := 241) (v := (.agg ⟨(hc x644.h)⟩)) rfl (fun _ H' => (e_loadN (vs := (hc x644.h)) rfl (by kernel_rfl) (by kernel_rfl) (by exact Nat.le_of_ble_eq_true (by kernel_rfl)) (H'.at 3 rfl) (by kernel_rfl))) ?_
                  refine h_do 14 rfl (by kernel_rfl) (wants0 rfl) (fun K723 hK723 => ?_)
                  obtain ⟨D724, hD725⟩ := get_at (show to < Ds.length by have q := famC_len (H716.at 0 rfl); omega)
                  obtain ⟨D726, A727, hst728⟩ : ∃ D2 A2, proposeD D724 x644.round x644.valid x644.h true = (D2, A2) := ⟨_, _, rfl⟩
                  have hlA : A727.length ≤ 8388621 := by have q := propose_le ((hAg.core hD725).1) x644.round x644.valid x644.h true; rw [hst728] at q; exact Nat.le_trans q (by decide)
                  refine d_call (d := 242) rfl (by kernel_rfl) (calls_fam (T := 45) (D' := (proposeD D724 x644.round x644.valid x644.h true).1) (A := (proposeD D724 x644.round x644.valid x644.h true).2) (H716.at 0 rfl) h722 hD725 (corePropose_any w715 x721.k x721.t x721.hb x721.cb x721.ab x721.lb x721.pb D724 (famC_at (ck := coreK) (H716.at 0 rfl) h722 hD725) ((hAg.core hD725).1) x644.round x644.valid x644.h true)) ?_
                  rw [hst728]
                  rintro _ w730 ⟨v729, rfl, S731⟩
                  have H732 : Sat w [famC coreK bs (Ds.set to D726), restC w (fun _ => False), cellC b6 25 ([(.int .i64 (F)), (.int .i64 (1))] : List Value), rowC 27 1 (.slice a1 bs.length q1) bs.length (bs.flatMap encP), rowC 52 37 (.slice a2 all.length q2) all.length (all.flatMap encS), cellC b647 52 (([(.bool (x644.vote)), (.int .i64 (x644.kind)), (.int .i64 (x644.round)), (.int .i64 (x644.valid)), (.int .i64 (x644.from'))] : List Value) ++ hc x644.h), rowC 45 35 v729 A727.length (A727.flatMap encA)] w730 := (Sat.turn1 (L' := [famC coreK bs (Ds.set to D726), rowC 45 35 v729 A727.length (A727.flatMap encA)]) (R := [restC w (fun _ => False), cellC b6 25 ([(.int .i64 (F)), (.int .i64 (1))] : List Value), rowC 27 1 (.slice a1 bs.length q1) bs.length (bs.flatMap encP), rowC 52 37 (.slice a2 all.length q2) all.length (all.flatMap encS), cellC b647 52 (([(.bool (x644.vote)), (.int .i64 (x644.kind)), (.int .i64 (x644.round)), (.int .i64 (x644.valid)), (.int .i64 (x644.from'))] : List Value) ++ hc x644.h)]) H716 0 [1, 2, 3, 4, 5] (by decide) rfl rfl S731).pick [0, 2, 3, 4, 5, 6, 1] (by decide)
                  obtain ⟨a733, c734, rfl⟩ := ownsRow_shape (H732.at 6 rfl)
                  refine ⟨_, rfl, ?_⟩
                  have S735 := H732.pick [1, 2, 3, 5] (by decide)
                  refine hK723 _ _ S735 ?_
                  clear hK723 K723
                  refine h_do 15 rfl (by kernel_rfl) (wants0 rfl) (fun K736 hK736 => ?_)
                  have hsk := speakA_len (to : Int) A727
                  refine d_call (d := 243) rfl (by kernel_rfl) (speak_any w730 F 1 E (to : Int) _ A727 (H732.at 6 rfl) (by omega)) ?_
                  rintro _ w738 ⟨u737, rfl, k740, u741, f742⟩
                  have H739 : Sat w [famC coreK bs (Ds.set to D726), restC w (fun _ => False), cellC b6 25 ([(.int .i64 (F)), (.int .i64 (1))] : List Value), rowC 27 1 (.slice a1 bs.length q1) bs.length (bs.flatMap encP), rowC 52 37 (.slice a2 all.length q2) all.length (all.flatMap encS), cellC b647 52 (([(.bool (x644.vote)), (.int .i64 (x644.kind)), (.int .i64 (x644.round)), (.int .i64 (x644.valid)), (.int .i64 (x644.from'))] : List Value) ++ hc x644.h), rowC 45 35 (.slice a733 A727.length c734) A727.length (A727.flatMap encA), rowC 52 37 u737 ((A727.flatMap (speakA (to : Int))).length) ((A727.flatMap (speakA (to : Int))).flatMap encS)] w738 := H732.addU u741 k740 f742
                  obtain ⟨a743, c744, rfl⟩ := ownsRow_shape (H739.at 7 rfl)
                  refine ⟨_, rfl, ?_⟩
                  have S745 := H739.pick [1, 2, 3, 5] (by decide)
                  refine hK736 _ _ S745 ?_
                  clear hK736 K736
                  refine h_do 16 rfl (by kernel_rfl) (wants0 rfl) (fun K746 hK746 => ?_)
                  refine d_append (T := 48) (e := 52) (size := 37) (bytes := 72) rfl H739 (by kernel_rfl) 4 7 rfl rfl rfl rfl (flat_one encS encS_one (A727.flatMap (speakA (to : Int)))) (by omega) (by omega) ?_
                  intro v747 w748 (H749 : Sat w [famC coreK bs (Ds.set to D726), restC w (fun _ => False), cellC b6 25 ([(.int .i64 (F)), (.int .i64 (1))] : List Value), rowC 27 1 (.slice a1 bs.length q1) bs.length (bs.flatMap encP), rowC 52 37 v747 (all.length + (A727.flatMap (speakA (to : Int))).length) ((all.flatMap encS) ++ ((A727.flatMap (speakA (to : Int))).flatMap encS)), cellC b647 52 (([(.bool (x644.vote)), (.int .i64 (x644.kind)), (.int .i64 (x644.round)), (.int .i64 (x644.valid)), (.int .i64 (x644.from'))] : List Value) ++ hc x644.h), rowC 45 35 (.slice a733 A727.length c734) A727.length (A727.flatMap encA), rowC 52 37 (.slice a743 ((A727.flatMap (speakA (to : Int))).length) c744) ((A727.flatMap (speakA (to : Int))).length) ((A727.flatMap (speakA (to : Int))).flatMap encS)] w748)
                  have H752 : Sat w [famC coreK bs (Ds.set to D726), restC w (fun _ => False), cellC b6 25 ([(.int .i64 (F)), (.int .i64 (1))] : List Value), rowC 27 1 (.slice a1 bs.length q1) bs.length (bs.flatMap encP), rowC 52 37 v747 ((all ++ (A727.flatMap (speakA (to : Int)))).length) ((all ++ (A727.flatMap (speakA (to : Int)))).flatMap encS), cellC b647 52 (([(.bool (x644.vote)), (.int .i64 (x644.kind)), (.int .i64 (x644.round)), (.int .i64 (x644.valid)), (.int .i64 (x644.from'))] : List Value) ++ hc x644.h), rowC 45 35 (.slice a733 A727.length c734) A727.length (A727.flatMap encA), rowC 52 37 (.slice a743 ((A727.flatMap (speakA (to : Int))).length) c744) ((A727.flatMap (speakA (to : Int))).length) ((A727.flatMap (speakA (to : Int))).flatMap encS)] w748 := H749.cast (by simp only [List.length_append, List.flatMap_append] <;> rfl)
                  obtain ⟨a750, c751, rfl⟩ := ownsRow_shape (H752.at 4 rfl)
                  have S753 := H752.pick [1, 2, 3, 5] (by decide)
                  refine hK746 _ _ S753 ?_
                  clear hK746 K746
                  refine h_val 17 rfl (by kernel_rfl) (by kernel_rfl) (by kernel_rfl) (fun _ _ _ h => h) S753 (wants0 rfl) (d := 12) (v := (.slice a750 ((all ++ (A727.flatMap (speakA (to : Int)))).length) c751)) rfl (fun _ H' => (by kernel_rfl)) ?_
                  refine h_fin (by kernel_rfl) ?_
                  refine blk_normal ?_
                  have hsl := speakA_len (to : Int) A727
                  have H754 : Sat w [famC coreK bs (Ds.set to D726), restC w (fun _ => False), cellC b6 25 ([(.int .i64 (F)), (.int .i64 (1))] : List Value), rowC 27 1 (.slice a1 bs.length q1) bs.length (bs.flatMap encP), rowC 52 37 (.slice a750 ((all ++ (A727.flatMap (speakA (to : Int)))).length) c751) ((all ++ (A727.flatMap (speakA (to : Int)))).length) ((all ++ (A727.flatMap (speakA (to : Int)))).flatMap encS)] w748 := H752.pick [0, 1, 2, 3, 4] (by decide)
                  refine meetR_at ?_ ⟨(Ds.set to D726), (all ++ (A727.flatMap (speakA (to : Int)))), a750, c751, rfl, (hAg.propose hD725 hst728), (by first | exact hDn | (rw [List.length_set]; exact hDn)), (by first | exact Nat.le_trans hal2 (by decide) | (rw [List.length_append]; omega)), H754⟩
                  exact (same_upd rfl (same_upd rfl (same_upd rfl (same_upd rfl (same_upd rfl (same_upd rfl (same_upd rfl (same_upd rfl (same_upd rfl (same_upd rfl (same_upd rfl (same_upd rfl (same_upd rfl (same_upd rfl (same_upd rfl (same_upd rfl (same_upd rfl (same_upd rfl (same_upd rfl (same_upd rfl (same_upd rfl (same_upd rfl (same_upd rfl (same_upd rfl (same_upd rfl (same_upd rfl (same_upd rfl (same_upd rfl (same_upd rfl (same_upd rfl (same_upd rfl (same_upd rfl (same_upd rfl (same_upd rfl (same_upd rfl (same_upd rfl (same_upd rfl (same_upd rfl (same_upd rfl (same_upd rfl (same_upd rfl (same_upd rfl (same_upd rfl (same_upd rfl (same_upd rfl (same_upd rfl (same_upd rfl (same_upd rfl (same_upd rfl (same_refl))))))))))))))))))))))))))))))))))))))))))))))))))
              · have g755 := of_decide_eq_false b634
                refine wp_know 196 (.bool false) (congrArg Value.bool b634) ?_
                have g756 := of_decide_eq_false b634
                refine wp_iff rfl ?_
                refine w_skip ?_
                refine blk_normal ?_
                have H757 : Sat w [famC coreK bs Ds, restC w (fun _ => False), cellC b6 25 ([(.int .i64 (F)), (.int .i64 (1))] : List Value), rowC 27 1 (.slice a1 bs.length q1) bs.length (bs.flatMap encP), rowC 52 37 (.slice a2 all.length q2) all.length (all.flatMap encS)] w114 := H115.pick [0, 1, 2, 3, 4] (by decide)
                refine meetR_at ?_ ⟨Ds, all, a2, q2, rfl, hAg, (by first | exact hDn | (rw [List.length_set]; exact hDn)), (by first | exact Nat.le_trans hal2 (by decide) | (rw [List.length_append]; omega)), H757⟩
                exact (same_upd rfl (same_upd rfl (same_upd rfl (same_upd rfl (same_upd rfl (same_upd rfl (same_upd rfl (same_upd rfl (same_upd rfl (same_upd rfl (same_upd rfl (same_upd rfl (same_upd rfl (same_upd rfl (same_upd rfl (same_upd rfl (same_upd rfl (same_upd rfl (same_upd rfl (same_upd rfl (same_refl)))))))))))))))))))))
        · rintro f758 w759 ⟨Ds2, all2, a3, q3, v761, hAg2, hDn2, hal3, H760⟩
          refine wp_know 12 _ v761 ?_
          refine w_seq ?_
          have hbl2 : bs.length = Ds2.length := famC_len (H760.at 0 rfl)
          refine w_lit ?_
          refine wl_pure (wants0 rfl) (d := 245) (v := (.slice a3 all2.length q3)) rfl (by kernel_rfl) ?_
          refine wl_pure (wants0 rfl) (d := 246) (v := (.int .i64 ((all2.length : Int)))) rfl (by kernel_rfl) ?_
          refine wl_pure (wants0 rfl) (d := 247) (v := (.bool (decide ((all2.length : Int) > 400)))) rfl (by kernel_rfl) ?_
          refine w_nil ?_
          refine then_normal ?_
          refine (bsplit (decide ((all2.length : Int) > 400))).elim (fun b762 => ?_) (fun b762 => ?_)
          · have g763 := of_decide_eq_true b762
            refine wp_know 247 (.bool true) (congrArg Value.bool b762) ?_
            have g764 := of_decide_eq_true b762
            refine wp_ift rfl ?_
            refine w_exit ?_
            refine blk_miss rfl ?_
            refine then_exit ?_
            refine back_exit ?_
            refine blk_hit ?_
            refine then_normal ?_
            refine w_seq ?_
            refine w_lit ?_
            refine wl_do (wants0 rfl) (fun K765 hK765 => ?_)
            refine d_alloc (zs := (hc hash0)) (z := (.agg ⟨(hc hash0)⟩)) rfl H760 (by kernel_rfl) (by kernel_rfl) ?_
            intro b766 w767 (H768 : Sat w [famC coreK bs Ds2, restC w (fun _ => False), cellC b6 25 ([(.int .i64 (F)), (.int .i64 (1))] : List Value), rowC 27 1 (.slice a1 bs.length q1) bs.length (bs.flatMap encP), rowC 52 37 (.slice a3 all2.length q3) all2.length (all2.flatMap encS), cellC b766 36 (hc hash0)] w767)
            refine hK765 _ _ ?_
            clear hK765 K765
            refine w_nil ?_
            refine then_normal ?_
            refine w_seq ?_
            refine w_seq ?_
            refine w_lit ?_
            refine wl_pure (wants0 rfl) (d := 248) (v := (.slice a1 bs.length q1)) rfl (by kernel_rfl) ?_
            refine wl_pure (wants0 rfl) (d := 249) (v := (.int .i64 ((bs.length : Int)))) rfl (by kernel_rfl) ?_
            refine wl_pure (wants0 rfl) (d := 250) (v := (.int .i64 (0))) rfl (by kernel_rfl) ?_
            refine w_nil ?_
            refine then_normal ?_
            refine w_block ?_
            refine wp_round [8, 24, 25, 250, 251, 252, 253, 254, 255, 256, 257, 258, 259, 260, 261, 262, 263, 264, 265, 266, 267, 268, 269, 270, 271, 272, 273, 274, 275, 276, 277] (fun F_ W_ m_ => ∃ (i : Nat) (x : Hash), F_ 250 = (.int .i64 ((i : Int))) ∧ (i ≤ bs.length) ∧ (AgH Ds2 x) ∧ Sat w [famC coreK bs Ds2, restC w (fun _ => False), cellC b6 25 ([(.int .i64 (F)), (.int .i64 (1))] : List Value), rowC 27 1 (.slice a1 bs.length q1) bs.length (bs.flatMap encP), rowC 52 37 (.slice a3 all2.length q3) all2.length (all2.flatMap encS), cellC b766 36 (hc x)] W_ ∧ m_ = bs.length - i) _ ⟨0, hash0, (show ((.int .i64 (0)) : Value) = _ by first | rfl | go_num), (Nat.zero_le _), (.inl rfl), H768, rfl⟩ ?_
            rintro g769 w770 _ ⟨i, x, v772, hi, hxH, H771, rfl⟩
            refine wp_know 250 _ v772 ?_
            refine w_seq ?_
            refine w_lit ?_
            refine wl_pure (wants0 rfl) (d := 251) (v := (.bool (decide ((i : Int) < (bs.length : Int))))) rfl (by kernel_rfl) ?_
            refine w_nil ?_
            refine then_normal ?_
            refine w_seq ?_
            refine (bsplit (decide ((i : Int) < (bs.length : Int)))).elim (fun b774 => ?_) (fun b774 => ?_)
            · have g775 := of_decide_eq_true b774
              refine wp_know 251 (.bool true) (congrArg Value.bool b774) ?_
              have g776 := of_decide_eq_true b774
              refine wp_ift rfl ?_
              refine w_skip ?_
              refine then_normal ?_
              refine w_seq ?_
              refine w_block ?_
              refine w_seq ?_
              refine w_lit ?_
              refine wl_pure (wants0 rfl) (d := 252) (v := (.int .i64 ((i : Int)))) rfl (by kernel_rfl) ?_
              refine wl_pure (wants0 rfl) (d := 24) (v := (.int .i64 ((i : Int)))) rfl (by kernel_rfl) ?_
              refine w_nil ?_
              refine then_normal ?_
              refine w_seq ?_
              refine w_lit ?_
              refine wl_pure (wants0 rfl) (d := 253) (v := (.slice a1 bs.length q1)) rfl (by kernel_rfl) ?_
              refine wl_pure (wants0 rfl) (d := 254) (v := (.int .i64 ((i : Int)))) rfl (by kernel_rfl) ?_
              obtain ⟨g777, c778, e779⟩ := row_shape (H771.at 3 rfl) (by omega)
              obtain ⟨x780, h781⟩ := get_at (show i < bs.length by omega)
              refine wl_pure (wants0 rfl) (d := 255) (v := (.pointer (some ⟨g777, 0 + ((i : Int)).toNat * 1, none⟩))) rfl (e_indexAddrV (E := 27) (by kernel_rfl) (by kernel_rfl) (Nat.le_of_ble_eq_true rfl) rfl e779 rfl (by omega) (by omega)) ?_
              refine wl_pure (wants0 rfl) (d := 256) (v := (.pointer (some ⟨x780.k, 0, none⟩))) rfl (e_load1 rfl (by kernel_rfl) (rows_cell (H771.at 3 rfl) e779 encP_len h781 0 rfl (show 0 + ((i : Int)).toNat * 1 = i * 1 + 0 by omega) (by kernel_rfl))) ?_
              refine wl_do (wants0 rfl) (fun K782 hK782 => ?_)
              obtain ⟨D783, hD784⟩ := get_at (show i < Ds2.length by have q := famC_len (H771.at 0 rfl); omega)
              refine d_call (d := 257) rfl (by kernel_rfl) (coreState_any w770 x780.k x780.t x780.hb x780.cb x780.ab x780.lb x780.pb D783 (famC_at (ck := coreK) (H771.at 0 rfl) h781 hD784) ((hAg2.core hD784).1)) ?_
              rintro _ w785 ⟨rfl, u787⟩
              have H786 := H771.keepU u787
              refine ⟨_, rfl, ?_⟩
              refine hK782 _ _ ?_
              clear hK782 K782
              refine wl_do (wants0 rfl) (fun K788 hK788 => ?_)
              refine d_alloc (zs := (([(.int .i64 (0)), (.int .i64 (0)), (.int .i64 (0)), (.int .i64 (0))] : List Value) ++ hc hash0 ++ hc hash0 ++ ([(.bool false)] : List Value) ++ hc hash0)) (z := (.agg ⟨(([(.int .i64 (0)), (.int .i64 (0)), (.int .i64 (0)), (.int .i64 (0))] : List Value) ++ hc hash0 ++ hc hash0 ++ ([(.bool false)] : List Value) ++ hc hash0)⟩)) rfl H786 (by kernel_rfl) (by kernel_rfl) ?_
              intro b789 w790 (H791 : Sat w [famC coreK bs Ds2, restC w (fun _ => False), cellC b6 25 ([(.int .i64 (F)), (.int .i64 (1))] : List Value), rowC 27 1 (.slice a1 bs.length q1) bs.length (bs.flatMap encP), rowC 52 37 (.slice a3 all2.length q3) all2.length (all2.flatMap encS), cellC b766 36 (hc x), cellC b789 38 (([(.int .i64 (0)), (.int .i64 (0)), (.int .i64 (0)), (.int .i64 (0))] : List Value) ++ hc hash0 ++ hc hash0 ++ ([(.bool false)] : List Value) ++ hc hash0)] w790)
              refine hK788 _ _ ?_
              clear hK788 K788
              refine wl_do (wants0 rfl) (fun K792 hK792 => ?_)
              refine d_storeX (vs := (([(.int .i64 (D783.s.round)), (.int .i64 (D783.s.step)), (.int .i64 (D783.s.lr)), (.int .i64 (D783.s.vr))] : List Value) ++ hc D783.s.locked ++ hc D783.s.valid ++ ([(.bool (D783.s.decided))] : List Value) ++ hc D783.s.decision)) (cs' := (([(.int .i64 (D783.s.round)), (.int .i64 (D783.s.step)), (.int .i64 (D783.s.lr)), (.int .i64 (D783.s.vr))] : List Value) ++ hc D783.s.locked ++ hc D783.s.valid ++ ([(.bool (D783.s.decided))] : List Value) ++ hc D783.s.decision)) rfl H791 6 rfl rfl rfl rfl (by kernel_rfl) (Nat.le_of_ble_eq_true (by kernel_rfl)) (Nat.le_of_ble_eq_true (by kernel_rfl)) (by kernel_rfl) (by kernel_rfl) ?_
              intro w793 (H794 : Sat w [famC coreK bs Ds2, restC w (fun _ => False), cellC b6 25 ([(.int .i64 (F)), (.int .i64 (1))] : List Value), rowC 27 1 (.slice a1 bs.length q1) bs.length (bs.flatMap encP), rowC 52 37 (.slice a3 all2.length q3) all2.length (all2.flatMap encS), cellC b766 36 (hc x), cellC b789 38 (([(.int .i64 (D783.s.round)), (.int .i64 (D783.s.step)), (.int .i64 (D783.s.lr)), (.int .i64 (D783.s.vr))] : List Value) ++ hc D783.s.locked ++ hc D783.s.valid ++ ([(.bool (D783.s.decided))] : List Value) ++ hc D783.s.decision)] w793)
              refine hK792 _ _ ?_
              clear hK792 K792
              refine w_nil ?_
              refine then_normal ?_
              refine w_seq ?_
              refine w_lit ?_
              refine wl_pure (wants0 rfl) (d := 258) (v := (.pointer (some ⟨b789, 68, none⟩))) rfl (by kernel_rfl) ?_
              refine wl_pure (wants0 rfl) (d := 259) (v := (.bool (D783.s.decided))) rfl (e_load1 rfl (by kernel_rfl) (H794.cell 6 rfl (by kernel_rfl))) ?_
              refine w_nil ?_
              refine then_normal ?_
              refine (bsplit (D783.s.decided)).elim (fun b796 => ?_) (fun b796 => ?_)
              · refine wp_know 259 (.bool true) (congrArg Value.bool b796) ?_
                refine wp_ift rfl ?_
                refine w_seq ?_
                refine w_seq ?_
                have hdc := hAg2.decides (by omega) hD784 b796
                refine w_lit ?_
                refine wl_pure (wants0 rfl) (d := 260) (v := (.pointer (some ⟨b789, 69, none⟩))) rfl (by kernel_rfl) ?_
                refine wl_pure (wants0 rfl) (d := 261) (v := (.agg ⟨(hc D783.s.decision)⟩)) rfl (e_loadN (vs := (hc D783.s.decision)) rfl (by kernel_rfl) (by kernel_rfl) (by exact Nat.le_of_ble_eq_true (by kernel_rfl)) (H794.at 6 rfl) (by kernel_rfl)) ?_
                refine wl_pure (wants0 rfl) (d := 262) (v := (.agg ⟨(hc hash0)⟩)) rfl (by kernel_rfl) ?_
                refine wl_pure (wants0 rfl) (d := 263) (v := (.bool (decide (D783.s.decision = hash0)))) rfl (e_eqHash D783.s.decision hash0 rfl rfl) ?_
                refine wl_pure (wants0 rfl) (d := 264) (v := (.bool (decide (D783.s.decision = hash0)))) rfl (by kernel_rfl) ?_
                have b797 : (decide (D783.s.decision = hash0)) = false := by (exact decide_eq_false hdc.1)
                refine wl_know 264 (.bool false) (congrArg Value.bool b797) ?_
                have g798 := of_decide_eq_false b797
                refine wl_pure (wantsY 4 264 false rfl (by kernel_rfl) rfl (by kernel_rfl)) (d := 265) (v := (.agg ⟨(hc x)⟩)) rfl (e_loadN (vs := (hc x)) rfl (by kernel_rfl) (by kernel_rfl) (by exact Nat.le_of_ble_eq_true (by kernel_rfl)) (H794.at 5 rfl) (by kernel_rfl)) ?_
                refine wl_pure (wantsY 4 264 false rfl (by kernel_rfl) rfl (by kernel_rfl)) (d := 266) (v := (.agg ⟨(hc hash0)⟩)) rfl (by kernel_rfl) ?_
                refine wl_pure (wantsY 4 264 false rfl (by kernel_rfl) rfl (by kernel_rfl)) (d := 267) (v := (.bool (!(decide (x = hash0))))) rfl (e_neHash x hash0 rfl rfl) ?_
                refine wl_pure (wantsY 4 264 false rfl (by kernel_rfl) rfl (by kernel_rfl)) (d := 268) (v := (.bool (!(decide (x = hash0))))) rfl (by kernel_rfl) ?_
                refine (bsplit (!(decide (x = hash0)))).elim (fun b799 => ?_) (fun b799 => ?_)
                · have g800 := bnot_true b799
                  have g801 := of_decide_eq_false g800
                  refine wl_know 268 (.bool true) (congrArg Value.bool b799) ?_
                  have g802 := bnot_true b799
                  have g803 := of_decide_eq_false g802
                  refine wl_pure (wantsY 8 268 true rfl (by kernel_rfl) rfl (by kernel_rfl)) (d := 269) (v := (.agg ⟨(hc x)⟩)) rfl (e_loadN (vs := (hc x)) rfl (by kernel_rfl) (by kernel_rfl) (by exact Nat.le_of_ble_eq_true (by kernel_rfl)) (H794.at 5 rfl) (by kernel_rfl)) ?_
                  refine wl_pure (wantsY 8 268 true rfl (by kernel_rfl) rfl (by kernel_rfl)) (d := 270) (v := (.pointer (some ⟨b789, 69, none⟩))) rfl (by kernel_rfl) ?_
                  refine wl_pure (wantsY 8 268 true rfl (by kernel_rfl) rfl (by kernel_rfl)) (d := 271) (v := (.agg ⟨(hc D783.s.decision)⟩)) rfl (e_loadN (vs := (hc D783.s.decision)) rfl (by kernel_rfl) (by kernel_rfl) (by exact Nat.le_of_ble_eq_true (by kernel_rfl)) (H794.at 6 rfl) (by kernel_rfl)) ?_
                  refine wl_pure (wantsY 8 268 true rfl (by kernel_rfl) rfl (by kernel_rfl)) (d := 272) (v := (.bool (!(decide (x = D783.s.decision))))) rfl (e_neHash x D783.s.decision rfl rfl) ?_
                  refine wl_pure (wantsY 4 264 false rfl (by kernel_rfl) rfl (by kernel_rfl)) (d := 273) (v := (.bool (!(decide (x = D783.s.decision))))) rfl (by kernel_rfl) ?_
                  refine wl_pure (wants0 rfl) (d := 274) (v := (.bool (!(decide (x = D783.s.decision))))) rfl (by kernel_rfl) ?_
                  refine w_nil ?_
                  refine then_normal ?_
                  have b804 : (!(decide (x = D783.s.decision))) = false := by (have q : ¬ x = hash0 := (by assumption); simp [← hdc.2 x hxH q])
                  refine wp_know 274 (.bool false) (congrArg Value.bool b804) ?_
                  have g805 := bnot_false b804
                  have g806 := of_decide_eq_true g805
                  refine wp_iff rfl ?_
                  refine w_skip ?_
                  refine then_normal ?_
                  refine w_lit ?_
                  refine wl_pure (wants0 rfl) (d := 275) (v := (.pointer (some ⟨b789, 69, none⟩))) rfl (by kernel_rfl) ?_
                  refine wl_pure (wants0 rfl) (d := 276) (v := (.agg ⟨(hc D783.s.decision)⟩)) rfl (e_loadN (vs := (hc D783.s.decision)) rfl (by kernel_rfl) (by kernel_rfl) (by exact Nat.le_of_ble_eq_true (by kernel_rfl)) (H794.at 6 rfl) (by kernel_rfl)) ?_
                  refine wl_do (wants0 rfl) (fun K807 hK807 => ?_)
                  refine d_storeX (vs := (hc D783.s.decision)) (cs' := (hc D783.s.decision)) rfl H794 5 rfl rfl rfl rfl (by kernel_rfl) (Nat.le_of_ble_eq_true (by kernel_rfl)) (Nat.le_of_ble_eq_true (by kernel_rfl)) (by kernel_rfl) (by kernel_rfl) ?_
                  intro w808 (H809 : Sat w [famC coreK bs Ds2, restC w (fun _ => False), cellC b6 25 ([(.int .i64 (F)), (.int .i64 (1))] : List Value), rowC 27 1 (.slice a1 bs.length q1) bs.length (bs.flatMap encP), rowC 52 37 (.slice a3 all2.length q3) all2.length (all2.flatMap encS), cellC b766 36 (hc D783.s.decision), cellC b789 38 (([(.int .i64 (D783.s.round)), (.int .i64 (D783.s.step)), (.int .i64 (D783.s.lr)), (.int .i64 (D783.s.vr))] : List Value) ++ hc D783.s.locked ++ hc D783.s.valid ++ ([(.bool (D783.s.decided))] : List Value) ++ hc D783.s.decision)] w808)
                  refine hK807 _ _ ?_
                  clear hK807 K807
                  refine w_nil ?_
                  refine blk_normal ?_
                  refine then_normal ?_
                  refine w_lit ?_
                  refine wl_pure (wants0 rfl) (d := 277) (v := (.int .i64 ((i : Int) + 1))) rfl (e_int (z := (i : Int) + 1) (by kernel_rfl) (IntWalk.i64_in _ (by omega))) ?_
                  refine wl_pure (wants0 rfl) (d := 250) (v := (.int .i64 ((i : Int) + 1))) rfl (by kernel_rfl) ?_
                  refine w_nil ?_
                  have H811 : Sat w [famC coreK bs Ds2, restC w (fun _ => False), cellC b6 25 ([(.int .i64 (F)), (.int .i64 (1))] : List Value), rowC 27 1 (.slice a1 bs.length q1) bs.length (bs.flatMap encP), rowC 52 37 (.slice a3 all2.length q3) all2.length (all2.flatMap encS), cellC b766 36 (hc D783.s.decision)] w808 := H809.pick [0, 1, 2, 3, 4, 5] (by decide)
                  refine round_back ?_ _ ⟨(i + 1), D783.s.decision, (show ((.int .i64 ((i : Int) + 1)) : Value) = _ by first | rfl | go_num), (by omega), (.inr ⟨_, _, hD784, b796, rfl⟩), H811, rfl⟩ (by omega)
                  exact (same_upd rfl (same_upd rfl (same_upd rfl (same_upd rfl (same_upd rfl (same_upd rfl (same_upd rfl (same_upd rfl (same_upd rfl (same_upd rfl (same_upd rfl (same_upd rfl (same_upd rfl (same_upd rfl (same_upd rfl (same_upd rfl (same_upd rfl (same_upd rfl (same_upd rfl (same_upd rfl (same_upd rfl (same_upd rfl (same_upd rfl (same_upd rfl (same_upd rfl (same_upd rfl (same_upd rfl (same_upd rfl (same_upd rfl (same_upd rfl (same_upd rfl (same_upd rfl (same_upd rfl (same_upd rfl (same_upd rfl (same_upd rfl (same_ovr)))))))))))))))))))))))))))))))))))))
                · have g812 := bnot_false b799
                  have g813 := of_decide_eq_true g812
                  refine wl_know 268 (.bool false) (congrArg Value.bool b799) ?_
                  have g814 := bnot_false b799
                  have g815 := of_decide_eq_true g814
                  refine wl_pass (wantsN 8 268 true rfl (by kernel_rfl) rfl (by kernel_rfl)) rfl ?_
                  refine wl_pass (wantsN 8 268 true rfl (by kernel_rfl) rfl (by kernel_rfl)) rfl ?_
                  refine wl_pass (wantsN 8 268 true rfl (by kernel_rfl) rfl (by kernel_rfl)) rfl ?_
                  refine wl_pass (wantsN 8 268 true rfl (by kernel_rfl) rfl (by kernel_rfl)) rfl ?_
                  refine wl_pure (wantsY 4 264 false rfl (by kernel_rfl) rfl (by kernel_rfl)) (d := 273) (v := (.bool false)) rfl (by kernel_rfl) ?_
                  refine wl_pure (wants0 rfl) (d := 274) (v := (.bool false)) rfl (by kernel_rfl) ?_
                  refine w_nil ?_
                  refine then_normal ?_
                  refine wp_iff rfl ?_
                  refine w_skip ?_
                  refine then_normal ?_
                  refine w_lit ?_
                  refine wl_pure (wants0 rfl) (d := 275) (v := (.pointer (some ⟨b789, 69, none⟩))) rfl (by kernel_rfl) ?_
                  refine wl_pure (wants0 rfl) (d := 276) (v := (.agg ⟨(hc D783.s.decision)⟩)) rfl (e_loadN (vs := (hc D783.s.decision)) rfl (by kernel_rfl) (by kernel_rfl) (by exact Nat.le_of_ble_eq_true (by kernel_rfl)) (H794.at 6 rfl) (by kernel_rfl)) ?_
                  refine wl_do (wants0 rfl) (fun K816 hK816 => ?_)
                  refine d_storeX (vs := (hc D783.s.decision)) (cs' := (hc D783.s.decision)) rfl H794 5 rfl rfl rfl rfl (by kernel_rfl) (Nat.le_of_ble_eq_true (by kernel_rfl)) (Nat.le_of_ble_eq_true (by kernel_rfl)) (by kernel_rfl) (by kernel_rfl) ?_
                  intro w817 (H818 : Sat w [famC coreK bs Ds2, restC w (fun _ => False), cellC b6 25 ([(.int .i64 (F)), (.int .i64 (1))] : List Value), rowC 27 1 (.slice a1 bs.length q1) bs.length (bs.flatMap encP), rowC 52 37 (.slice a3 all2.length q3) all2.length (all2.flatMap encS), cellC b766 36 (hc D783.s.decision), cellC b789 38 (([(.int .i64 (D783.s.round)), (.int .i64 (D783.s.step)), (.int .i64 (D783.s.lr)), (.int .i64 (D783.s.vr))] : List Value) ++ hc D783.s.locked ++ hc D783.s.valid ++ ([(.bool (D783.s.decided))] : List Value) ++ hc D783.s.decision)] w817)
                  refine hK816 _ _ ?_
                  clear hK816 K816
                  refine w_nil ?_
                  refine blk_normal ?_
                  refine then_normal ?_
                  refine w_lit ?_
                  refine wl_pure (wants0 rfl) (d := 277) (v := (.int .i64 ((i : Int) + 1))) rfl (e_int (z := (i : Int) + 1) (by kernel_rfl) (IntWalk.i64_in _ (by omega))) ?_
                  refine wl_pure (wants0 rfl) (d := 250) (v := (.int .i64 ((i : Int) + 1))) rfl (by kernel_rfl) ?_
                  refine w_nil ?_
                  have H820 : Sat w [famC coreK bs Ds2, restC w (fun _ => False), cellC b6 25 ([(.int .i64 (F)), (.int .i64 (1))] : List Value), rowC 27 1 (.slice a1 bs.length q1) bs.length (bs.flatMap encP), rowC 52 37 (.slice a3 all2.length q3) all2.length (all2.flatMap encS), cellC b766 36 (hc D783.s.decision)] w817 := H818.pick [0, 1, 2, 3, 4, 5] (by decide)
                  refine round_back ?_ _ ⟨(i + 1), D783.s.decision, (show ((.int .i64 ((i : Int) + 1)) : Value) = _ by first | rfl | go_num), (by omega), (.inr ⟨_, _, hD784, b796, rfl⟩), H820, rfl⟩ (by omega)
                  exact (same_upd rfl (same_upd rfl (same_upd rfl (same_upd rfl (same_upd rfl (same_upd rfl (same_upd rfl (same_upd rfl (same_upd rfl (same_upd rfl (same_upd rfl (same_upd rfl (same_upd rfl (same_upd rfl (same_upd rfl (same_upd rfl (same_upd rfl (same_upd rfl (same_upd rfl (same_upd rfl (same_upd rfl (same_upd rfl (same_upd rfl (same_upd rfl (same_upd rfl (same_upd rfl (same_upd rfl (same_upd rfl (same_upd rfl (same_upd rfl (same_upd rfl (same_upd rfl (same_upd rfl (same_upd rfl (same_upd rfl (same_ovr))))))))))))))))))))))))))))))))))))
              · refine wp_know 259 (.bool false) (congrArg Value.bool b796) ?_
                refine wp_iff rfl ?_
                refine w_skip ?_
                refine blk_normal ?_
                refine then_normal ?_
                refine w_lit ?_
                refine wl_pure (wants0 rfl) (d := 277) (v := (.int .i64 ((i : Int) + 1))) rfl (e_int (z := (i : Int) + 1) (by kernel_rfl) (IntWalk.i64_in _ (by omega))) ?_
                refine wl_pure (wants0 rfl) (d := 250) (v := (.int .i64 ((i : Int) + 1))) rfl (by kernel_rfl) ?_
                refine w_nil ?_
                have H821 : Sat w [famC coreK bs Ds2, restC w (fun _ => False), cellC b6 25 ([(.int .i64 (F)), (.int .i64 (1))] : List Value), rowC 27 1 (.slice a1 bs.length q1) bs.length (bs.flatMap encP), rowC 52 37 (.slice a3 all2.length q3) all2.length (all2.flatMap encS), cellC b766 36 (hc x)] w793 := H794.pick [0, 1, 2, 3, 4, 5] (by decide)
                refine round_back ?_ _ ⟨(i + 1), x, (show ((.int .i64 ((i : Int) + 1)) : Value) = _ by first | rfl | go_num), (by omega), hxH, H821, rfl⟩ (by omega)
                exact (same_upd rfl (same_upd rfl (same_upd rfl (same_upd rfl (same_upd rfl (same_upd rfl (same_upd rfl (same_upd rfl (same_upd rfl (same_upd rfl (same_upd rfl (same_upd rfl (same_upd rfl (same_upd rfl (same_upd rfl (same_upd rfl (same_ovr)))))))))))))))))
            · have g822 := of_decide_eq_false b774
              refine wp_know 251 (.bool false) (congrArg Value.bool b774) ?_
              have g823 := of_decide_eq_false b774
              refine wp_iff rfl ?_
              refine w_exit ?_
              refine then_exit ?_
              refine back_exit ?_
              refine blk_hit ?_
              refine then_normal ?_
              refine w_seq ?_
              refine w_lit ?_
              refine wl_do (wants0 rfl) (fun K824 hK824 => ?_)
              refine d_call (d := 278) rfl (by kernel_rfl) (wakes_any w770) ?_
              rintro _ w825 ⟨rfl, u827⟩
              have H826 := H771.keepU u827
              refine ⟨_, rfl, ?_⟩
              refine hK824 _ _ ?_
              clear hK824 K824
              refine wl_pure (wants0 rfl) (d := 8) (v := (.bool true)) rfl (by kernel_rfl) ?_
              refine w_nil ?_
              refine then_normal ?_
              refine w_ret ?_
              refine end1 rfl (res_tmp (v := (.bool true)) rfl) ?_
              exact ⟨rfl, H826.upd 1 rfl [] (fun _ h => h.elim)⟩
          · have g828 := of_decide_eq_false b762
            refine wp_know 247 (.bool false) (congrArg Value.bool b762) ?_
            have g829 := of_decide_eq_false b762
            refine wp_iff rfl ?_
            refine w_skip ?_
            refine blk_normal ?_
            refine then_normal ?_
            refine w_lit ?_
            refine wl_pure (wants0 rfl) (d := 76) (v := (.int .i64 ((k : Int)))) rfl (by kernel_rfl) ?_
            refine wl_pure (wants0 rfl) (d := 77) (v := (.int .i64 ((k : Int) + 1))) rfl (e_int (z := (k : Int) + 1) (by kernel_rfl) (IntWalk.i64_in _ (by omega))) ?_
            refine wl_pure (wants0 rfl) (d := 17) (v := (.int .i64 ((k : Int) + 1))) rfl (by kernel_rfl) ?_
            refine w_nil ?_
            refine round_back ?_ _ ⟨(k + 1), Ds2, all2, a3, q3, (show ((.int .i64 ((k : Int) + 1)) : Value) = _ by first | rfl | go_num), (show ((.slice a3 all2.length q3) : Value) = _ by first | rfl | go_num), (by omega), hAg2, hDn2, (by omega), H760, rfl⟩ (by omega)
            exact (same_upd rfl (same_upd rfl (same_upd rfl (same_upd rfl (same_upd rfl (same_upd rfl (same_upd rfl (same_upd rfl (same_ovr2 rfl (same_upd rfl (same_upd rfl (same_upd rfl (same_upd rfl (same_upd rfl (same_upd rfl (same_upd rfl (same_upd rfl (same_upd rfl (same_upd rfl (same_upd rfl (same_upd rfl (same_upd rfl (same_ovr2 rfl (same_upd rfl (same_upd rfl (same_ovr))))))))))))))))))))))))))
      · refine wp_know 75 (.bool false) (congrArg Value.bool b107) ?_
        refine wp_iff rfl ?_
        refine w_exit ?_
        refine then_exit ?_
        refine back_exit ?_
        refine blk_hit ?_
        refine then_normal ?_
        refine w_seq ?_
        refine w_lit ?_
        refine wl_do (wants0 rfl) (fun K830 hK830 => ?_)
        refine d_alloc (zs := (hc hash0)) (z := (.agg ⟨(hc hash0)⟩)) rfl H105 (by kernel_rfl) (by kernel_rfl) ?_
        intro b831 w832 (H833 : Sat w [famC coreK bs Ds, restC w (fun _ => False), cellC b6 25 ([(.int .i64 (F)), (.int .i64 (1))] : List Value), rowC 27 1 (.slice a1 bs.length q1) bs.length (bs.flatMap encP), rowC 52 37 (.slice a2 all.length q2) all.length (all.flatMap encS), cellC b831 36 (hc hash0)] w832)
        refine hK830 _ _ ?_
        clear hK830 K830
        refine w_nil ?_
        refine then_normal ?_
        refine w_seq ?_
        refine w_seq ?_
        refine w_lit ?_
        refine wl_pure (wants0 rfl) (d := 248) (v := (.slice a1 bs.length q1)) rfl (by kernel_rfl) ?_
        refine wl_pure (wants0 rfl) (d := 249) (v := (.int .i64 ((bs.length : Int)))) rfl (by kernel_rfl) ?_
        refine wl_pure (wants0 rfl) (d := 250) (v := (.int .i64 (0))) rfl (by kernel_rfl) ?_
        refine w_nil ?_
        refine then_normal ?_
        refine w_block ?_
        refine wp_round [8, 24, 25, 250, 251, 252, 253, 254, 255, 256, 257, 258, 259, 260, 261, 262, 263, 264, 265, 266, 267, 268, 269, 270, 271, 272, 273, 274, 275, 276, 277] (fun F_ W_ m_ => ∃ (i : Nat) (x : Hash), F_ 250 = (.int .i64 ((i : Int))) ∧ (i ≤ bs.length) ∧ (AgH Ds x) ∧ Sat w [famC coreK bs Ds, restC w (fun _ => False), cellC b6 25 ([(.int .i64 (F)), (.int .i64 (1))] : List Value), rowC 27 1 (.slice a1 bs.length q1) bs.length (bs.flatMap encP), rowC 52 37 (.slice a2 all.length q2) all.length (all.flatMap encS), cellC b831 36 (hc x)] W_ ∧ m_ = bs.length - i) _ ⟨0, hash0, (show ((.int .i64 (0)) : Value) = _ by first | rfl | go_num), (Nat.zero_le _), (.inl rfl), H833, rfl⟩ ?_
        rintro g834 w835 _ ⟨i, x, v837, hi, hxH, H836, rfl⟩
        refine wp_know 250 _ v837 ?_
        refine w_seq ?_
        refine w_lit ?_
        refine wl_pure (wants0 rfl) (d := 251) (v := (.bool (decide ((i : Int) < (bs.length : Int))))) rfl (by kernel_rfl) ?_
        refine w_nil ?_
        refine then_normal ?_
        refine w_seq ?_
        refine (bsplit (decide ((i : Int) < (bs.length : Int)))).elim (fun b839 => ?_) (fun b839 => ?_)
        · have g840 := of_decide_eq_true b839
          refine wp_know 251 (.bool true) (congrArg Value.bool b839) ?_
          have g841 := of_decide_eq_true b839
          refine wp_ift rfl ?_
          refine w_skip ?_
          refine then_normal ?_
          refine w_seq ?_
          refine w_block ?_
          refine w_seq ?_
          refine w_lit ?_
          refine wl_pure (wants0 rfl) (d := 252) (v := (.int .i64 ((i : Int)))) rfl (by kernel_rfl) ?_
          refine wl_pure (wants0 rfl) (d := 24) (v := (.int .i64 ((i : Int)))) rfl (by kernel_rfl) ?_
          refine w_nil ?_
          refine then_normal ?_
          refine w_seq ?_
          refine w_lit ?_
          refine wl_pure (wants0 rfl) (d := 253) (v := (.slice a1 bs.length q1)) rfl (by kernel_rfl) ?_
          refine wl_pure (wants0 rfl) (d := 254) (v := (.int .i64 ((i : Int)))) rfl (by kernel_rfl) ?_
          obtain ⟨g842, c843, e844⟩ := row_shape (H836.at 3 rfl) (by omega)
          obtain ⟨x845, h846⟩ := get_at (show i < bs.length by omega)
          refine wl_pure (wants0 rfl) (d := 255) (v := (.pointer (some ⟨g842, 0 + ((i : Int)).toNat * 1, none⟩))) rfl (e_indexAddrV (E := 27) (by kernel_rfl) (by kernel_rfl) (Nat.le_of_ble_eq_true rfl) rfl e844 rfl (by omega) (by omega)) ?_
          refine wl_pure (wants0 rfl) (d := 256) (v := (.pointer (some ⟨x845.k, 0, none⟩))) rfl (e_load1 rfl (by kernel_rfl) (rows_cell (H836.at 3 rfl) e844 encP_len h846 0 rfl (show 0 + ((i : Int)).toNat * 1 = i * 1 + 0 by omega) (by kernel_rfl))) ?_
          refine wl_do (wants0 rfl) (fun K847 hK847 => ?_)
          obtain ⟨D848, hD849⟩ := get_at (show i < Ds.length by have q := famC_len (H836.at 0 rfl); omega)
          refine d_call (d := 257) rfl (by kernel_rfl) (coreState_any w835 x845.k x845.t x845.hb x845.cb x845.ab x845.lb x845.pb D848 (famC_at (ck := coreK) (H836.at 0 rfl) h846 hD849) ((hAg.core hD849).1)) ?_
          rintro _ w850 ⟨rfl, u852⟩
          have H851 := H836.keepU u852
          refine ⟨_, rfl, ?_⟩
          refine hK847 _ _ ?_
          clear hK847 K847
          refine wl_do (wants0 rfl) (fun K853 hK853 => ?_)
          refine d_alloc (zs := (([(.int .i64 (0)), (.int .i64 (0)), (.int .i64 (0)), (.int .i64 (0))] : List Value) ++ hc hash0 ++ hc hash0 ++ ([(.bool false)] : List Value) ++ hc hash0)) (z := (.agg ⟨(([(.int .i64 (0)), (.int .i64 (0)), (.int .i64 (0)), (.int .i64 (0))] : List Value) ++ hc hash0 ++ hc hash0 ++ ([(.bool false)] : List Value) ++ hc hash0)⟩)) rfl H851 (by kernel_rfl) (by kernel_rfl) ?_
          intro b854 w855 (H856 : Sat w [famC coreK bs Ds, restC w (fun _ => False), cellC b6 25 ([(.int .i64 (F)), (.int .i64 (1))] : List Value), rowC 27 1 (.slice a1 bs.length q1) bs.length (bs.flatMap encP), rowC 52 37 (.slice a2 all.length q2) all.length (all.flatMap encS), cellC b831 36 (hc x), cellC b854 38 (([(.int .i64 (0)), (.int .i64 (0)), (.int .i64 (0)), (.int .i64 (0))] : List Value) ++ hc hash0 ++ hc hash0 ++ ([(.bool false)] : List Value) ++ hc hash0)] w855)
          refine hK853 _ _ ?_
          clear hK853 K853
          refine wl_do (wants0 rfl) (fun K857 hK857 => ?_)
          refine d_storeX (vs := (([(.int .i64 (D848.s.round)), (.int .i64 (D848.s.step)), (.int .i64 (D848.s.lr)), (.int .i64 (D848.s.vr))] : List Value) ++ hc D848.s.locked ++ hc D848.s.valid ++ ([(.bool (D848.s.decided))] : List Value) ++ hc D848.s.decision)) (cs' := (([(.int .i64 (D848.s.round)), (.int .i64 (D848.s.step)), (.int .i64 (D848.s.lr)), (.int .i64 (D848.s.vr))] : List Value) ++ hc D848.s.locked ++ hc D848.s.valid ++ ([(.bool (D848.s.decided))] : List Value) ++ hc D848.s.decision)) rfl H856 6 rfl rfl rfl rfl (by kernel_rfl) (Nat.le_of_ble_eq_true (by kernel_rfl)) (Nat.le_of_ble_eq_true (by kernel_rfl)) (by kernel_rfl) (by kernel_rfl) ?_
          intro w858 (H859 : Sat w [famC coreK bs Ds, restC w (fun _ => False), cellC b6 25 ([(.int .i64 (F)), (.int .i64 (1))] : List Value), rowC 27 1 (.slice a1 bs.length q1) bs.length (bs.flatMap encP), rowC 52 37 (.slice a2 all.length q2) all.length (all.flatMap encS), cellC b831 36 (hc x), cellC b854 38 (([(.int .i64 (D848.s.round)), (.int .i64 (D848.s.step)), (.int .i64 (D848.s.lr)), (.int .i64 (D848.s.vr))] : List Value) ++ hc D848.s.locked ++ hc D848.s.valid ++ ([(.bool (D848.s.decided))] : List Value) ++ hc D848.s.decision)] w858)
          refine hK857 _ _ ?_
          clear hK857 K857
          refine w_nil ?_
          refine then_normal ?_
          refine w_seq ?_
          refine w_lit ?_
          refine wl_pure (wants0 rfl) (d := 258) (v := (.pointer (some ⟨b854, 68, none⟩))) rfl (by kernel_rfl) ?_
          refine wl_pure (wants0 rfl) (d := 259) (v := (.bool (D848.s.decided))) rfl (e_load1 rfl (by kernel_rfl) (H859.cell 6 rfl (by kernel_rfl))) ?_
          refine w_nil ?_
          refine then_normal ?_
          refine (bsplit (D848.s.decided)).elim (fun b861 => ?_) (fun b861 => ?_)
          · refine wp_know 259 (.bool true) (congrArg Value.bool b861) ?_
            refine wp_ift rfl ?_
            refine w_seq ?_
            refine w_seq ?_
            have hdc := hAg.decides (by omega) hD849 b861
            refine w_lit ?_
            refine wl_pure (wants0 rfl) (d := 260) (v := (.pointer (some ⟨b854, 69, none⟩))) rfl (by kernel_rfl) ?_
            refine wl_pure (wants0 rfl) (d := 261) (v := (.agg ⟨(hc D848.s.decision)⟩)) rfl (e_loadN (vs := (hc D848.s.decision)) rfl (by kernel_rfl) (by kernel_rfl) (by exact Nat.le_of_ble_eq_true (by kernel_rfl)) (H859.at 6 rfl) (by kernel_rfl)) ?_
            refine wl_pure (wants0 rfl) (d := 262) (v := (.agg ⟨(hc hash0)⟩)) rfl (by kernel_rfl) ?_
            refine wl_pure (wants0 rfl) (d := 263) (v := (.bool (decide (D848.s.decision = hash0)))) rfl (e_eqHash D848.s.decision hash0 rfl rfl) ?_
            refine wl_pure (wants0 rfl) (d := 264) (v := (.bool (decide (D848.s.decision = hash0)))) rfl (by kernel_rfl) ?_
            have b862 : (decide (D848.s.decision = hash0)) = false := by (exact decide_eq_false hdc.1)
            refine wl_know 264 (.bool false) (congrArg Value.bool b862) ?_
            have g863 := of_decide_eq_false b862
            refine wl_pure (wantsY 4 264 false rfl (by kernel_rfl) rfl (by kernel_rfl)) (d := 265) (v := (.agg ⟨(hc x)⟩)) rfl (e_loadN (vs := (hc x)) rfl (by kernel_rfl) (by kernel_rfl) (by exact Nat.le_of_ble_eq_true (by kernel_rfl)) (H859.at 5 rfl) (by kernel_rfl)) ?_
            refine wl_pure (wantsY 4 264 false rfl (by kernel_rfl) rfl (by kernel_rfl)) (d := 266) (v := (.agg ⟨(hc hash0)⟩)) rfl (by kernel_rfl) ?_
            refine wl_pure (wantsY 4 264 false rfl (by kernel_rfl) rfl (by kernel_rfl)) (d := 267) (v := (.bool (!(decide (x = hash0))))) rfl (e_neHash x hash0 rfl rfl) ?_
            refine wl_pure (wantsY 4 264 false rfl (by kernel_rfl) rfl (by kernel_rfl)) (d := 268) (v := (.bool (!(decide (x = hash0))))) rfl (by kernel_rfl) ?_
            refine (bsplit (!(decide (x = hash0)))).elim (fun b864 => ?_) (fun b864 => ?_)
            · have g865 := bnot_true b864
              have g866 := of_decide_eq_false g865
              refine wl_know 268 (.bool true) (congrArg Value.bool b864) ?_
              have g867 := bnot_true b864
              have g868 := of_decide_eq_false g867
              refine wl_pure (wantsY 8 268 true rfl (by kernel_rfl) rfl (by kernel_rfl)) (d := 269) (v := (.agg ⟨(hc x)⟩)) rfl (e_loadN (vs := (hc x)) rfl (by kernel_rfl) (by kernel_rfl) (by exact Nat.le_of_ble_eq_true (by kernel_rfl)) (H859.at 5 rfl) (by kernel_rfl)) ?_
              refine wl_pure (wantsY 8 268 true rfl (by kernel_rfl) rfl (by kernel_rfl)) (d := 270) (v := (.pointer (some ⟨b854, 69, none⟩))) rfl (by kernel_rfl) ?_
              refine wl_pure (wantsY 8 268 true rfl (by kernel_rfl) rfl (by kernel_rfl)) (d := 271) (v := (.agg ⟨(hc D848.s.decision)⟩)) rfl (e_loadN (vs := (hc D848.s.decision)) rfl (by kernel_rfl) (by kernel_rfl) (by exact Nat.le_of_ble_eq_true (by kernel_rfl)) (H859.at 6 rfl) (by kernel_rfl)) ?_
              refine wl_pure (wantsY 8 268 true rfl (by kernel_rfl) rfl (by kernel_rfl)) (d := 272) (v := (.bool (!(decide (x = D848.s.decision))))) rfl (e_neHash x D848.s.decision rfl rfl) ?_
              refine wl_pure (wantsY 4 264 false rfl (by kernel_rfl) rfl (by kernel_rfl)) (d := 273) (v := (.bool (!(decide (x = D848.s.decision))))) rfl (by kernel_rfl) ?_
              refine wl_pure (wants0 rfl) (d := 274) (v := (.bool (!(decide (x = D848.s.decision))))) rfl (by kernel_rfl) ?_
              refine w_nil ?_
              refine then_normal ?_
              have b869 : (!(decide (x = D848.s.decision))) = false := by (have q : ¬ x = hash0 := (by assumption); simp [← hdc.2 x hxH q])
              refine wp_know 274 (.bool false) (congrArg Value.bool b869) ?_
              have g870 := bnot_false b869
              have g871 := of_decide_eq_true g870
              refine wp_iff rfl ?_
              refine w_skip ?_
              refine then_normal ?_
              refine w_lit ?_
              refine wl_pure (wants0 rfl) (d := 275) (v := (.pointer (some ⟨b854, 69, none⟩))) rfl (by kernel_rfl) ?_
              refine wl_pure (wants0 rfl) (d := 276) (v := (.agg ⟨(hc D848.s.decision)⟩)) rfl (e_loadN (vs := (hc D848.s.decision)) rfl (by kernel_rfl) (by kernel_rfl) (by exact Nat.le_of_ble_eq_true (by kernel_rfl)) (H859.at 6 rfl) (by kernel_rfl)) ?_
              refine wl_do (wants0 rfl) (fun K872 hK872 => ?_)
              refine d_storeX (vs := (hc D848.s.decision)) (cs' := (hc D848.s.decision)) rfl H859 5 rfl rfl rfl rfl (by kernel_rfl) (Nat.le_of_ble_eq_true (by kernel_rfl)) (Nat.le_of_ble_eq_true (by kernel_rfl)) (by kernel_rfl) (by kernel_rfl) ?_
              intro w873 (H874 : Sat w [famC coreK bs Ds, restC w (fun _ => False), cellC b6 25 ([(.int .i64 (F)), (.int .i64 (1))] : List Value), rowC 27 1 (.slice a1 bs.length q1) bs.length (bs.flatMap encP), rowC 52 37 (.slice a2 all.length q2) all.length (all.flatMap encS), cellC b831 36 (hc D848.s.decision), cellC b854 38 (([(.int .i64 (D848.s.round)), (.int .i64 (D848.s.step)), (.int .i64 (D848.s.lr)), (.int .i64 (D848.s.vr))] : List Value) ++ hc D848.s.locked ++ hc D848.s.valid ++ ([(.bool (D848.s.decided))] : List Value) ++ hc D848.s.decision)] w873)
              refine hK872 _ _ ?_
              clear hK872 K872
              refine w_nil ?_
              refine blk_normal ?_
              refine then_normal ?_
              refine w_lit ?_
              refine wl_pure (wants0 rfl) (d := 277) (v := (.int .i64 ((i : Int) + 1))) rfl (e_int (z := (i : Int) + 1) (by kernel_rfl) (IntWalk.i64_in _ (by omega))) ?_
              refine wl_pure (wants0 rfl) (d := 250) (v := (.int .i64 ((i : Int) + 1))) rfl (by kernel_rfl) ?_
              refine w_nil ?_
              have H876 : Sat w [famC coreK bs Ds, restC w (fun _ => False), cellC b6 25 ([(.int .i64 (F)), (.int .i64 (1))] : List Value), rowC 27 1 (.slice a1 bs.length q1) bs.length (bs.flatMap encP), rowC 52 37 (.slice a2 all.length q2) all.length (all.flatMap encS), cellC b831 36 (hc D848.s.decision)] w873 := H874.pick [0, 1, 2, 3, 4, 5] (by decide)
              refine round_back ?_ _ ⟨(i + 1), D848.s.decision, (show ((.int .i64 ((i : Int) + 1)) : Value) = _ by first | rfl | go_num), (by omega), (.inr ⟨_, _, hD849, b861, rfl⟩), H876, rfl⟩ (by omega)
              exact (same_upd rfl (same_upd rfl (same_upd rfl (same_upd rfl (same_upd rfl (same_upd rfl (same_upd rfl (same_upd rfl (same_upd rfl (same_upd rfl (same_upd rfl (same_upd rfl (same_upd rfl (same_upd rfl (same_upd rfl (same_upd rfl (same_upd rfl (same_upd rfl (same_upd rfl (same_upd rfl (same_upd rfl (same_upd rfl (same_upd rfl (same_upd rfl (same_upd rfl (same_upd rfl (same_upd rfl (same_upd rfl (same_upd rfl (same_upd rfl (same_upd rfl (same_upd rfl (same_upd rfl (same_upd rfl (same_upd rfl (same_upd rfl (same_ovr)))))))))))))))))))))))))))))))))))))
            · have g877 := bnot_false b864
              have g878 := of_decide_eq_true g877
              refine wl_know 268 (.bool false) (congrArg Value.bool b864) ?_
              have g879 := bnot_false b864
              have g880 := of_decide_eq_true g879
              refine wl_pass (wantsN 8 268 true rfl (by kernel_rfl) rfl (by kernel_rfl)) rfl ?_
              refine wl_pass (wantsN 8 268 true rfl (by kernel_rfl) rfl (by kernel_rfl)) rfl ?_
              refine wl_pass (wantsN 8 268 true rfl (by kernel_rfl) rfl (by kernel_rfl)) rfl ?_
              refine wl_pass (wantsN 8 268 true rfl (by kernel_rfl) rfl (by kernel_rfl)) rfl ?_
              refine wl_pure (wantsY 4 264 false rfl (by kernel_rfl) rfl (by kernel_rfl)) (d := 273) (v := (.bool false)) rfl (by kernel_rfl) ?_
              refine wl_pure (wants0 rfl) (d := 274) (v := (.bool false)) rfl (by kernel_rfl) ?_
              refine w_nil ?_
              refine then_normal ?_
              refine wp_iff rfl ?_
              refine w_skip ?_
              refine then_normal ?_
              refine w_lit ?_
              refine wl_pure (wants0 rfl) (d := 275) (v := (.pointer (some ⟨b854, 69, none⟩))) rfl (by kernel_rfl) ?_
              refine wl_pure (wants0 rfl) (d := 276) (v := (.agg ⟨(hc D848.s.decision)⟩)) rfl (e_loadN (vs := (hc D848.s.decision)) rfl (by kernel_rfl) (by kernel_rfl) (by exact Nat.le_of_ble_eq_true (by kernel_rfl)) (H859.at 6 rfl) (by kernel_rfl)) ?_
              refine wl_do (wants0 rfl) (fun K881 hK881 => ?_)
              refine d_storeX (vs := (hc D848.s.decision)) (cs' := (hc D848.s.decision)) rfl H859 5 rfl rfl rfl rfl (by kernel_rfl) (Nat.le_of_ble_eq_true (by kernel_rfl)) (Nat.le_of_ble_eq_true (by kernel_rfl)) (by kernel_rfl) (by kernel_rfl) ?_
              intro w882 (H883 : Sat w [famC coreK bs Ds, restC w (fun _ => False), cellC b6 25 ([(.int .i64 (F)), (.int .i64 (1))] : List Value), rowC 27 1 (.slice a1 bs.length q1) bs.length (bs.flatMap encP), rowC 52 37 (.slice a2 all.length q2) all.length (all.flatMap encS), cellC b831 36 (hc D848.s.decision), cellC b854 38 (([(.int .i64 (D848.s.round)), (.int .i64 (D848.s.step)), (.int .i64 (D848.s.lr)), (.int .i64 (D848.s.vr))] : List Value) ++ hc D848.s.locked ++ hc D848.s.valid ++ ([(.bool (D848.s.decided))] : List Value) ++ hc D848.s.decision)] w882)
              refine hK881 _ _ ?_
              clear hK881 K881
              refine w_nil ?_
              refine blk_normal ?_
              refine then_normal ?_
              refine w_lit ?_
              refine wl_pure (wants0 rfl) (d := 277) (v := (.int .i64 ((i : Int) + 1))) rfl (e_int (z := (i : Int) + 1) (by kernel_rfl) (IntWalk.i64_in _ (by omega))) ?_
              refine wl_pure (wants0 rfl) (d := 250) (v := (.int .i64 ((i : Int) + 1))) rfl (by kernel_rfl) ?_
              refine w_nil ?_
              have H885 : Sat w [famC coreK bs Ds, restC w (fun _ => False), cellC b6 25 ([(.int .i64 (F)), (.int .i64 (1))] : List Value), rowC 27 1 (.slice a1 bs.length q1) bs.length (bs.flatMap encP), rowC 52 37 (.slice a2 all.length q2) all.length (all.flatMap encS), cellC b831 36 (hc D848.s.decision)] w882 := H883.pick [0, 1, 2, 3, 4, 5] (by decide)
              refine round_back ?_ _ ⟨(i + 1), D848.s.decision, (show ((.int .i64 ((i : Int) + 1)) : Value) = _ by first | rfl | go_num), (by omega), (.inr ⟨_, _, hD849, b861, rfl⟩), H885, rfl⟩ (by omega)
              exact (same_upd rfl (same_upd rfl (same_upd rfl (same_upd rfl (same_upd rfl (same_upd rfl (same_upd rfl (same_upd rfl (same_upd rfl (same_upd rfl (same_upd rfl (same_upd rfl (same_upd rfl (same_upd rfl (same_upd rfl (same_upd rfl (same_upd rfl (same_upd rfl (same_upd rfl (same_upd rfl (same_upd rfl (same_upd rfl (same_upd rfl (same_upd rfl (same_upd rfl (same_upd rfl (same_upd rfl (same_upd rfl (same_upd rfl (same_upd rfl (same_upd rfl (same_upd rfl (same_upd rfl (same_upd rfl (same_upd rfl (same_ovr))))))))))))))))))))))))))))))))))))
          · refine wp_know 259 (.bool false) (congrArg Value.bool b861) ?_
            refine wp_iff rfl ?_
            refine w_skip ?_
            refine blk_normal ?_
            refine then_normal ?_
            refine w_lit ?_
            refine wl_pure (wants0 rfl) (d := 277) (v := (.int .i64 ((i : Int) + 1))) rfl (e_int (z := (i : Int) + 1) (by kernel_rfl) (IntWalk.i64_in _ (by omega))) ?_
            refine wl_pure (wants0 rfl) (d := 250) (v := (.int .i64 ((i : Int) + 1))) rfl (by kernel_rfl) ?_
            refine w_nil ?_
            have H886 : Sat w [famC coreK bs Ds, restC w (fun _ => False), cellC b6 25 ([(.int .i64 (F)), (.int .i64 (1))] : List Value), rowC 27 1 (.slice a1 bs.length q1) bs.length (bs.flatMap encP), rowC 52 37 (.slice a2 all.length q2) all.length (all.flatMap encS), cellC b831 36 (hc x)] w858 := H859.pick [0, 1, 2, 3, 4, 5] (by decide)
            refine round_back ?_ _ ⟨(i + 1), x, (show ((.int .i64 ((i : Int) + 1)) : Value) = _ by first | rfl | go_num), (by omega), hxH, H886, rfl⟩ (by omega)
            exact (same_upd rfl (same_upd rfl (same_upd rfl (same_upd rfl (same_upd rfl (same_upd rfl (same_upd rfl (same_upd rfl (same_upd rfl (same_upd rfl (same_upd rfl (same_upd rfl (same_upd rfl (same_upd rfl (same_upd rfl (same_upd rfl (same_ovr)))))))))))))))))
        · have g887 := of_decide_eq_false b839
          refine wp_know 251 (.bool false) (congrArg Value.bool b839) ?_
          have g888 := of_decide_eq_false b839
          refine wp_iff rfl ?_
          refine w_exit ?_
          refine then_exit ?_
          refine back_exit ?_
          refine blk_hit ?_
          refine then_normal ?_
          refine w_seq ?_
          refine w_lit ?_
          refine wl_do (wants0 rfl) (fun K889 hK889 => ?_)
          refine d_call (d := 278) rfl (by kernel_rfl) (wakes_any w835) ?_
          rintro _ w890 ⟨rfl, u892⟩
          have H891 := H836.keepU u892
          refine ⟨_, rfl, ?_⟩
          refine hK889 _ _ ?_
          clear hK889 K889
          refine wl_pure (wants0 rfl) (d := 8) (v := (.bool true)) rfl (by kernel_rfl) ?_
          refine w_nil ?_
          refine then_normal ?_
          refine w_ret ?_
          refine end1 rfl (res_tmp (v := (.bool true)) rfl) ?_
          exact ⟨rfl, H891.upd 1 rfl [] (fun _ h => h.elim)⟩

end Go.Proofs.Ythjmbhneifjeeaa
