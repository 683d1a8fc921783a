/- WHAT IS PROVED: the walk of CoreLater. Conditions: stated with each. -/
import Derived.Test.YthjmbhneifjeeaaWakes14
import Derived.Test.YthjmbhneifjeeaaCoreRun
namespace Go.Proofs.Ythjmbhneifjeeaa
open Go.RowKit

set_option maxRecDepth 100000 in
set_option maxHeartbeats 1000000 in
theorem later14_walk (w : World) (f F : Int) (h x want : Hash) (ok early : Bool) (N : Nat) (hx : fixH h 2 = x) (hF : F = 1 + withinV f 3) (hf : 1 ≤ F ∧ F ≤ 3) (hwant : want = if ok = true then x else hash0) (D0 : CoreD) (hok : newOk F 1 0 (3 * F + 1 - 1) = true) (hD0 : newD F 1 0 (3 * F + 1 - 1) = D0) (C0 : CI D0) (hN : (N : Int) = F + 1) (hlen0 : (proposeD (startD D0).1 2 (-1) x ok).2.length = 0) (hE : LaterOk want (votesA (proposeD (startD D0).1 2 (-1) x ok).1 2 2 hash0 N) (votesD (proposeD (startD D0).1 2 (-1) x ok).1 2 2 hash0 N)) (hL : LaterOk want ((votesA (startD D0).1 2 2 hash0 N) ++ (proposeD (votesD (startD D0).1 2 2 hash0 N) 2 (-1) x ok).2) (proposeD (votesD (startD D0).1 2 2 hash0 N) 2 (-1) x ok).1) :
    Calls Try.prog 8 #[(.int .i64 (f)), (.agg ⟨(hc h)⟩), (.bool (ok)), (.bool (early))] w fun e w' => e = .returned (.bool true) ∧ Upd [] w w' := by
  have H := Sat.start0 w
  refine calls_fr Try.func8 rfl 122 rfl (Nat.le_of_ble_eq_true rfl) ?_
  refine w_seq ?_
  refine w_lit ?_
  refine wl_do (wants0 rfl) (fun K1 hK1 => ?_)
  refine d_box (vs := (hc h)) rfl H rfl rfl ?_
  intro b2 w3 (H4 : Sat w [restC w (fun _ => False), cellC b2 36 (hc h)] w3)
  refine hK1 _ _ ?_
  clear hK1 K1
  refine wl_pure (wants0 rfl) (d := 8) (v := (.bool false)) rfl (by kernel_rfl) ?_
  refine w_nil ?_
  refine then_normal ?_
  refine w_seq ?_
  refine w_lit ?_
  refine wl_pure (wants0 rfl) (d := 18) (v := (.int .i64 (f))) rfl (by kernel_rfl) ?_
  refine wl_do (wants0 rfl) (fun K5 hK5 => ?_)
  refine d_call (d := 19) rfl (by kernel_rfl) (within_any w3 f 3 (by omega)) ?_
  rintro _ w6 ⟨rfl, u8⟩
  have H7 := H4.keepU u8
  refine ⟨_, rfl, ?_⟩
  refine hK5 _ _ ?_
  clear hK5 K5
  refine wl_pure (wants0 rfl) (d := 20) (v := (.int .i64 (F))) rfl (e_int (z := 1 + (withinV f 3)) (by kernel_rfl) ((by rw [IntWalk.i64_in _ (by omega)]; exact hF.symm))) ?_
  refine wl_pure (wants0 rfl) (d := 21) (v := (.agg ⟨([(.int .i64 (F)), (.int .i64 (1))] : List Value)⟩)) rfl (by kernel_rfl) ?_
  refine wl_do (wants0 rfl) (fun K9 hK9 => ?_)
  refine d_alloc (zs := ([(.int .i64 (0)), (.int .i64 (0))] : List Value)) (z := (.agg ⟨([(.int .i64 (0)), (.int .i64 (0))] : List Value)⟩)) rfl H7 (by kernel_rfl) (by kernel_rfl) ?_
  intro b10 w11 (H12 : Sat w [restC w (fun _ => False), cellC b2 36 (hc h), cellC b10 25 ([(.int .i64 (0)), (.int .i64 (0))] : List Value)] w11)
  refine hK9 _ _ ?_
  clear hK9 K9
  refine wl_do (wants0 rfl) (fun K13 hK13 => ?_)
  refine d_storeX (vs := ([(.int .i64 (F)), (.int .i64 (1))] : List Value)) (cs' := ([(.int .i64 (F)), (.int .i64 (1))] : List Value)) rfl H12 2 rfl rfl rfl rfl (by kernel_rfl) (Nat.le_of_ble_eq_true (by kernel_rfl)) (Nat.le_of_ble_eq_true (by kernel_rfl)) (by kernel_rfl) (by kernel_rfl) ?_
  intro w14 (H15 : Sat w [restC w (fun _ => False), cellC b2 36 (hc h), cellC b10 25 ([(.int .i64 (F)), (.int .i64 (1))] : List Value)] w14)
  refine hK13 _ _ ?_
  clear hK13 K13
  refine w_nil ?_
  refine then_normal ?_
  refine w_seq ?_
  refine w_lit ?_
  refine wl_pure (wants0 rfl) (d := 22) (v := (.agg ⟨([(.int .i64 (F)), (.int .i64 (1))] : List Value)⟩)) rfl (e_loadN (vs := ([(.int .i64 (F)), (.int .i64 (1))] : List Value)) rfl (by kernel_rfl) (by kernel_rfl) (by exact Nat.le_of_ble_eq_true (by kernel_rfl)) (H15.at 2 rfl) (by kernel_rfl)) ?_
  refine wl_do (wants0 rfl) (fun K17 hK17 => ?_)
  refine d_call (d := 23) rfl (by kernel_rfl) (refN_any w14 F 1 (by omega)) ?_
  rintro _ w18 ⟨rfl, u20⟩
  have H19 := H15.keepU u20
  refine ⟨_, rfl, ?_⟩
  refine hK17 _ _ ?_
  clear hK17 K17
  refine wl_pure (wants0 rfl) (d := 10) (v := (.int .i64 (3 * F + 1))) rfl (by kernel_rfl) ?_
  refine w_nil ?_
  refine then_normal ?_
  refine wp_meetR [24, 25, 26, 27] (fun G_ W_ => True ∧ Sat w [restC w (fun _ => False), cellC b2 36 (hc x), cellC b10 25 ([(.int .i64 (F)), (.int .i64 (1))] : List Value)] W_) ?_ ?_
  · refine w_seq ?_
    refine w_lit ?_
    refine wl_pure (wants0 rfl) (d := 24) (v := (.agg ⟨(hc h)⟩)) rfl (e_loadN (vs := (hc h)) rfl (by kernel_rfl) (by kernel_rfl) (by exact Nat.le_of_ble_eq_true (by kernel_rfl)) (H19.at 1 rfl) (by kernel_rfl)) ?_
    refine wl_pure (wants0 rfl) (d := 25) (v := (.agg ⟨(hc hash0)⟩)) rfl (by kernel_rfl) ?_
    refine wl_pure (wants0 rfl) (d := 26) (v := (.bool (decide (h = hash0)))) rfl (e_eqHash h hash0 rfl rfl) ?_
    refine w_nil ?_
    refine then_normal ?_
    refine (bsplit (decide (h = hash0))).elim (fun b22 => ?_) (fun b22 => ?_)
    · have g23 := of_decide_eq_true b22
      refine wp_know 26 (.bool true) (congrArg Value.bool b22) ?_
      have g24 := of_decide_eq_true b22
      refine wp_ift rfl ?_
      refine w_lit ?_
      refine wl_pure (wants0 rfl) (d := 27) (v := (.pointer (some ⟨b2, 2, none⟩))) rfl (by kernel_rfl) ?_
      refine wl_do (wants0 rfl) (fun K25 hK25 => ?_)
      refine d_storeX (vs := ([(.int .u8 (1))] : List Value)) (cs' := (([(.int .u8 (((h.l.getD 0 0).toNat : Int))), (.int .u8 (((h.l.getD 1 0).toNat : Int))), (.int .u8 (1)), (.int .u8 (((h.l.getD 3 0).toNat : Int))), (.int .u8 (((h.l.getD 4 0).toNat : Int))), (.int .u8 (((h.l.getD 5 0).toNat : Int))), (.int .u8 (((h.l.getD 6 0).toNat : Int))), (.int .u8 (((h.l.getD 7 0).toNat : Int))), (.int .u8 (((h.l.getD 8 0).toNat : Int))), (.int .u8 (((h.l.getD 9 0).toNat : Int))), (.int .u8 (((h.l.getD 10 0).toNat : Int))), (.int .u8 (((h.l.getD 11 0).toNat : Int))), (.int .u8 (((h.l.getD 12 0).toNat : Int))), (.int .u8 (((h.l.getD 13 0).toNat : Int))), (.int .u8 (((h.l.getD 14 0).toNat : Int))), (.int .u8 (((h.l.getD 15 0).toNat : Int))), (.int .u8 (((h.l.getD 16 0).toNat : Int))), (.int .u8 (((h.l.getD 17 0).toNat : Int))), (.int .u8 (((h.l.getD 18 0).toNat : Int))), (.int .u8 (((h.l.getD 19 0).toNat : Int))), (.int .u8 (((h.l.getD 20 0).toNat : Int))), (.int .u8 (((h.l.getD 21 0).toNat : Int))), (.int .u8 (((h.l.getD 22 0).toNat : Int))), (.int .u8 (((h.l.getD 23 0).toNat : Int)))] : List Value) ++ ([(.int .u8 (((h.l.getD 24 0).toNat : Int))), (.int .u8 (((h.l.getD 25 0).toNat : Int))), (.int .u8 (((h.l.getD 26 0).toNat : Int))), (.int .u8 (((h.l.getD 27 0).toNat : Int))), (.int .u8 (((h.l.getD 28 0).toNat : Int))), (.int .u8 (((h.l.getD 29 0).toNat : Int))), (.int .u8 (((h.l.getD 30 0).toNat : Int))), (.int .u8 (((h.l.getD 31 0).toNat : Int)))] : List Value))) rfl H19 1 rfl rfl rfl rfl (by kernel_rfl) (Nat.le_of_ble_eq_true (by kernel_rfl)) (Nat.le_of_ble_eq_true (by kernel_rfl)) (by kernel_rfl) (by kernel_rfl) ?_
      intro w26 (H27 : Sat w [restC w (fun _ => False), cellC b2 36 (([(.int .u8 (((h.l.getD 0 0).toNat : Int))), (.int .u8 (((h.l.getD 1 0).toNat : Int))), (.int .u8 (1)), (.int .u8 (((h.l.getD 3 0).toNat : Int))), (.int .u8 (((h.l.getD 4 0).toNat : Int))), (.int .u8 (((h.l.getD 5 0).toNat : Int))), (.int .u8 (((h.l.getD 6 0).toNat : Int))), (.int .u8 (((h.l.getD 7 0).toNat : Int))), (.int .u8 (((h.l.getD 8 0).toNat : Int))), (.int .u8 (((h.l.getD 9 0).toNat : Int))), (.int .u8 (((h.l.getD 10 0).toNat : Int))), (.int .u8 (((h.l.getD 11 0).toNat : Int))), (.int .u8 (((h.l.getD 12 0).toNat : Int))), (.int .u8 (((h.l.getD 13 0).toNat : Int))), (.int .u8 (((h.l.getD 14 0).toNat : Int))), (.int .u8 (((h.l.getD 15 0).toNat : Int))), (.int .u8 (((h.l.getD 16 0).toNat : Int))), (.int .u8 (((h.l.getD 17 0).toNat : Int))), (.int .u8 (((h.l.getD 18 0).toNat : Int))), (.int .u8 (((h.l.getD 19 0).toNat : Int))), (.int .u8 (((h.l.getD 20 0).toNat : Int))), (.int .u8 (((h.l.getD 21 0).toNat : Int))), (.int .u8 (((h.l.getD 22 0).toNat : Int))), (.int .u8 (((h.l.getD 23 0).toNat : Int)))] : List Value) ++ ([(.int .u8 (((h.l.getD 24 0).toNat : Int))), (.int .u8 (((h.l.getD 25 0).toNat : Int))), (.int .u8 (((h.l.getD 26 0).toNat : Int))), (.int .u8 (((h.l.getD 27 0).toNat : Int))), (.int .u8 (((h.l.getD 28 0).toNat : Int))), (.int .u8 (((h.l.getD 29 0).toNat : Int))), (.int .u8 (((h.l.getD 30 0).toNat : Int))), (.int .u8 (((h.l.getD 31 0).toNat : Int)))] : List Value)), cellC b10 25 ([(.int .i64 (F)), (.int .i64 (1))] : List Value)] w26)
      refine hK25 _ _ ?_
      clear hK25 K25
      refine w_nil ?_
      have q30 := of_decide_eq_true b22
      have H29 : Sat w [restC w (fun _ => False), cellC b2 36 (hc x), cellC b10 25 ([(.int .i64 (F)), (.int .i64 (1))] : List Value)] w26 := H27.cast (by rw [← hx, show fixH h 2 = hashB 2 from if_pos q30, q30]; kernel_rfl)
      refine meetR_at ?_ ⟨trivial, H29⟩
      exact (same_upd rfl (same_upd rfl (same_upd rfl (same_upd rfl (same_upd rfl (same_refl))))))
    · have g31 := of_decide_eq_false b22
      refine wp_know 26 (.bool false) (congrArg Value.bool b22) ?_
      have g32 := of_decide_eq_false b22
      refine wp_iff rfl ?_
      refine w_skip ?_
      have q34 := of_decide_eq_false b22
      have H33 : Sat w [restC w (fun _ => False), cellC b2 36 (hc x), cellC b10 25 ([(.int .i64 (F)), (.int .i64 (1))] : List Value)] w18 := H19.cast (by rw [← hx, show fixH h 2 = h from if_neg q34])
      refine meetR_at ?_ ⟨trivial, H33⟩
      exact (same_upd rfl (same_upd rfl (same_upd rfl (same_upd rfl (same_refl)))))
  · rintro f35 w36 ⟨_, H37⟩
    refine w_seq ?_
    refine w_lit ?_
    refine wl_pure (wants0 rfl) (d := 29) (v := (.agg ⟨([(.int .i64 (F)), (.int .i64 (1))] : List Value)⟩)) rfl (e_loadN (vs := ([(.int .i64 (F)), (.int .i64 (1))] : List Value)) rfl (by kernel_rfl) (by kernel_rfl) (by exact Nat.le_of_ble_eq_true (by kernel_rfl)) (H37.at 2 rfl) (by kernel_rfl)) ?_
    refine wl_pure (wants0 rfl) (d := 30) (v := (.int .i64 (3 * F + 1))) rfl (by kernel_rfl) ?_
    refine wl_pure (wants0 rfl) (d := 31) (v := (.int .i64 ((3 * F + 1) - 1))) rfl (e_int (z := (3 * F + 1) - 1) (by kernel_rfl) (IntWalk.i64_in _ (by omega))) ?_
    refine wl_do (wants0 rfl) (fun K38 hK38 => ?_)
    refine d_call (d := 32) rfl (by kernel_rfl) (coreNew_any w36 F 1 0 ((3 * F + 1) - 1) (by omega)) ?_
    rintro _ w39 (⟨_, k44, t45, hb46, cb47, ab48, lb49, pb50, rfl, k42, u41, q43⟩ | ⟨hno, _⟩)
    rotate_left
    · exact absurd hno (by rw [hok]; simp)
    rw [hD0] at k42 q43
    have H51 : Sat w [restC w (fun _ => False), cellC b2 36 (hc x), cellC b10 25 ([(.int .i64 (F)), (.int .i64 (1))] : List Value), coreC k44 t45 hb46 cb47 ab48 lb49 pb50 D0] w39 := H37.addU u41 k42 q43
    have H40 : Sat w [restC w (fun _ => False), cellC b2 36 (hc x), cellC b10 25 ([(.int .i64 (F)), (.int .i64 (1))] : List Value), cellC k44 92 (([(.int .i64 (D0.f)), (.int .i64 (D0.c)), (.int .i64 (D0.epoch)), (.int .i64 (D0.replica)), (.int .i64 (D0.s.round)), (.int .i64 (D0.s.step)), (.int .i64 (D0.s.lr)), (.int .i64 (D0.s.vr))] : List Value) ++ hc D0.s.locked ++ hc D0.s.valid ++ ([(.bool (D0.s.decided))] : List Value) ++ hc D0.s.decision ++ ([(.pointer (some ⟨t45, 0, none⟩)), (.map (some pb50)), (.bool (D0.wv)), (.bool (D0.sp)), (.bool (D0.sc))] : List Value)), talC t45 hb46 cb47 ab48 lb49 D0.f D0.c D0.L, mapC pb50 (Value.int .i64) propV D0.P] w39 := H51.open 3 rfl
    refine ⟨_, rfl, ?_⟩
    refine hK38 _ _ ?_
    clear hK38 K38
    refine wl_pure (wants0 rfl) (d := 28) (v := (.tuple #[(.pointer (some ⟨k44, 0, none⟩)), (.int .i64 (0))])) rfl (by kernel_rfl) ?_
    refine wl_pure (wants0 rfl) (d := 33) (v := (.pointer (some ⟨k44, 0, none⟩))) rfl (by kernel_rfl) ?_
    refine wl_pure (wants0 rfl) (d := 34) (v := (.int .i64 (0))) rfl (by kernel_rfl) ?_
    refine wl_pure (wants0 rfl) (d := 11) (v := (.pointer (some ⟨k44, 0, none⟩))) rfl (by kernel_rfl) ?_
    refine wl_pure (wants0 rfl) (d := 12) (v := (.int .i64 (0))) rfl (by kernel_rfl) ?_
    refine w_nil ?_
    refine then_normal ?_
    refine w_seq ?_
    refine w_seq ?_
    refine w_lit ?_
    refine wl_pure (wants0 rfl) (d := 35) (v := (.int .i64 (0))) rfl (by kernel_rfl) ?_
    refine wl_pure (wants0 rfl) (d := 36) (v := (.bool false)) rfl (by kernel_rfl) ?_
    refine wl_pure (wants0 rfl) (d := 37) (v := (.bool false)) rfl (by kernel_rfl) ?_
    refine wl_pure (wantsY 2 37 false rfl (by kernel_rfl) rfl (by kernel_rfl)) (d := 38) (v := (.pointer (some ⟨k44, 0, none⟩))) rfl (by kernel_rfl) ?_
    refine wl_pure (wantsY 2 37 false rfl (by kernel_rfl) rfl (by kernel_rfl)) (d := 39) (v := (.bool false)) rfl (by kernel_rfl) ?_
    refine wl_pure (wants0 rfl) (d := 40) (v := (.bool false)) rfl (by kernel_rfl) ?_
    refine w_nil ?_
    refine then_normal ?_
    refine wp_iff rfl ?_
    refine w_skip ?_
    refine then_normal ?_
    refine w_seq ?_
    refine w_lit ?_
    refine wl_pure (wants0 rfl) (d := 41) (v := (.pointer (some ⟨k44, 0, none⟩))) rfl (by kernel_rfl) ?_
    refine wl_do (wants0 rfl) (fun K52 hK52 => ?_)
    refine d_call (d := 42) rfl (by kernel_rfl) (coreStart_any w39 k44 t45 hb46 cb47 ab48 lb49 pb50 D0 (ok_of (by kernel_rfl) (H40.fin [3, 4, 5] (by decide) rfl)) C0 ) ?_
    rintro _ w54 ⟨v53, rfl, S55⟩
    replace S55 := Sat.cast (G' := [cellC k44 92 (([(.int .i64 (((startD D0).1).f)), (.int .i64 (((startD D0).1).c)), (.int .i64 (((startD D0).1).epoch)), (.int .i64 (((startD D0).1).replica)), (.int .i64 (((startD D0).1).s.round)), (.int .i64 (((startD D0).1).s.step)), (.int .i64 (((startD D0).1).s.lr)), (.int .i64 (((startD D0).1).s.vr))] : List Value) ++ hc ((startD D0).1).s.locked ++ hc ((startD D0).1).s.valid ++ ([(.bool (((startD D0).1).s.decided))] : List Value) ++ hc ((startD D0).1).s.decision ++ ([(.pointer (some ⟨t45, 0, none⟩)), (.map (some pb50)), (.bool (((startD D0).1).wv)), (.bool (((startD D0).1).sp)), (.bool (((startD D0).1).sc))] : List Value)), talC t45 hb46 cb47 ab48 lb49 ((startD D0).1).f ((startD D0).1).c ((startD D0).1).L, mapC pb50 (Value.int .i64) propV ((startD D0).1).P, rowC 45 35 v53 (((startD D0).2).length) (((startD D0).2).flatMap encA), restC w39 (coreC k44 t45 hb46 cb47 ab48 lb49 pb50 D0).fp]) S55 (by kernel_rfl)
    have H57 : Sat w [restC w (fun _ => False), cellC b2 36 (hc x), cellC b10 25 ([(.int .i64 (F)), (.int .i64 (1))] : List Value), cellC k44 92 (([(.int .i64 (((startD D0).1).f)), (.int .i64 (((startD D0).1).c)), (.int .i64 (((startD D0).1).epoch)), (.int .i64 (((startD D0).1).replica)), (.int .i64 (((startD D0).1).s.round)), (.int .i64 (((startD D0).1).s.step)), (.int .i64 (((startD D0).1).s.lr)), (.int .i64 (((startD D0).1).s.vr))] : List Value) ++ hc ((startD D0).1).s.locked ++ hc ((startD D0).1).s.valid ++ ([(.bool (((startD D0).1).s.decided))] : List Value) ++ hc ((startD D0).1).s.decision ++ ([(.pointer (some ⟨t45, 0, none⟩)), (.map (some pb50)), (.bool (((startD D0).1).wv)), (.bool (((startD D0).1).sp)), (.bool (((startD D0).1).sc))] : List Value)), talC t45 hb46 cb47 ab48 lb49 ((startD D0).1).f ((startD D0).1).c ((startD D0).1).L, mapC pb50 (Value.int .i64) propV ((startD D0).1).P, rowC 45 35 v53 (((startD D0).2).length) (((startD D0).2).flatMap encA)] w54 := (Sat.turnL (L' := [cellC k44 92 (([(.int .i64 (((startD D0).1).f)), (.int .i64 (((startD D0).1).c)), (.int .i64 (((startD D0).1).epoch)), (.int .i64 (((startD D0).1).replica)), (.int .i64 (((startD D0).1).s.round)), (.int .i64 (((startD D0).1).s.step)), (.int .i64 (((startD D0).1).s.lr)), (.int .i64 (((startD D0).1).s.vr))] : List Value) ++ hc ((startD D0).1).s.locked ++ hc ((startD D0).1).s.valid ++ ([(.bool (((startD D0).1).s.decided))] : List Value) ++ hc ((startD D0).1).s.decision ++ ([(.pointer (some ⟨t45, 0, none⟩)), (.map (some pb50)), (.bool (((startD D0).1).wv)), (.bool (((startD D0).1).sp)), (.bool (((startD D0).1).sc))] : List Value)), talC t45 hb46 cb47 ab48 lb49 ((startD D0).1).f ((startD D0).1).c ((startD D0).1).L, mapC pb50 (Value.int .i64) propV ((startD D0).1).P, rowC 45 35 v53 (((startD D0).2).length) (((startD D0).2).flatMap encA)]) (R := [restC w (fun _ => False), cellC b2 36 (hc x), cellC b10 25 ([(.int .i64 (F)), (.int .i64 (1))] : List Value)]) H40 [3, 4, 5] [0, 1, 2] (by decide) (by kernel_rfl) rfl S55).pick [4, 5, 6, 0, 1, 2, 3] (by decide)
    obtain ⟨a58, c59, rfl⟩ := ownsRow_shape (H57.at 6 rfl)
    refine ⟨_, rfl, ?_⟩
    refine hK52 _ _ ?_
    clear hK52 K52
    refine w_nil ?_
    refine then_normal ?_
    refine w_seq ?_
    refine w_lit ?_
    refine wl_pure (wants0 rfl) (d := 13) (v := (.slice none 0 0)) rfl (by kernel_rfl) ?_
    refine w_nil ?_
    refine then_normal ?_
    refine w_seq ?_
    refine w_seq ?_
    refine w_lit ?_
    refine wl_pure (wants0 rfl) (d := 43) (v := (.bool (early))) rfl (by kernel_rfl) ?_
    refine wl_pure (wants0 rfl) (d := 44) (v := (.bool (early))) rfl (by kernel_rfl) ?_
    refine (bsplit (early)).elim (fun b60 => ?_) (fun b60 => ?_)
    · refine wl_know 44 (.bool true) (congrArg Value.bool b60) ?_
      refine wl_pure (wantsY 1 44 true rfl (by kernel_rfl) rfl (by kernel_rfl)) (d := 45) (v := (.pointer (some ⟨k44, 0, none⟩))) rfl (by kernel_rfl) ?_
      refine wl_pure (wantsY 1 44 true rfl (by kernel_rfl) rfl (by kernel_rfl)) (d := 46) (v := (.agg ⟨(hc x)⟩)) rfl (e_loadN (vs := (hc x)) rfl (by kernel_rfl) (by kernel_rfl) (by exact Nat.le_of_ble_eq_true (by kernel_rfl)) (H57.at 1 rfl) (by kernel_rfl)) ?_
      refine wl_pure (wantsY 1 44 true rfl (by kernel_rfl) rfl (by kernel_rfl)) (d := 47) (v := (.bool (ok))) rfl (by kernel_rfl) ?_
      refine wl_do (wantsY 1 44 true rfl (by kernel_rfl) rfl (by kernel_rfl)) (fun K61 hK61 => ?_)
      refine d_call (d := 48) rfl (by kernel_rfl) (corePropose_any w54 k44 t45 hb46 cb47 ab48 lb49 pb50 ((startD D0).1) (ok_of (by kernel_rfl) (H57.fin [3, 4, 5] (by decide) rfl)) C0.start 2 (-1) x (ok)) ?_
      rintro _ w63 ⟨v62, rfl, S64⟩
      replace S64 := Sat.cast (G' := [cellC k44 92 (([(.int .i64 (((proposeD ((startD D0).1) 2 (-1) x (ok)).1).f)), (.int .i64 (((proposeD ((startD D0).1) 2 (-1) x (ok)).1).c)), (.int .i64 (((proposeD ((startD D0).1) 2 (-1) x (ok)).1).epoch)), (.int .i64 (((proposeD ((startD D0).1) 2 (-1) x (ok)).1).replica)), (.int .i64 (((proposeD ((startD D0).1) 2 (-1) x (ok)).1).s.round)), (.int .i64 (((proposeD ((startD D0).1) 2 (-1) x (ok)).1).s.step)), (.int .i64 (((proposeD ((startD D0).1) 2 (-1) x (ok)).1).s.lr)), (.int .i64 (((proposeD ((startD D0).1) 2 (-1) x (ok)).1).s.vr))] : List Value) ++ hc ((proposeD ((startD D0).1) 2 (-1) x (ok)).1).s.locked ++ hc ((proposeD ((startD D0).1) 2 (-1) x (ok)).1).s.valid ++ ([(.bool (((proposeD ((startD D0).1) 2 (-1) x (ok)).1).s.decided))] : List Value) ++ hc ((proposeD ((startD D0).1) 2 (-1) x (ok)).1).s.decision ++ ([(.pointer (some ⟨t45, 0, none⟩)), (.map (some pb50)), (.bool (((proposeD ((startD D0).1) 2 (-1) x (ok)).1).wv)), (.bool (((proposeD ((startD D0).1) 2 (-1) x (ok)).1).sp)), (.bool (((proposeD ((startD D0).1) 2 (-1) x (ok)).1).sc))] : List Value)), talC t45 hb46 cb47 ab48 lb49 ((proposeD ((startD D0).1) 2 (-1) x (ok)).1).f ((proposeD ((startD D0).1) 2 (-1) x (ok)).1).c ((proposeD ((startD D0).1) 2 (-1) x (ok)).1).L, mapC pb50 (Value.int .i64) propV ((proposeD ((startD D0).1) 2 (-1) x (ok)).1).P, rowC 45 35 v62 (((proposeD ((startD D0).1) 2 (-1) x (ok)).2).length) (((proposeD ((startD D0).1) 2 (-1) x (ok)).2).flatMap encA), restC w54 (coreC k44 t45 hb46 cb47 ab48 lb49 pb50 ((startD D0).1)).fp]) S64 (by kernel_rfl)
      have H66 : Sat w [restC w (fun _ => False), cellC b2 36 (hc x), cellC b10 25 ([(.int .i64 (F)), (.int .i64 (1))] : List Value), cellC k44 92 (([(.int .i64 (((proposeD ((startD D0).1) 2 (-1) x (ok)).1).f)), (.int .i64 (((proposeD ((startD D0).1) 2 (-1) x (ok)).1).c)), (.int .i64 (((proposeD ((startD D0).1) 2 (-1) x (ok)).1).epoch)), (.int .i64 (((proposeD ((startD D0).1) 2 (-1) x (ok)).1).replica)), (.int .i64 (((proposeD ((startD D0).1) 2 (-1) x (ok)).1).s.round)), (.int .i64 (((proposeD ((startD D0).1) 2 (-1) x (ok)).1).s.step)), (.int .i64 (((proposeD ((startD D0).1) 2 (-1) x (ok)).1).s.lr)), (.int .i64 (((proposeD ((startD D0).1) 2 (-1) x (ok)).1).s.vr))] : List Value) ++ hc ((proposeD ((startD D0).1) 2 (-1) x (ok)).1).s.locked ++ hc ((proposeD ((startD D0).1) 2 (-1) x (ok)).1).s.valid ++ ([(.bool (((proposeD ((startD D0).1) 2 (-1) x (ok)).1).s.decided))] : List Value) ++ hc ((proposeD ((startD D0).1) 2 (-1) x (ok)).1).s.decision ++ ([(.pointer (some ⟨t45, 0, none⟩)), (.map (some pb50)), (.bool (((proposeD ((startD D0).1) 2 (-1) x (ok)).1).wv)), (.bool (((proposeD ((startD D0).1) 2 (-1) x (ok)).1).sp)), (.bool (((proposeD ((startD D0).1) 2 (-1) x (ok)).1).sc))] : List Value)), talC t45 hb46 cb47 ab48 lb49 ((proposeD ((startD D0).1) 2 (-1) x (ok)).1).f ((proposeD ((startD D0).1) 2 (-1) x (ok)).1).c ((proposeD ((startD D0).1) 2 (-1) x (ok)).1).L, mapC pb50 (Value.int .i64) propV ((proposeD ((startD D0).1) 2 (-1) x (ok)).1).P, rowC 45 35 (.slice a58 (((startD D0).2).length) c59) (((startD D0).2).length) (((startD D0).2).flatMap encA), rowC 45 35 v62 (((proposeD ((startD D0).1) 2 (-1) x (ok)).2).length) (((proposeD ((startD D0).1) 2 (-1) x (ok)).2).flatMap encA)] w63 := (Sat.turnL (L' := [cellC k44 92 (([(.int .i64 (((proposeD ((startD D0).1) 2 (-1) x (ok)).1).f)), (.int .i64 (((proposeD ((startD D0).1) 2 (-1) x (ok)).1).c)), (.int .i64 (((proposeD ((startD D0).1) 2 (-1) x (ok)).1).epoch)), (.int .i64 (((proposeD ((startD D0).1) 2 (-1) x (ok)).1).replica)), (.int .i64 (((proposeD ((startD D0).1) 2 (-1) x (ok)).1).s.round)), (.int .i64 (((proposeD ((startD D0).1) 2 (-1) x (ok)).1).s.step)), (.int .i64 (((proposeD ((startD D0).1) 2 (-1) x (ok)).1).s.lr)), (.int .i64 (((proposeD ((startD D0).1) 2 (-1) x (ok)).1).s.vr))] : List Value) ++ hc ((proposeD ((startD D0).1) 2 (-1) x (ok)).1).s.locked ++ hc ((proposeD ((startD D0).1) 2 (-1) x (ok)).1).s.valid ++ ([(.bool (((proposeD ((startD D0).1) 2 (-1) x (ok)).1).s.decided))] : List Value) ++ hc ((proposeD ((startD D0).1) 2 (-1) x (ok)).1).s.decision ++ ([(.pointer (some ⟨t45, 0, none⟩)), (.map (some pb50)), (.bool (((proposeD ((startD D0).1) 2 (-1) x (ok)).1).wv)), (.bool (((proposeD ((startD D0).1) 2 (-1) x (ok)).1).sp)), (.bool (((proposeD ((startD D0).1) 2 (-1) x (ok)).1).sc))] : List Value)), talC t45 hb46 cb47 ab48 lb49 ((proposeD ((startD D0).1) 2 (-1) x (ok)).1).f ((proposeD ((startD D0).1) 2 (-1) x (ok)).1).c ((proposeD ((startD D0).1) 2 (-1) x (ok)).1).L, mapC pb50 (Value.int .i64) propV ((proposeD ((startD D0).1) 2 (-1) x (ok)).1).P, rowC 45 35 v62 (((proposeD ((startD D0).1) 2 (-1) x (ok)).2).length) (((proposeD ((startD D0).1) 2 (-1) x (ok)).2).flatMap encA)]) (R := [restC w (fun _ => False), cellC b2 36 (hc x), cellC b10 25 ([(.int .i64 (F)), (.int .i64 (1))] : List Value), rowC 45 35 (.slice a58 (((startD D0).2).length) c59) (((startD D0).2).length) (((startD D0).2).flatMap encA)]) H57 [3, 4, 5] [0, 1, 2, 6] (by decide) (by kernel_rfl) rfl S64).pick [4, 5, 6, 0, 1, 2, 7, 3] (by decide)
      obtain ⟨a67, c68, rfl⟩ := ownsRow_shape (H66.at 7 rfl)
      refine ⟨_, rfl, ?_⟩
      refine hK61 _ _ ?_
      clear hK61 K61
      refine wl_pure (wantsY 1 44 true rfl (by kernel_rfl) rfl (by kernel_rfl)) (d := 49) (v := (.int .i64 ((((proposeD ((startD D0).1) 2 (-1) x (ok)).2).length : Int)))) rfl (by kernel_rfl) ?_
      refine wl_pure (wantsY 1 44 true rfl (by kernel_rfl) rfl (by kernel_rfl)) (d := 50) (v := (.bool (!(decide ((((proposeD ((startD D0).1) 2 (-1) x (ok)).2).length : Int) = 0))))) rfl (by kernel_rfl) ?_
      refine wl_pure (wants0 rfl) (d := 51) (v := (.bool (!(decide ((((proposeD ((startD D0).1) 2 (-1) x (ok)).2).length : Int) = 0))))) rfl (by kernel_rfl) ?_
      refine w_nil ?_
      refine then_normal ?_
      have b69 : (!(decide ((((proposeD ((startD D0).1) 2 (-1) x (ok)).2).length : Int) = 0))) = false := by (rw [hlen0]; rfl)
      refine wp_know 51 (.bool false) (congrArg Value.bool b69) ?_
      have g70 := bnot_false b69
      have g71 := of_decide_eq_true g70
      refine wp_iff rfl ?_
      refine w_skip ?_
      refine then_normal ?_
      refine w_seq ?_
      refine w_seq ?_
      refine w_lit ?_
      refine wl_pure (wants0 rfl) (d := 14) (v := (.int .i64 (0))) rfl (by kernel_rfl) ?_
      refine w_nil ?_
      refine then_normal ?_
      refine w_block ?_
      have Hn := H66.addNil 45 35
      refine wp_round [13, 14, 52, 53, 54, 55, 56, 57, 58, 59, 60, 61, 62, 63, 64] (fun F_ W_ m_ => ∃ (k : Nat) (a : Option Addr) (q : Nat), F_ 14 = (.int .i64 ((k : Int))) ∧ F_ 13 = (.slice a (votesA ((proposeD ((startD D0).1) 2 (-1) x (ok)).1) 2 2 hash0 k).length q) ∧ (k ≤ N) ∧ Sat w [restC w (fun _ => False), cellC b2 36 (hc x), cellC b10 25 ([(.int .i64 (F)), (.int .i64 (1))] : List Value), cellC k44 92 (([(.int .i64 ((votesD ((proposeD ((startD D0).1) 2 (-1) x (ok)).1) 2 2 hash0 k).f)), (.int .i64 ((votesD ((proposeD ((startD D0).1) 2 (-1) x (ok)).1) 2 2 hash0 k).c)), (.int .i64 ((votesD ((proposeD ((startD D0).1) 2 (-1) x (ok)).1) 2 2 hash0 k).epoch)), (.int .i64 ((votesD ((proposeD ((startD D0).1) 2 (-1) x (ok)).1) 2 2 hash0 k).replica)), (.int .i64 ((votesD ((proposeD ((startD D0).1) 2 (-1) x (ok)).1) 2 2 hash0 k).s.round)), (.int .i64 ((votesD ((proposeD ((startD D0).1) 2 (-1) x (ok)).1) 2 2 hash0 k).s.step)), (.int .i64 ((votesD ((proposeD ((startD D0).1) 2 (-1) x (ok)).1) 2 2 hash0 k).s.lr)), (.int .i64 ((votesD ((proposeD ((startD D0).1) 2 (-1) x (ok)).1) 2 2 hash0 k).s.vr))] : List Value) ++ hc (votesD ((proposeD ((startD D0).1) 2 (-1) x (ok)).1) 2 2 hash0 k).s.locked ++ hc (votesD ((proposeD ((startD D0).1) 2 (-1) x (ok)).1) 2 2 hash0 k).s.valid ++ ([(.bool ((votesD ((proposeD ((startD D0).1) 2 (-1) x (ok)).1) 2 2 hash0 k).s.decided))] : List Value) ++ hc (votesD ((proposeD ((startD D0).1) 2 (-1) x (ok)).1) 2 2 hash0 k).s.decision ++ ([(.pointer (some ⟨t45, 0, none⟩)), (.map (some pb50)), (.bool ((votesD ((proposeD ((startD D0).1) 2 (-1) x (ok)).1) 2 2 hash0 k).wv)), (.bool ((votesD ((proposeD ((startD D0).1) 2 (-1) x (ok)).1) 2 2 hash0 k).sp)), (.bool ((votesD ((proposeD ((startD D0).1) 2 (-1) x (ok)).1) 2 2 hash0 k).sc))] : List Value)), talC t45 hb46 cb47 ab48 lb49 (votesD ((proposeD ((startD D0).1) 2 (-1) x (ok)).1) 2 2 hash0 k).f (votesD ((proposeD ((startD D0).1) 2 (-1) x (ok)).1) 2 2 hash0 k).c (votesD ((proposeD ((startD D0).1) 2 (-1) x (ok)).1) 2 2 hash0 k).L, mapC pb50 (Value.int .i64) propV (votesD ((proposeD ((startD D0).1) 2 (-1) x (ok)).1) 2 2 hash0 k).P, rowC 45 35 (.slice a58 (((startD D0).2).length) c59) (((startD D0).2).length) (((startD D0).2).flatMap encA), rowC 45 35 (.slice a67 (((proposeD ((startD D0).1) 2 (-1) x (ok)).2).length) c68) (((proposeD ((startD D0).1) 2 (-1) x (ok)).2).length) (((proposeD ((startD D0).1) 2 (-1) x (ok)).2).flatMap encA), rowC 45 35 (.slice a (votesA ((proposeD ((startD D0).1) 2 (-1) x (ok)).1) 2 2 hash0 k).length q) ((votesA ((proposeD ((startD D0).1) 2 (-1) x (ok)).1) 2 2 hash0 k).length) ((votesA ((proposeD ((startD D0).1) 2 (-1) x (ok)).1) 2 2 hash0 k).flatMap encA)] W_ ∧ m_ = N - k) _ ⟨0, none, 0, (by first | rfl | go_num), (by first | rfl | go_num), (Nat.zero_le _), Hn, rfl⟩ ?_
      rintro g72 w73 _ ⟨k, a, q, v75, v76, hk, H74, rfl⟩
      refine wp_know 14 _ v75 ?_
      refine wp_know 13 _ v76 ?_
      have hlk := votesA_len (C0.start.propose 2 (-1) x (ok)) 2 2 hash0 k
      have hlv := vote_le (votesCI (C0.start.propose 2 (-1) x (ok)) 2 2 hash0 k) 2 2 (k : Int) hash0
      refine w_seq ?_
      refine w_seq ?_
      refine w_lit ?_
      refine wl_pure (wants0 rfl) (d := 52) (v := (.int .i64 ((k : Int)))) rfl (by kernel_rfl) ?_
      refine wl_pure (wants0 rfl) (d := 53) (v := (.pointer (some ⟨b10, 0, none⟩))) rfl (by kernel_rfl) ?_
      refine wl_pure (wants0 rfl) (d := 54) (v := (.int .i64 (F))) rfl (e_load1 rfl (by kernel_rfl) (H74.cell 2 rfl rfl)) ?_
      refine wl_pure (wants0 rfl) (d := 55) (v := (.int .i64 (F + 1))) rfl (e_int (z := F + 1) (by kernel_rfl) (IntWalk.i64_in _ (by omega))) ?_
      refine wl_pure (wants0 rfl) (d := 56) (v := (.bool (decide ((k : Int) < (F + 1))))) rfl (by kernel_rfl) ?_
      refine w_nil ?_
      refine then_normal ?_
      refine (bsplit (decide ((k : Int) < (F + 1)))).elim (fun b78 => ?_) (fun b78 => ?_)
      · have g79 := of_decide_eq_true b78
        refine wp_know 56 (.bool true) (congrArg Value.bool b78) ?_
        have g80 := of_decide_eq_true b78
        refine wp_ift rfl ?_
        refine w_skip ?_
        refine then_normal ?_
        refine w_seq ?_
        refine w_block ?_
        refine w_lit ?_
        refine wl_pure (wants0 rfl) (d := 59) (v := (.slice a (votesA ((proposeD ((startD D0).1) 2 (-1) x (ok)).1) 2 2 hash0 k).length q)) rfl (by kernel_rfl) ?_
        refine wl_pure (wants0 rfl) (d := 60) (v := (.pointer (some ⟨k44, 0, none⟩))) rfl (by kernel_rfl) ?_
        refine wl_pure (wants0 rfl) (d := 61) (v := (.int .i64 ((k : Int)))) rfl (by kernel_rfl) ?_
        refine wl_pure (wants0 rfl) (d := 62) (v := (.agg ⟨(hc hash0)⟩)) rfl (by kernel_rfl) ?_
        refine wl_do (wants0 rfl) (fun K81 hK81 => ?_)
        refine d_call (d := 63) rfl (by kernel_rfl) (coreVote_any w73 k44 t45 hb46 cb47 ab48 lb49 pb50 (votesD ((proposeD ((startD D0).1) 2 (-1) x (ok)).1) 2 2 hash0 k) (ok_of (by kernel_rfl) (H74.fin [3, 4, 5] (by decide) rfl)) (votesCI (C0.start.propose 2 (-1) x (ok)) 2 2 hash0 k) 2 2 (k : Int) hash0) ?_
        rintro _ w83 ⟨v82, rfl, S84⟩
        replace S84 := Sat.cast (G' := [cellC k44 92 (([(.int .i64 (((voteD' (votesD ((proposeD ((startD D0).1) 2 (-1) x (ok)).1) 2 2 hash0 k) 2 2 (k : Int) hash0).1).f)), (.int .i64 (((voteD' (votesD ((proposeD ((startD D0).1) 2 (-1) x (ok)).1) 2 2 hash0 k) 2 2 (k : Int) hash0).1).c)), (.int .i64 (((voteD' (votesD ((proposeD ((startD D0).1) 2 (-1) x (ok)).1) 2 2 hash0 k) 2 2 (k : Int) hash0).1).epoch)), (.int .i64 (((voteD' (votesD ((proposeD ((startD D0).1) 2 (-1) x (ok)).1) 2 2 hash0 k) 2 2 (k : Int) hash0).1).replica)), (.int .i64 (((voteD' (votesD ((proposeD ((startD D0).1) 2 (-1) x (ok)).1) 2 2 hash0 k) 2 2 (k : Int) hash0).1).s.round)), (.int .i64 (((voteD' (votesD ((proposeD ((startD D0).1) 2 (-1) x (ok)).1) 2 2 hash0 k) 2 2 (k : Int) hash0).1).s.step)), (.int .i64 (((voteD' (votesD ((proposeD ((startD D0).1) 2 (-1) x (ok)).1) 2 2 hash0 k) 2 2 (k : Int) hash0).1).s.lr)), (.int .i64 (((voteD' (votesD ((proposeD ((startD D0).1) 2 (-1) x (ok)).1) 2 2 hash0 k) 2 2 (k : Int) hash0).1).s.vr))] : List Value) ++ hc ((voteD' (votesD ((proposeD ((startD D0).1) 2 (-1) x (ok)).1) 2 2 hash0 k) 2 2 (k : Int) hash0).1).s.locked ++ hc ((voteD' (votesD ((proposeD ((startD D0).1) 2 (-1) x (ok)).1) 2 2 hash0 k) 2 2 (k : Int) hash0).1).s.valid ++ ([(.bool (((voteD' (votesD ((proposeD ((startD D0).1) 2 (-1) x (ok)).1) 2 2 hash0 k) 2 2 (k : Int) hash0).1).s.decided))] : List Value) ++ hc ((voteD' (votesD ((proposeD ((startD D0).1) 2 (-1) x (ok)).1) 2 2 hash0 k) 2 2 (k : Int) hash0).1).s.decision ++ ([(.pointer (some ⟨t45, 0, none⟩)), (.map (some pb50)), (.bool (((voteD' (votesD ((proposeD ((startD D0).1) 2 (-1) x (ok)).1) 2 2 hash0 k) 2 2 (k : Int) hash0).1).wv)), (.bool (((voteD' (votesD ((proposeD ((startD D0).1) 2 (-1) x (ok)).1) 2 2 hash0 k) 2 2 (k : Int) hash0).1).sp)), (.bool (((voteD' (votesD ((proposeD ((startD D0).1) 2 (-1) x (ok)).1) 2 2 hash0 k) 2 2 (k : Int) hash0).1).sc))] : List Value)), talC t45 hb46 cb47 ab48 lb49 ((voteD' (votesD ((proposeD ((startD D0).1) 2 (-1) x (ok)).1) 2 2 hash0 k) 2 2 (k : Int) hash0).1).f ((voteD' (votesD ((proposeD ((startD D0).1) 2 (-1) x (ok)).1) 2 2 hash0 k) 2 2 (k : Int) hash0).1).c ((voteD' (votesD ((proposeD ((startD D0).1) 2 (-1) x (ok)).1) 2 2 hash0 k) 2 2 (k : Int) hash0).1).L, mapC pb50 (Value.int .i64) propV ((voteD' (votesD ((proposeD ((startD D0).1) 2 (-1) x (ok)).1) 2 2 hash0 k) 2 2 (k : Int) hash0).1).P, rowC 45 35 v82 (((voteD' (votesD ((proposeD ((startD D0).1) 2 (-1) x (ok)).1) 2 2 hash0 k) 2 2 (k : Int) hash0).2).length) (((voteD' (votesD ((proposeD ((startD D0).1) 2 (-1) x (ok)).1) 2 2 hash0 k) 2 2 (k : Int) hash0).2).flatMap encA), restC w73 (coreC k44 t45 hb46 cb47 ab48 lb49 pb50 (votesD ((proposeD ((startD D0).1) 2 (-1) x (ok)).1) 2 2 hash0 k)).fp]) S84 (by kernel_rfl)
        have H86 : Sat w [restC w (fun _ => False), cellC b2 36 (hc x), cellC b10 25 ([(.int .i64 (F)), (.int .i64 (1))] : List Value), cellC k44 92 (([(.int .i64 (((voteD' (votesD ((proposeD ((startD D0).1) 2 (-1) x (ok)).1) 2 2 hash0 k) 2 2 (k : Int) hash0).1).f)), (.int .i64 (((voteD' (votesD ((proposeD ((startD D0).1) 2 (-1) x (ok)).1) 2 2 hash0 k) 2 2 (k : Int) hash0).1).c)), (.int .i64 (((voteD' (votesD ((proposeD ((startD D0).1) 2 (-1) x (ok)).1) 2 2 hash0 k) 2 2 (k : Int) hash0).1).epoch)), (.int .i64 (((voteD' (votesD ((proposeD ((startD D0).1) 2 (-1) x (ok)).1) 2 2 hash0 k) 2 2 (k : Int) hash0).1).replica)), (.int .i64 (((voteD' (votesD ((proposeD ((startD D0).1) 2 (-1) x (ok)).1) 2 2 hash0 k) 2 2 (k : Int) hash0).1).s.round)), (.int .i64 (((voteD' (votesD ((proposeD ((startD D0).1) 2 (-1) x (ok)).1) 2 2 hash0 k) 2 2 (k : Int) hash0).1).s.step)), (.int .i64 (((voteD' (votesD ((proposeD ((startD D0).1) 2 (-1) x (ok)).1) 2 2 hash0 k) 2 2 (k : Int) hash0).1).s.lr)), (.int .i64 (((voteD' (votesD ((proposeD ((startD D0).1) 2 (-1) x (ok)).1) 2 2 hash0 k) 2 2 (k : Int) hash0).1).s.vr))] : List Value) ++ hc ((voteD' (votesD ((proposeD ((startD D0).1) 2 (-1) x (ok)).1) 2 2 hash0 k) 2 2 (k : Int) hash0).1).s.locked ++ hc ((voteD' (votesD ((proposeD ((startD D0).1) 2 (-1) x (ok)).1) 2 2 hash0 k) 2 2 (k : Int) hash0).1).s.valid ++ ([(.bool (((voteD' (votesD ((proposeD ((startD D0).1) 2 (-1) x (ok)).1) 2 2 hash0 k) 2 2 (k : Int) hash0).1).s.decided))] : List Value) ++ hc ((voteD' (votesD ((proposeD ((startD D0).1) 2 (-1) x (ok)).1) 2 2 hash0 k) 2 2 (k : Int) hash0).1).s.decision ++ ([(.pointer (some ⟨t45, 0, none⟩)), (.map (some pb50)), (.bool (((voteD' (votesD ((proposeD ((startD D0).1) 2 (-1) x (ok)).1) 2 2 hash0 k) 2 2 (k : Int) hash0).1).wv)), (.bool (((voteD' (votesD ((proposeD ((startD D0).1) 2 (-1) x (ok)).1) 2 2 hash0 k) 2 2 (k : Int) hash0).1).sp)), (.bool (((voteD' (votesD ((proposeD ((startD D0).1) 2 (-1) x (ok)).1) 2 2 hash0 k) 2 2 (k : Int) hash0).1).sc))] : List Value)), talC t45 hb46 cb47 ab48 lb49 ((voteD' (votesD ((proposeD ((startD D0).1) 2 (-1) x (ok)).1) 2 2 hash0 k) 2 2 (k : Int) hash0).1).f ((voteD' (votesD ((proposeD ((startD D0).1) 2 (-1) x (ok)).1) 2 2 hash0 k) 2 2 (k : Int) hash0).1).c ((voteD' (votesD ((proposeD ((startD D0).1) 2 (-1) x (ok)).1) 2 2 hash0 k) 2 2 (k : Int) hash0).1).L, mapC pb50 (Value.int .i64) propV ((voteD' (votesD ((proposeD ((startD D0).1) 2 (-1) x (ok)).1) 2 2 hash0 k) 2 2 (k : Int) hash0).1).P, rowC 45 35 (.slice a58 (((startD D0).2).length) c59) (((startD D0).2).length) (((startD D0).2).flatMap encA), rowC 45 35 (.slice a67 (((proposeD ((startD D0).1) 2 (-1) x (ok)).2).length) c68) (((proposeD ((startD D0).1) 2 (-1) x (ok)).2).length) (((proposeD ((startD D0).1) 2 (-1) x (ok)).2).flatMap encA), rowC 45 35 (.slice a (votesA ((proposeD ((startD D0).1) 2 (-1) x (ok)).1) 2 2 hash0 k).length q) ((votesA ((proposeD ((startD D0).1) 2 (-1) x (ok)).1) 2 2 hash0 k).length) ((votesA ((proposeD ((startD D0).1) 2 (-1) x (ok)).1) 2 2 hash0 k).flatMap encA), rowC 45 35 v82 (((voteD' (votesD ((proposeD ((startD D0).1) 2 (-1) x (ok)).1) 2 2 hash0 k) 2 2 (k : Int) hash0).2).length) (((voteD' (votesD ((proposeD ((startD D0).1) 2 (-1) x (ok)).1) 2 2 hash0 k) 2 2 (k : Int) hash0).2).flatMap encA)] w83 := (Sat.turnL (L' := [cellC k44 92 (([(.int .i64 (((voteD' (votesD ((proposeD ((startD D0).1) 2 (-1) x (ok)).1) 2 2 hash0 k) 2 2 (k : Int) hash0).1).f)), (.int .i64 (((voteD' (votesD ((proposeD ((startD D0).1) 2 (-1) x (ok)).1) 2 2 hash0 k) 2 2 (k : Int) hash0).1).c)), (.int .i64 (((voteD' (votesD ((proposeD ((startD D0).1) 2 (-1) x (ok)).1) 2 2 hash0 k) 2 2 (k : Int) hash0).1).epoch)), (.int .i64 (((voteD' (votesD ((proposeD ((startD D0).1) 2 (-1) x (ok)).1) 2 2 hash0 k) 2 2 (k : Int) hash0).1).replica)), (.int .i64 (((voteD' (votesD ((proposeD ((startD D0).1) 2 (-1) x (ok)).1) 2 2 hash0 k) 2 2 (k : Int) hash0).1).s.round)), (.int .i64 (((voteD' (votesD ((proposeD ((startD D0).1) 2 (-1) x (ok)).1) 2 2 hash0 k) 2 2 (k : Int) hash0).1).s.step)), (.int .i64 (((voteD' (votesD ((proposeD ((startD D0).1) 2 (-1) x (ok)).1) 2 2 hash0 k) 2 2 (k : Int) hash0).1).s.lr)), (.int .i64 (((voteD' (votesD ((proposeD ((startD D0).1) 2 (-1) x (ok)).1) 2 2 hash0 k) 2 2 (k : Int) hash0).1).s.vr))] : List Value) ++ hc ((voteD' (votesD ((proposeD ((startD D0).1) 2 (-1) x (ok)).1) 2 2 hash0 k) 2 2 (k : Int) hash0).1).s.locked ++ hc ((voteD' (votesD ((proposeD ((startD D0).1) 2 (-1) x (ok)).1) 2 2 hash0 k) 2 2 (k : Int) hash0).1).s.valid ++ ([(.bool (((voteD' (votesD ((proposeD ((startD D0).1) 2 (-1) x (ok)).1) 2 2 hash0 k) 2 2 (k : Int) hash0).1).s.decided))] : List Value) ++ hc ((voteD' (votesD ((proposeD ((startD D0).1) 2 (-1) x (ok)).1) 2 2 hash0 k) 2 2 (k : Int) hash0).1).s.decision ++ ([(.pointer (some ⟨t45, 0, none⟩)), (.map (some pb50)), (.bool (((voteD' (votesD ((proposeD ((startD D0).1) 2 (-1) x (ok)).1) 2 2 hash0 k) 2 2 (k : Int) hash0).1).wv)), (.bool (((voteD' (votesD ((proposeD ((startD D0).1) 2 (-1) x (ok)).1) 2 2 hash0 k) 2 2 (k : Int) hash0).1).sp)), (.bool (((voteD' (votesD ((proposeD ((startD D0).1) 2 (-1) x (ok)).1) 2 2 hash0 k) 2 2 (k : Int) hash0).1).sc))] : List Value)), talC t45 hb46 cb47 ab48 lb49 ((voteD' (votesD ((proposeD ((startD D0).1) 2 (-1) x (ok)).1) 2 2 hash0 k) 2 2 (k : Int) hash0).1).f ((voteD' (votesD ((proposeD ((startD D0).1) 2 (-1) x (ok)).1) 2 2 hash0 k) 2 2 (k : Int) hash0).1).c ((voteD' (votesD ((proposeD ((startD D0).1) 2 (-1) x (ok)).1) 2 2 hash0 k) 2 2 (k : Int) hash0).1).L, mapC pb50 (Value.int .i64) propV ((voteD' (votesD ((proposeD ((startD D0).1) 2 (-1) x (ok)).1) 2 2 hash0 k) 2 2 (k : Int) hash0).1).P, rowC 45 35 v82 (((voteD' (votesD ((proposeD ((startD D0).1) 2 (-1) x (ok)).1) 2 2 hash0 k) 2 2 (k : Int) hash0).2).length) (((voteD' (votesD ((proposeD ((startD D0).1) 2 (-1) x (ok)).1) 2 2 hash0 k) 2 2 (k : Int) hash0).2).flatMap encA)]) (R := [restC w (fun _ => False), cellC b2 36 (hc x), cellC b10 25 ([(.int .i64 (F)), (.int .i64 (1))] : List Value), rowC 45 35 (.slice a58 (((startD D0).2).length) c59) (((startD D0).2).length) (((startD D0).2).flatMap encA), rowC 45 35 (.slice a67 (((proposeD ((startD D0).1) 2 (-1) x (ok)).2).length) c68) (((proposeD ((startD D0).1) 2 (-1) x (ok)).2).length) (((proposeD ((startD D0).1) 2 (-1) x (ok)).2).flatMap encA), rowC 45 35 (.slice a (votesA ((proposeD ((startD D0).1) 2 (-1) x (ok)).1) 2 2 hash0 k).length q) ((votesA ((proposeD ((startD D0).1) 2 (-1) x (ok)).1) 2 2 hash0 k).length) ((votesA ((proposeD ((startD D0).1) 2 (-1) x (ok)).1) 2 2 hash0 k).flatMap encA)]) H74 [3, 4, 5] [0, 1, 2, 6, 7, 8] (by decide) (by kernel_rfl) rfl S84).pick [4, 5, 6, 0, 1, 2, 7, 8, 9, 3] (by decide)
        obtain ⟨a87, c88, rfl⟩ := ownsRow_shape (H86.at 9 rfl)
        refine ⟨_, rfl, ?_⟩
        refine hK81 _ _ ?_
        clear hK81 K81
        refine wl_do (wants0 rfl) (fun K89 hK89 => ?_)
        refine d_append (T := 31) (e := 45) (size := 35) (bytes := 56) rfl H86 (by kernel_rfl) 8 9 rfl rfl rfl rfl (flat_one encA encA_one ((voteD' (votesD ((proposeD ((startD D0).1) 2 (-1) x (ok)).1) 2 2 hash0 k) 2 2 (k : Int) hash0).2)) (by omega) (by omega) ?_
        intro v90 w91 (H92 : Sat w [restC w (fun _ => False), cellC b2 36 (hc x), cellC b10 25 ([(.int .i64 (F)), (.int .i64 (1))] : List Value), cellC k44 92 (([(.int .i64 (((voteD' (votesD ((proposeD ((startD D0).1) 2 (-1) x (ok)).1) 2 2 hash0 k) 2 2 (k : Int) hash0).1).f)), (.int .i64 (((voteD' (votesD ((proposeD ((startD D0).1) 2 (-1) x (ok)).1) 2 2 hash0 k) 2 2 (k : Int) hash0).1).c)), (.int .i64 (((voteD' (votesD ((proposeD ((startD D0).1) 2 (-1) x (ok)).1) 2 2 hash0 k) 2 2 (k : Int) hash0).1).epoch)), (.int .i64 (((voteD' (votesD ((proposeD ((startD D0).1) 2 (-1) x (ok)).1) 2 2 hash0 k) 2 2 (k : Int) hash0).1).replica)), (.int .i64 (((voteD' (votesD ((proposeD ((startD D0).1) 2 (-1) x (ok)).1) 2 2 hash0 k) 2 2 (k : Int) hash0).1).s.round)), (.int .i64 (((voteD' (votesD ((proposeD ((startD D0).1) 2 (-1) x (ok)).1) 2 2 hash0 k) 2 2 (k : Int) hash0).1).s.step)), (.int .i64 (((voteD' (votesD ((proposeD ((startD D0).1) 2 (-1) x (ok)).1) 2 2 hash0 k) 2 2 (k : Int) hash0).1).s.lr)), (.int .i64 (((voteD' (votesD ((proposeD ((startD D0).1) 2 (-1) x (ok)).1) 2 2 hash0 k) 2 2 (k : Int) hash0).1).s.vr))] : List Value) ++ hc ((voteD' (votesD ((proposeD ((startD D0).1) 2 (-1) x (ok)).1) 2 2 hash0 k) 2 2 (k : Int) hash0).1).s.locked ++ hc ((voteD' (votesD ((proposeD ((startD D0).1) 2 (-1) x (ok)).1) 2 2 hash0 k) 2 2 (k : Int) hash0).1).s.valid ++ ([(.bool (((voteD' (votesD ((proposeD ((startD D0).1) 2 (-1) x (ok)).1) 2 2 hash0 k) 2 2 (k : Int) hash0).1).s.decided))] : List Value) ++ hc ((voteD' (votesD ((proposeD ((startD D0).1) 2 (-1) x (ok)).1) 2 2 hash0 k) 2 2 (k : Int) hash0).1).s.decision ++ ([(.pointer (some ⟨t45, 0, none⟩)), (.map (some pb50)), (.bool (((voteD' (votesD ((proposeD ((startD D0).1) 2 (-1) x (ok)).1) 2 2 hash0 k) 2 2 (k : Int) hash0).1).wv)), (.bool (((voteD' (votesD ((proposeD ((startD D0).1) 2 (-1) x (ok)).1) 2 2 hash0 k) 2 2 (k : Int) hash0).1).sp)), (.bool (((voteD' (votesD ((proposeD ((startD D0).1) 2 (-1) x (ok)).1) 2 2 hash0 k) 2 2 (k : Int) hash0).1).sc))] : List Value)), talC t45 hb46 cb47 ab48 lb49 ((voteD' (votesD ((proposeD ((startD D0).1) 2 (-1) x (ok)).1) 2 2 hash0 k) 2 2 (k : Int) hash0).1).f ((voteD' (votesD ((proposeD ((startD D0).1) 2 (-1) x (ok)).1) 2 2 hash0 k) 2 2 (k : Int) hash0).1).c ((voteD' (votesD ((proposeD ((startD D0).1) 2 (-1) x (ok)).1) 2 2 hash0 k) 2 2 (k : Int) hash0).1).L, mapC pb50 (Value.int .i64) propV ((voteD' (votesD ((proposeD ((startD D0).1) 2 (-1) x (ok)).1) 2 2 hash0 k) 2 2 (k : Int) hash0).1).P, rowC 45 35 (.slice a58 (((startD D0).2).length) c59) (((startD D0).2).length) (((startD D0).2).flatMap encA), rowC 45 35 (.slice a67 (((proposeD ((startD D0).1) 2 (-1) x (ok)).2).length) c68) (((proposeD ((startD D0).1) 2 (-1) x (ok)).2).length) (((proposeD ((startD D0).1) 2 (-1) x (ok)).2).flatMap encA), rowC 45 35 v90 ((votesA ((proposeD ((startD D0).1) 2 (-1) x (ok)).1) 2 2 hash0 k).length + ((voteD' (votesD ((proposeD ((startD D0).1) 2 (-1) x (ok)).1) 2 2 hash0 k) 2 2 (k : Int) hash0).2).length) (((votesA ((proposeD ((startD D0).1) 2 (-1) x (ok)).1) 2 2 hash0 k).flatMap encA) ++ (((voteD' (votesD ((proposeD ((startD D0).1) 2 (-1) x (ok)).1) 2 2 hash0 k) 2 2 (k : Int) hash0).2).flatMap encA)), rowC 45 35 (.slice a87 (((voteD' (votesD ((proposeD ((startD D0).1) 2 (-1) x (ok)).1) 2 2 hash0 k) 2 2 (k : Int) hash0).2).length) c88) (((voteD' (votesD ((proposeD ((startD D0).1) 2 (-1) x (ok)).1) 2 2 hash0 k) 2 2 (k : Int) hash0).2).length) (((voteD' (votesD ((proposeD ((startD D0).1) 2 (-1) x (ok)).1) 2 2 hash0 k) 2 2 (k : Int) hash0).2).flatMap encA)] w91)
        have H95 : Sat w [restC w (fun _ => False), cellC b2 36 (hc x), cellC b10 25 ([(.int .i64 (F)), (.int .i64 (1))] : List Value), cellC k44 92 (([(.int .i64 (((voteD' (votesD ((proposeD ((startD D0).1) 2 (-1) x (ok)).1) 2 2 hash0 k) 2 2 (k : Int) hash0).1).f)), (.int .i64 (((voteD' (votesD ((proposeD ((startD D0).1) 2 (-1) x (ok)).1) 2 2 hash0 k) 2 2 (k : Int) hash0).1).c)), (.int .i64 (((voteD' (votesD ((proposeD ((startD D0).1) 2 (-1) x (ok)).1) 2 2 hash0 k) 2 2 (k : Int) hash0).1).epoch)), (.int .i64 (((voteD' (votesD ((proposeD ((startD D0).1) 2 (-1) x (ok)).1) 2 2 hash0 k) 2 2 (k : Int) hash0).1).replica)), (.int .i64 (((voteD' (votesD ((proposeD ((startD D0).1) 2 (-1) x (ok)).1) 2 2 hash0 k) 2 2 (k : Int) hash0).1).s.round)), (.int .i64 (((voteD' (votesD ((proposeD ((startD D0).1) 2 (-1) x (ok)).1) 2 2 hash0 k) 2 2 (k : Int) hash0).1).s.step)), (.int .i64 (((voteD' (votesD ((proposeD ((startD D0).1) 2 (-1) x (ok)).1) 2 2 hash0 k) 2 2 (k : Int) hash0).1).s.lr)), (.int .i64 (((voteD' (votesD ((proposeD ((startD D0).1) 2 (-1) x (ok)).1) 2 2 hash0 k) 2 2 (k : Int) hash0).1).s.vr))] : List Value) ++ hc ((voteD' (votesD ((proposeD ((startD D0).1) 2 (-1) x (ok)).1) 2 2 hash0 k) 2 2 (k : Int) hash0).1).s.locked ++ hc ((voteD' (votesD ((proposeD ((startD D0).1) 2 (-1) x (ok)).1) 2 2 hash0 k) 2 2 (k : Int) hash0).1).s.valid ++ ([(.bool (((voteD' (votesD ((proposeD ((startD D0).1) 2 (-1) x (ok)).1) 2 2 hash0 k) 2 2 (k : Int) hash0).1).s.decided))] : List Value) ++ hc ((voteD' (votesD ((proposeD ((startD D0).1) 2 (-1) x (ok)).1) 2 2 hash0 k) 2 2 (k : Int) hash0).1).s.decision ++ ([(.pointer (some ⟨t45, 0, none⟩)), (.map (some pb50)), (.bool (((voteD' (votesD ((proposeD ((startD D0).1) 2 (-1) x (ok)).1) 2 2 hash0 k) 2 2 (k : Int) hash0).1).wv)), (.bool (((voteD' (votesD ((proposeD ((startD D0).1) 2 (-1) x (ok)).1) 2 2 hash0 k) 2 2 (k : Int) hash0).1).sp)), (.bool (((voteD' (votesD ((proposeD ((startD D0).1) 2 (-1) x (ok)).1) 2 2 hash0 k) 2 2 (k : Int) hash0).1).sc))] : List Value)), talC t45 hb46 cb47 ab48 lb49 ((voteD' (votesD ((proposeD ((startD D0).1) 2 (-1) x (ok)).1) 2 2 hash0 k) 2 2 (k : Int) hash0).1).f ((voteD' (votesD ((proposeD ((startD D0).1) 2 (-1) x (ok)).1) 2 2 hash0 k) 2 2 (k : Int) hash0).1).c ((voteD' (votesD ((proposeD ((startD D0).1) 2 (-1) x (ok)).1) 2 2 hash0 k) 2 2 (k : Int) hash0).1).L, mapC pb50 (Value.int .i64) propV ((voteD' (votesD ((proposeD ((startD D0).1) 2 (-1) x (ok)).1) 2 2 hash0 k) 2 2 (k : Int) hash0).1).P, rowC 45 35 (.slice a58 (((startD D0).2).length) c59) (((startD D0).2).length) (((startD D0).2).flatMap encA), rowC 45 35 (.slice a67 (((proposeD ((startD D0).1) 2 (-1) x (ok)).2).length) c68) (((proposeD ((startD D0).1) 2 (-1) x (ok)).2).length) (((proposeD ((startD D0).1) 2 (-1) x (ok)).2).flatMap encA), rowC 45 35 v90 (((votesA ((proposeD ((startD D0).1) 2 (-1) x (ok)).1) 2 2 hash0 k) ++ (voteD' (votesD ((proposeD ((startD D0).1) 2 (-1) x (ok)).1) 2 2 hash0 k) 2 2 (k : Int) hash0).2).length) (((votesA ((proposeD ((startD D0).1) 2 (-1) x (ok)).1) 2 2 hash0 k) ++ (voteD' (votesD ((proposeD ((startD D0).1) 2 (-1) x (ok)).1) 2 2 hash0 k) 2 2 (k : Int) hash0).2).flatMap encA), rowC 45 35 (.slice a87 (((voteD' (votesD ((proposeD ((startD D0).1) 2 (-1) x (ok)).1) 2 2 hash0 k) 2 2 (k : Int) hash0).2).length) c88) (((voteD' (votesD ((proposeD ((startD D0).1) 2 (-1) x (ok)).1) 2 2 hash0 k) 2 2 (k : Int) hash0).2).length) (((voteD' (votesD ((proposeD ((startD D0).1) 2 (-1) x (ok)).1) 2 2 hash0 k) 2 2 (k : Int) hash0).2).flatMap encA)] w91 := H92.cast (by simp only [List.length_append, List.flatMap_append])
        obtain ⟨a93, c94, rfl⟩ := ownsRow_shape (H95.at 8 rfl)
        refine hK89 _ _ ?_
        clear hK89 K89
        refine wl_pure (wants0 rfl) (d := 13) (v := (.slice a93 (((votesA ((proposeD ((startD D0).1) 2 (-1) x (ok)).1) 2 2 hash0 k) ++ (voteD' (votesD ((proposeD ((startD D0).1) 2 (-1) x (ok)).1) 2 2 hash0 k) 2 2 (k : Int) hash0).2).length) c94)) rfl (by kernel_rfl) ?_
        refine w_nil ?_
        refine blk_normal ?_
        refine then_normal ?_
        refine w_lit ?_
        refine wl_pure (wants0 rfl) (d := 57) (v := (.int .i64 ((k : Int)))) rfl (by kernel_rfl) ?_
        refine wl_pure (wants0 rfl) (d := 58) (v := (.int .i64 ((k : Int) + 1))) rfl (e_int (z := (k : Int) + 1) (by kernel_rfl) (IntWalk.i64_in _ (by omega))) ?_
        refine wl_pure (wants0 rfl) (d := 14) (v := (.int .i64 ((k : Int) + 1))) rfl (by kernel_rfl) ?_
        refine w_nil ?_
        have hlk := votesA_len (C0.start.propose 2 (-1) x (ok)) 2 2 hash0 (k + 1)
        have H96 : Sat w [restC w (fun _ => False), cellC b2 36 (hc x), cellC b10 25 ([(.int .i64 (F)), (.int .i64 (1))] : List Value), cellC k44 92 (([(.int .i64 ((votesD ((proposeD ((startD D0).1) 2 (-1) x (ok)).1) 2 2 hash0 (k + 1)).f)), (.int .i64 ((votesD ((proposeD ((startD D0).1) 2 (-1) x (ok)).1) 2 2 hash0 (k + 1)).c)), (.int .i64 ((votesD ((proposeD ((startD D0).1) 2 (-1) x (ok)).1) 2 2 hash0 (k + 1)).epoch)), (.int .i64 ((votesD ((proposeD ((startD D0).1) 2 (-1) x (ok)).1) 2 2 hash0 (k + 1)).replica)), (.int .i64 ((votesD ((proposeD ((startD D0).1) 2 (-1) x (ok)).1) 2 2 hash0 (k + 1)).s.round)), (.int .i64 ((votesD ((proposeD ((startD D0).1) 2 (-1) x (ok)).1) 2 2 hash0 (k + 1)).s.step)), (.int .i64 ((votesD ((proposeD ((startD D0).1) 2 (-1) x (ok)).1) 2 2 hash0 (k + 1)).s.lr)), (.int .i64 ((votesD ((proposeD ((startD D0).1) 2 (-1) x (ok)).1) 2 2 hash0 (k + 1)).s.vr))] : List Value) ++ hc (votesD ((proposeD ((startD D0).1) 2 (-1) x (ok)).1) 2 2 hash0 (k + 1)).s.locked ++ hc (votesD ((proposeD ((startD D0).1) 2 (-1) x (ok)).1) 2 2 hash0 (k + 1)).s.valid ++ ([(.bool ((votesD ((proposeD ((startD D0).1) 2 (-1) x (ok)).1) 2 2 hash0 (k + 1)).s.decided))] : List Value) ++ hc (votesD ((proposeD ((startD D0).1) 2 (-1) x (ok)).1) 2 2 hash0 (k + 1)).s.decision ++ ([(.pointer (some ⟨t45, 0, none⟩)), (.map (some pb50)), (.bool ((votesD ((proposeD ((startD D0).1) 2 (-1) x (ok)).1) 2 2 hash0 (k + 1)).wv)), (.bool ((votesD ((proposeD ((startD D0).1) 2 (-1) x (ok)).1) 2 2 hash0 (k + 1)).sp)), (.bool ((votesD ((proposeD ((startD D0).1) 2 (-1) x (ok)).1) 2 2 hash0 (k + 1)).sc))] : List Value)), talC t45 hb46 cb47 ab48 lb49 (votesD ((proposeD ((startD D0).1) 2 (-1) x (ok)).1) 2 2 hash0 (k + 1)).f (votesD ((proposeD ((startD D0).1) 2 (-1) x (ok)).1) 2 2 hash0 (k + 1)).c (votesD ((proposeD ((startD D0).1) 2 (-1) x (ok)).1) 2 2 hash0 (k + 1)).L, mapC pb50 (Value.int .i64) propV (votesD ((proposeD ((startD D0).1) 2 (-1) x (ok)).1) 2 2 hash0 (k + 1)).P, rowC 45 35 (.slice a58 (((startD D0).2).length) c59) (((startD D0).2).length) (((startD D0).2).flatMap encA), rowC 45 35 (.slice a67 (((proposeD ((startD D0).1) 2 (-1) x (ok)).2).length) c68) (((proposeD ((startD D0).1) 2 (-1) x (ok)).2).length) (((proposeD ((startD D0).1) 2 (-1) x (ok)).2).flatMap encA), rowC 45 35 (.slice a93 (votesA ((proposeD ((startD D0).1) 2 (-1) x (ok)).1) 2 2 hash0 (k + 1)).length c94) ((votesA ((proposeD ((startD D0).1) 2 (-1) x (ok)).1) 2 2 hash0 (k + 1)).length) ((votesA ((proposeD ((startD D0).1) 2 (-1) x (ok)).1) 2 2 hash0 (k + 1)).flatMap encA)] w91 := (H95.pick [0, 1, 2, 3, 4, 5, 6, 7, 8] (by decide)).cast (by kernel_rfl)
        refine round_back ?_ _ ⟨(k + 1), a93, c94, (show ((.int .i64 ((k : Int) + 1)) : Value) = _ by first | rfl | go_num), (show ((.slice a93 (((votesA ((proposeD ((startD D0).1) 2 (-1) x (ok)).1) 2 2 hash0 k) ++ (voteD' (votesD ((proposeD ((startD D0).1) 2 (-1) x (ok)).1) 2 2 hash0 k) 2 2 (k : Int) hash0).2).length) c94) : Value) = _ by first | rfl | go_num), (by omega), H96, rfl⟩ (by omega)
        exact (same_upd rfl (same_upd rfl (same_upd rfl (same_upd rfl (same_upd rfl (same_upd rfl (same_upd rfl (same_upd rfl (same_upd rfl (same_upd rfl (same_upd rfl (same_upd rfl (same_upd rfl (same_upd rfl (same_upd rfl (same_upd rfl (same_upd rfl (same_upd rfl (same_ovr)))))))))))))))))))
      · have g97 := of_decide_eq_false b78
        refine wp_know 56 (.bool false) (congrArg Value.bool b78) ?_
        have g98 := of_decide_eq_false b78
        refine wp_iff rfl ?_
        refine w_exit ?_
        refine then_exit ?_
        refine back_exit ?_
        refine blk_hit ?_
        refine then_normal ?_
        refine w_seq ?_
        refine w_seq ?_
        obtain rfl : k = N := by have := of_decide_eq_false b78; omega
        refine w_lit ?_
        refine wl_pure (wants0 rfl) (d := 65) (v := (.bool (early))) rfl (by kernel_rfl) ?_
        refine wl_pure (wants0 rfl) (d := 66) (v := (.bool (!(early)))) rfl (by kernel_rfl) ?_
        refine w_nil ?_
        refine then_normal ?_
        have b99 : (!(early)) = false := by rw [b60]; rfl
        refine wp_know 66 (.bool false) (congrArg Value.bool b99) ?_
        have g100 := bnot_false b99
        refine wp_iff rfl ?_
        refine w_skip ?_
        refine then_normal ?_
        refine w_seq ?_
        refine w_lit ?_
        refine wl_pure (wants0 rfl) (d := 73) (v := (.agg ⟨(hc hash0)⟩)) rfl (by kernel_rfl) ?_
        refine wl_do (wants0 rfl) (fun K101 hK101 => ?_)
        refine d_alloc (zs := (hc hash0)) (z := (.agg ⟨(hc hash0)⟩)) rfl H74 (by kernel_rfl) (by kernel_rfl) ?_
        intro b102 w103 (H104 : Sat w [restC w (fun _ => False), cellC b2 36 (hc x), cellC b10 25 ([(.int .i64 (F)), (.int .i64 (1))] : List Value), cellC k44 92 (([(.int .i64 ((votesD ((proposeD ((startD D0).1) 2 (-1) x (ok)).1) 2 2 hash0 k).f)), (.int .i64 ((votesD ((proposeD ((startD D0).1) 2 (-1) x (ok)).1) 2 2 hash0 k).c)), (.int .i64 ((votesD ((proposeD ((startD D0).1) 2 (-1) x (ok)).1) 2 2 hash0 k).epoch)), (.int .i64 ((votesD ((proposeD ((startD D0).1) 2 (-1) x (ok)).1) 2 2 hash0 k).replica)), (.int .i64 ((votesD ((proposeD ((startD D0).1) 2 (-1) x (ok)).1) 2 2 hash0 k).s.round)), (.int .i64 ((votesD ((proposeD ((startD D0).1) 2 (-1) x (ok)).1) 2 2 hash0 k).s.step)), (.int .i64 ((votesD ((proposeD ((startD D0).1) 2 (-1) x (ok)).1) 2 2 hash0 k).s.lr)), (.int .i64 ((votesD ((proposeD ((startD D0).1) 2 (-1) x (ok)).1) 2 2 hash0 k).s.vr))] : List Value) ++ hc (votesD ((proposeD ((startD D0).1) 2 (-1) x (ok)).1) 2 2 hash0 k).s.locked ++ hc (votesD ((proposeD ((startD D0).1) 2 (-1) x (ok)).1) 2 2 hash0 k).s.valid ++ ([(.bool ((votesD ((proposeD ((startD D0).1) 2 (-1) x (ok)).1) 2 2 hash0 k).s.decided))] : List Value) ++ hc (votesD ((proposeD ((startD D0).1) 2 (-1) x (ok)).1) 2 2 hash0 k).s.decision ++ ([(.pointer (some ⟨t45, 0, none⟩)), (.map (some pb50)), (.bool ((votesD ((proposeD ((startD D0).1) 2 (-1) x (ok)).1) 2 2 hash0 k).wv)), (.bool ((votesD ((proposeD ((startD D0).1) 2 (-1) x (ok)).1) 2 2 hash0 k).sp)), (.bool ((votesD ((proposeD ((startD D0).1) 2 (-1) x (ok)).1) 2 2 hash0 k).sc))] : List Value)), talC t45 hb46 cb47 ab48 lb49 (votesD ((proposeD ((startD D0).1) 2 (-1) x (ok)).1) 2 2 hash0 k).f (votesD ((proposeD ((startD D0).1) 2 (-1) x (ok)).1) 2 2 hash0 k).c (votesD ((proposeD ((startD D0).1) 2 (-1) x (ok)).1) 2 2 hash0 k).L, mapC pb50 (Value.int .i64) propV (votesD ((proposeD ((startD D0).1) 2 (-1) x (ok)).1) 2 2 hash0 k).P, rowC 45 35 (.slice a58 (((startD D0).2).length) c59) (((startD D0).2).length) (((startD D0).2).flatMap encA), rowC 45 35 (.slice a67 (((proposeD ((startD D0).1) 2 (-1) x (ok)).2).length) c68) (((proposeD ((startD D0).1) 2 (-1) x (ok)).2).length) (((proposeD ((startD D0).1) 2 (-1) x (ok)).2).flatMap encA), rowC 45 35 (.slice a (votesA ((proposeD ((startD D0).1) 2 (-1) x (ok)).1) 2 2 hash0 k).length q) ((votesA ((proposeD ((startD D0).1) 2 (-1) x (ok)).1) 2 2 hash0 k).length) ((votesA ((proposeD ((startD D0).1) 2 (-1) x (ok)).1) 2 2 hash0 k).flatMap encA), cellC b102 36 (hc hash0)] w103)
        refine hK101 _ _ ?_
        clear hK101 K101
        refine wl_do (wants0 rfl) (fun K105 hK105 => ?_)
        refine d_storeX (vs := (hc hash0)) (cs' := (hc hash0)) rfl H104 9 rfl rfl rfl rfl (by kernel_rfl) (Nat.le_of_ble_eq_true (by kernel_rfl)) (Nat.le_of_ble_eq_true (by kernel_rfl)) (by kernel_rfl) (by kernel_rfl) ?_
        intro w106 (H107 : Sat w [restC w (fun _ => False), cellC b2 36 (hc x), cellC b10 25 ([(.int .i64 (F)), (.int .i64 (1))] : List Value), cellC k44 92 (([(.int .i64 ((votesD ((proposeD ((startD D0).1) 2 (-1) x (ok)).1) 2 2 hash0 k).f)), (.int .i64 ((votesD ((proposeD ((startD D0).1) 2 (-1) x (ok)).1) 2 2 hash0 k).c)), (.int .i64 ((votesD ((proposeD ((startD D0).1) 2 (-1) x (ok)).1) 2 2 hash0 k).epoch)), (.int .i64 ((votesD ((proposeD ((startD D0).1) 2 (-1) x (ok)).1) 2 2 hash0 k).replica)), (.int .i64 ((votesD ((proposeD ((startD D0).1) 2 (-1) x (ok)).1) 2 2 hash0 k).s.round)), (.int .i64 ((votesD ((proposeD ((startD D0).1) 2 (-1) x (ok)).1) 2 2 hash0 k).s.step)), (.int .i64 ((votesD ((proposeD ((startD D0).1) 2 (-1) x (ok)).1) 2 2 hash0 k).s.lr)), (.int .i64 ((votesD ((proposeD ((startD D0).1) 2 (-1) x (ok)).1) 2 2 hash0 k).s.vr))] : List Value) ++ hc (votesD ((proposeD ((startD D0).1) 2 (-1) x (ok)).1) 2 2 hash0 k).s.locked ++ hc (votesD ((proposeD ((startD D0).1) 2 (-1) x (ok)).1) 2 2 hash0 k).s.valid ++ ([(.bool ((votesD ((proposeD ((startD D0).1) 2 (-1) x (ok)).1) 2 2 hash0 k).s.decided))] : List Value) ++ hc (votesD ((proposeD ((startD D0).1) 2 (-1) x (ok)).1) 2 2 hash0 k).s.decision ++ ([(.pointer (some ⟨t45, 0, none⟩)), (.map (some pb50)), (.bool ((votesD ((proposeD ((startD D0).1) 2 (-1) x (ok)).1) 2 2 hash0 k).wv)), (.bool ((votesD ((proposeD ((startD D0).1) 2 (-1) x (ok)).1) 2 2 hash0 k).sp)), (.bool ((votesD ((proposeD ((startD D0).1) 2 (-1) x (ok)).1) 2 2 hash0 k).sc))] : List Value)), talC t45 hb46 cb47 ab48 lb49 (votesD ((proposeD ((startD D0).1) 2 (-1) x (ok)).1) 2 2 hash0 k).f (votesD ((proposeD ((startD D0).1) 2 (-1) x (ok)).1) 2 2 hash0 k).c (votesD ((proposeD ((startD D0).1) 2 (-1) x (ok)).1) 2 2 hash0 k).L, mapC pb50 (Value.int .i64) propV (votesD ((proposeD ((startD D0).1) 2 (-1) x (ok)).1) 2 2 hash0 k).P, rowC 45 35 (.slice a58 (((startD D0).2).length) c59) (((startD D0).2).length) (((startD D0).2).flatMap encA), rowC 45 35 (.slice a67 (((proposeD ((startD D0).1) 2 (-1) x (ok)).2).length) c68) (((proposeD ((startD D0).1) 2 (-1) x (ok)).2).length) (((proposeD ((startD D0).1) 2 (-1) x (ok)).2).flatMap encA), rowC 45 35 (.slice a (votesA ((proposeD ((startD D0).1) 2 (-1) x (ok)).1) 2 2 hash0 k).length q) ((votesA ((proposeD ((startD D0).1) 2 (-1) x (ok)).1) 2 2 hash0 k).length) ((votesA ((proposeD ((startD D0).1) 2 (-1) x (ok)).1) 2 2 hash0 k).flatMap encA), cellC b102 36 (hc hash0)] w106)
        refine hK105 _ _ ?_
        clear hK105 K105
        refine w_nil ?_
        refine then_normal ?_
        refine wp_meetR [74, 75] (fun G_ W_ => True ∧ Sat w [restC w (fun _ => False), cellC b2 36 (hc x), cellC b10 25 ([(.int .i64 (F)), (.int .i64 (1))] : List Value), cellC k44 92 (([(.int .i64 ((votesD ((proposeD ((startD D0).1) 2 (-1) x (ok)).1) 2 2 hash0 k).f)), (.int .i64 ((votesD ((proposeD ((startD D0).1) 2 (-1) x (ok)).1) 2 2 hash0 k).c)), (.int .i64 ((votesD ((proposeD ((startD D0).1) 2 (-1) x (ok)).1) 2 2 hash0 k).epoch)), (.int .i64 ((votesD ((proposeD ((startD D0).1) 2 (-1) x (ok)).1) 2 2 hash0 k).replica)), (.int .i64 ((votesD ((proposeD ((startD D0).1) 2 (-1) x (ok)).1) 2 2 hash0 k).s.round)), (.int .i64 ((votesD ((proposeD ((startD D0).1) 2 (-1) x (ok)).1) 2 2 hash0 k).s.step)), (.int .i64 ((votesD ((proposeD ((startD D0).1) 2 (-1) x (ok)).1) 2 2 hash0 k).s.lr)), (.int .i64 ((votesD ((proposeD ((startD D0).1) 2 (-1) x (ok)).1) 2 2 hash0 k).s.vr))] : List Value) ++ hc (votesD ((proposeD ((startD D0).1) 2 (-1) x (ok)).1) 2 2 hash0 k).s.locked ++ hc (votesD ((proposeD ((startD D0).1) 2 (-1) x (ok)).1) 2 2 hash0 k).s.valid ++ ([(.bool ((votesD ((proposeD ((startD D0).1) 2 (-1) x (ok)).1) 2 2 hash0 k).s.decided))] : List Value) ++ hc (votesD ((proposeD ((startD D0).1) 2 (-1) x (ok)).1) 2 2 hash0 k).s.decision ++ ([(.pointer (some ⟨t45, 0, none⟩)), (.map (some pb50)), (.bool ((votesD ((proposeD ((startD D0).1) 2 (-1) x (ok)).1) 2 2 hash0 k).wv)), (.bool ((votesD ((proposeD ((startD D0).1) 2 (-1) x (ok)).1) 2 2 hash0 k).sp)), (.bool ((votesD ((proposeD ((startD D0).1) 2 (-1) x (ok)).1) 2 2 hash0 k).sc))] : List Value)), talC t45 hb46 cb47 ab48 lb49 (votesD ((proposeD ((startD D0).1) 2 (-1) x (ok)).1) 2 2 hash0 k).f (votesD ((proposeD ((startD D0).1) 2 (-1) x (ok)).1) 2 2 hash0 k).c (votesD ((proposeD ((startD D0).1) 2 (-1) x (ok)).1) 2 2 hash0 k).L, mapC pb50 (Value.int .i64) propV (votesD ((proposeD ((startD D0).1) 2 (-1) x (ok)).1) 2 2 hash0 k).P, rowC 45 35 (.slice a58 (((startD D0).2).length) c59) (((startD D0).2).length) (((startD D0).2).flatMap encA), rowC 45 35 (.slice a67 (((proposeD ((startD D0).1) 2 (-1) x (ok)).2).length) c68) (((proposeD ((startD D0).1) 2 (-1) x (ok)).2).length) (((proposeD ((startD D0).1) 2 (-1) x (ok)).2).flatMap encA), rowC 45 35 (.slice a (votesA ((proposeD ((startD D0).1) 2 (-1) x (ok)).1) 2 2 hash0 k).length q) ((votesA ((proposeD ((startD D0).1) 2 (-1) x (ok)).1) 2 2 hash0 k).length) ((votesA ((proposeD ((startD D0).1) 2 (-1) x (ok)).1) 2 2 hash0 k).flatMap encA), cellC b102 36 (hc want)] W_) ?_ ?_
        · refine w_seq ?_
          refine w_lit ?_
          refine wl_pure (wants0 rfl) (d := 74) (v := (.bool (ok))) rfl (by kernel_rfl) ?_
          refine w_nil ?_
          refine then_normal ?_
          refine (bsplit (ok)).elim (fun b110 => ?_) (fun b110 => ?_)
          · refine wp_know 74 (.bool true) (congrArg Value.bool b110) ?_
            refine wp_ift rfl ?_
            refine w_lit ?_
            refine wl_pure (wants0 rfl) (d := 75) (v := (.agg ⟨(hc x)⟩)) rfl (e_loadN (vs := (hc x)) rfl (by kernel_rfl) (by kernel_rfl) (by exact Nat.le_of_ble_eq_true (by kernel_rfl)) (H107.at 1 rfl) (by kernel_rfl)) ?_
            refine wl_do (wants0 rfl) (fun K111 hK111 => ?_)
            refine d_storeX (vs := (hc x)) (cs' := (hc x)) rfl H107 9 rfl rfl rfl rfl (by kernel_rfl) (Nat.le_of_ble_eq_true (by kernel_rfl)) (Nat.le_of_ble_eq_true (by kernel_rfl)) (by kernel_rfl) (by kernel_rfl) ?_
            intro w112 (H113 : Sat w [restC w (fun _ => False), cellC b2 36 (hc x), cellC b10 25 ([(.int .i64 (F)), (.int .i64 (1))] : List Value), cellC k44 92 (([(.int .i64 ((votesD ((proposeD ((startD D0).1) 2 (-1) x (ok)).1) 2 2 hash0 k).f)), (.int .i64 ((votesD ((proposeD ((startD D0).1) 2 (-1) x (ok)).1) 2 2 hash0 k).c)), (.int .i64 ((votesD ((proposeD ((startD D0).1) 2 (-1) x (ok)).1) 2 2 hash0 k).epoch)), (.int .i64 ((votesD ((proposeD ((startD D0).1) 2 (-1) x (ok)).1) 2 2 hash0 k).replica)), (.int .i64 ((votesD ((proposeD ((startD D0).1) 2 (-1) x (ok)).1) 2 2 hash0 k).s.round)), (.int .i64 ((votesD ((proposeD ((startD D0).1) 2 (-1) x (ok)).1) 2 2 hash0 k).s.step)), (.int .i64 ((votesD ((proposeD ((startD D0).1) 2 (-1) x (ok)).1) 2 2 hash0 k).s.lr)), (.int .i64 ((votesD ((proposeD ((startD D0).1) 2 (-1) x (ok)).1) 2 2 hash0 k).s.vr))] : List Value) ++ hc (votesD ((proposeD ((startD D0).1) 2 (-1) x (ok)).1) 2 2 hash0 k).s.locked ++ hc (votesD ((proposeD ((startD D0).1) 2 (-1) x (ok)).1) 2 2 hash0 k).s.valid ++ ([(.bool ((votesD ((proposeD ((startD D0).1) 2 (-1) x (ok)).1) 2 2 hash0 k).s.decided))] : List Value) ++ hc (votesD ((proposeD ((startD D0).1) 2 (-1) x (ok)).1) 2 2 hash0 k).s.decision ++ ([(.pointer (some ⟨t45, 0, none⟩)), (.map (some pb50)), (.bool ((votesD ((proposeD ((startD D0).1) 2 (-1) x (ok)).1) 2 2 hash0 k).wv)), (.bool ((votesD ((proposeD ((startD D0).1) 2 (-1) x (ok)).1) 2 2 hash0 k).sp)), (.bool ((votesD ((proposeD ((startD D0).1) 2 (-1) x (ok)).1) 2 2 hash0 k).sc))] : List Value)), talC t45 hb46 cb47 ab48 lb49 (votesD ((proposeD ((startD D0).1) 2 (-1) x (ok)).1) 2 2 hash0 k).f (votesD ((proposeD ((startD D0).1) 2 (-1) x (ok)).1) 2 2 hash0 k).c (votesD ((proposeD ((startD D0).1) 2 (-1) x (ok)).1) 2 2 hash0 k).L, mapC pb50 (Value.int .i64) propV (votesD ((proposeD ((startD D0).1) 2 (-1) x (ok)).1) 2 2 hash0 k).P, rowC 45 35 (.slice a58 (((startD D0).2).length) c59) (((startD D0).2).length) (((startD D0).2).flatMap encA), rowC 45 35 (.slice a67 (((proposeD ((startD D0).1) 2 (-1) x (ok)).2).length) c68) (((proposeD ((startD D0).1) 2 (-1) x (ok)).2).length) (((proposeD ((startD D0).1) 2 (-1) x (ok)).2).flatMap encA), rowC 45 35 (.slice a (votesA ((proposeD ((startD D0).1) 2 (-1) x (ok)).1) 2 2 hash0 k).length q) ((votesA ((proposeD ((startD D0).1) 2 (-1) x (ok)).1) 2 2 hash0 k).length) ((votesA ((proposeD ((startD D0).1) 2 (-1) x (ok)).1) 2 2 hash0 k).flatMap encA), cellC b102 36 (hc x)] w112)
            refine hK111 _ _ ?_
            clear hK111 K111
            refine w_nil ?_
            have H115 : Sat w [restC w (fun _ => False), cellC b2 36 (hc x), cellC b10 25 ([(.int .i64 (F)), (.int .i64 (1))] : List Value), cellC k44 92 (([(.int .i64 ((votesD ((proposeD ((startD D0).1) 2 (-1) x (ok)).1) 2 2 hash0 k).f)), (.int .i64 ((votesD ((proposeD ((startD D0).1) 2 (-1) x (ok)).1) 2 2 hash0 k).c)), (.int .i64 ((votesD ((proposeD ((startD D0).1) 2 (-1) x (ok)).1) 2 2 hash0 k).epoch)), (.int .i64 ((votesD ((proposeD ((startD D0).1) 2 (-1) x (ok)).1) 2 2 hash0 k).replica)), (.int .i64 ((votesD ((proposeD ((startD D0).1) 2 (-1) x (ok)).1) 2 2 hash0 k).s.round)), (.int .i64 ((votesD ((proposeD ((startD D0).1) 2 (-1) x (ok)).1) 2 2 hash0 k).s.step)), (.int .i64 ((votesD ((proposeD ((startD D0).1) 2 (-1) x (ok)).1) 2 2 hash0 k).s.lr)), (.int .i64 ((votesD ((proposeD ((startD D0).1) 2 (-1) x (ok)).1) 2 2 hash0 k).s.vr))] : List Value) ++ hc (votesD ((proposeD ((startD D0).1) 2 (-1) x (ok)).1) 2 2 hash0 k).s.locked ++ hc (votesD ((proposeD ((startD D0).1) 2 (-1) x (ok)).1) 2 2 hash0 k).s.valid ++ ([(.bool ((votesD ((proposeD ((startD D0).1) 2 (-1) x (ok)).1) 2 2 hash0 k).s.decided))] : List Value) ++ hc (votesD ((proposeD ((startD D0).1) 2 (-1) x (ok)).1) 2 2 hash0 k).s.decision ++ ([(.pointer (some ⟨t45, 0, none⟩)), (.map (some pb50)), (.bool ((votesD ((proposeD ((startD D0).1) 2 (-1) x (ok)).1) 2 2 hash0 k).wv)), (.bool ((votesD ((proposeD ((startD D0).1) 2 (-1) x (ok)).1) 2 2 hash0 k).sp)), (.bool ((votesD ((proposeD ((startD D0).1) 2 (-1) x (ok)).1) 2 2 hash0 k).sc))] : List Value)), talC t45 hb46 cb47 ab48 lb49 (votesD ((proposeD ((startD D0).1) 2 (-1) x (ok)).1) 2 2 hash0 k).f (votesD ((proposeD ((startD D0).1) 2 (-1) x (ok)).1) 2 2 hash0 k).c (votesD ((proposeD ((startD D0).1) 2 (-1) x (ok)).1) 2 2 hash0 k).L, mapC pb50 (Value.int .i64) propV (votesD ((proposeD ((startD D0).1) 2 (-1) x (ok)).1) 2 2 hash0 k).P, rowC 45 35 (.slice a58 (((startD D0).2).length) c59) (((startD D0).2).length) (((startD D0).2).flatMap encA), rowC 45 35 (.slice a67 (((proposeD ((startD D0).1) 2 (-1) x (ok)).2).length) c68) (((proposeD ((startD D0).1) 2 (-1) x (ok)).2).length) (((proposeD ((startD D0).1) 2 (-1) x (ok)).2).flatMap encA), rowC 45 35 (.slice a (votesA ((proposeD ((startD D0).1) 2 (-1) x (ok)).1) 2 2 hash0 k).length q) ((votesA ((proposeD ((startD D0).1) 2 (-1) x (ok)).1) 2 2 hash0 k).length) ((votesA ((proposeD ((startD D0).1) 2 (-1) x (ok)).1) 2 2 hash0 k).flatMap encA), cellC b102 36 (hc want)] w112 := H113.cast (by rw [hwant, b110]; rfl)
            refine meetR_at ?_ ⟨trivial, H115⟩
            exact (same_upd rfl (same_upd rfl (same_upd rfl (same_refl))))
          · refine wp_know 74 (.bool false) (congrArg Value.bool b110) ?_
            refine wp_iff rfl ?_
            refine w_skip ?_
            have H116 : Sat w [restC w (fun _ => False), cellC b2 36 (hc x), cellC b10 25 ([(.int .i64 (F)), (.int .i64 (1))] : List Value), cellC k44 92 (([(.int .i64 ((votesD ((proposeD ((startD D0).1) 2 (-1) x (ok)).1) 2 2 hash0 k).f)), (.int .i64 ((votesD ((proposeD ((startD D0).1) 2 (-1) x (ok)).1) 2 2 hash0 k).c)), (.int .i64 ((votesD ((proposeD ((startD D0).1) 2 (-1) x (ok)).1) 2 2 hash0 k).epoch)), (.int .i64 ((votesD ((proposeD ((startD D0).1) 2 (-1) x (ok)).1) 2 2 hash0 k).replica)), (.int .i64 ((votesD ((proposeD ((startD D0).1) 2 (-1) x (ok)).1) 2 2 hash0 k).s.round)), (.int .i64 ((votesD ((proposeD ((startD D0).1) 2 (-1) x (ok)).1) 2 2 hash0 k).s.step)), (.int .i64 ((votesD ((proposeD ((startD D0).1) 2 (-1) x (ok)).1) 2 2 hash0 k).s.lr)), (.int .i64 ((votesD ((proposeD ((startD D0).1) 2 (-1) x (ok)).1) 2 2 hash0 k).s.vr))] : List Value) ++ hc (votesD ((proposeD ((startD D0).1) 2 (-1) x (ok)).1) 2 2 hash0 k).s.locked ++ hc (votesD ((proposeD ((startD D0).1) 2 (-1) x (ok)).1) 2 2 hash0 k).s.valid ++ ([(.bool ((votesD ((proposeD ((startD D0).1) 2 (-1) x (ok)).1) 2 2 hash0 k).s.decided))] : List Value) ++ hc (votesD ((proposeD ((startD D0).1) 2 (-1) x (ok)).1) 2 2 hash0 k).s.decision ++ ([(.pointer (some ⟨t45, 0, none⟩)), (.map (some pb50)), (.bool ((votesD ((proposeD ((startD D0).1) 2 (-1) x (ok)).1) 2 2 hash0 k).wv)), (.bool ((votesD ((proposeD ((startD D0).1) 2 (-1) x (ok)).1) 2 2 hash0 k).sp)), (.bool ((votesD ((proposeD ((startD D0).1) 2 (-1) x (ok)).1) 2 2 hash0 k).sc))] : List Value)), talC t45 hb46 cb47 ab48 lb49 (votesD ((proposeD ((startD D0).1) 2 (-1) x (ok)).1) 2 2 hash0 k).f (votesD ((proposeD ((startD D0).1) 2 (-1) x (ok)).1) 2 2 hash0 k).c (votesD ((proposeD ((startD D0).1) 2 (-1) x (ok)).1) 2 2 hash0 k).L, mapC pb50 (Value.int .i64) propV (votesD ((proposeD ((startD D0).1) 2 (-1) x (ok)).1) 2 2 hash0 k).P, rowC 45 35 (.slice a58 (((startD D0).2).length) c59) (((startD D0).2).length) (((startD D0).2).flatMap encA), rowC 45 35 (.slice a67 (((proposeD ((startD D0).1) 2 (-1) x (ok)).2).length) c68) (((proposeD ((startD D0).1) 2 (-1) x (ok)).2).length) (((proposeD ((startD D0).1) 2 (-1) x (ok)).2).flatMap encA), rowC 45 35 (.slice a (votesA ((proposeD ((startD D0).1) 2 (-1) x (ok)).1) 2 2 hash0 k).length q) ((votesA ((proposeD ((startD D0).1) 2 (-1) x (ok)).1) 2 2 hash0 k).length) ((votesA ((proposeD ((startD D0).1) 2 (-1) x (ok)).1) 2 2 hash0 k).flatMap encA), cellC b102 36 (hc want)] w106 := H107.cast (by rw [hwant, b110]; rfl)
            refine meetR_at ?_ ⟨trivial, H116⟩
            exact (same_upd rfl (same_upd rfl (same_refl)))
        · rintro f117 w118 ⟨_, H119⟩
          refine w_seq ?_
          refine w_lit ?_
          refine wl_pure (wants0 rfl) (d := 16) (v := (.int .i64 (0))) rfl (by kernel_rfl) ?_
          refine w_nil ?_
          refine then_normal ?_
          refine w_seq ?_
          refine w_seq ?_
          refine w_lit ?_
          refine wl_pure (wants0 rfl) (d := 76) (v := (.slice a (votesA ((proposeD ((startD D0).1) 2 (-1) x (ok)).1) 2 2 hash0 k).length q)) rfl (by kernel_rfl) ?_
          refine wl_pure (wants0 rfl) (d := 77) (v := (.int .i64 (((votesA ((proposeD ((startD D0).1) 2 (-1) x (ok)).1) 2 2 hash0 k).length : Int)))) rfl (by kernel_rfl) ?_
          refine wl_pure (wants0 rfl) (d := 78) (v := (.int .i64 (0))) rfl (by kernel_rfl) ?_
          refine w_nil ?_
          refine then_normal ?_
          refine w_block ?_
          have hLO : LaterOk want (votesA ((proposeD ((startD D0).1) 2 (-1) x (ok)).1) 2 2 hash0 k) (votesD ((proposeD ((startD D0).1) 2 (-1) x (ok)).1) 2 2 hash0 k) := by first | exact hE | exact hL
          refine wp_round [8, 16, 17, 78, 79, 80, 81, 82, 83, 84, 85, 86, 87, 88, 89, 90, 91, 92, 93, 94, 95, 96, 97, 98, 99, 100, 101, 102, 103, 104] (fun F_ W_ m_ => ∃ (i : Nat), F_ 78 = (.int .i64 ((i : Int))) ∧ F_ 16 = (.int .i64 (((((votesA ((proposeD ((startD D0).1) 2 (-1) x (ok)).1) 2 2 hash0 k).take i).countP fun a => decide (a.kind = 2) : Nat) : Int))) ∧ (i ≤ (votesA ((proposeD ((startD D0).1) 2 (-1) x (ok)).1) 2 2 hash0 k).length) ∧ Sat w [restC w (fun _ => False), cellC b2 36 (hc x), cellC b10 25 ([(.int .i64 (F)), (.int .i64 (1))] : List Value), cellC k44 92 (([(.int .i64 ((votesD ((proposeD ((startD D0).1) 2 (-1) x (ok)).1) 2 2 hash0 k).f)), (.int .i64 ((votesD ((proposeD ((startD D0).1) 2 (-1) x (ok)).1) 2 2 hash0 k).c)), (.int .i64 ((votesD ((proposeD ((startD D0).1) 2 (-1) x (ok)).1) 2 2 hash0 k).epoch)), (.int .i64 ((votesD ((proposeD ((startD D0).1) 2 (-1) x (ok)).1) 2 2 hash0 k).replica)), (.int .i64 ((votesD ((proposeD ((startD D0).1) 2 (-1) x (ok)).1) 2 2 hash0 k).s.round)), (.int .i64 ((votesD ((proposeD ((startD D0).1) 2 (-1) x (ok)).1) 2 2 hash0 k).s.step)), (.int .i64 ((votesD ((proposeD ((startD D0).1) 2 (-1) x (ok)).1) 2 2 hash0 k).s.lr)), (.int .i64 ((votesD ((proposeD ((startD D0).1) 2 (-1) x (ok)).1) 2 2 hash0 k).s.vr))] : List Value) ++ hc (votesD ((proposeD ((startD D0).1) 2 (-1) x (ok)).1) 2 2 hash0 k).s.locked ++ hc (votesD ((proposeD ((startD D0).1) 2 (-1) x (ok)).1) 2 2 hash0 k).s.valid ++ ([(.bool ((votesD ((proposeD ((startD D0).1) 2 (-1) x (ok)).1) 2 2 hash0 k).s.decided))] : List Value) ++ hc (votesD ((proposeD ((startD D0).1) 2 (-1) x (ok)).1) 2 2 hash0 k).s.decision ++ ([(.pointer (some ⟨t45, 0, none⟩)), (.map (some pb50)), (.bool ((votesD ((proposeD ((startD D0).1) 2 (-1) x (ok)).1) 2 2 hash0 k).wv)), (.bool ((votesD ((proposeD ((startD D0).1) 2 (-1) x (ok)).1) 2 2 hash0 k).sp)), (.bool ((votesD ((proposeD ((startD D0).1) 2 (-1) x (ok)).1) 2 2 hash0 k).sc))] : List Value)), talC t45 hb46 cb47 ab48 lb49 (votesD ((proposeD ((startD D0).1) 2 (-1) x (ok)).1) 2 2 hash0 k).f (votesD ((proposeD ((startD D0).1) 2 (-1) x (ok)).1) 2 2 hash0 k).c (votesD ((proposeD ((startD D0).1) 2 (-1) x (ok)).1) 2 2 hash0 k).L, mapC pb50 (Value.int .i64) propV (votesD ((proposeD ((startD D0).1) 2 (-1) x (ok)).1) 2 2 hash0 k).P, rowC 45 35 (.slice a58 (((startD D0).2).length) c59) (((startD D0).2).length) (((startD D0).2).flatMap encA), rowC 45 35 (.slice a67 (((proposeD ((startD D0).1) 2 (-1) x (ok)).2).length) c68) (((proposeD ((startD D0).1) 2 (-1) x (ok)).2).length) (((proposeD ((startD D0).1) 2 (-1) x (ok)).2).flatMap encA), rowC 45 35 (.slice a (votesA ((proposeD ((startD D0).1) 2 (-1) x (ok)).1) 2 2 hash0 k).length q) ((votesA ((proposeD ((startD D0).1) 2 (-1) x (ok)).1) 2 2 hash0 k).length) ((votesA ((proposeD ((startD D0).1) 2 (-1) x (ok)).1) 2 2 hash0 k).flatMap encA), cellC b102 36 (hc want)] W_ ∧ m_ = (votesA ((proposeD ((startD D0).1) 2 (-1) x (ok)).1) 2 2 hash0 k).length - i) _ ⟨0, (by first | rfl | go_num), (by first | rfl | go_num), (Nat.zero_le _), H119, rfl⟩ ?_
          rintro g120 w121 _ ⟨i, v123, v124, hi, H122, rfl⟩
          refine wp_know 78 _ v123 ?_
          refine wp_know 16 _ v124 ?_
          have hcl := take_count_le (votesA ((proposeD ((startD D0).1) 2 (-1) x (ok)).1) 2 2 hash0 k) i (fun a => decide (a.kind = 2))
          have hAl : (votesA ((proposeD ((startD D0).1) 2 (-1) x (ok)).1) 2 2 hash0 k).length ≤ 100000000 := by first | omega | (simp only [List.length_append]; omega)
          refine w_seq ?_
          refine w_lit ?_
          refine wl_pure (wants0 rfl) (d := 79) (v := (.bool (decide ((i : Int) < ((votesA ((proposeD ((startD D0).1) 2 (-1) x (ok)).1) 2 2 hash0 k).length : Int))))) rfl (by kernel_rfl) ?_
          refine w_nil ?_
          refine then_normal ?_
          refine w_seq ?_
          refine (bsplit (decide ((i : Int) < ((votesA ((proposeD ((startD D0).1) 2 (-1) x (ok)).1) 2 2 hash0 k).length : Int)))).elim (fun b126 => ?_) (fun b126 => ?_)
          · have g127 := of_decide_eq_true b126
            refine wp_know 79 (.bool true) (congrArg Value.bool b126) ?_
            have g128 := of_decide_eq_true b126
            refine wp_ift rfl ?_
            refine w_skip ?_
            refine then_normal ?_
            refine w_seq ?_
            refine w_block ?_
            refine w_seq ?_
            refine w_lit ?_
            refine wl_pure (wants0 rfl) (d := 80) (v := (.int .i64 ((i : Int)))) rfl (by kernel_rfl) ?_
            refine wl_pure (wants0 rfl) (d := 17) (v := (.int .i64 ((i : Int)))) rfl (by kernel_rfl) ?_
            refine w_nil ?_
            refine then_normal ?_
            refine w_seq ?_
            refine w_lit ?_
            refine wl_pure (wants0 rfl) (d := 81) (v := (.slice a (votesA ((proposeD ((startD D0).1) 2 (-1) x (ok)).1) 2 2 hash0 k).length q)) rfl (by kernel_rfl) ?_
            refine wl_pure (wants0 rfl) (d := 82) (v := (.int .i64 ((i : Int)))) rfl (by kernel_rfl) ?_
            obtain ⟨g129, c130, e131⟩ := row_shape (H122.at 8 rfl) (by omega)
            obtain ⟨x132, h133⟩ := get_at (show i < (votesA ((proposeD ((startD D0).1) 2 (-1) x (ok)).1) 2 2 hash0 k).length by omega)
            refine wl_pure (wants0 rfl) (d := 83) (v := (.pointer (some ⟨g129, 0 + ((i : Int)).toNat * 35, none⟩))) rfl (e_indexAddrV (E := 45) (by kernel_rfl) (by kernel_rfl) (Nat.le_of_ble_eq_true rfl) rfl e131 rfl (by omega) (by omega)) ?_
            refine wl_pure (wants0 rfl) (d := 84) (v := (.pointer (some ⟨g129, 0 + ((i : Int)).toNat * 35, none⟩))) rfl (by kernel_rfl) ?_
            refine wl_pure (wants0 rfl) (d := 85) (v := (.int .i64 (x132.kind))) rfl (e_load1 rfl (by kernel_rfl) (rows_cell (H122.at 8 rfl) e131 encA_len h133 0 rfl (show 0 + ((i : Int)).toNat * 35 = i * 35 + 0 by omega) (by kernel_rfl))) ?_
            refine wl_pure (wants0 rfl) (d := 86) (v := (.bool (decide (x132.kind = 2)))) rfl (by kernel_rfl) ?_
            refine w_nil ?_
            refine then_normal ?_
            refine (bsplit (decide (x132.kind = 2))).elim (fun b134 => ?_) (fun b134 => ?_)
            · have g135 := of_decide_eq_true b134
              refine wp_know 86 (.bool true) (congrArg Value.bool b134) ?_
              have g136 := of_decide_eq_true b134
              refine wp_ift rfl ?_
              refine w_seq ?_
              refine w_lit ?_
              refine wl_pure (wants0 rfl) (d := 87) (v := (.int .i64 (((((votesA ((proposeD ((startD D0).1) 2 (-1) x (ok)).1) 2 2 hash0 k).take i).countP fun a => decide (a.kind = 2) : Nat) : Int)))) rfl (by kernel_rfl) ?_
              refine wl_pure (wants0 rfl) (d := 88) (v := (.int .i64 (((((votesA ((proposeD ((startD D0).1) 2 (-1) x (ok)).1) 2 2 hash0 k).take i).countP fun a => decide (a.kind = 2) : Nat) : Int) + 1))) rfl (e_int (z := ((((votesA ((proposeD ((startD D0).1) 2 (-1) x (ok)).1) 2 2 hash0 k).take i).countP fun a => decide (a.kind = 2) : Nat) : Int) + 1) (by kernel_rfl) (IntWalk.i64_in _ (by omega))) ?_
              refine wl_pure (wants0 rfl) (d := 16) (v := (.int .i64 (((((votesA ((proposeD ((startD D0).1) 2 (-1) x (ok)).1) 2 2 hash0 k).take i).countP fun a => decide (a.kind = 2) : Nat) : Int) + 1))) rfl (by kernel_rfl) ?_
              refine w_nil ?_
              refine then_normal ?_
              refine w_seq ?_
              refine q_start H122 (by kernel_rfl) (by kernel_rfl) ?_
              refine q_val (wants0 rfl) (d := 89) (v := (.slice a (votesA ((proposeD ((startD D0).1) 2 (-1) x (ok)).1) 2 2 hash0 k).length q)) rfl (fun _ H' => (by kernel_rfl)) ?_
              refine q_val (wants0 rfl) (d := 90) (v := (.int .i64 ((i : Int)))) rfl (fun _ H' => (by kernel_rfl)) ?_
              refine q_val (wants0 rfl) (d := 91) (v := (.pointer (some ⟨g129, 0 + ((i : Int)).toNat * 35, none⟩))) rfl (fun _ H' => (e_indexAddrV (E := 45) (by kernel_rfl) (by kernel_rfl) (Nat.le_of_ble_eq_true rfl) rfl e131 rfl (by omega) (by omega))) ?_
              refine q_val (wants0 rfl) (d := 92) (v := (.pointer (some ⟨g129, 0 + ((i : Int)).toNat * 35 + 1, none⟩))) rfl (fun _ H' => (by kernel_rfl)) ?_
              refine q_val (wants0 rfl) (d := 93) (v := (.int .i64 (x132.round))) rfl (fun _ H' => (e_load1 rfl (by kernel_rfl) (rows_cell (H'.at 8 rfl) e131 encA_len h133 1 rfl (show 0 + ((i : Int)).toNat * 35 + 1 = i * 35 + 1 by omega) (by kernel_rfl)))) ?_
              refine q_val (wants0 rfl) (d := 94) (v := (.bool (!(decide (x132.round = 2))))) rfl (fun _ H' => (by kernel_rfl)) ?_
              refine q_val (wants0 rfl) (d := 95) (v := (.bool (!(decide (x132.round = 2))))) rfl (fun _ H' => (by kernel_rfl)) ?_
              have b137 : (!(decide (x132.round = 2))) = false := by (have q := hLO.all _ (List.mem_of_getElem? h133) (of_decide_eq_true (by assumption)); rw [q.1]; rfl)
              refine q_know 95 (.bool false) (congrArg Value.bool b137) ?_
              refine q_val (wantsY 6 95 false rfl (by kernel_rfl) rfl (by kernel_rfl)) (d := 96) (v := (.slice a (votesA ((proposeD ((startD D0).1) 2 (-1) x (ok)).1) 2 2 hash0 k).length q)) rfl (fun _ H' => (by kernel_rfl)) ?_
              refine q_val (wantsY 6 95 false rfl (by kernel_rfl) rfl (by kernel_rfl)) (d := 97) (v := (.int .i64 ((i : Int)))) rfl (fun _ H' => (by kernel_rfl)) ?_
              refine q_val (wantsY 6 95 false rfl (by kernel_rfl) rfl (by kernel_rfl)) (d := 98) (v := (.pointer (some ⟨g129, 0 + ((i : Int)).toNat * 35, none⟩))) rfl (fun _ H' => (e_indexAddrV (E := 45) (by kernel_rfl) (by kernel_rfl) (Nat.le_of_ble_eq_true rfl) rfl e131 rfl (by omega) (by omega))) ?_
              refine q_val (wantsY 6 95 false rfl (by kernel_rfl) rfl (by kernel_rfl)) (d := 99) (v := (.pointer (some ⟨g129, 0 + ((i : Int)).toNat * 35 + 3, none⟩))) rfl (fun _ H' => (by kernel_rfl)) ?_
              refine q_val (wantsY 6 95 false rfl (by kernel_rfl) rfl (by kernel_rfl)) (d := 100) (v := (.agg ⟨(hc x132.h)⟩)) rfl (fun _ H' => (e_loadRun (vs := (hc x132.h)) rfl (by kernel_rfl) (by kernel_rfl) (Nat.le_of_ble_eq_true (by kernel_rfl)) (rows_run (H'.at 8 rfl) e131 encA_len h133 3 (show 0 + ((i : Int)).toNat * 35 + 3 = i * 35 + 3 by omega) (by kernel_rfl) (by kernel_rfl)))) ?_
              refine q_val (wantsY 6 95 false rfl (by kernel_rfl) rfl (by kernel_rfl)) (d := 101) (v := (.agg ⟨(hc want)⟩)) rfl (fun _ H' => (e_loadN (vs := (hc want)) rfl (by kernel_rfl) (by kernel_rfl) (by exact Nat.le_of_ble_eq_true (by kernel_rfl)) (H'.at 9 rfl) (by kernel_rfl))) ?_
              refine q_val (wantsY 6 95 false rfl (by kernel_rfl) rfl (by kernel_rfl)) (d := 102) (v := (.bool (!(decide (x132.h = want))))) rfl (fun _ H' => (e_neHash x132.h want rfl rfl)) ?_
              refine q_val (wants0 rfl) (d := 103) (v := (.bool (!(decide (x132.h = want))))) rfl (fun _ H' => (by kernel_rfl)) ?_
              refine q_end ?_
              intro w138 H139
              refine then_normal ?_
              have b140 : (!(decide (x132.h = want))) = false := by (have q := hLO.all _ (List.mem_of_getElem? h133) (of_decide_eq_true (by assumption)); rw [q.2]; simp)
              refine wp_know 103 (.bool false) (congrArg Value.bool b140) ?_
              have g141 := bnot_false b140
              have g142 := of_decide_eq_true g141
              refine wp_iff rfl ?_
              refine w_skip ?_
              refine blk_normal ?_
              refine then_normal ?_
              refine w_lit ?_
              refine wl_pure (wants0 rfl) (d := 104) (v := (.int .i64 ((i : Int) + 1))) rfl (e_int (z := (i : Int) + 1) (by kernel_rfl) (IntWalk.i64_in _ (by omega))) ?_
              refine wl_pure (wants0 rfl) (d := 78) (v := (.int .i64 ((i : Int) + 1))) rfl (by kernel_rfl) ?_
              refine w_nil ?_
              have hcnt := take_count (p := fun a : ActD => decide (a.kind = 2)) h133
              simp only [show decide (x132.kind = 2) = true from b134, cond_true, cond_false] at hcnt
              refine round_back ?_ _ ⟨(i + 1), (show ((.int .i64 ((i : Int) + 1)) : Value) = _ by first | rfl | (rw [hcnt]; rfl) | (rw [hcnt]; simp)), (show ((.int .i64 (((((votesA ((proposeD ((startD D0).1) 2 (-1) x (ok)).1) 2 2 hash0 k).take i).countP fun a => decide (a.kind = 2) : Nat) : Int) + 1)) : Value) = _ by first | rfl | (rw [hcnt]; rfl) | (rw [hcnt]; simp)), (by omega), H139, rfl⟩ (by omega)
              exact (same_upd rfl (same_upd rfl (same_upd rfl (same_upd rfl (same_upd rfl (same_upd rfl (same_upd rfl (same_upd rfl (same_upd rfl (same_upd rfl (same_upd rfl (same_upd rfl (same_upd rfl (same_upd rfl (same_upd rfl (same_upd rfl (same_upd rfl (same_upd rfl (same_upd rfl (same_upd rfl (same_upd rfl (same_upd rfl (same_upd rfl (same_upd rfl (same_upd rfl (same_upd rfl (same_upd rfl (same_upd rfl (same_upd rfl (same_upd rfl (same_upd rfl (same_upd rfl (same_upd rfl (same_upd rfl (same_upd rfl (same_ovr))))))))))))))))))))))))))))))))))))
            · have g143 := of_decide_eq_false b134
              refine wp_know 86 (.bool false) (congrArg Value.bool b134) ?_
              have g144 := of_decide_eq_false b134
              refine wp_iff rfl ?_
              refine w_skip ?_
              refine blk_normal ?_
              refine then_normal ?_
              refine w_lit ?_
              refine wl_pure (wants0 rfl) (d := 104) (v := (.int .i64 ((i : Int) + 1))) rfl (e_int (z := (i : Int) + 1) (by kernel_rfl) (IntWalk.i64_in _ (by omega))) ?_
              refine wl_pure (wants0 rfl) (d := 78) (v := (.int .i64 ((i : Int) + 1))) rfl (by kernel_rfl) ?_
              refine w_nil ?_
              have hcnt := take_count (p := fun a : ActD => decide (a.kind = 2)) h133
              simp only [show decide (x132.kind = 2) = false from b134, cond_true, cond_false] at hcnt
              refine round_back ?_ _ ⟨(i + 1), (show ((.int .i64 ((i : Int) + 1)) : Value) = _ by first | rfl | (rw [hcnt]; rfl) | (rw [hcnt]; simp)), (show ((.int .i64 (((((votesA ((proposeD ((startD D0).1) 2 (-1) x (ok)).1) 2 2 hash0 k).take i).countP fun a => decide (a.kind = 2) : Nat) : Int))) : Value) = _ by first | rfl | (rw [hcnt]; rfl) | (rw [hcnt]; simp)), (by omega), H122, rfl⟩ (by omega)
              exact (same_upd rfl (same_upd rfl (same_upd rfl (same_upd rfl (same_upd rfl (same_upd rfl (same_upd rfl (same_upd rfl (same_upd rfl (same_upd rfl (same_upd rfl (same_upd rfl (same_upd rfl (same_upd rfl (same_upd rfl (same_ovr))))))))))))))))
          · have g145 := of_decide_eq_false b126
            refine wp_know 79 (.bool false) (congrArg Value.bool b126) ?_
            have g146 := of_decide_eq_false b126
            refine wp_iff rfl ?_
            refine w_exit ?_
            refine then_exit ?_
            refine back_exit ?_
            refine blk_hit ?_
            refine then_normal ?_
            refine w_seq ?_
            have hie : i = (votesA ((proposeD ((startD D0).1) 2 (-1) x (ok)).1) 2 2 hash0 k).length := by have := of_decide_eq_false b126; omega
            refine w_lit ?_
            refine wl_pure (wants0 rfl) (d := 105) (v := (.int .i64 (((((votesA ((proposeD ((startD D0).1) 2 (-1) x (ok)).1) 2 2 hash0 k).take i).countP fun a => decide (a.kind = 2) : Nat) : Int)))) rfl (by kernel_rfl) ?_
            refine wl_pure (wants0 rfl) (d := 106) (v := (.bool (decide (((((votesA ((proposeD ((startD D0).1) 2 (-1) x (ok)).1) 2 2 hash0 k).take i).countP fun a => decide (a.kind = 2) : Nat) : Int) = 1)))) rfl (by kernel_rfl) ?_
            refine wl_pure (wants0 rfl) (d := 107) (v := (.bool (decide (((((votesA ((proposeD ((startD D0).1) 2 (-1) x (ok)).1) 2 2 hash0 k).take i).countP fun a => decide (a.kind = 2) : Nat) : Int) = 1)))) rfl (by kernel_rfl) ?_
            have b147 : (decide (((((votesA ((proposeD ((startD D0).1) 2 (-1) x (ok)).1) 2 2 hash0 k).take i).countP fun a => decide (a.kind = 2) : Nat) : Int) = 1)) = true := by (rw [hie, List.take_of_length_le (Nat.le_refl _), hLO.one]; rfl)
            refine wl_know 107 (.bool true) (congrArg Value.bool b147) ?_
            refine wl_pure (wantsY 2 107 true rfl (by kernel_rfl) rfl (by kernel_rfl)) (d := 108) (v := (.pointer (some ⟨k44, 0, none⟩))) rfl (by kernel_rfl) ?_
            refine wl_do (wantsY 2 107 true rfl (by kernel_rfl) rfl (by kernel_rfl)) (fun K148 hK148 => ?_)
            refine d_call (d := 109) rfl (by kernel_rfl) (coreState_any w121 k44 t45 hb46 cb47 ab48 lb49 pb50 (votesD ((proposeD ((startD D0).1) 2 (-1) x (ok)).1) 2 2 hash0 k) (ok_of (by kernel_rfl) (H122.fin [3, 4, 5] (by decide) rfl)) (votesCI (C0.start.propose 2 (-1) x (ok)) 2 2 hash0 k)) ?_
            rintro _ w149 ⟨rfl, u151⟩
            have H150 := H122.keepU u151
            refine ⟨_, rfl, ?_⟩
            refine hK148 _ _ ?_
            clear hK148 K148
            refine wl_pure (wantsY 2 107 true rfl (by kernel_rfl) rfl (by kernel_rfl)) (d := 110) (v := (.int .i64 ((votesD ((proposeD ((startD D0).1) 2 (-1) x (ok)).1) 2 2 hash0 k).s.round))) rfl (by kernel_rfl) ?_
            refine wl_pure (wantsY 2 107 true rfl (by kernel_rfl) rfl (by kernel_rfl)) (d := 111) (v := (.bool (decide (((votesD ((proposeD ((startD D0).1) 2 (-1) x (ok)).1) 2 2 hash0 k).s.round) = 2)))) rfl (by kernel_rfl) ?_
            refine wl_pure (wants0 rfl) (d := 112) (v := (.bool (decide (((votesD ((proposeD ((startD D0).1) 2 (-1) x (ok)).1) 2 2 hash0 k).s.round) = 2)))) rfl (by kernel_rfl) ?_
            refine wl_pure (wants0 rfl) (d := 113) (v := (.bool (decide (((votesD ((proposeD ((startD D0).1) 2 (-1) x (ok)).1) 2 2 hash0 k).s.round) = 2)))) rfl (by kernel_rfl) ?_
            have b152 : (decide (((votesD ((proposeD ((startD D0).1) 2 (-1) x (ok)).1) 2 2 hash0 k).s.round) = 2)) = true := by (rw [hLO.rd]; rfl)
            refine wl_know 113 (.bool true) (congrArg Value.bool b152) ?_
            refine wl_pure (wantsY 8 113 true rfl (by kernel_rfl) rfl (by kernel_rfl)) (d := 114) (v := (.pointer (some ⟨k44, 0, none⟩))) rfl (by kernel_rfl) ?_
            refine wl_do (wantsY 8 113 true rfl (by kernel_rfl) rfl (by kernel_rfl)) (fun K153 hK153 => ?_)
            refine d_call (d := 115) rfl (by kernel_rfl) (coreState_any w149 k44 t45 hb46 cb47 ab48 lb49 pb50 (votesD ((proposeD ((startD D0).1) 2 (-1) x (ok)).1) 2 2 hash0 k) (ok_of (by kernel_rfl) (H150.fin [3, 4, 5] (by decide) rfl)) (votesCI (C0.start.propose 2 (-1) x (ok)) 2 2 hash0 k)) ?_
            rintro _ w154 ⟨rfl, u156⟩
            have H155 := H150.keepU u156
            refine ⟨_, rfl, ?_⟩
            refine hK153 _ _ ?_
            clear hK153 K153
            refine wl_pure (wantsY 8 113 true rfl (by kernel_rfl) rfl (by kernel_rfl)) (d := 116) (v := (.int .i64 ((votesD ((proposeD ((startD D0).1) 2 (-1) x (ok)).1) 2 2 hash0 k).s.step))) rfl (by kernel_rfl) ?_
            refine wl_pure (wantsY 8 113 true rfl (by kernel_rfl) rfl (by kernel_rfl)) (d := 117) (v := (.bool (decide (((votesD ((proposeD ((startD D0).1) 2 (-1) x (ok)).1) 2 2 hash0 k).s.step) = 2)))) rfl (by kernel_rfl) ?_
            refine wl_pure (wants0 rfl) (d := 118) (v := (.bool (decide (((votesD ((proposeD ((startD D0).1) 2 (-1) x (ok)).1) 2 2 hash0 k).s.step) = 2)))) rfl (by kernel_rfl) ?_
            refine wl_pure (wants0 rfl) (d := 119) (v := (.bool (decide (((votesD ((proposeD ((startD D0).1) 2 (-1) x (ok)).1) 2 2 hash0 k).s.step) = 2)))) rfl (by kernel_rfl) ?_
            have b157 : (decide (((votesD ((proposeD ((startD D0).1) 2 (-1) x (ok)).1) 2 2 hash0 k).s.step) = 2)) = true := by (rw [hLO.st]; rfl)
            refine wl_know 119 (.bool true) (congrArg Value.bool b157) ?_
            refine wl_do (wantsY 14 119 true rfl (by kernel_rfl) rfl (by kernel_rfl)) (fun K158 hK158 => ?_)
            refine d_call (d := 120) rfl (by kernel_rfl) (wakes_any w154) ?_
            rintro _ w159 ⟨rfl, u161⟩
            have H160 := H155.keepU u161
            refine ⟨_, rfl, ?_⟩
            refine hK158 _ _ ?_
            clear hK158 K158
            refine wl_pure (wants0 rfl) (d := 121) (v := (.bool true)) rfl (by kernel_rfl) ?_
            refine wl_pure (wants0 rfl) (d := 8) (v := (.bool true)) rfl (by kernel_rfl) ?_
            refine w_nil ?_
            refine then_normal ?_
            refine w_ret ?_
            refine end1 rfl (res_tmp (v := (.bool true)) rfl) ?_
            exact ⟨rfl, H160.upd 0 rfl [] (fun _ h => h.elim)⟩
    · refine wl_know 44 (.bool false) (congrArg Value.bool b60) ?_
      refine wl_pass (wantsN 1 44 true rfl (by kernel_rfl) rfl (by kernel_rfl)) rfl ?_
      refine wl_pass (wantsN 1 44 true rfl (by kernel_rfl) rfl (by kernel_rfl)) rfl ?_
      refine wl_pass (wantsN 1 44 true rfl (by kernel_rfl) rfl (by kernel_rfl)) rfl ?_
      refine wl_pass (wantsN 1 44 true rfl (by kernel_rfl) rfl (by kernel_rfl)) rfl ?_
      refine wl_pass (wantsN 1 44 true rfl (by kernel_rfl) rfl (by kernel_rfl)) rfl ?_
      refine wl_pass (wantsN 1 44 true rfl (by kernel_rfl) rfl (by kernel_rfl)) rfl ?_
      refine wl_pure (wants0 rfl) (d := 51) (v := (.bool false)) rfl (by kernel_rfl) ?_
      refine w_nil ?_
      refine then_normal ?_
      refine wp_iff rfl ?_
      refine w_skip ?_
      refine then_normal ?_
      refine w_seq ?_
      refine w_seq ?_
      refine w_lit ?_
      refine wl_pure (wants0 rfl) (d := 14) (v := (.int .i64 (0))) rfl (by kernel_rfl) ?_
      refine w_nil ?_
      refine then_normal ?_
      refine w_block ?_
      have Hn := H57.addNil 45 35
      refine wp_round [13, 14, 52, 53, 54, 55, 56, 57, 58, 59, 60, 61, 62, 63, 64] (fun F_ W_ m_ => ∃ (k : Nat) (a : Option Addr) (q : Nat), F_ 14 = (.int .i64 ((k : Int))) ∧ F_ 13 = (.slice a (votesA ((startD D0).1) 2 2 hash0 k).length q) ∧ (k ≤ N) ∧ Sat w [restC w (fun _ => False), cellC b2 36 (hc x), cellC b10 25 ([(.int .i64 (F)), (.int .i64 (1))] : List Value), cellC k44 92 (([(.int .i64 ((votesD ((startD D0).1) 2 2 hash0 k).f)), (.int .i64 ((votesD ((startD D0).1) 2 2 hash0 k).c)), (.int .i64 ((votesD ((startD D0).1) 2 2 hash0 k).epoch)), (.int .i64 ((votesD ((startD D0).1) 2 2 hash0 k).replica)), (.int .i64 ((votesD ((startD D0).1) 2 2 hash0 k).s.round)), (.int .i64 ((votesD ((startD D0).1) 2 2 hash0 k).s.step)), (.int .i64 ((votesD ((startD D0).1) 2 2 hash0 k).s.lr)), (.int .i64 ((votesD ((startD D0).1) 2 2 hash0 k).s.vr))] : List Value) ++ hc (votesD ((startD D0).1) 2 2 hash0 k).s.locked ++ hc (votesD ((startD D0).1) 2 2 hash0 k).s.valid ++ ([(.bool ((votesD ((startD D0).1) 2 2 hash0 k).s.decided))] : List Value) ++ hc (votesD ((startD D0).1) 2 2 hash0 k).s.decision ++ ([(.pointer (some ⟨t45, 0, none⟩)), (.map (some pb50)), (.bool ((votesD ((startD D0).1) 2 2 hash0 k).wv)), (.bool ((votesD ((startD D0).1) 2 2 hash0 k).sp)), (.bool ((votesD ((startD D0).1) 2 2 hash0 k).sc))] : List Value)), talC t45 hb46 cb47 ab48 lb49 (votesD ((startD D0).1) 2 2 hash0 k).f (votesD ((startD D0).1) 2 2 hash0 k).c (votesD ((startD D0).1) 2 2 hash0 k).L, mapC pb50 (Value.int .i64) propV (votesD ((startD D0).1) 2 2 hash0 k).P, rowC 45 35 (.slice a58 (((startD D0).2).length) c59) (((startD D0).2).length) (((startD D0).2).flatMap encA), rowC 45 35 (.slice a (votesA ((startD D0).1) 2 2 hash0 k).length q) ((votesA ((startD D0).1) 2 2 hash0 k).length) ((votesA ((startD D0).1) 2 2 hash0 k).flatMap encA)] W_ ∧ m_ = N - k) _ ⟨0, none, 0, (by first | rfl | go_num), (by first | rfl | go_num), (Nat.zero_le _), Hn, rfl⟩ ?_
      rintro g162 w163 _ ⟨k, a, q, v165, v166, hk, H164, rfl⟩
      refine wp_know 14 _ v165 ?_
      refine wp_know 13 _ v166 ?_
      have hlk := votesA_len C0.start 2 2 hash0 k
      have hlv := vote_le (votesCI C0.start 2 2 hash0 k) 2 2 (k : Int) hash0
      refine w_seq ?_
      refine w_seq ?_
      refine w_lit ?_
      refine wl_pure (wants0 rfl) (d := 52) (v := (.int .i64 ((k : Int)))) rfl (by kernel_rfl) ?_
      refine wl_pure (wants0 rfl) (d := 53) (v := (.pointer (some ⟨b10, 0, none⟩))) rfl (by kernel_rfl) ?_
      refine wl_pure (wants0 rfl) (d := 54) (v := (.int .i64 (F))) rfl (e_load1 rfl (by kernel_rfl) (H164.cell 2 rfl rfl)) ?_
      refine wl_pure (wants0 rfl) (d := 55) (v := (.int .i64 (F + 1))) rfl (e_int (z := F + 1) (by kernel_rfl) (IntWalk.i64_in _ (by omega))) ?_
      refine wl_pure (wants0 rfl) (d := 56) (v := (.bool (decide ((k : Int) < (F + 1))))) rfl (by kernel_rfl) ?_
      refine w_nil ?_
      refine then_normal ?_
      refine (bsplit (decide ((k : Int) < (F + 1)))).elim (fun b168 => ?_) (fun b168 => ?_)
      · have g169 := of_decide_eq_true b168
        refine wp_know 56 (.bool true) (congrArg Value.bool b168) ?_
        have g170 := of_decide_eq_true b168
        refine wp_ift rfl ?_
        refine w_skip ?_
        refine then_normal ?_
        refine w_seq ?_
        refine w_block ?_
        refine w_lit ?_
        refine wl_pure (wants0 rfl) (d := 59) (v := (.slice a (votesA ((startD D0).1) 2 2 hash0 k).length q)) rfl (by kernel_rfl) ?_
        refine wl_pure (wants0 rfl) (d := 60) (v := (.pointer (some ⟨k44, 0, none⟩))) rfl (by kernel_rfl) ?_
        refine wl_pure (wants0 rfl) (d := 61) (v := (.int .i64 ((k : Int)))) rfl (by kernel_rfl) ?_
        refine wl_pure (wants0 rfl) (d := 62) (v := (.agg ⟨(hc hash0)⟩)) rfl (by kernel_rfl) ?_
        refine wl_do (wants0 rfl) (fun K171 hK171 => ?_)
        refine d_call (d := 63) rfl (by kernel_rfl) (coreVote_any w163 k44 t45 hb46 cb47 ab48 lb49 pb50 (votesD ((startD D0).1) 2 2 hash0 k) (ok_of (by kernel_rfl) (H164.fin [3, 4, 5] (by decide) rfl)) (votesCI C0.start 2 2 hash0 k) 2 2 (k : Int) hash0) ?_
        rintro _ w173 ⟨v172, rfl, S174⟩
        replace S174 := Sat.cast (G' := [cellC k44 92 (([(.int .i64 (((voteD' (votesD ((startD D0).1) 2 2 hash0 k) 2 2 (k : Int) hash0).1).f)), (.int .i64 (((voteD' (votesD ((startD D0).1) 2 2 hash0 k) 2 2 (k : Int) hash0).1).c)), (.int .i64 (((voteD' (votesD ((startD D0).1) 2 2 hash0 k) 2 2 (k : Int) hash0).1).epoch)), (.int .i64 (((voteD' (votesD ((startD D0).1) 2 2 hash0 k) 2 2 (k : Int) hash0).1).replica)), (.int .i64 (((voteD' (votesD ((startD D0).1) 2 2 hash0 k) 2 2 (k : Int) hash0).1).s.round)), (.int .i64 (((voteD' (votesD ((startD D0).1) 2 2 hash0 k) 2 2 (k : Int) hash0).1).s.step)), (.int .i64 (((voteD' (votesD ((startD D0).1) 2 2 hash0 k) 2 2 (k : Int) hash0).1).s.lr)), (.int .i64 (((voteD' (votesD ((startD D0).1) 2 2 hash0 k) 2 2 (k : Int) hash0).1).s.vr))] : List Value) ++ hc ((voteD' (votesD ((startD D0).1) 2 2 hash0 k) 2 2 (k : Int) hash0).1).s.locked ++ hc ((voteD' (votesD ((startD D0).1) 2 2 hash0 k) 2 2 (k : Int) hash0).1).s.valid ++ ([(.bool (((voteD' (votesD ((startD D0).1) 2 2 hash0 k) 2 2 (k : Int) hash0).1).s.decided))] : List Value) ++ hc ((voteD' (votesD ((startD D0).1) 2 2 hash0 k) 2 2 (k : Int) hash0).1).s.decision ++ ([(.pointer (some ⟨t45, 0, none⟩)), (.map (some pb50)), (.bool (((voteD' (votesD ((startD D0).1) 2 2 hash0 k) 2 2 (k : Int) hash0).1).wv)), (.bool (((voteD' (votesD ((startD D0).1) 2 2 hash0 k) 2 2 (k : Int) hash0).1).sp)), (.bool (((voteD' (votesD ((startD D0).1) 2 2 hash0 k) 2 2 (k : Int) hash0).1).sc))] : List Value)), talC t45 hb46 cb47 ab48 lb49 ((voteD' (votesD ((startD D0).1) 2 2 hash0 k) 2 2 (k : Int) hash0).1).f ((voteD' (votesD ((startD D0).1) 2 2 hash0 k) 2 2 (k : Int) hash0).1).c ((voteD' (votesD ((startD D0).1) 2 2 hash0 k) 2 2 (k : Int) hash0).1).L, mapC pb50 (Value.int .i64) propV ((voteD' (votesD ((startD D0).1) 2 2 hash0 k) 2 2 (k : Int) hash0).1).P, rowC 45 35 v172 (((voteD' (votesD ((startD D0).1) 2 2 hash0 k) 2 2 (k : Int) hash0).2).length) (((voteD' (votesD ((startD D0).1) 2 2 hash0 k) 2 2 (k : Int) hash0).2).flatMap encA), restC w163 (coreC k44 t45 hb46 cb47 ab48 lb49 pb50 (votesD ((startD D0).1) 2 2 hash0 k)).fp]) S174 (by kernel_rfl)
        have H176 : Sat w [restC w (fun _ => False), cellC b2 36 (hc x), cellC b10 25 ([(.int .i64 (F)), (.int .i64 (1))] : List Value), cellC k44 92 (([(.int .i64 (((voteD' (votesD ((startD D0).1) 2 2 hash0 k) 2 2 (k : Int) hash0).1).f)), (.int .i64 (((voteD' (votesD ((startD D0).1) 2 2 hash0 k) 2 2 (k : Int) hash0).1).c)), (.int .i64 (((voteD' (votesD ((startD D0).1) 2 2 hash0 k) 2 2 (k : Int) hash0).1).epoch)), (.int .i64 (((voteD' (votesD ((startD D0).1) 2 2 hash0 k) 2 2 (k : Int) hash0).1).replica)), (.int .i64 (((voteD' (votesD ((startD D0).1) 2 2 hash0 k) 2 2 (k : Int) hash0).1).s.round)), (.int .i64 (((voteD' (votesD ((startD D0).1) 2 2 hash0 k) 2 2 (k : Int) hash0).1).s.step)), (.int .i64 (((voteD' (votesD ((startD D0).1) 2 2 hash0 k) 2 2 (k : Int) hash0).1).s.lr)), (.int .i64 (((voteD' (votesD ((startD D0).1) 2 2 hash0 k) 2 2 (k : Int) hash0).1).s.vr))] : List Value) ++ hc ((voteD' (votesD ((startD D0).1) 2 2 hash0 k) 2 2 (k : Int) hash0).1).s.locked ++ hc ((voteD' (votesD ((startD D0).1) 2 2 hash0 k) 2 2 (k : Int) hash0).1).s.valid ++ ([(.bool (((voteD' (votesD ((startD D0).1) 2 2 hash0 k) 2 2 (k : Int) hash0).1).s.decided))] : List Value) ++ hc ((voteD' (votesD ((startD D0).1) 2 2 hash0 k) 2 2 (k : Int) hash0).1).s.decision ++ ([(.pointer (some ⟨t45, 0, none⟩)), (.map (some pb50)), (.bool (((voteD' (votesD ((startD D0).1) 2 2 hash0 k) 2 2 (k : Int) hash0).1).wv)), (.bool (((voteD' (votesD ((startD D0).1) 2 2 hash0 k) 2 2 (k : Int) hash0).1).sp)), (.bool (((voteD' (votesD ((startD D0).1) 2 2 hash0 k) 2 2 (k : Int) hash0).1).sc))] : List Value)), talC t45 hb46 cb47 ab48 lb49 ((voteD' (votesD ((startD D0).1) 2 2 hash0 k) 2 2 (k : Int) hash0).1).f ((voteD' (votesD ((startD D0).1) 2 2 hash0 k) 2 2 (k : Int) hash0).1).c ((voteD' (votesD ((startD D0).1) 2 2 hash0 k) 2 2 (k : Int) hash0).1).L, mapC pb50 (Value.int .i64) propV ((voteD' (votesD ((startD D0).1) 2 2 hash0 k) 2 2 (k : Int) hash0).1).P, rowC 45 35 (.slice a58 (((startD D0).2).length) c59) (((startD D0).2).length) (((startD D0).2).flatMap encA), rowC 45 35 (.slice a (votesA ((startD D0).1) 2 2 hash0 k).length q) ((votesA ((startD D0).1) 2 2 hash0 k).length) ((votesA ((startD D0).1) 2 2 hash0 k).flatMap encA), rowC 45 35 v172 (((voteD' (votesD ((startD D0).1) 2 2 hash0 k) 2 2 (k : Int) hash0).2).length) (((voteD' (votesD ((startD D0).1) 2 2 hash0 k) 2 2 (k : Int) hash0).2).flatMap encA)] w173 := (Sat.turnL (L' := [cellC k44 92 (([(.int .i64 (((voteD' (votesD ((startD D0).1) 2 2 hash0 k) 2 2 (k : Int) hash0).1).f)), (.int .i64 (((voteD' (votesD ((startD D0).1) 2 2 hash0 k) 2 2 (k : Int) hash0).1).c)), (.int .i64 (((voteD' (votesD ((startD D0).1) 2 2 hash0 k) 2 2 (k : Int) hash0).1).epoch)), (.int .i64 (((voteD' (votesD ((startD D0).1) 2 2 hash0 k) 2 2 (k : Int) hash0).1).replica)), (.int .i64 (((voteD' (votesD ((startD D0).1) 2 2 hash0 k) 2 2 (k : Int) hash0).1).s.round)), (.int .i64 (((voteD' (votesD ((startD D0).1) 2 2 hash0 k) 2 2 (k : Int) hash0).1).s.step)), (.int .i64 (((voteD' (votesD ((startD D0).1) 2 2 hash0 k) 2 2 (k : Int) hash0).1).s.lr)), (.int .i64 (((voteD' (votesD ((startD D0).1) 2 2 hash0 k) 2 2 (k : Int) hash0).1).s.vr))] : List Value) ++ hc ((voteD' (votesD ((startD D0).1) 2 2 hash0 k) 2 2 (k : Int) hash0).1).s.locked ++ hc ((voteD' (votesD ((startD D0).1) 2 2 hash0 k) 2 2 (k : Int) hash0).1).s.valid ++ ([(.bool (((voteD' (votesD ((startD D0).1) 2 2 hash0 k) 2 2 (k : Int) hash0).1).s.decided))] : List Value) ++ hc ((voteD' (votesD ((startD D0).1) 2 2 hash0 k) 2 2 (k : Int) hash0).1).s.decision ++ ([(.pointer (some ⟨t45, 0, none⟩)), (.map (some pb50)), (.bool (((voteD' (votesD ((startD D0).1) 2 2 hash0 k) 2 2 (k : Int) hash0).1).wv)), (.bool (((voteD' (votesD ((startD D0).1) 2 2 hash0 k) 2 2 (k : Int) hash0).1).sp)), (.bool (((voteD' (votesD ((startD D0).1) 2 2 hash0 k) 2 2 (k : Int) hash0).1).sc))] : List Value)), talC t45 hb46 cb47 ab48 lb49 ((voteD' (votesD ((startD D0).1) 2 2 hash0 k) 2 2 (k : Int) hash0).1).f ((voteD' (votesD ((startD D0).1) 2 2 hash0 k) 2 2 (k : Int) hash0).1).c ((voteD' (votesD ((startD D0).1) 2 2 hash0 k) 2 2 (k : Int) hash0).1).L, mapC pb50 (Value.int .i64) propV ((voteD' (votesD ((startD D0).1) 2 2 hash0 k) 2 2 (k : Int) hash0).1).P, rowC 45 35 v172 (((voteD' (votesD ((startD D0).1) 2 2 hash0 k) 2 2 (k : Int) hash0).2).length) (((voteD' (votesD ((startD D0).1) 2 2 hash0 k) 2 2 (k : Int) hash0).2).flatMap encA)]) (R := [restC w (fun _ => False), cellC b2 36 (hc x), cellC b10 25 ([(.int .i64 (F)), (.int .i64 (1))] : List Value), rowC 45 35 (.slice a58 (((startD D0).2).length) c59) (((startD D0).2).length) (((startD D0).2).flatMap encA), rowC 45 35 (.slice a (votesA ((startD D0).1) 2 2 hash0 k).length q) ((votesA ((startD D0).1) 2 2 hash0 k).length) ((votesA ((startD D0).1) 2 2 hash0 k).flatMap encA)]) H164 [3, 4, 5] [0, 1, 2, 6, 7] (by decide) (by kernel_rfl) rfl S174).pick [4, 5, 6, 0, 1, 2, 7, 8, 3] (by decide)
        obtain ⟨a177, c178, rfl⟩ := ownsRow_shape (H176.at 8 rfl)
        refine ⟨_, rfl, ?_⟩
        refine hK171 _ _ ?_
        clear hK171 K171
        refine wl_do (wants0 rfl) (fun K179 hK179 => ?_)
        refine d_append (T := 31) (e := 45) (size := 35) (bytes := 56) rfl H176 (by kernel_rfl) 7 8 rfl rfl rfl rfl (flat_one encA encA_one ((voteD' (votesD ((startD D0).1) 2 2 hash0 k) 2 2 (k : Int) hash0).2)) (by omega) (by omega) ?_
        intro v180 w181 (H182 : Sat w [restC w (fun _ => False), cellC b2 36 (hc x), cellC b10 25 ([(.int .i64 (F)), (.int .i64 (1))] : List Value), cellC k44 92 (([(.int .i64 (((voteD' (votesD ((startD D0).1) 2 2 hash0 k) 2 2 (k : Int) hash0).1).f)), (.int .i64 (((voteD' (votesD ((startD D0).1) 2 2 hash0 k) 2 2 (k : Int) hash0).1).c)), (.int .i64 (((voteD' (votesD ((startD D0).1) 2 2 hash0 k) 2 2 (k : Int) hash0).1).epoch)), (.int .i64 (((voteD' (votesD ((startD D0).1) 2 2 hash0 k) 2 2 (k : Int) hash0).1).replica)), (.int .i64 (((voteD' (votesD ((startD D0).1) 2 2 hash0 k) 2 2 (k : Int) hash0).1).s.round)), (.int .i64 (((voteD' (votesD ((startD D0).1) 2 2 hash0 k) 2 2 (k : Int) hash0).1).s.step)), (.int .i64 (((voteD' (votesD ((startD D0).1) 2 2 hash0 k) 2 2 (k : Int) hash0).1).s.lr)), (.int .i64 (((voteD' (votesD ((startD D0).1) 2 2 hash0 k) 2 2 (k : Int) hash0).1).s.vr))] : List Value) ++ hc ((voteD' (votesD ((startD D0).1) 2 2 hash0 k) 2 2 (k : Int) hash0).1).s.locked ++ hc ((voteD' (votesD ((startD D0).1) 2 2 hash0 k) 2 2 (k : Int) hash0).1).s.valid ++ ([(.bool (((voteD' (votesD ((startD D0).1) 2 2 hash0 k) 2 2 (k : Int) hash0).1).s.decided))] : List Value) ++ hc ((voteD' (votesD ((startD D0).1) 2 2 hash0 k) 2 2 (k : Int) hash0).1).s.decision ++ ([(.pointer (some ⟨t45, 0, none⟩)), (.map (some pb50)), (.bool (((voteD' (votesD ((startD D0).1) 2 2 hash0 k) 2 2 (k : Int) hash0).1).wv)), (.bool (((voteD' (votesD ((startD D0).1) 2 2 hash0 k) 2 2 (k : Int) hash0).1).sp)), (.bool (((voteD' (votesD ((startD D0).1) 2 2 hash0 k) 2 2 (k : Int) hash0).1).sc))] : List Value)), talC t45 hb46 cb47 ab48 lb49 ((voteD' (votesD ((startD D0).1) 2 2 hash0 k) 2 2 (k : Int) hash0).1).f ((voteD' (votesD ((startD D0).1) 2 2 hash0 k) 2 2 (k : Int) hash0).1).c ((voteD' (votesD ((startD D0).1) 2 2 hash0 k) 2 2 (k : Int) hash0).1).L, mapC pb50 (Value.int .i64) propV ((voteD' (votesD ((startD D0).1) 2 2 hash0 k) 2 2 (k : Int) hash0).1).P, rowC 45 35 (.slice a58 (((startD D0).2).length) c59) (((startD D0).2).length) (((startD D0).2).flatMap encA), rowC 45 35 v180 ((votesA ((startD D0).1) 2 2 hash0 k).length + ((voteD' (votesD ((startD D0).1) 2 2 hash0 k) 2 2 (k : Int) hash0).2).length) (((votesA ((startD D0).1) 2 2 hash0 k).flatMap encA) ++ (((voteD' (votesD ((startD D0).1) 2 2 hash0 k) 2 2 (k : Int) hash0).2).flatMap encA)), rowC 45 35 (.slice a177 (((voteD' (votesD ((startD D0).1) 2 2 hash0 k) 2 2 (k : Int) hash0).2).length) c178) (((voteD' (votesD ((startD D0).1) 2 2 hash0 k) 2 2 (k : Int) hash0).2).length) (((voteD' (votesD ((startD D0).1) 2 2 hash0 k) 2 2 (k : Int) hash0).2).flatMap encA)] w181)
        have H185 : Sat w [restC w (fun _ => False), cellC b2 36 (hc x), cellC b10 25 ([(.int .i64 (F)), (.int .i64 (1))] : List Value), cellC k44 92 (([(.int .i64 (((voteD' (votesD ((startD D0).1) 2 2 hash0 k) 2 2 (k : Int) hash0).1).f)), (.int .i64 (((voteD' (votesD ((startD D0).1) 2 2 hash0 k) 2 2 (k : Int) hash0).1).c)), (.int .i64 (((voteD' (votesD ((startD D0).1) 2 2 hash0 k) 2 2 (k : Int) hash0).1).epoch)), (.int .i64 (((voteD' (votesD ((startD D0).1) 2 2 hash0 k) 2 2 (k : Int) hash0).1).replica)), (.int .i64 (((voteD' (votesD ((startD D0).1) 2 2 hash0 k) 2 2 (k : Int) hash0).1).s.round)), (.int .i64 (((voteD' (votesD ((startD D0).1) 2 2 hash0 k) 2 2 (k : Int) hash0).1).s.step)), (.int .i64 (((voteD' (votesD ((startD D0).1) 2 2 hash0 k) 2 2 (k : Int) hash0).1).s.lr)), (.int .i64 (((voteD' (votesD ((startD D0).1) 2 2 hash0 k) 2 2 (k : Int) hash0).1).s.vr))] : List Value) ++ hc ((voteD' (votesD ((startD D0).1) 2 2 hash0 k) 2 2 (k : Int) hash0).1).s.locked ++ hc ((voteD' (votesD ((startD D0).1) 2 2 hash0 k) 2 2 (k : Int) hash0).1).s.valid ++ ([(.bool (((voteD' (votesD ((startD D0).1) 2 2 hash0 k) 2 2 (k : Int) hash0).1).s.decided))] : List Value) ++ hc ((voteD' (votesD ((startD D0).1) 2 2 hash0 k) 2 2 (k : Int) hash0).1).s.decision ++ ([(.pointer (some ⟨t45, 0, none⟩)), (.map (some pb50)), (.bool (((voteD' (votesD ((startD D0).1) 2 2 hash0 k) 2 2 (k : Int) hash0).1).wv)), (.bool (((voteD' (votesD ((startD D0).1) 2 2 hash0 k) 2 2 (k : Int) hash0).1).sp)), (.bool (((voteD' (votesD ((startD D0).1) 2 2 hash0 k) 2 2 (k : Int) hash0).1).sc))] : List Value)), talC t45 hb46 cb47 ab48 lb49 ((voteD' (votesD ((startD D0).1) 2 2 hash0 k) 2 2 (k : Int) hash0).1).f ((voteD' (votesD ((startD D0).1) 2 2 hash0 k) 2 2 (k : Int) hash0).1).c ((voteD' (votesD ((startD D0).1) 2 2 hash0 k) 2 2 (k : Int) hash0).1).L, mapC pb50 (Value.int .i64) propV ((voteD' (votesD ((startD D0).1) 2 2 hash0 k) 2 2 (k : Int) hash0).1).P, rowC 45 35 (.slice a58 (((startD D0).2).length) c59) (((startD D0).2).length) (((startD D0).2).flatMap encA), rowC 45 35 v180 (((votesA ((startD D0).1) 2 2 hash0 k) ++ (voteD' (votesD ((startD D0).1) 2 2 hash0 k) 2 2 (k : Int) hash0).2).length) (((votesA ((startD D0).1) 2 2 hash0 k) ++ (voteD' (votesD ((startD D0).1) 2 2 hash0 k) 2 2 (k : Int) hash0).2).flatMap encA), rowC 45 35 (.slice a177 (((voteD' (votesD ((startD D0).1) 2 2 hash0 k) 2 2 (k : Int) hash0).2).length) c178) (((voteD' (votesD ((startD D0).1) 2 2 hash0 k) 2 2 (k : Int) hash0).2).length) (((voteD' (votesD ((startD D0).1) 2 2 hash0 k) 2 2 (k : Int) hash0).2).flatMap encA)] w181 := H182.cast (by simp only [List.length_append, List.flatMap_append])
        obtain ⟨a183, c184, rfl⟩ := ownsRow_shape (H185.at 7 rfl)
        refine hK179 _ _ ?_
        clear hK179 K179
        refine wl_pure (wants0 rfl) (d := 13) (v := (.slice a183 (((votesA ((startD D0).1) 2 2 hash0 k) ++ (voteD' (votesD ((startD D0).1) 2 2 hash0 k) 2 2 (k : Int) hash0).2).length) c184)) rfl (by kernel_rfl) ?_
        refine w_nil ?_
        refine blk_normal ?_
        refine then_normal ?_
        refine w_lit ?_
        refine wl_pure (wants0 rfl) (d := 57) (v := (.int .i64 ((k : Int)))) rfl (by kernel_rfl) ?_
        refine wl_pure (wants0 rfl) (d := 58) (v := (.int .i64 ((k : Int) + 1))) rfl (e_int (z := (k : Int) + 1) (by kernel_rfl) (IntWalk.i64_in _ (by omega))) ?_
        refine wl_pure (wants0 rfl) (d := 14) (v := (.int .i64 ((k : Int) + 1))) rfl (by kernel_rfl) ?_
        refine w_nil ?_
        have hlk := votesA_len C0.start 2 2 hash0 (k + 1)
        have H186 : Sat w [restC w (fun _ => False), cellC b2 36 (hc x), cellC b10 25 ([(.int .i64 (F)), (.int .i64 (1))] : List Value), cellC k44 92 (([(.int .i64 ((votesD ((startD D0).1) 2 2 hash0 (k + 1)).f)), (.int .i64 ((votesD ((startD D0).1) 2 2 hash0 (k + 1)).c)), (.int .i64 ((votesD ((startD D0).1) 2 2 hash0 (k + 1)).epoch)), (.int .i64 ((votesD ((startD D0).1) 2 2 hash0 (k + 1)).replica)), (.int .i64 ((votesD ((startD D0).1) 2 2 hash0 (k + 1)).s.round)), (.int .i64 ((votesD ((startD D0).1) 2 2 hash0 (k + 1)).s.step)), (.int .i64 ((votesD ((startD D0).1) 2 2 hash0 (k + 1)).s.lr)), (.int .i64 ((votesD ((startD D0).1) 2 2 hash0 (k + 1)).s.vr))] : List Value) ++ hc (votesD ((startD D0).1) 2 2 hash0 (k + 1)).s.locked ++ hc (votesD ((startD D0).1) 2 2 hash0 (k + 1)).s.valid ++ ([(.bool ((votesD ((startD D0).1) 2 2 hash0 (k + 1)).s.decided))] : List Value) ++ hc (votesD ((startD D0).1) 2 2 hash0 (k + 1)).s.decision ++ ([(.pointer (some ⟨t45, 0, none⟩)), (.map (some pb50)), (.bool ((votesD ((startD D0).1) 2 2 hash0 (k + 1)).wv)), (.bool ((votesD ((startD D0).1) 2 2 hash0 (k + 1)).sp)), (.bool ((votesD ((startD D0).1) 2 2 hash0 (k + 1)).sc))] : List Value)), talC t45 hb46 cb47 ab48 lb49 (votesD ((startD D0).1) 2 2 hash0 (k + 1)).f (votesD ((startD D0).1) 2 2 hash0 (k + 1)).c (votesD ((startD D0).1) 2 2 hash0 (k + 1)).L, mapC pb50 (Value.int .i64) propV (votesD ((startD D0).1) 2 2 hash0 (k + 1)).P, rowC 45 35 (.slice a58 (((startD D0).2).length) c59) (((startD D0).2).length) (((startD D0).2).flatMap encA), rowC 45 35 (.slice a183 (votesA ((startD D0).1) 2 2 hash0 (k + 1)).length c184) ((votesA ((startD D0).1) 2 2 hash0 (k + 1)).length) ((votesA ((startD D0).1) 2 2 hash0 (k + 1)).flatMap encA)] w181 := (H185.pick [0, 1, 2, 3, 4, 5, 6, 7] (by decide)).cast (by kernel_rfl)
        refine round_back ?_ _ ⟨(k + 1), a183, c184, (show ((.int .i64 ((k : Int) + 1)) : Value) = _ by first | rfl | go_num), (show ((.slice a183 (((votesA ((startD D0).1) 2 2 hash0 k) ++ (voteD' (votesD ((startD D0).1) 2 2 hash0 k) 2 2 (k : Int) hash0).2).length) c184) : Value) = _ by first | rfl | go_num), (by omega), H186, rfl⟩ (by omega)
        exact (same_upd rfl (same_upd rfl (same_upd rfl (same_upd rfl (same_upd rfl (same_upd rfl (same_upd rfl (same_upd rfl (same_upd rfl (same_upd rfl (same_upd rfl (same_upd rfl (same_upd rfl (same_upd rfl (same_upd rfl (same_upd rfl (same_upd rfl (same_upd rfl (same_ovr)))))))))))))))))))
      · have g187 := of_decide_eq_false b168
        refine wp_know 56 (.bool false) (congrArg Value.bool b168) ?_
        have g188 := of_decide_eq_false b168
        refine wp_iff rfl ?_
        refine w_exit ?_
        refine then_exit ?_
        refine back_exit ?_
        refine blk_hit ?_
        refine then_normal ?_
        refine w_seq ?_
        refine w_seq ?_
        obtain rfl : k = N := by have := of_decide_eq_false b168; omega
        refine w_lit ?_
        refine wl_pure (wants0 rfl) (d := 65) (v := (.bool (early))) rfl (by kernel_rfl) ?_
        refine wl_pure (wants0 rfl) (d := 66) (v := (.bool (!(early)))) rfl (by kernel_rfl) ?_
        refine w_nil ?_
        refine then_normal ?_
        have b189 : (!(early)) = true := by rw [b60]; rfl
        refine wp_know 66 (.bool true) (congrArg Value.bool b189) ?_
        have g190 := bnot_true b189
        refine wp_ift rfl ?_
        have hlp := propose_le (votesCI C0.start 2 2 hash0 k) 2 (-1) x ok
        refine w_lit ?_
        refine wl_pure (wants0 rfl) (d := 67) (v := (.slice a (votesA ((startD D0).1) 2 2 hash0 k).length q)) rfl (by kernel_rfl) ?_
        refine wl_pure (wants0 rfl) (d := 68) (v := (.pointer (some ⟨k44, 0, none⟩))) rfl (by kernel_rfl) ?_
        refine wl_pure (wants0 rfl) (d := 69) (v := (.agg ⟨(hc x)⟩)) rfl (e_loadN (vs := (hc x)) rfl (by kernel_rfl) (by kernel_rfl) (by exact Nat.le_of_ble_eq_true (by kernel_rfl)) (H164.at 1 rfl) (by kernel_rfl)) ?_
        refine wl_pure (wants0 rfl) (d := 70) (v := (.bool (ok))) rfl (by kernel_rfl) ?_
        refine wl_do (wants0 rfl) (fun K191 hK191 => ?_)
        refine d_call (d := 71) rfl (by kernel_rfl) (corePropose_any w163 k44 t45 hb46 cb47 ab48 lb49 pb50 (votesD ((startD D0).1) 2 2 hash0 k) (ok_of (by kernel_rfl) (H164.fin [3, 4, 5] (by decide) rfl)) (votesCI C0.start 2 2 hash0 k) 2 (-1) x (ok)) ?_
        rintro _ w193 ⟨v192, rfl, S194⟩
        replace S194 := Sat.cast (G' := [cellC k44 92 (([(.int .i64 (((proposeD (votesD ((startD D0).1) 2 2 hash0 k) 2 (-1) x (ok)).1).f)), (.int .i64 (((proposeD (votesD ((startD D0).1) 2 2 hash0 k) 2 (-1) x (ok)).1).c)), (.int .i64 (((proposeD (votesD ((startD D0).1) 2 2 hash0 k) 2 (-1) x (ok)).1).epoch)), (.int .i64 (((proposeD (votesD ((startD D0).1) 2 2 hash0 k) 2 (-1) x (ok)).1).replica)), (.int .i64 (((proposeD (votesD ((startD D0).1) 2 2 hash0 k) 2 (-1) x (ok)).1).s.round)), (.int .i64 (((proposeD (votesD ((startD D0).1) 2 2 hash0 k) 2 (-1) x (ok)).1).s.step)), (.int .i64 (((proposeD (votesD ((startD D0).1) 2 2 hash0 k) 2 (-1) x (ok)).1).s.lr)), (.int .i64 (((proposeD (votesD ((startD D0).1) 2 2 hash0 k) 2 (-1) x (ok)).1).s.vr))] : List Value) ++ hc ((proposeD (votesD ((startD D0).1) 2 2 hash0 k) 2 (-1) x (ok)).1).s.locked ++ hc ((proposeD (votesD ((startD D0).1) 2 2 hash0 k) 2 (-1) x (ok)).1).s.valid ++ ([(.bool (((proposeD (votesD ((startD D0).1) 2 2 hash0 k) 2 (-1) x (ok)).1).s.decided))] : List Value) ++ hc ((proposeD (votesD ((startD D0).1) 2 2 hash0 k) 2 (-1) x (ok)).1).s.decision ++ ([(.pointer (some ⟨t45, 0, none⟩)), (.map (some pb50)), (.bool (((proposeD (votesD ((startD D0).1) 2 2 hash0 k) 2 (-1) x (ok)).1).wv)), (.bool (((proposeD (votesD ((startD D0).1) 2 2 hash0 k) 2 (-1) x (ok)).1).sp)), (.bool (((proposeD (votesD ((startD D0).1) 2 2 hash0 k) 2 (-1) x (ok)).1).sc))] : List Value)), talC t45 hb46 cb47 ab48 lb49 ((proposeD (votesD ((startD D0).1) 2 2 hash0 k) 2 (-1) x (ok)).1).f ((proposeD (votesD ((startD D0).1) 2 2 hash0 k) 2 (-1) x (ok)).1).c ((proposeD (votesD ((startD D0).1) 2 2 hash0 k) 2 (-1) x (ok)).1).L, mapC pb50 (Value.int .i64) propV ((proposeD (votesD ((startD D0).1) 2 2 hash0 k) 2 (-1) x (ok)).1).P, rowC 45 35 v192 (((proposeD (votesD ((startD D0).1) 2 2 hash0 k) 2 (-1) x (ok)).2).length) (((proposeD (votesD ((startD D0).1) 2 2 hash0 k) 2 (-1) x (ok)).2).flatMap encA), restC w163 (coreC k44 t45 hb46 cb47 ab48 lb49 pb50 (votesD ((startD D0).1) 2 2 hash0 k)).fp]) S194 (by kernel_rfl)
        have H196 : Sat w [restC w (fun _ => False), cellC b2 36 (hc x), cellC b10 25 ([(.int .i64 (F)), (.int .i64 (1))] : List Value), cellC k44 92 (([(.int .i64 (((proposeD (votesD ((startD D0).1) 2 2 hash0 k) 2 (-1) x (ok)).1).f)), (.int .i64 (((proposeD (votesD ((startD D0).1) 2 2 hash0 k) 2 (-1) x (ok)).1).c)), (.int .i64 (((proposeD (votesD ((startD D0).1) 2 2 hash0 k) 2 (-1) x (ok)).1).epoch)), (.int .i64 (((proposeD (votesD ((startD D0).1) 2 2 hash0 k) 2 (-1) x (ok)).1).replica)), (.int .i64 (((proposeD (votesD ((startD D0).1) 2 2 hash0 k) 2 (-1) x (ok)).1).s.round)), (.int .i64 (((proposeD (votesD ((startD D0).1) 2 2 hash0 k) 2 (-1) x (ok)).1).s.step)), (.int .i64 (((proposeD (votesD ((startD D0).1) 2 2 hash0 k) 2 (-1) x (ok)).1).s.lr)), (.int .i64 (((proposeD (votesD ((startD D0).1) 2 2 hash0 k) 2 (-1) x (ok)).1).s.vr))] : List Value) ++ hc ((proposeD (votesD ((startD D0).1) 2 2 hash0 k) 2 (-1) x (ok)).1).s.locked ++ hc ((proposeD (votesD ((startD D0).1) 2 2 hash0 k) 2 (-1) x (ok)).1).s.valid ++ ([(.bool (((proposeD (votesD ((startD D0).1) 2 2 hash0 k) 2 (-1) x (ok)).1).s.decided))] : List Value) ++ hc ((proposeD (votesD ((startD D0).1) 2 2 hash0 k) 2 (-1) x (ok)).1).s.decision ++ ([(.pointer (some ⟨t45, 0, none⟩)), (.map (some pb50)), (.bool (((proposeD (votesD ((startD D0).1) 2 2 hash0 k) 2 (-1) x (ok)).1).wv)), (.bool (((proposeD (votesD ((startD D0).1) 2 2 hash0 k) 2 (-1) x (ok)).1).sp)), (.bool (((proposeD (votesD ((startD D0).1) 2 2 hash0 k) 2 (-1) x (ok)).1).sc))] : List Value)), talC t45 hb46 cb47 ab48 lb49 ((proposeD (votesD ((startD D0).1) 2 2 hash0 k) 2 (-1) x (ok)).1).f ((proposeD (votesD ((startD D0).1) 2 2 hash0 k) 2 (-1) x (ok)).1).c ((proposeD (votesD ((startD D0).1) 2 2 hash0 k) 2 (-1) x (ok)).1).L, mapC pb50 (Value.int .i64) propV ((proposeD (votesD ((startD D0).1) 2 2 hash0 k) 2 (-1) x (ok)).1).P, rowC 45 35 (.slice a58 (((startD D0).2).length) c59) (((startD D0).2).length) (((startD D0).2).flatMap encA), rowC 45 35 (.slice a (votesA ((startD D0).1) 2 2 hash0 k).length q) ((votesA ((startD D0).1) 2 2 hash0 k).length) ((votesA ((startD D0).1) 2 2 hash0 k).flatMap encA), rowC 45 35 v192 (((proposeD (votesD ((startD D0).1) 2 2 hash0 k) 2 (-1) x (ok)).2).length) (((proposeD (votesD ((startD D0).1) 2 2 hash0 k) 2 (-1) x (ok)).2).flatMap encA)] w193 := (Sat.turnL (L' := [cellC k44 92 (([(.int .i64 (((proposeD (votesD ((startD D0).1) 2 2 hash0 k) 2 (-1) x (ok)).1).f)), (.int .i64 (((proposeD (votesD ((startD D0).1) 2 2 hash0 k) 2 (-1) x (ok)).1).c)), (.int .i64 (((proposeD (votesD ((startD D0).1) 2 2 hash0 k) 2 (-1) x (ok)).1).epoch)), (.int .i64 (((proposeD (votesD ((startD D0).1) 2 2 hash0 k) 2 (-1) x (ok)).1).replica)), (.int .i64 (((proposeD (votesD ((startD D0).1) 2 2 hash0 k) 2 (-1) x (ok)).1).s.round)), (.int .i64 (((proposeD (votesD ((startD D0).1) 2 2 hash0 k) 2 (-1) x (ok)).1).s.step)), (.int .i64 (((proposeD (votesD ((startD D0).1) 2 2 hash0 k) 2 (-1) x (ok)).1).s.lr)), (.int .i64 (((proposeD (votesD ((startD D0).1) 2 2 hash0 k) 2 (-1) x (ok)).1).s.vr))] : List Value) ++ hc ((proposeD (votesD ((startD D0).1) 2 2 hash0 k) 2 (-1) x (ok)).1).s.locked ++ hc ((proposeD (votesD ((startD D0).1) 2 2 hash0 k) 2 (-1) x (ok)).1).s.valid ++ ([(.bool (((proposeD (votesD ((startD D0).1) 2 2 hash0 k) 2 (-1) x (ok)).1).s.decided))] : List Value) ++ hc ((proposeD (votesD ((startD D0).1) 2 2 hash0 k) 2 (-1) x (ok)).1).s.decision ++ ([(.pointer (some ⟨t45, 0, none⟩)), (.map (some pb50)), (.bool (((proposeD (votesD ((startD D0).1) 2 2 hash0 k) 2 (-1) x (ok)).1).wv)), (.bool (((proposeD (votesD ((startD D0).1) 2 2 hash0 k) 2 (-1) x (ok)).1).sp)), (.bool (((proposeD (votesD ((startD D0).1) 2 2 hash0 k) 2 (-1) x (ok)).1).sc))] : List Value)), talC t45 hb46 cb47 ab48 lb49 ((proposeD (votesD ((startD D0).1) 2 2 hash0 k) 2 (-1) x (ok)).1).f ((proposeD (votesD ((startD D0).1) 2 2 hash0 k) 2 (-1) x (ok)).1).c ((proposeD (votesD ((startD D0).1) 2 2 hash0 k) 2 (-1) x (ok)).1).L, mapC pb50 (Value.int .i64) propV ((proposeD (votesD ((startD D0).1) 2 2 hash0 k) 2 (-1) x (ok)).1).P, rowC 45 35 v192 (((proposeD (votesD ((startD D0).1) 2 2 hash0 k) 2 (-1) x (ok)).2).length) (((proposeD (votesD ((startD D0).1) 2 2 hash0 k) 2 (-1) x (ok)).2).flatMap encA)]) (R := [restC w (fun _ => False), cellC b2 36 (hc x), cellC b10 25 ([(.int .i64 (F)), (.int .i64 (1))] : List Value), rowC 45 35 (.slice a58 (((startD D0).2).length) c59) (((startD D0).2).length) (((startD D0).2).flatMap encA), rowC 45 35 (.slice a (votesA ((startD D0).1) 2 2 hash0 k).length q) ((votesA ((startD D0).1) 2 2 hash0 k).length) ((votesA ((startD D0).1) 2 2 hash0 k).flatMap encA)]) H164 [3, 4, 5] [0, 1, 2, 6, 7] (by decide) (by kernel_rfl) rfl S194).pick [4, 5, 6, 0, 1, 2, 7, 8, 3] (by decide)
        obtain ⟨a197, c198, rfl⟩ := ownsRow_shape (H196.at 8 rfl)
        refine ⟨_, rfl, ?_⟩
        refine hK191 _ _ ?_
        clear hK191 K191
        refine wl_do (wants0 rfl) (fun K199 hK199 => ?_)
        refine d_append (T := 31) (e := 45) (size := 35) (bytes := 56) rfl H196 (by kernel_rfl) 7 8 rfl rfl rfl rfl (flat_one encA encA_one ((proposeD (votesD ((startD D0).1) 2 2 hash0 k) 2 (-1) x (ok)).2)) (by omega) (by omega) ?_
        intro v200 w201 (H202 : Sat w [restC w (fun _ => False), cellC b2 36 (hc x), cellC b10 25 ([(.int .i64 (F)), (.int .i64 (1))] : List Value), cellC k44 92 (([(.int .i64 (((proposeD (votesD ((startD D0).1) 2 2 hash0 k) 2 (-1) x (ok)).1).f)), (.int .i64 (((proposeD (votesD ((startD D0).1) 2 2 hash0 k) 2 (-1) x (ok)).1).c)), (.int .i64 (((proposeD (votesD ((startD D0).1) 2 2 hash0 k) 2 (-1) x (ok)).1).epoch)), (.int .i64 (((proposeD (votesD ((startD D0).1) 2 2 hash0 k) 2 (-1) x (ok)).1).replica)), (.int .i64 (((proposeD (votesD ((startD D0).1) 2 2 hash0 k) 2 (-1) x (ok)).1).s.round)), (.int .i64 (((proposeD (votesD ((startD D0).1) 2 2 hash0 k) 2 (-1) x (ok)).1).s.step)), (.int .i64 (((proposeD (votesD ((startD D0).1) 2 2 hash0 k) 2 (-1) x (ok)).1).s.lr)), (.int .i64 (((proposeD (votesD ((startD D0).1) 2 2 hash0 k) 2 (-1) x (ok)).1).s.vr))] : List Value) ++ hc ((proposeD (votesD ((startD D0).1) 2 2 hash0 k) 2 (-1) x (ok)).1).s.locked ++ hc ((proposeD (votesD ((startD D0).1) 2 2 hash0 k) 2 (-1) x (ok)).1).s.valid ++ ([(.bool (((proposeD (votesD ((startD D0).1) 2 2 hash0 k) 2 (-1) x (ok)).1).s.decided))] : List Value) ++ hc ((proposeD (votesD ((startD D0).1) 2 2 hash0 k) 2 (-1) x (ok)).1).s.decision ++ ([(.pointer (some ⟨t45, 0, none⟩)), (.map (some pb50)), (.bool (((proposeD (votesD ((startD D0).1) 2 2 hash0 k) 2 (-1) x (ok)).1).wv)), (.bool (((proposeD (votesD ((startD D0).1) 2 2 hash0 k) 2 (-1) x (ok)).1).sp)), (.bool (((proposeD (votesD ((startD D0).1) 2 2 hash0 k) 2 (-1) x (ok)).1).sc))] : List Value)), talC t45 hb46 cb47 ab48 lb49 ((proposeD (votesD ((startD D0).1) 2 2 hash0 k) 2 (-1) x (ok)).1).f ((proposeD (votesD ((startD D0).1) 2 2 hash0 k) 2 (-1) x (ok)).1).c ((proposeD (votesD ((startD D0).1) 2 2 hash0 k) 2 (-1) x (ok)).1).L, mapC pb50 (Value.int .i64) propV ((proposeD (votesD ((startD D0).1) 2 2 hash0 k) 2 (-1) x (ok)).1).P, rowC 45 35 (.slice a58 (((startD D0).2).length) c59) (((startD D0).2).length) (((startD D0).2).flatMap encA), rowC 45 35 v200 ((votesA ((startD D0).1) 2 2 hash0 k).length + ((proposeD (votesD ((startD D0).1) 2 2 hash0 k) 2 (-1) x (ok)).2).length) (((votesA ((startD D0).1) 2 2 hash0 k).flatMap encA) ++ (((proposeD (votesD ((startD D0).1) 2 2 hash0 k) 2 (-1) x (ok)).2).flatMap encA)), rowC 45 35 (.slice a197 (((proposeD (votesD ((startD D0).1) 2 2 hash0 k) 2 (-1) x (ok)).2).length) c198) (((proposeD (votesD ((startD D0).1) 2 2 hash0 k) 2 (-1) x (ok)).2).length) (((proposeD (votesD ((startD D0).1) 2 2 hash0 k) 2 (-1) x (ok)).2).flatMap encA)] w201)
        have H205 : Sat w [restC w (fun _ => False), cellC b2 36 (hc x), cellC b10 25 ([(.int .i64 (F)), (.int .i64 (1))] : List Value), cellC k44 92 (([(.int .i64 (((proposeD (votesD ((startD D0).1) 2 2 hash0 k) 2 (-1) x (ok)).1).f)), (.int .i64 (((proposeD (votesD ((startD D0).1) 2 2 hash0 k) 2 (-1) x (ok)).1).c)), (.int .i64 (((proposeD (votesD ((startD D0).1) 2 2 hash0 k) 2 (-1) x (ok)).1).epoch)), (.int .i64 (((proposeD (votesD ((startD D0).1) 2 2 hash0 k) 2 (-1) x (ok)).1).replica)), (.int .i64 (((proposeD (votesD ((startD D0).1) 2 2 hash0 k) 2 (-1) x (ok)).1).s.round)), (.int .i64 (((proposeD (votesD ((startD D0).1) 2 2 hash0 k) 2 (-1) x (ok)).1).s.step)), (.int .i64 (((proposeD (votesD ((startD D0).1) 2 2 hash0 k) 2 (-1) x (ok)).1).s.lr)), (.int .i64 (((proposeD (votesD ((startD D0).1) 2 2 hash0 k) 2 (-1) x (ok)).1).s.vr))] : List Value) ++ hc ((proposeD (votesD ((startD D0).1) 2 2 hash0 k) 2 (-1) x (ok)).1).s.locked ++ hc ((proposeD (votesD ((startD D0).1) 2 2 hash0 k) 2 (-1) x (ok)).1).s.valid ++ ([(.bool (((proposeD (votesD ((startD D0).1) 2 2 hash0 k) 2 (-1) x (ok)).1).s.decided))] : List Value) ++ hc ((proposeD (votesD ((startD D0).1) 2 2 hash0 k) 2 (-1) x (ok)).1).s.decision ++ ([(.pointer (some ⟨t45, 0, none⟩)), (.map (some pb50)), (.bool (((proposeD (votesD ((startD D0).1) 2 2 hash0 k) 2 (-1) x (ok)).1).wv)), (.bool (((proposeD (votesD ((startD D0).1) 2 2 hash0 k) 2 (-1) x (ok)).1).sp)), (.bool (((proposeD (votesD ((startD D0).1) 2 2 hash0 k) 2 (-1) x (ok)).1).sc))] : List Value)), talC t45 hb46 cb47 ab48 lb49 ((proposeD (votesD ((startD D0).1) 2 2 hash0 k) 2 (-1) x (ok)).1).f ((proposeD (votesD ((startD D0).1) 2 2 hash0 k) 2 (-1) x (ok)).1).c ((proposeD (votesD ((startD D0).1) 2 2 hash0 k) 2 (-1) x (ok)).1).L, mapC pb50 (Value.int .i64) propV ((proposeD (votesD ((startD D0).1) 2 2 hash0 k) 2 (-1) x (ok)).1).P, rowC 45 35 (.slice a58 (((startD D0).2).length) c59) (((startD D0).2).length) (((startD D0).2).flatMap encA), rowC 45 35 v200 (((votesA ((startD D0).1) 2 2 hash0 k) ++ (proposeD (votesD ((startD D0).1) 2 2 hash0 k) 2 (-1) x (ok)).2).length) (((votesA ((startD D0).1) 2 2 hash0 k) ++ (proposeD (votesD ((startD D0).1) 2 2 hash0 k) 2 (-1) x (ok)).2).flatMap encA), rowC 45 35 (.slice a197 (((proposeD (votesD ((startD D0).1) 2 2 hash0 k) 2 (-1) x (ok)).2).length) c198) (((proposeD (votesD ((startD D0).1) 2 2 hash0 k) 2 (-1) x (ok)).2).length) (((proposeD (votesD ((startD D0).1) 2 2 hash0 k) 2 (-1) x (ok)).2).flatMap encA)] w201 := H202.cast (by simp only [List.length_append, List.flatMap_append])
        obtain ⟨a203, c204, rfl⟩ := ownsRow_shape (H205.at 7 rfl)
        refine hK199 _ _ ?_
        clear hK199 K199
        refine wl_pure (wants0 rfl) (d := 13) (v := (.slice a203 (((votesA ((startD D0).1) 2 2 hash0 k) ++ (proposeD (votesD ((startD D0).1) 2 2 hash0 k) 2 (-1) x (ok)).2).length) c204)) rfl (by kernel_rfl) ?_
        refine w_nil ?_
        refine then_normal ?_
        refine w_seq ?_
        refine w_lit ?_
        refine wl_pure (wants0 rfl) (d := 73) (v := (.agg ⟨(hc hash0)⟩)) rfl (by kernel_rfl) ?_
        refine wl_do (wants0 rfl) (fun K206 hK206 => ?_)
        refine d_alloc (zs := (hc hash0)) (z := (.agg ⟨(hc hash0)⟩)) rfl H205 (by kernel_rfl) (by kernel_rfl) ?_
        intro b207 w208 (H209 : Sat w [restC w (fun _ => False), cellC b2 36 (hc x), cellC b10 25 ([(.int .i64 (F)), (.int .i64 (1))] : List Value), cellC k44 92 (([(.int .i64 (((proposeD (votesD ((startD D0).1) 2 2 hash0 k) 2 (-1) x (ok)).1).f)), (.int .i64 (((proposeD (votesD ((startD D0).1) 2 2 hash0 k) 2 (-1) x (ok)).1).c)), (.int .i64 (((proposeD (votesD ((startD D0).1) 2 2 hash0 k) 2 (-1) x (ok)).1).epoch)), (.int .i64 (((proposeD (votesD ((startD D0).1) 2 2 hash0 k) 2 (-1) x (ok)).1).replica)), (.int .i64 (((proposeD (votesD ((startD D0).1) 2 2 hash0 k) 2 (-1) x (ok)).1).s.round)), (.int .i64 (((proposeD (votesD ((startD D0).1) 2 2 hash0 k) 2 (-1) x (ok)).1).s.step)), (.int .i64 (((proposeD (votesD ((startD D0).1) 2 2 hash0 k) 2 (-1) x (ok)).1).s.lr)), (.int .i64 (((proposeD (votesD ((startD D0).1) 2 2 hash0 k) 2 (-1) x (ok)).1).s.vr))] : List Value) ++ hc ((proposeD (votesD ((startD D0).1) 2 2 hash0 k) 2 (-1) x (ok)).1).s.locked ++ hc ((proposeD (votesD ((startD D0).1) 2 2 hash0 k) 2 (-1) x (ok)).1).s.valid ++ ([(.bool (((proposeD (votesD ((startD D0).1) 2 2 hash0 k) 2 (-1) x (ok)).1).s.decided))] : List Value) ++ hc ((proposeD (votesD ((startD D0).1) 2 2 hash0 k) 2 (-1) x (ok)).1).s.decision ++ ([(.pointer (some ⟨t45, 0, none⟩)), (.map (some pb50)), (.bool (((proposeD (votesD ((startD D0).1) 2 2 hash0 k) 2 (-1) x (ok)).1).wv)), (.bool (((proposeD (votesD ((startD D0).1) 2 2 hash0 k) 2 (-1) x (ok)).1).sp)), (.bool (((proposeD (votesD ((startD D0).1) 2 2 hash0 k) 2 (-1) x (ok)).1).sc))] : List Value)), talC t45 hb46 cb47 ab48 lb49 ((proposeD (votesD ((startD D0).1) 2 2 hash0 k) 2 (-1) x (ok)).1).f ((proposeD (votesD ((startD D0).1) 2 2 hash0 k) 2 (-1) x (ok)).1).c ((proposeD (votesD ((startD D0).1) 2 2 hash0 k) 2 (-1) x (ok)).1).L, mapC pb50 (Value.int .i64) propV ((proposeD (votesD ((startD D0).1) 2 2 hash0 k) 2 (-1) x (ok)).1).P, rowC 45 35 (.slice a58 (((startD D0).2).length) c59) (((startD D0).2).length) (((startD D0).2).flatMap encA), rowC 45 35 (.slice a203 (((votesA ((startD D0).1) 2 2 hash0 k) ++ (proposeD (votesD ((startD D0).1) 2 2 hash0 k) 2 (-1) x (ok)).2).length) c204) (((votesA ((startD D0).1) 2 2 hash0 k) ++ (proposeD (votesD ((startD D0).1) 2 2 hash0 k) 2 (-1) x (ok)).2).length) (((votesA ((startD D0).1) 2 2 hash0 k) ++ (proposeD (votesD ((startD D0).1) 2 2 hash0 k) 2 (-1) x (ok)).2).flatMap encA), rowC 45 35 (.slice a197 (((proposeD (votesD ((startD D0).1) 2 2 hash0 k) 2 (-1) x (ok)).2).length) c198) (((proposeD (votesD ((startD D0).1) 2 2 hash0 k) 2 (-1) x (ok)).2).length) (((proposeD (votesD ((startD D0).1) 2 2 hash0 k) 2 (-1) x (ok)).2).flatMap encA), cellC b207 36 (hc hash0)] w208)
        refine hK206 _ _ ?_
        clear hK206 K206
        refine wl_do (wants0 rfl) (fun K210 hK210 => ?_)
        refine d_storeX (vs := (hc hash0)) (cs' := (hc hash0)) rfl H209 9 rfl rfl rfl rfl (by kernel_rfl) (Nat.le_of_ble_eq_true (by kernel_rfl)) (Nat.le_of_ble_eq_true (by kernel_rfl)) (by kernel_rfl) (by kernel_rfl) ?_
        intro w211 (H212 : Sat w [restC w (fun _ => False), cellC b2 36 (hc x), cellC b10 25 ([(.int .i64 (F)), (.int .i64 (1))] : List Value), cellC k44 92 (([(.int .i64 (((proposeD (votesD ((startD D0).1) 2 2 hash0 k) 2 (-1) x (ok)).1).f)), (.int .i64 (((proposeD (votesD ((startD D0).1) 2 2 hash0 k) 2 (-1) x (ok)).1).c)), (.int .i64 (((proposeD (votesD ((startD D0).1) 2 2 hash0 k) 2 (-1) x (ok)).1).epoch)), (.int .i64 (((proposeD (votesD ((startD D0).1) 2 2 hash0 k) 2 (-1) x (ok)).1).replica)), (.int .i64 (((proposeD (votesD ((startD D0).1) 2 2 hash0 k) 2 (-1) x (ok)).1).s.round)), (.int .i64 (((proposeD (votesD ((startD D0).1) 2 2 hash0 k) 2 (-1) x (ok)).1).s.step)), (.int .i64 (((proposeD (votesD ((startD D0).1) 2 2 hash0 k) 2 (-1) x (ok)).1).s.lr)), (.int .i64 (((proposeD (votesD ((startD D0).1) 2 2 hash0 k) 2 (-1) x (ok)).1).s.vr))] : List Value) ++ hc ((proposeD (votesD ((startD D0).1) 2 2 hash0 k) 2 (-1) x (ok)).1).s.locked ++ hc ((proposeD (votesD ((startD D0).1) 2 2 hash0 k) 2 (-1) x (ok)).1).s.valid ++ ([(.bool (((proposeD (votesD ((startD D0).1) 2 2 hash0 k) 2 (-1) x (ok)).1).s.decided))] : List Value) ++ hc ((proposeD (votesD ((startD D0).1) 2 2 hash0 k) 2 (-1) x (ok)).1).s.decision ++ ([(.pointer (some ⟨t45, 0, none⟩)), (.map (some pb50)), (.bool (((proposeD (votesD ((startD D0).1) 2 2 hash0 k) 2 (-1) x (ok)).1).wv)), (.bool (((proposeD (votesD ((startD D0).1) 2 2 hash0 k) 2 (-1) x (ok)).1).sp)), (.bool (((proposeD (votesD ((startD D0).1) 2 2 hash0 k) 2 (-1) x (ok)).1).sc))] : List Value)), talC t45 hb46 cb47 ab48 lb49 ((proposeD (votesD ((startD D0).1) 2 2 hash0 k) 2 (-1) x (ok)).1).f ((proposeD (votesD ((startD D0).1) 2 2 hash0 k) 2 (-1) x (ok)).1).c ((proposeD (votesD ((startD D0).1) 2 2 hash0 k) 2 (-1) x (ok)).1).L, mapC pb50 (Value.int .i64) propV ((proposeD (votesD ((startD D0).1) 2 2 hash0 k) 2 (-1) x (ok)).1).P, rowC 45 35 (.slice a58 (((startD D0).2).length) c59) (((startD D0).2).length) (((startD D0).2).flatMap encA), rowC 45 35 (.slice a203 (((votesA ((startD D0).1) 2 2 hash0 k) ++ (proposeD (votesD ((startD D0).1) 2 2 hash0 k) 2 (-1) x (ok)).2).length) c204) (((votesA ((startD D0).1) 2 2 hash0 k) ++ (proposeD (votesD ((startD D0).1) 2 2 hash0 k) 2 (-1) x (ok)).2).length) (((votesA ((startD D0).1) 2 2 hash0 k) ++ (proposeD (votesD ((startD D0).1) 2 2 hash0 k) 2 (-1) x (ok)).2).flatMap encA), rowC 45 35 (.slice a197 (((proposeD (votesD ((startD D0).1) 2 2 hash0 k) 2 (-1) x (ok)).2).length) c198) (((proposeD (votesD ((startD D0).1) 2 2 hash0 k) 2 (-1) x (ok)).2).length) (((proposeD (votesD ((startD D0).1) 2 2 hash0 k) 2 (-1) x (ok)).2).flatMap encA), cellC b207 36 (hc hash0)] w211)
        refine hK210 _ _ ?_
        clear hK210 K210
        refine w_nil ?_
        refine then_normal ?_
        refine wp_meetR [74, 75] (fun G_ W_ => True ∧ Sat w [restC w (fun _ => False), cellC b2 36 (hc x), cellC b10 25 ([(.int .i64 (F)), (.int .i64 (1))] : List Value), cellC k44 92 (([(.int .i64 (((proposeD (votesD ((startD D0).1) 2 2 hash0 k) 2 (-1) x (ok)).1).f)), (.int .i64 (((proposeD (votesD ((startD D0).1) 2 2 hash0 k) 2 (-1) x (ok)).1).c)), (.int .i64 (((proposeD (votesD ((startD D0).1) 2 2 hash0 k) 2 (-1) x (ok)).1).epoch)), (.int .i64 (((proposeD (votesD ((startD D0).1) 2 2 hash0 k) 2 (-1) x (ok)).1).replica)), (.int .i64 (((proposeD (votesD ((startD D0).1) 2 2 hash0 k) 2 (-1) x (ok)).1).s.round)), (.int .i64 (((proposeD (votesD ((startD D0).1) 2 2 hash0 k) 2 (-1) x (ok)).1).s.step)), (.int .i64 (((proposeD (votesD ((startD D0).1) 2 2 hash0 k) 2 (-1) x (ok)).1).s.lr)), (.int .i64 (((proposeD (votesD ((startD D0).1) 2 2 hash0 k) 2 (-1) x (ok)).1).s.vr))] : List Value) ++ hc ((proposeD (votesD ((startD D0).1) 2 2 hash0 k) 2 (-1) x (ok)).1).s.locked ++ hc ((proposeD (votesD ((startD D0).1) 2 2 hash0 k) 2 (-1) x (ok)).1).s.valid ++ ([(.bool (((proposeD (votesD ((startD D0).1) 2 2 hash0 k) 2 (-1) x (ok)).1).s.decided))] : List Value) ++ hc ((proposeD (votesD ((startD D0).1) 2 2 hash0 k) 2 (-1) x (ok)).1).s.decision ++ ([(.pointer (some ⟨t45, 0, none⟩)), (.map (some pb50)), (.bool (((proposeD (votesD ((startD D0).1) 2 2 hash0 k) 2 (-1) x (ok)).1).wv)), (.bool (((proposeD (votesD ((startD D0).1) 2 2 hash0 k) 2 (-1) x (ok)).1).sp)), (.bool (((proposeD (votesD ((startD D0).1) 2 2 hash0 k) 2 (-1) x (ok)).1).sc))] : List Value)), talC t45 hb46 cb47 ab48 lb49 ((proposeD (votesD ((startD D0).1) 2 2 hash0 k) 2 (-1) x (ok)).1).f ((proposeD (votesD ((startD D0).1) 2 2 hash0 k) 2 (-1) x (ok)).1).c ((proposeD (votesD ((startD D0).1) 2 2 hash0 k) 2 (-1) x (ok)).1).L, mapC pb50 (Value.int .i64) propV ((proposeD (votesD ((startD D0).1) 2 2 hash0 k) 2 (-1) x (ok)).1).P, rowC 45 35 (.slice a58 (((startD D0).2).length) c59) (((startD D0).2).length) (((startD D0).2).flatMap encA), rowC 45 35 (.slice a203 (((votesA ((startD D0).1) 2 2 hash0 k) ++ (proposeD (votesD ((startD D0).1) 2 2 hash0 k) 2 (-1) x (ok)).2).length) c204) (((votesA ((startD D0).1) 2 2 hash0 k) ++ (proposeD (votesD ((startD D0).1) 2 2 hash0 k) 2 (-1) x (ok)).2).length) (((votesA ((startD D0).1) 2 2 hash0 k) ++ (proposeD (votesD ((startD D0).1) 2 2 hash0 k) 2 (-1) x (ok)).2).flatMap encA), rowC 45 35 (.slice a197 (((proposeD (votesD ((startD D0).1) 2 2 hash0 k) 2 (-1) x (ok)).2).length) c198) (((proposeD (votesD ((startD D0).1) 2 2 hash0 k) 2 (-1) x (ok)).2).length) (((proposeD (votesD ((startD D0).1) 2 2 hash0 k) 2 (-1) x (ok)).2).flatMap encA), cellC b207 36 (hc want)] W_) ?_ ?_
        · refine w_seq ?_
          refine w_lit ?_
          refine wl_pure (wants0 rfl) (d := 74) (v := (.bool (ok))) rfl (by kernel_rfl) ?_
          refine w_nil ?_
          refine then_normal ?_
          refine (bsplit (ok)).elim (fun b215 => ?_) (fun b215 => ?_)
          · refine wp_know 74 (.bool true) (congrArg Value.bool b215) ?_
            refine wp_ift rfl ?_
            refine w_lit ?_
            refine wl_pure (wants0 rfl) (d := 75) (v := (.agg ⟨(hc x)⟩)) rfl (e_loadN (vs := (hc x)) rfl (by kernel_rfl) (by kernel_rfl) (by exact Nat.le_of_ble_eq_true (by kernel_rfl)) (H212.at 1 rfl) (by kernel_rfl)) ?_
            refine wl_do (wants0 rfl) (fun K216 hK216 => ?_)
            refine d_storeX (vs := (hc x)) (cs' := (hc x)) rfl H212 9 rfl rfl rfl rfl (by kernel_rfl) (Nat.le_of_ble_eq_true (by kernel_rfl)) (Nat.le_of_ble_eq_true (by kernel_rfl)) (by kernel_rfl) (by kernel_rfl) ?_
            intro w217 (H218 : Sat w [restC w (fun _ => False), cellC b2 36 (hc x), cellC b10 25 ([(.int .i64 (F)), (.int .i64 (1))] : List Value), cellC k44 92 (([(.int .i64 (((proposeD (votesD ((startD D0).1) 2 2 hash0 k) 2 (-1) x (ok)).1).f)), (.int .i64 (((proposeD (votesD ((startD D0).1) 2 2 hash0 k) 2 (-1) x (ok)).1).c)), (.int .i64 (((proposeD (votesD ((startD D0).1) 2 2 hash0 k) 2 (-1) x (ok)).1).epoch)), (.int .i64 (((proposeD (votesD ((startD D0).1) 2 2 hash0 k) 2 (-1) x (ok)).1).replica)), (.int .i64 (((proposeD (votesD ((startD D0).1) 2 2 hash0 k) 2 (-1) x (ok)).1).s.round)), (.int .i64 (((proposeD (votesD ((startD D0).1) 2 2 hash0 k) 2 (-1) x (ok)).1).s.step)), (.int .i64 (((proposeD (votesD ((startD D0).1) 2 2 hash0 k) 2 (-1) x (ok)).1).s.lr)), (.int .i64 (((proposeD (votesD ((startD D0).1) 2 2 hash0 k) 2 (-1) x (ok)).1).s.vr))] : List Value) ++ hc ((proposeD (votesD ((startD D0).1) 2 2 hash0 k) 2 (-1) x (ok)).1).s.locked ++ hc ((proposeD (votesD ((startD D0).1) 2 2 hash0 k) 2 (-1) x (ok)).1).s.valid ++ ([(.bool (((proposeD (votesD ((startD D0).1) 2 2 hash0 k) 2 (-1) x (ok)).1).s.decided))] : List Value) ++ hc ((proposeD (votesD ((startD D0).1) 2 2 hash0 k) 2 (-1) x (ok)).1).s.decision ++ ([(.pointer (some ⟨t45, 0, none⟩)), (.map (some pb50)), (.bool (((proposeD (votesD ((startD D0).1) 2 2 hash0 k) 2 (-1) x (ok)).1).wv)), (.bool (((proposeD (votesD ((startD D0).1) 2 2 hash0 k) 2 (-1) x (ok)).1).sp)), (.bool (((proposeD (votesD ((startD D0).1) 2 2 hash0 k) 2 (-1) x (ok)).1).sc))] : List Value)), talC t45 hb46 cb47 ab48 lb49 ((proposeD (votesD ((startD D0).1) 2 2 hash0 k) 2 (-1) x (ok)).1).f ((proposeD (votesD ((startD D0).1) 2 2 hash0 k) 2 (-1) x (ok)).1).c ((proposeD (votesD ((startD D0).1) 2 2 hash0 k) 2 (-1) x (ok)).1).L, mapC pb50 (Value.int .i64) propV ((proposeD (votesD ((startD D0).1) 2 2 hash0 k) 2 (-1) x (ok)).1).P, rowC 45 35 (.slice a58 (((startD D0).2).length) c59) (((startD D0).2).length) (((startD D0).2).flatMap encA), rowC 45 35 (.slice a203 (((votesA ((startD D0).1) 2 2 hash0 k) ++ (proposeD (votesD ((startD D0).1) 2 2 hash0 k) 2 (-1) x (ok)).2).length) c204) (((votesA ((startD D0).1) 2 2 hash0 k) ++ (proposeD (votesD ((startD D0).1) 2 2 hash0 k) 2 (-1) x (ok)).2).length) (((votesA ((startD D0).1) 2 2 hash0 k) ++ (proposeD (votesD ((startD D0).1) 2 2 hash0 k) 2 (-1) x (ok)).2).flatMap encA), rowC 45 35 (.slice a197 (((proposeD (votesD ((startD D0).1) 2 2 hash0 k) 2 (-1) x (ok)).2).length) c198) (((proposeD (votesD ((startD D0).1) 2 2 hash0 k) 2 (-1) x (ok)).2).length) (((proposeD (votesD ((startD D0).1) 2 2 hash0 k) 2 (-1) x (ok)).2).flatMap encA), cellC b207 36 (hc x)] w217)
            refine hK216 _ _ ?_
            clear hK216 K216
            refine w_nil ?_
            have H220 : Sat w [restC w (fun _ => False), cellC b2 36 (hc x), cellC b10 25 ([(.int .i64 (F)), (.int .i64 (1))] : List Value), cellC k44 92 (([(.int .i64 (((proposeD (votesD ((startD D0).1) 2 2 hash0 k) 2 (-1) x (ok)).1).f)), (.int .i64 (((proposeD (votesD ((startD D0).1) 2 2 hash0 k) 2 (-1) x (ok)).1).c)), (.int .i64 (((proposeD (votesD ((startD D0).1) 2 2 hash0 k) 2 (-1) x (ok)).1).epoch)), (.int .i64 (((proposeD (votesD ((startD D0).1) 2 2 hash0 k) 2 (-1) x (ok)).1).replica)), (.int .i64 (((proposeD (votesD ((startD D0).1) 2 2 hash0 k) 2 (-1) x (ok)).1).s.round)), (.int .i64 (((proposeD (votesD ((startD D0).1) 2 2 hash0 k) 2 (-1) x (ok)).1).s.step)), (.int .i64 (((proposeD (votesD ((startD D0).1) 2 2 hash0 k) 2 (-1) x (ok)).1).s.lr)), (.int .i64 (((proposeD (votesD ((startD D0).1) 2 2 hash0 k) 2 (-1) x (ok)).1).s.vr))] : List Value) ++ hc ((proposeD (votesD ((startD D0).1) 2 2 hash0 k) 2 (-1) x (ok)).1).s.locked ++ hc ((proposeD (votesD ((startD D0).1) 2 2 hash0 k) 2 (-1) x (ok)).1).s.valid ++ ([(.bool (((proposeD (votesD ((startD D0).1) 2 2 hash0 k) 2 (-1) x (ok)).1).s.decided))] : List Value) ++ hc ((proposeD (votesD ((startD D0).1) 2 2 hash0 k) 2 (-1) x (ok)).1).s.decision ++ ([(.pointer (some ⟨t45, 0, none⟩)), (.map (some pb50)), (.bool (((proposeD (votesD ((startD D0).1) 2 2 hash0 k) 2 (-1) x (ok)).1).wv)), (.bool (((proposeD (votesD ((startD D0).1) 2 2 hash0 k) 2 (-1) x (ok)).1).sp)), (.bool (((proposeD (votesD ((startD D0).1) 2 2 hash0 k) 2 (-1) x (ok)).1).sc))] : List Value)), talC t45 hb46 cb47 ab48 lb49 ((proposeD (votesD ((startD D0).1) 2 2 hash0 k) 2 (-1) x (ok)).1).f ((proposeD (votesD ((startD D0).1) 2 2 hash0 k) 2 (-1) x (ok)).1).c ((proposeD (votesD ((startD D0).1) 2 2 hash0 k) 2 (-1) x (ok)).1).L, mapC pb50 (Value.int .i64) propV ((proposeD (votesD ((startD D0).1) 2 2 hash0 k) 2 (-1) x (ok)).1).P, rowC 45 35 (.slice a58 (((startD D0).2).length) c59) (((startD D0).2).length) (((startD D0).2).flatMap encA), rowC 45 35 (.slice a203 (((votesA ((startD D0).1) 2 2 hash0 k) ++ (proposeD (votesD ((startD D0).1) 2 2 hash0 k) 2 (-1) x (ok)).2).length) c204) (((votesA ((startD D0).1) 2 2 hash0 k) ++ (proposeD (votesD ((startD D0).1) 2 2 hash0 k) 2 (-1) x (ok)).2).length) (((votesA ((startD D0).1) 2 2 hash0 k) ++ (proposeD (votesD ((startD D0).1) 2 2 hash0 k) 2 (-1) x (ok)).2).flatMap encA), rowC 45 35 (.slice a197 (((proposeD (votesD ((startD D0).1) 2 2 hash0 k) 2 (-1) x (ok)).2).length) c198) (((proposeD (votesD ((startD D0).1) 2 2 hash0 k) 2 (-1) x (ok)).2).length) (((proposeD (votesD ((startD D0).1) 2 2 hash0 k) 2 (-1) x (ok)).2).flatMap encA), cellC b207 36 (hc want)] w217 := H218.cast (by rw [hwant, b215]; rfl)
            refine meetR_at ?_ ⟨trivial, H220⟩
            exact (same_upd rfl (same_upd rfl (same_upd rfl (same_refl))))
          · refine wp_know 74 (.bool false) (congrArg Value.bool b215) ?_
            refine wp_iff rfl ?_
            refine w_skip ?_
            have H221 : Sat w [restC w (fun _ => False), cellC b2 36 (hc x), cellC b10 25 ([(.int .i64 (F)), (.int .i64 (1))] : List Value), cellC k44 92 (([(.int .i64 (((proposeD (votesD ((startD D0).1) 2 2 hash0 k) 2 (-1) x (ok)).1).f)), (.int .i64 (((proposeD (votesD ((startD D0).1) 2 2 hash0 k) 2 (-1) x (ok)).1).c)), (.int .i64 (((proposeD (votesD ((startD D0).1) 2 2 hash0 k) 2 (-1) x (ok)).1).epoch)), (.int .i64 (((proposeD (votesD ((startD D0).1) 2 2 hash0 k) 2 (-1) x (ok)).1).replica)), (.int .i64 (((proposeD (votesD ((startD D0).1) 2 2 hash0 k) 2 (-1) x (ok)).1).s.round)), (.int .i64 (((proposeD (votesD ((startD D0).1) 2 2 hash0 k) 2 (-1) x (ok)).1).s.step)), (.int .i64 (((proposeD (votesD ((startD D0).1) 2 2 hash0 k) 2 (-1) x (ok)).1).s.lr)), (.int .i64 (((proposeD (votesD ((startD D0).1) 2 2 hash0 k) 2 (-1) x (ok)).1).s.vr))] : List Value) ++ hc ((proposeD (votesD ((startD D0).1) 2 2 hash0 k) 2 (-1) x (ok)).1).s.locked ++ hc ((proposeD (votesD ((startD D0).1) 2 2 hash0 k) 2 (-1) x (ok)).1).s.valid ++ ([(.bool (((proposeD (votesD ((startD D0).1) 2 2 hash0 k) 2 (-1) x (ok)).1).s.decided))] : List Value) ++ hc ((proposeD (votesD ((startD D0).1) 2 2 hash0 k) 2 (-1) x (ok)).1).s.decision ++ ([(.pointer (some ⟨t45, 0, none⟩)), (.map (some pb50)), (.bool (((proposeD (votesD ((startD D0).1) 2 2 hash0 k) 2 (-1) x (ok)).1).wv)), (.bool (((proposeD (votesD ((startD D0).1) 2 2 hash0 k) 2 (-1) x (ok)).1).sp)), (.bool (((proposeD (votesD ((startD D0).1) 2 2 hash0 k) 2 (-1) x (ok)).1).sc))] : List Value)), talC t45 hb46 cb47 ab48 lb49 ((proposeD (votesD ((startD D0).1) 2 2 hash0 k) 2 (-1) x (ok)).1).f ((proposeD (votesD ((startD D0).1) 2 2 hash0 k) 2 (-1) x (ok)).1).c ((proposeD (votesD ((startD D0).1) 2 2 hash0 k) 2 (-1) x (ok)).1).L, mapC pb50 (Value.int .i64) propV ((proposeD (votesD ((startD D0).1) 2 2 hash0 k) 2 (-1) x (ok)).1).P, rowC 45 35 (.slice a58 (((startD D0).2).length) c59) (((startD D0).2).length) (((startD D0).2).flatMap encA), rowC 45 35 (.slice a203 (((votesA ((startD D0).1) 2 2 hash0 k) ++ (proposeD (votesD ((startD D0).1) 2 2 hash0 k) 2 (-1) x (ok)).2).length) c204) (((votesA ((startD D0).1) 2 2 hash0 k) ++ (proposeD (votesD ((startD D0).1) 2 2 hash0 k) 2 (-1) x (ok)).2).length) (((votesA ((startD D0).1) 2 2 hash0 k) ++ (proposeD (votesD ((startD D0).1) 2 2 hash0 k) 2 (-1) x (ok)).2).flatMap encA), rowC 45 35 (.slice a197 (((proposeD (votesD ((startD D0).1) 2 2 hash0 k) 2 (-1) x (ok)).2).length) c198) (((proposeD (votesD ((startD D0).1) 2 2 hash0 k) 2 (-1) x (ok)).2).length) (((proposeD (votesD ((startD D0).1) 2 2 hash0 k) 2 (-1) x (ok)).2).flatMap encA), cellC b207 36 (hc want)] w211 := H212.cast (by rw [hwant, b215]; rfl)
            refine meetR_at ?_ ⟨trivial, H221⟩
            exact (same_upd rfl (same_upd rfl (same_refl)))
        · rintro f222 w223 ⟨_, H224⟩
          refine w_seq ?_
          refine w_lit ?_
          refine wl_pure (wants0 rfl) (d := 16) (v := (.int .i64 (0))) rfl (by kernel_rfl) ?_
          refine w_nil ?_
          refine then_normal ?_
          refine w_seq ?_
          refine w_seq ?_
          refine w_lit ?_
          refine wl_pure (wants0 rfl) (d := 76) (v := (.slice a203 (((votesA ((startD D0).1) 2 2 hash0 k) ++ (proposeD (votesD ((startD D0).1) 2 2 hash0 k) 2 (-1) x (ok)).2).length) c204)) rfl (by kernel_rfl) ?_
          refine wl_pure (wants0 rfl) (d := 77) (v := (.int .i64 ((((votesA ((startD D0).1) 2 2 hash0 k) ++ (proposeD (votesD ((startD D0).1) 2 2 hash0 k) 2 (-1) x (ok)).2).length : Int)))) rfl (by kernel_rfl) ?_
          refine wl_pure (wants0 rfl) (d := 78) (v := (.int .i64 (0))) rfl (by kernel_rfl) ?_
          refine w_nil ?_
          refine then_normal ?_
          refine w_block ?_
          have hLO : LaterOk want ((votesA ((startD D0).1) 2 2 hash0 k) ++ (proposeD (votesD ((startD D0).1) 2 2 hash0 k) 2 (-1) x (ok)).2) ((proposeD (votesD ((startD D0).1) 2 2 hash0 k) 2 (-1) x (ok)).1) := by first | exact hE | exact hL
          refine wp_round [8, 16, 17, 78, 79, 80, 81, 82, 83, 84, 85, 86, 87, 88, 89, 90, 91, 92, 93, 94, 95, 96, 97, 98, 99, 100, 101, 102, 103, 104] (fun F_ W_ m_ => ∃ (i : Nat), F_ 78 = (.int .i64 ((i : Int))) ∧ F_ 16 = (.int .i64 ((((((votesA ((startD D0).1) 2 2 hash0 k) ++ (proposeD (votesD ((startD D0).1) 2 2 hash0 k) 2 (-1) x (ok)).2).take i).countP fun a => decide (a.kind = 2) : Nat) : Int))) ∧ (i ≤ ((votesA ((startD D0).1) 2 2 hash0 k) ++ (proposeD (votesD ((startD D0).1) 2 2 hash0 k) 2 (-1) x (ok)).2).length) ∧ Sat w [restC w (fun _ => False), cellC b2 36 (hc x), cellC b10 25 ([(.int .i64 (F)), (.int .i64 (1))] : List Value), cellC k44 92 (([(.int .i64 (((proposeD (votesD ((startD D0).1) 2 2 hash0 k) 2 (-1) x (ok)).1).f)), (.int .i64 (((proposeD (votesD ((startD D0).1) 2 2 hash0 k) 2 (-1) x (ok)).1).c)), (.int .i64 (((proposeD (votesD ((startD D0).1) 2 2 hash0 k) 2 (-1) x (ok)).1).epoch)), (.int .i64 (((proposeD (votesD ((startD D0).1) 2 2 hash0 k) 2 (-1) x (ok)).1).replica)), (.int .i64 (((proposeD (votesD ((startD D0).1) 2 2 hash0 k) 2 (-1) x (ok)).1).s.round)), (.int .i64 (((proposeD (votesD ((startD D0).1) 2 2 hash0 k) 2 (-1) x (ok)).1).s.step)), (.int .i64 (((proposeD (votesD ((startD D0).1) 2 2 hash0 k) 2 (-1) x (ok)).1).s.lr)), (.int .i64 (((proposeD (votesD ((startD D0).1) 2 2 hash0 k) 2 (-1) x (ok)).1).s.vr))] : List Value) ++ hc ((proposeD (votesD ((startD D0).1) 2 2 hash0 k) 2 (-1) x (ok)).1).s.locked ++ hc ((proposeD (votesD ((startD D0).1) 2 2 hash0 k) 2 (-1) x (ok)).1).s.valid ++ ([(.bool (((proposeD (votesD ((startD D0).1) 2 2 hash0 k) 2 (-1) x (ok)).1).s.decided))] : List Value) ++ hc ((proposeD (votesD ((startD D0).1) 2 2 hash0 k) 2 (-1) x (ok)).1).s.decision ++ ([(.pointer (some ⟨t45, 0, none⟩)), (.map (some pb50)), (.bool (((proposeD (votesD ((startD D0).1) 2 2 hash0 k) 2 (-1) x (ok)).1).wv)), (.bool (((proposeD (votesD ((startD D0).1) 2 2 hash0 k) 2 (-1) x (ok)).1).sp)), (.bool (((proposeD (votesD ((startD D0).1) 2 2 hash0 k) 2 (-1) x (ok)).1).sc))] : List Value)), talC t45 hb46 cb47 ab48 lb49 ((proposeD (votesD ((startD D0).1) 2 2 hash0 k) 2 (-1) x (ok)).1).f ((proposeD (votesD ((startD D0).1) 2 2 hash0 k) 2 (-1) x (ok)).1).c ((proposeD (votesD ((startD D0).1) 2 2 hash0 k) 2 (-1) x (ok)).1).L, mapC pb50 (Value.int .i64) propV ((proposeD (votesD ((startD D0).1) 2 2 hash0 k) 2 (-1) x (ok)).1).P, rowC 45 35 (.slice a58 (((startD D0).2).length) c59) (((startD D0).2).length) (((startD D0).2).flatMap encA), rowC 45 35 (.slice a203 (((votesA ((startD D0).1) 2 2 hash0 k) ++ (proposeD (votesD ((startD D0).1) 2 2 hash0 k) 2 (-1) x (ok)).2).length) c204) (((votesA ((startD D0).1) 2 2 hash0 k) ++ (proposeD (votesD ((startD D0).1) 2 2 hash0 k) 2 (-1) x (ok)).2).length) (((votesA ((startD D0).1) 2 2 hash0 k) ++ (proposeD (votesD ((startD D0).1) 2 2 hash0 k) 2 (-1) x (ok)).2).flatMap encA), rowC 45 35 (.slice a197 (((proposeD (votesD ((startD D0).1) 2 2 hash0 k) 2 (-1) x (ok)).2).length) c198) (((proposeD (votesD ((startD D0).1) 2 2 hash0 k) 2 (-1) x (ok)).2).length) (((proposeD (votesD ((startD D0).1) 2 2 hash0 k) 2 (-1) x (ok)).2).flatMap encA), cellC b207 36 (hc want)] W_ ∧ m_ = ((votesA ((startD D0).1) 2 2 hash0 k) ++ (proposeD (votesD ((startD D0).1) 2 2 hash0 k) 2 (-1) x (ok)).2).length - i) _ ⟨0, (by first | rfl | go_num), (by first | rfl | go_num), (Nat.zero_le _), H224, rfl⟩ ?_
          rintro g225 w226 _ ⟨i, v228, v229, hi, H227, rfl⟩
          refine wp_know 78 _ v228 ?_
          refine wp_know 16 _ v229 ?_
          have hcl := take_count_le ((votesA ((startD D0).1) 2 2 hash0 k) ++ (proposeD (votesD ((startD D0).1) 2 2 hash0 k) 2 (-1) x (ok)).2) i (fun a => decide (a.kind = 2))
          have hAl : ((votesA ((startD D0).1) 2 2 hash0 k) ++ (proposeD (votesD ((startD D0).1) 2 2 hash0 k) 2 (-1) x (ok)).2).length ≤ 100000000 := by first | omega | (simp only [List.length_append]; omega)
          refine w_seq ?_
          refine w_lit ?_
          refine wl_pure (wants0 rfl) (d := 79) (v := (.bool (decide ((i : Int) < (((votesA ((startD D0).1) 2 2 hash0 k) ++ (proposeD (votesD ((startD D0).1) 2 2 hash0 k) 2 (-1) x (ok)).2).length : Int))))) rfl (by kernel_rfl) ?_
          refine w_nil ?_
          refine then_normal ?_
          refine w_seq ?_
          refine (bsplit (decide ((i : Int) < (((votesA ((startD D0).1) 2 2 hash0 k) ++ (proposeD (votesD ((startD D0).1) 2 2 hash0 k) 2 (-1) x (ok)).2).length : Int)))).elim (fun b231 => ?_) (fun b231 => ?_)
          · have g232 := of_decide_eq_true b231
            refine wp_know 79 (.bool true) (congrArg Value.bool b231) ?_
            have g233 := of_decide_eq_true b231
            refine wp_ift rfl ?_
            refine w_skip ?_
            refine then_normal ?_
            refine w_seq ?_
            refine w_block ?_
            refine w_seq ?_
            refine w_lit ?_
            refine wl_pure (wants0 rfl) (d := 80) (v := (.int .i64 ((i : Int)))) rfl (by kernel_rfl) ?_
            refine wl_pure (wants0 rfl) (d := 17) (v := (.int .i64 ((i : Int)))) rfl (by kernel_rfl) ?_
            refine w_nil ?_
            refine then_normal ?_
            refine w_seq ?_
            refine w_lit ?_
            refine wl_pure (wants0 rfl) (d := 81) (v := (.slice a203 (((votesA ((startD D0).1) 2 2 hash0 k) ++ (proposeD (votesD ((startD D0).1) 2 2 hash0 k) 2 (-1) x (ok)).2).length) c204)) rfl (by kernel_rfl) ?_
            refine wl_pure (wants0 rfl) (d := 82) (v := (.int .i64 ((i : Int)))) rfl (by kernel_rfl) ?_
            obtain ⟨g234, c235, e236⟩ := row_shape (H227.at 7 rfl) (by omega)
            obtain ⟨x237, h238⟩ := get_at (show i < ((votesA ((startD D0).1) 2 2 hash0 k) ++ (proposeD (votesD ((startD D0).1) 2 2 hash0 k) 2 (-1) x (ok)).2).length by omega)
            refine wl_pure (wants0 rfl) (d := 83) (v := (.pointer (some ⟨g234, 0 + ((i : Int)).toNat * 35, none⟩))) rfl (e_indexAddrV (E := 45) (by kernel_rfl) (by kernel_rfl) (Nat.le_of_ble_eq_true rfl) rfl e236 rfl (by omega) (by omega)) ?_
            refine wl_pure (wants0 rfl) (d := 84) (v := (.pointer (some ⟨g234, 0 + ((i : Int)).toNat * 35, none⟩))) rfl (by kernel_rfl) ?_
            refine wl_pure (wants0 rfl) (d := 85) (v := (.int .i64 (x237.kind))) rfl (e_load1 rfl (by kernel_rfl) (rows_cell (H227.at 7 rfl) e236 encA_len h238 0 rfl (show 0 + ((i : Int)).toNat * 35 = i * 35 + 0 by omega) (by kernel_rfl))) ?_
            refine wl_pure (wants0 rfl) (d := 86) (v := (.bool (decide (x237.kind = 2)))) rfl (by kernel_rfl) ?_
            refine w_nil ?_
            refine then_normal ?_
            refine (bsplit (decide (x237.kind = 2))).elim (fun b239 => ?_) (fun b239 => ?_)
            · have g240 := of_decide_eq_true b239
              refine wp_know 86 (.bool true) (congrArg Value.bool b239) ?_
              have g241 := of_decide_eq_true b239
              refine wp_ift rfl ?_
              refine w_seq ?_
              refine w_lit ?_
              refine wl_pure (wants0 rfl) (d := 87) (v := (.int .i64 ((((((votesA ((startD D0).1) 2 2 hash0 k) ++ (proposeD (votesD ((startD D0).1) 2 2 hash0 k) 2 (-1) x (ok)).2).take i).countP fun a => decide (a.kind = 2) : Nat) : Int)))) rfl (by kernel_rfl) ?_
              refine wl_pure (wants0 rfl) (d := 88) (v := (.int .i64 ((((((votesA ((startD D0).1) 2 2 hash0 k) ++ (proposeD (votesD ((startD D0).1) 2 2 hash0 k) 2 (-1) x (ok)).2).take i).countP fun a => decide (a.kind = 2) : Nat) : Int) + 1))) rfl (e_int (z := (((((votesA ((startD D0).1) 2 2 hash0 k) ++ (proposeD (votesD ((startD D0).1) 2 2 hash0 k) 2 (-1) x (ok)).2).take i).countP fun a => decide (a.kind = 2) : Nat) : Int) + 1) (by kernel_rfl) (IntWalk.i64_in _ (by omega))) ?_
              refine wl_pure (wants0 rfl) (d := 16) (v := (.int .i64 ((((((votesA ((startD D0).1) 2 2 hash0 k) ++ (proposeD (votesD ((startD D0).1) 2 2 hash0 k) 2 (-1) x (ok)).2).take i).countP fun a => decide (a.kind = 2) : Nat) : Int) + 1))) rfl (by kernel_rfl) ?_
              refine w_nil ?_
              refine then_normal ?_
              refine w_seq ?_
              refine q_start H227 (by kernel_rfl) (by kernel_rfl) ?_
              refine q_val (wants0 rfl) (d := 89) (v := (.slice a203 (((votesA ((startD D0).1) 2 2 hash0 k) ++ (proposeD (votesD ((startD D0).1) 2 2 hash0 k) 2 (-1) x (ok)).2).length) c204)) rfl (fun _ H' => (by kernel_rfl)) ?_
              refine q_val (wants0 rfl) (d := 90) (v := (.int .i64 ((i : Int)))) rfl (fun _ H' => (by kernel_rfl)) ?_
              refine q_val (wants0 rfl) (d := 91) (v := (.pointer (some ⟨g234, 0 + ((i : Int)).toNat * 35, none⟩))) rfl (fun _ H' => (e_indexAddrV (E := 45) (by kernel_rfl) (by kernel_rfl) (Nat.le_of_ble_eq_true rfl) rfl e236 rfl (by omega) (by omega))) ?_
              refine q_val (wants0 rfl) (d := 92) (v := (.pointer (some ⟨g234, 0 + ((i : Int)).toNat * 35 + 1, none⟩))) rfl (fun _ H' => (by kernel_rfl)) ?_
              refine q_val (wants0 rfl) (d := 93) (v := (.int .i64 (x237.round))) rfl (fun _ H' => (e_load1 rfl (by kernel_rfl) (rows_cell (H'.at 7 rfl) e236 encA_len h238 1 rfl (show 0 + ((i : Int)).toNat * 35 + 1 = i * 35 + 1 by omega) (by kernel_rfl)))) ?_
              refine q_val (wants0 rfl) (d := 94) (v := (.bool (!(decide (x237.round = 2))))) rfl (fun _ H' => (by kernel_rfl)) ?_
              refine q_val (wants0 rfl) (d := 95) (v := (.bool (!(decide (x237.round = 2))))) rfl (fun _ H' => (by kernel_rfl)) ?_
              have b242 : (!(decide (x237.round = 2))) = false := by (have q := hLO.all _ (List.mem_of_getElem? h238) (of_decide_eq_true (by assumption)); rw [q.1]; rfl)
              refine q_know 95 (.bool false) (congrArg Value.bool b242) ?_
              refine q_val (wantsY 6 95 false rfl (by kernel_rfl) rfl (by kernel_rfl)) (d := 96) (v := (.slice a203 (((votesA ((startD D0).1) 2 2 hash0 k) ++ (proposeD (votesD ((startD D0).1) 2 2 hash0 k) 2 (-1) x (ok)).2).length) c204)) rfl (fun _ H' => (by kernel_rfl)) ?_
              refine q_val (wantsY 6 95 false rfl (by kernel_rfl) rfl (by kernel_rfl)) (d := 97) (v := (.int .i64 ((i : Int)))) rfl (fun _ H' => (by kernel_rfl)) ?_
              refine q_val (wantsY 6 95 false rfl (by kernel_rfl) rfl (by kernel_rfl)) (d := 98) (v := (.pointer (some ⟨g234, 0 + ((i : Int)).toNat * 35, none⟩))) rfl (fun _ H' => (e_indexAddrV (E := 45) (by kernel_rfl) (by kernel_rfl) (Nat.le_of_ble_eq_true rfl) rfl e236 rfl (by omega) (by omega))) ?_
              refine q_val (wantsY 6 95 false rfl (by kernel_rfl) rfl (by kernel_rfl)) (d := 99) (v := (.pointer (some ⟨g234, 0 + ((i : Int)).toNat * 35 + 3, none⟩))) rfl (fun _ H' => (by kernel_rfl)) ?_
              refine q_val (wantsY 6 95 false rfl (by kernel_rfl) rfl (by kernel_rfl)) (d := 100) (v := (.agg ⟨(hc x237.h)⟩)) rfl (fun _ H' => (e_loadRun (vs := (hc x237.h)) rfl (by kernel_rfl) (by kernel_rfl) (Nat.le_of_ble_eq_true (by kernel_rfl)) (rows_run (H'.at 7 rfl) e236 encA_len h238 3 (show 0 + ((i : Int)).toNat * 35 + 3 = i * 35 + 3 by omega) (by kernel_rfl) (by kernel_rfl)))) ?_
              refine q_val (wantsY 6 95 false rfl (by kernel_rfl) rfl (by kernel_rfl)) (d := 101) (v := (.agg ⟨(hc want)⟩)) rfl (fun _ H' => (e_loadN (vs := (hc want)) rfl (by kernel_rfl) (by kernel_rfl) (by exact Nat.le_of_ble_eq_true (by kernel_rfl)) (H'.at 9 rfl) (by kernel_rfl))) ?_
              refine q_val (wantsY 6 95 false rfl (by kernel_rfl) rfl (by kernel_rfl)) (d := 102) (v := (.bool (!(decide (x237.h = want))))) rfl (fun _ H' => (e_neHash x237.h want rfl rfl)) ?_
              refine q_val (wants0 rfl) (d := 103) (v := (.bool (!(decide (x237.h = want))))) rfl (fun _ H' => (by kernel_rfl)) ?_
              refine q_end ?_
              intro w243 H244
              refine then_normal ?_
              have b245 : (!(decide (x237.h = want))) = false := by (have q := hLO.all _ (List.mem_of_getElem? h238) (of_decide_eq_true (by assumption)); rw [q.2]; simp)
              refine wp_know 103 (.bool false) (congrArg Value.bool b245) ?_
              have g246 := bnot_false b245
              have g247 := of_decide_eq_true g246
              refine wp_iff rfl ?_
              refine w_skip ?_
              refine blk_normal ?_
              refine then_normal ?_
              refine w_lit ?_
              refine wl_pure (wants0 rfl) (d := 104) (v := (.int .i64 ((i : Int) + 1))) rfl (e_int (z := (i : Int) + 1) (by kernel_rfl) (IntWalk.i64_in _ (by omega))) ?_
              refine wl_pure (wants0 rfl) (d := 78) (v := (.int .i64 ((i : Int) + 1))) rfl (by kernel_rfl) ?_
              refine w_nil ?_
              have hcnt := take_count (p := fun a : ActD => decide (a.kind = 2)) h238
              simp only [show decide (x237.kind = 2) = true from b239, cond_true, cond_false] at hcnt
              refine round_back ?_ _ ⟨(i + 1), (show ((.int .i64 ((i : Int) + 1)) : Value) = _ by first | rfl | (rw [hcnt]; rfl) | (rw [hcnt]; simp)), (show ((.int .i64 ((((((votesA ((startD D0).1) 2 2 hash0 k) ++ (proposeD (votesD ((startD D0).1) 2 2 hash0 k) 2 (-1) x (ok)).2).take i).countP fun a => decide (a.kind = 2) : Nat) : Int) + 1)) : Value) = _ by first | rfl | (rw [hcnt]; rfl) | (rw [hcnt]; simp)), (by omega), H244, rfl⟩ (by omega)
              exact (same_upd rfl (same_upd rfl (same_upd rfl (same_upd rfl (same_upd rfl (same_upd rfl (same_upd rfl (same_upd rfl (same_upd rfl (same_upd rfl (same_upd rfl (same_upd rfl (same_upd rfl (same_upd rfl (same_upd rfl (same_upd rfl (same_upd rfl (same_upd rfl (same_upd rfl (same_upd rfl (same_upd rfl (same_upd rfl (same_upd rfl (same_upd rfl (same_upd rfl (same_upd rfl (same_upd rfl (same_upd rfl (same_upd rfl (same_upd rfl (same_upd rfl (same_upd rfl (same_upd rfl (same_upd rfl (same_upd rfl (same_ovr))))))))))))))))))))))))))))))))))))
            · have g248 := of_decide_eq_false b239
              refine wp_know 86 (.bool false) (congrArg Value.bool b239) ?_
              have g249 := of_decide_eq_false b239
              refine wp_iff rfl ?_
              refine w_skip ?_
              refine blk_normal ?_
              refine then_normal ?_
              refine w_lit ?_
              refine wl_pure (wants0 rfl) (d := 104) (v := (.int .i64 ((i : Int) + 1))) rfl (e_int (z := (i : Int) + 1) (by kernel_rfl) (IntWalk.i64_in _ (by omega))) ?_
              refine wl_pure (wants0 rfl) (d := 78) (v := (.int .i64 ((i : Int) + 1))) rfl (by kernel_rfl) ?_
              refine w_nil ?_
              have hcnt := take_count (p := fun a : ActD => decide (a.kind = 2)) h238
              simp only [show decide (x237.kind = 2) = false from b239, cond_true, cond_false] at hcnt
              refine round_back ?_ _ ⟨(i + 1), (show ((.int .i64 ((i : Int) + 1)) : Value) = _ by first | rfl | (rw [hcnt]; rfl) | (rw [hcnt]; simp)), (show ((.int .i64 ((((((votesA ((startD D0).1) 2 2 hash0 k) ++ (proposeD (votesD ((startD D0).1) 2 2 hash0 k) 2 (-1) x (ok)).2).take i).countP fun a => decide (a.kind = 2) : Nat) : Int))) : Value) = _ by first | rfl | (rw [hcnt]; rfl) | (rw [hcnt]; simp)), (by omega), H227, rfl⟩ (by omega)
              exact (same_upd rfl (same_upd rfl (same_upd rfl (same_upd rfl (same_upd rfl (same_upd rfl (same_upd rfl (same_upd rfl (same_upd rfl (same_upd rfl (same_upd rfl (same_upd rfl (same_upd rfl (same_upd rfl (same_upd rfl (same_ovr))))))))))))))))
          · have g250 := of_decide_eq_false b231
            refine wp_know 79 (.bool false) (congrArg Value.bool b231) ?_
            have g251 := of_decide_eq_false b231
            refine wp_iff rfl ?_
            refine w_exit ?_
            refine then_exit ?_
            refine back_exit ?_
            refine blk_hit ?_
            refine then_normal ?_
            refine w_seq ?_
            have hie : i = ((votesA ((startD D0).1) 2 2 hash0 k) ++ (proposeD (votesD ((startD D0).1) 2 2 hash0 k) 2 (-1) x (ok)).2).length := by have := of_decide_eq_false b231; omega
            refine w_lit ?_
            refine wl_pure (wants0 rfl) (d := 105) (v := (.int .i64 ((((((votesA ((startD D0).1) 2 2 hash0 k) ++ (proposeD (votesD ((startD D0).1) 2 2 hash0 k) 2 (-1) x (ok)).2).take i).countP fun a => decide (a.kind = 2) : Nat) : Int)))) rfl (by kernel_rfl) ?_
            refine wl_pure (wants0 rfl) (d := 106) (v := (.bool (decide ((((((votesA ((startD D0).1) 2 2 hash0 k) ++ (proposeD (votesD ((startD D0).1) 2 2 hash0 k) 2 (-1) x (ok)).2).take i).countP fun a => decide (a.kind = 2) : Nat) : Int) = 1)))) rfl (by kernel_rfl) ?_
            refine wl_pure (wants0 rfl) (d := 107) (v := (.bool (decide ((((((votesA ((startD D0).1) 2 2 hash0 k) ++ (proposeD (votesD ((startD D0).1) 2 2 hash0 k) 2 (-1) x (ok)).2).take i).countP fun a => decide (a.kind = 2) : Nat) : Int) = 1)))) rfl (by kernel_rfl) ?_
            have b252 : (decide ((((((votesA ((startD D0).1) 2 2 hash0 k) ++ (proposeD (votesD ((startD D0).1) 2 2 hash0 k) 2 (-1) x (ok)).2).take i).countP fun a => decide (a.kind = 2) : Nat) : Int) = 1)) = true := by (rw [hie, List.take_of_length_le (Nat.le_refl _), hLO.one]; rfl)
            refine wl_know 107 (.bool true) (congrArg Value.bool b252) ?_
            refine wl_pure (wantsY 2 107 true rfl (by kernel_rfl) rfl (by kernel_rfl)) (d := 108) (v := (.pointer (some ⟨k44, 0, none⟩))) rfl (by kernel_rfl) ?_
            refine wl_do (wantsY 2 107 true rfl (by kernel_rfl) rfl (by kernel_rfl)) (fun K253 hK253 => ?_)
            refine d_call (d := 109) rfl (by kernel_rfl) (coreState_any w226 k44 t45 hb46 cb47 ab48 lb49 pb50 ((proposeD (votesD ((startD D0).1) 2 2 hash0 k) 2 (-1) x (ok)).1) (ok_of (by kernel_rfl) (H227.fin [3, 4, 5] (by decide) rfl)) ((votesCI C0.start 2 2 hash0 k).propose 2 (-1) x (ok))) ?_
            rintro _ w254 ⟨rfl, u256⟩
            have H255 := H227.keepU u256
            refine ⟨_, rfl, ?_⟩
            refine hK253 _ _ ?_
            clear hK253 K253
            refine wl_pure (wantsY 2 107 true rfl (by kernel_rfl) rfl (by kernel_rfl)) (d := 110) (v := (.int .i64 (((proposeD (votesD ((startD D0).1) 2 2 hash0 k) 2 (-1) x (ok)).1).s.round))) rfl (by kernel_rfl) ?_
            refine wl_pure (wantsY 2 107 true rfl (by kernel_rfl) rfl (by kernel_rfl)) (d := 111) (v := (.bool (decide ((((proposeD (votesD ((startD D0).1) 2 2 hash0 k) 2 (-1) x (ok)).1).s.round) = 2)))) rfl (by kernel_rfl) ?_
            refine wl_pure (wants0 rfl) (d := 112) (v := (.bool (decide ((((proposeD (votesD ((startD D0).1) 2 2 hash0 k) 2 (-1) x (ok)).1).s.round) = 2)))) rfl (by kernel_rfl) ?_
            refine wl_pure (wants0 rfl) (d := 113) (v := (.bool (decide ((((proposeD (votesD ((startD D0).1) 2 2 hash0 k) 2 (-1) x (ok)).1).s.round) = 2)))) rfl (by kernel_rfl) ?_
            have b257 : (decide ((((proposeD (votesD ((startD D0).1) 2 2 hash0 k) 2 (-1) x (ok)).1).s.round) = 2)) = true := by (rw [hLO.rd]; rfl)
            refine wl_know 113 (.bool true) (congrArg Value.bool b257) ?_
            refine wl_pure (wantsY 8 113 true rfl (by kernel_rfl) rfl (by kernel_rfl)) (d := 114) (v := (.pointer (some ⟨k44, 0, none⟩))) rfl (by kernel_rfl) ?_
            refine wl_do (wantsY 8 113 true rfl (by kernel_rfl) rfl (by kernel_rfl)) (fun K258 hK258 => ?_)
            refine d_call (d := 115) rfl (by kernel_rfl) (coreState_any w254 k44 t45 hb46 cb47 ab48 lb49 pb50 ((proposeD (votesD ((startD D0).1) 2 2 hash0 k) 2 (-1) x (ok)).1) (ok_of (by kernel_rfl) (H255.fin [3, 4, 5] (by decide) rfl)) ((votesCI C0.start 2 2 hash0 k).propose 2 (-1) x (ok))) ?_
            rintro _ w259 ⟨rfl, u261⟩
            have H260 := H255.keepU u261
            refine ⟨_, rfl, ?_⟩
            refine hK258 _ _ ?_
            clear hK258 K258
            refine wl_pure (wantsY 8 113 true rfl (by kernel_rfl) rfl (by kernel_rfl)) (d := 116) (v := (.int .i64 (((proposeD (votesD ((startD D0).1) 2 2 hash0 k) 2 (-1) x (ok)).1).s.step))) rfl (by kernel_rfl) ?_
            refine wl_pure (wantsY 8 113 true rfl (by kernel_rfl) rfl (by kernel_rfl)) (d := 117) (v := (.bool (decide ((((proposeD (votesD ((startD D0).1) 2 2 hash0 k) 2 (-1) x (ok)).1).s.step) = 2)))) rfl (by kernel_rfl) ?_
            refine wl_pure (wants0 rfl) (d := 118) (v := (.bool (decide ((((proposeD (votesD ((startD D0).1) 2 2 hash0 k) 2 (-1) x (ok)).1).s.step) = 2)))) rfl (by kernel_rfl) ?_
            refine wl_pure (wants0 rfl) (d := 119) (v := (.bool (decide ((((proposeD (votesD ((startD D0).1) 2 2 hash0 k) 2 (-1) x (ok)).1).s.step) = 2)))) rfl (by kernel_rfl) ?_
            have b262 : (decide ((((proposeD (votesD ((startD D0).1) 2 2 hash0 k) 2 (-1) x (ok)).1).s.step) = 2)) = true := by (rw [hLO.st]; rfl)
            refine wl_know 119 (.bool true) (congrArg Value.bool b262) ?_
            refine wl_do (wantsY 14 119 true rfl (by kernel_rfl) rfl (by kernel_rfl)) (fun K263 hK263 => ?_)
            refine d_call (d := 120) rfl (by kernel_rfl) (wakes_any w259) ?_
            rintro _ w264 ⟨rfl, u266⟩
            have H265 := H260.keepU u266
            refine ⟨_, rfl, ?_⟩
            refine hK263 _ _ ?_
            clear hK263 K263
            refine wl_pure (wants0 rfl) (d := 121) (v := (.bool true)) rfl (by kernel_rfl) ?_
            refine wl_pure (wants0 rfl) (d := 8) (v := (.bool true)) rfl (by kernel_rfl) ?_
            refine w_nil ?_
            refine then_normal ?_
            refine w_ret ?_
            refine end1 rfl (res_tmp (v := (.bool true)) rfl) ?_
            exact ⟨rfl, H265.upd 0 rfl [] (fun _ h => h.elim)⟩

end Go.Proofs.Ythjmbhneifjeeaa
