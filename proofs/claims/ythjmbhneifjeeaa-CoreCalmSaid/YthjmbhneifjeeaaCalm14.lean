/- WHAT IS PROVED: the walk of CoreCalm. Conditions: stated with each. -/
import Derived.Test.YthjmbhneifjeeaaWakes14
import Derived.Test.YthjmbhneifjeeaaCut14
import Derived.Test.YthjmbhneifjeeaaSpeak14
import Derived.Test.YthjmbhneifjeeaaCalm14M
namespace Go.Proofs.Ythjmbhneifjeeaa
open Go.RowKit

set_option maxRecDepth 100000 in
set_option maxHeartbeats 1000000 in
theorem calm14_walk (w : World) (f epoch F : Int) (h x : Hash) (hx : fixH h 4 = x) (hxz : x ≠ hash0) (va : Option Addr) (vc : Nat) (ord : List Int) (hord : IntsAt w (.slice va ord.length vc) ord) (hF : F = 1 + withinV f 3) (hf : 1 ≤ F ∧ F ≤ 3) :
    Calls Try.prog 5 #[(.int .i64 (f)), (.int .i64 (epoch)), (.agg ⟨(hc h)⟩), (.slice va ord.length vc)] w fun e w' => e = .returned (.bool true) ∧ Upd [] w w' := by
  have H := Sat.start0 w
  have hwe := within_lim epoch 30 (by omega)
  obtain ⟨E, hE⟩ : ∃ E, withinV epoch 30 = E := ⟨_, rfl⟩
  rw [hE] at hwe
  refine calls_fr Try.func5 rfl 188 rfl (Nat.le_of_ble_eq_true rfl) ?_
  refine w_seq ?_
  refine w_lit ?_
  refine wl_do (wants0 rfl) (fun K1 hK1 => ?_)
  refine d_box (vs := (hc h)) rfl H rfl rfl ?_
  intro b2 w3 (H4 : Sat w [restC w (fun _ => False), cellC b2 36 (hc h)] w3)
  refine hK1 _ _ ?_
  clear hK1 K1
  refine wl_pure (wants0 rfl) (d := 8) (v := (.bool false)) rfl (by kernel_rfl) ?_
  refine w_nil ?_
  refine then_normal ?_
  refine w_seq ?_
  refine w_lit ?_
  refine wl_pure (wants0 rfl) (d := 27) (v := (.int .i64 (f))) rfl (by kernel_rfl) ?_
  refine wl_do (wants0 rfl) (fun K5 hK5 => ?_)
  refine d_call (d := 28) rfl (by kernel_rfl) (withinBig_any w3 f 3 (by omega)) ?_
  rintro _ w6 ⟨rfl, u8⟩
  have H7 := H4.keepU u8
  refine ⟨_, rfl, ?_⟩
  refine hK5 _ _ ?_
  clear hK5 K5
  refine wl_pure (wants0 rfl) (d := 29) (v := (.int .i64 (F))) rfl (e_int (z := 1 + (withinV f 3)) (by kernel_rfl) ((by rw [IntWalk.i64_in _ (by omega)]; exact hF.symm))) ?_
  refine wl_pure (wants0 rfl) (d := 30) (v := (.agg ⟨([(.int .i64 (F)), (.int .i64 (1))] : List Value)⟩)) rfl (by kernel_rfl) ?_
  refine wl_do (wants0 rfl) (fun K9 hK9 => ?_)
  refine d_alloc (zs := ([(.int .i64 (0)), (.int .i64 (0))] : List Value)) (z := (.agg ⟨([(.int .i64 (0)), (.int .i64 (0))] : List Value)⟩)) rfl H7 (by kernel_rfl) (by kernel_rfl) ?_
  intro b10 w11 (H12 : Sat w [restC w (fun _ => False), cellC b2 36 (hc h), cellC b10 25 ([(.int .i64 (0)), (.int .i64 (0))] : List Value)] w11)
  refine hK9 _ _ ?_
  clear hK9 K9
  refine wl_do (wants0 rfl) (fun K13 hK13 => ?_)
  refine d_storeX (vs := ([(.int .i64 (F)), (.int .i64 (1))] : List Value)) (cs' := ([(.int .i64 (F)), (.int .i64 (1))] : List Value)) rfl H12 2 rfl rfl rfl rfl (by kernel_rfl) (Nat.le_of_ble_eq_true (by kernel_rfl)) (Nat.le_of_ble_eq_true (by kernel_rfl)) (by kernel_rfl) (by kernel_rfl) ?_
  intro w14 (H15 : Sat w [restC w (fun _ => False), cellC b2 36 (hc h), cellC b10 25 ([(.int .i64 (F)), (.int .i64 (1))] : List Value)] w14)
  refine hK13 _ _ ?_
  clear hK13 K13
  refine w_nil ?_
  refine then_normal ?_
  refine w_seq ?_
  refine w_lit ?_
  refine wl_pure (wants0 rfl) (d := 31) (v := (.agg ⟨([(.int .i64 (F)), (.int .i64 (1))] : List Value)⟩)) rfl (e_loadN (vs := ([(.int .i64 (F)), (.int .i64 (1))] : List Value)) rfl (by kernel_rfl) (by kernel_rfl) (by exact Nat.le_of_ble_eq_true (by kernel_rfl)) (H15.at 2 rfl) (by kernel_rfl)) ?_
  refine wl_do (wants0 rfl) (fun K17 hK17 => ?_)
  refine d_call (d := 32) rfl (by kernel_rfl) (refN_any w14 F 1 (by omega)) ?_
  rintro _ w18 ⟨rfl, u20⟩
  have H19 := H15.keepU u20
  refine ⟨_, rfl, ?_⟩
  refine hK17 _ _ ?_
  clear hK17 K17
  refine wl_pure (wants0 rfl) (d := 10) (v := (.int .i64 (3 * F + 1))) rfl (by kernel_rfl) ?_
  refine w_nil ?_
  refine then_normal ?_
  refine w_seq ?_
  refine w_lit ?_
  refine wl_pure (wants0 rfl) (d := 33) (v := (.int .i64 (epoch))) rfl (by kernel_rfl) ?_
  refine wl_do (wants0 rfl) (fun K21 hK21 => ?_)
  refine d_call (d := 34) rfl (by kernel_rfl) (calls_conv (withinBig_any w18 epoch 30 (by omega)) (congrArg (Value.int .i64) hE)) ?_
  rintro _ w22 ⟨rfl, u24⟩
  have H23 := H19.keepU u24
  refine ⟨_, rfl, ?_⟩
  refine hK21 _ _ ?_
  clear hK21 K21
  refine wl_pure (wants0 rfl) (d := 1) (v := (.int .i64 (E))) rfl (by kernel_rfl) ?_
  refine w_nil ?_
  refine then_normal ?_
  refine wp_meetR [35, 36, 37, 38] (fun G_ W_ => True ∧ Sat w [restC w (fun _ => False), cellC b2 36 (hc x), cellC b10 25 ([(.int .i64 (F)), (.int .i64 (1))] : List Value)] W_) ?_ ?_
  · refine w_seq ?_
    refine w_lit ?_
    refine wl_pure (wants0 rfl) (d := 35) (v := (.agg ⟨(hc h)⟩)) rfl (e_loadN (vs := (hc h)) rfl (by kernel_rfl) (by kernel_rfl) (by exact Nat.le_of_ble_eq_true (by kernel_rfl)) (H23.at 1 rfl) (by kernel_rfl)) ?_
    refine wl_pure (wants0 rfl) (d := 36) (v := (.agg ⟨(hc hash0)⟩)) rfl (by kernel_rfl) ?_
    refine wl_pure (wants0 rfl) (d := 37) (v := (.bool (decide (h = hash0)))) rfl (e_eqHash h hash0 rfl rfl) ?_
    refine w_nil ?_
    refine then_normal ?_
    refine (bsplit (decide (h = hash0))).elim (fun b26 => ?_) (fun b26 => ?_)
    · have g27 := of_decide_eq_true b26
      refine wp_know 37 (.bool true) (congrArg Value.bool b26) ?_
      have g28 := of_decide_eq_true b26
      refine wp_ift rfl ?_
      refine w_lit ?_
      refine wl_pure (wants0 rfl) (d := 38) (v := (.pointer (some ⟨b2, 4, none⟩))) rfl (by kernel_rfl) ?_
      refine wl_do (wants0 rfl) (fun K29 hK29 => ?_)
      refine d_storeX (vs := ([(.int .u8 (1))] : List Value)) (cs' := (([(.int .u8 (((h.l.getD 0 0).toNat : Int))), (.int .u8 (((h.l.getD 1 0).toNat : Int))), (.int .u8 (((h.l.getD 2 0).toNat : Int))), (.int .u8 (((h.l.getD 3 0).toNat : Int))), (.int .u8 (1)), (.int .u8 (((h.l.getD 5 0).toNat : Int))), (.int .u8 (((h.l.getD 6 0).toNat : Int))), (.int .u8 (((h.l.getD 7 0).toNat : Int))), (.int .u8 (((h.l.getD 8 0).toNat : Int))), (.int .u8 (((h.l.getD 9 0).toNat : Int))), (.int .u8 (((h.l.getD 10 0).toNat : Int))), (.int .u8 (((h.l.getD 11 0).toNat : Int))), (.int .u8 (((h.l.getD 12 0).toNat : Int))), (.int .u8 (((h.l.getD 13 0).toNat : Int))), (.int .u8 (((h.l.getD 14 0).toNat : Int))), (.int .u8 (((h.l.getD 15 0).toNat : Int))), (.int .u8 (((h.l.getD 16 0).toNat : Int))), (.int .u8 (((h.l.getD 17 0).toNat : Int))), (.int .u8 (((h.l.getD 18 0).toNat : Int))), (.int .u8 (((h.l.getD 19 0).toNat : Int))), (.int .u8 (((h.l.getD 20 0).toNat : Int))), (.int .u8 (((h.l.getD 21 0).toNat : Int))), (.int .u8 (((h.l.getD 22 0).toNat : Int))), (.int .u8 (((h.l.getD 23 0).toNat : Int)))] : List Value) ++ ([(.int .u8 (((h.l.getD 24 0).toNat : Int))), (.int .u8 (((h.l.getD 25 0).toNat : Int))), (.int .u8 (((h.l.getD 26 0).toNat : Int))), (.int .u8 (((h.l.getD 27 0).toNat : Int))), (.int .u8 (((h.l.getD 28 0).toNat : Int))), (.int .u8 (((h.l.getD 29 0).toNat : Int))), (.int .u8 (((h.l.getD 30 0).toNat : Int))), (.int .u8 (((h.l.getD 31 0).toNat : Int)))] : List Value))) rfl H23 1 rfl rfl rfl rfl (by kernel_rfl) (Nat.le_of_ble_eq_true (by kernel_rfl)) (Nat.le_of_ble_eq_true (by kernel_rfl)) (by kernel_rfl) (by kernel_rfl) ?_
      intro w30 (H31 : Sat w [restC w (fun _ => False), cellC b2 36 (([(.int .u8 (((h.l.getD 0 0).toNat : Int))), (.int .u8 (((h.l.getD 1 0).toNat : Int))), (.int .u8 (((h.l.getD 2 0).toNat : Int))), (.int .u8 (((h.l.getD 3 0).toNat : Int))), (.int .u8 (1)), (.int .u8 (((h.l.getD 5 0).toNat : Int))), (.int .u8 (((h.l.getD 6 0).toNat : Int))), (.int .u8 (((h.l.getD 7 0).toNat : Int))), (.int .u8 (((h.l.getD 8 0).toNat : Int))), (.int .u8 (((h.l.getD 9 0).toNat : Int))), (.int .u8 (((h.l.getD 10 0).toNat : Int))), (.int .u8 (((h.l.getD 11 0).toNat : Int))), (.int .u8 (((h.l.getD 12 0).toNat : Int))), (.int .u8 (((h.l.getD 13 0).toNat : Int))), (.int .u8 (((h.l.getD 14 0).toNat : Int))), (.int .u8 (((h.l.getD 15 0).toNat : Int))), (.int .u8 (((h.l.getD 16 0).toNat : Int))), (.int .u8 (((h.l.getD 17 0).toNat : Int))), (.int .u8 (((h.l.getD 18 0).toNat : Int))), (.int .u8 (((h.l.getD 19 0).toNat : Int))), (.int .u8 (((h.l.getD 20 0).toNat : Int))), (.int .u8 (((h.l.getD 21 0).toNat : Int))), (.int .u8 (((h.l.getD 22 0).toNat : Int))), (.int .u8 (((h.l.getD 23 0).toNat : Int)))] : List Value) ++ ([(.int .u8 (((h.l.getD 24 0).toNat : Int))), (.int .u8 (((h.l.getD 25 0).toNat : Int))), (.int .u8 (((h.l.getD 26 0).toNat : Int))), (.int .u8 (((h.l.getD 27 0).toNat : Int))), (.int .u8 (((h.l.getD 28 0).toNat : Int))), (.int .u8 (((h.l.getD 29 0).toNat : Int))), (.int .u8 (((h.l.getD 30 0).toNat : Int))), (.int .u8 (((h.l.getD 31 0).toNat : Int)))] : List Value)), cellC b10 25 ([(.int .i64 (F)), (.int .i64 (1))] : List Value)] w30)
      refine hK29 _ _ ?_
      clear hK29 K29
      refine w_nil ?_
      have q34 := of_decide_eq_true b26
      have H33 : Sat w [restC w (fun _ => False), cellC b2 36 (hc x), cellC b10 25 ([(.int .i64 (F)), (.int .i64 (1))] : List Value)] w30 := H31.cast (by rw [← hx, show fixH h 4 = hashB 4 from if_pos q34, q34]; kernel_rfl)
      refine meetR_at ?_ ⟨trivial, H33⟩
      exact (same_upd rfl (same_upd rfl (same_upd rfl (same_upd rfl (same_upd rfl (same_refl))))))
    · have g35 := of_decide_eq_false b26
      refine wp_know 37 (.bool false) (congrArg Value.bool b26) ?_
      have g36 := of_decide_eq_false b26
      refine wp_iff rfl ?_
      refine w_skip ?_
      have q38 := of_decide_eq_false b26
      have H37 : Sat w [restC w (fun _ => False), cellC b2 36 (hc x), cellC b10 25 ([(.int .i64 (F)), (.int .i64 (1))] : List Value)] w22 := H23.cast (by rw [← hx, show fixH h 4 = h from if_neg q38])
      refine meetR_at ?_ ⟨trivial, H37⟩
      exact (same_upd rfl (same_upd rfl (same_upd rfl (same_upd rfl (same_refl)))))
  · rintro f39 w40 ⟨_, H41⟩
    refine w_seq ?_
    refine w_lit ?_
    refine wl_pure (wants0 rfl) (d := 11) (v := (.slice none 0 0)) rfl (by kernel_rfl) ?_
    refine w_nil ?_
    refine then_normal ?_
    refine w_seq ?_
    refine w_lit ?_
    refine wl_pure (wants0 rfl) (d := 12) (v := (.slice none 0 0)) rfl (by kernel_rfl) ?_
    refine w_nil ?_
    refine then_normal ?_
    refine w_seq ?_
    refine w_seq ?_
    refine w_lit ?_
    refine wl_pure (wants0 rfl) (d := 13) (v := (.int .i64 (0))) rfl (by kernel_rfl) ?_
    refine w_nil ?_
    refine then_normal ?_
    refine w_block ?_
    have Hn := (H41.famNil (ck := coreK)).addNil 27 1
    have H42 : Sat w [famC coreK ([] : List CoreB) ([] : List CoreD), restC w (fun _ => False), cellC b2 36 (hc x), cellC b10 25 ([(.int .i64 (F)), (.int .i64 (1))] : List Value), rowC 27 1 (.slice none ([] : List CoreB).length 0) (([] : List CoreB).length) (([] : List CoreB).flatMap encP)] w40 := Hn.pick [3, 0, 1, 2, 4] (by decide)
    refine wp_round [8, 11, 13, 14, 15, 16, 17, 39, 40, 41, 42, 43, 44, 45, 46, 47, 48, 49, 50, 51, 52, 53, 54, 55, 56, 57, 58, 59, 60, 61, 62, 63, 64, 65, 66, 67, 68, 69, 70, 71, 72, 73, 74, 75, 76, 77, 78] (fun F_ W_ m_ => ∃ (bs : List CoreB) (Ds : List CoreD) (a1 : Option Addr) (q1 : Nat), F_ 13 = (.int .i64 ((bs.length : Int))) ∧ F_ 11 = (.slice a1 bs.length q1) ∧ (Ds = calmL F E bs.length) ∧ ((bs.length : Int) ≤ 3 * F + 1) ∧ Sat w [famC coreK bs Ds, restC w (fun _ => False), cellC b2 36 (hc x), cellC b10 25 ([(.int .i64 (F)), (.int .i64 (1))] : List Value), rowC 27 1 (.slice a1 bs.length q1) bs.length (bs.flatMap encP)] W_ ∧ m_ = (3 * F + 1 - (bs.length : Int)).toNat) _ ⟨[], [], none, 0, (show ((.int .i64 (0)) : Value) = _ by first | rfl | go_num), (by first | rfl | go_num), rfl, (by simp; omega), H42, rfl⟩ ?_
    rintro g43 w44 _ ⟨bs, Ds, a1, q1, v46, v47, hDs, hbl, H45, rfl⟩
    refine wp_know 13 _ v46 ?_
    refine wp_know 11 _ v47 ?_
    refine w_seq ?_
    refine w_seq ?_
    refine w_lit ?_
    refine wl_pure (wants0 rfl) (d := 39) (v := (.int .i64 ((bs.length : Int)))) rfl (by kernel_rfl) ?_
    refine wl_pure (wants0 rfl) (d := 40) (v := (.int .i64 (3 * F + 1))) rfl (by kernel_rfl) ?_
    refine wl_pure (wants0 rfl) (d := 41) (v := (.bool (decide ((bs.length : Int) < (3 * F + 1))))) rfl (by kernel_rfl) ?_
    refine w_nil ?_
    refine then_normal ?_
    refine (bsplit (decide ((bs.length : Int) < (3 * F + 1)))).elim (fun b49 => ?_) (fun b49 => ?_)
    · have g50 := of_decide_eq_true b49
      refine wp_know 41 (.bool true) (congrArg Value.bool b49) ?_
      have g51 := of_decide_eq_true b49
      refine wp_ift rfl ?_
      refine w_skip ?_
      refine then_normal ?_
      refine w_seq ?_
      refine w_block ?_
      refine w_seq ?_
      have hok : newOk F 1 E (bs.length : Int) = true := by simp [newOk, confB, inB]; omega
      obtain ⟨D0, hD0⟩ : ∃ D, newD F 1 E (bs.length : Int) = D := ⟨_, rfl⟩
      have C0 : CI D0 := hD0 ▸ CI.new hok
      obtain ⟨D1, hD1⟩ : ∃ D, calm0 F E bs.length = D := ⟨_, rfl⟩
      obtain ⟨K, hK⟩ : ∃ K, calmK F E bs.length = K := ⟨_, rfl⟩
      obtain ⟨V, hV⟩ : ∃ V, calmV F E bs.length = V := ⟨_, rfl⟩
      have hst : startD D0 = (D1, [⟨K, 0, V, hash0⟩]) := by rw [← hD0, ← hD1, ← hK, ← hV]; exact calm_start (by omega) _
      refine w_lit ?_
      refine wl_pure (wants0 rfl) (d := 45) (v := (.agg ⟨([(.int .i64 (F)), (.int .i64 (1))] : List Value)⟩)) rfl (e_loadN (vs := ([(.int .i64 (F)), (.int .i64 (1))] : List Value)) rfl (by kernel_rfl) (by kernel_rfl) (by exact Nat.le_of_ble_eq_true (by kernel_rfl)) (H45.at 3 rfl) (by kernel_rfl)) ?_
      refine wl_pure (wants0 rfl) (d := 46) (v := (.int .i64 (E))) rfl (by kernel_rfl) ?_
      refine wl_pure (wants0 rfl) (d := 47) (v := (.int .i64 ((bs.length : Int)))) rfl (by kernel_rfl) ?_
      refine wl_do (wants0 rfl) (fun K52 hK52 => ?_)
      refine d_call (d := 48) rfl (by kernel_rfl) (coreNew_any w44 F 1 E (bs.length : Int) (by omega)) ?_
      rintro _ w53 (⟨_, k58, t59, hb60, cb61, ab62, lb63, pb64, rfl, k56, u55, q57⟩ | ⟨hno, _⟩)
      rotate_left
      · exact absurd hno (by rw [hok]; simp)
      rw [hD0] at k56 q57
      have H65 : Sat w [famC coreK bs Ds, restC w (fun _ => False), cellC b2 36 (hc x), cellC b10 25 ([(.int .i64 (F)), (.int .i64 (1))] : List Value), rowC 27 1 (.slice a1 bs.length q1) bs.length (bs.flatMap encP), coreC k58 t59 hb60 cb61 ab62 lb63 pb64 D0] w53 := H45.addU u55 k56 q57
      have H54 : Sat w [famC coreK bs Ds, restC w (fun _ => False), cellC b2 36 (hc x), cellC b10 25 ([(.int .i64 (F)), (.int .i64 (1))] : List Value), rowC 27 1 (.slice a1 bs.length q1) bs.length (bs.flatMap encP), cellC k58 92 (([(.int .i64 (D0.f)), (.int .i64 (D0.c)), (.int .i64 (D0.epoch)), (.int .i64 (D0.replica)), (.int .i64 (D0.s.round)), (.int .i64 (D0.s.step)), (.int .i64 (D0.s.lr)), (.int .i64 (D0.s.vr))] : List Value) ++ hc D0.s.locked ++ hc D0.s.valid ++ ([(.bool (D0.s.decided))] : List Value) ++ hc D0.s.decision ++ ([(.pointer (some ⟨t59, 0, none⟩)), (.map (some pb64)), (.bool (D0.wv)), (.bool (D0.sp)), (.bool (D0.sc))] : List Value)), talC t59 hb60 cb61 ab62 lb63 D0.f D0.c D0.L, mapC pb64 (Value.int .i64) propV D0.P] w53 := H65.open 5 rfl
      refine ⟨_, rfl, ?_⟩
      refine hK52 _ _ ?_
      clear hK52 K52
      refine wl_pure (wants0 rfl) (d := 44) (v := (.tuple #[(.pointer (some ⟨k58, 0, none⟩)), (.int .i64 (0))])) rfl (by kernel_rfl) ?_
      refine wl_pure (wants0 rfl) (d := 49) (v := (.pointer (some ⟨k58, 0, none⟩))) rfl (by kernel_rfl) ?_
      refine wl_pure (wants0 rfl) (d := 50) (v := (.int .i64 (0))) rfl (by kernel_rfl) ?_
      refine wl_pure (wants0 rfl) (d := 14) (v := (.pointer (some ⟨k58, 0, none⟩))) rfl (by kernel_rfl) ?_
      refine wl_pure (wants0 rfl) (d := 15) (v := (.int .i64 (0))) rfl (by kernel_rfl) ?_
      refine w_nil ?_
      refine then_normal ?_
      refine w_seq ?_
      refine w_seq ?_
      refine w_lit ?_
      refine wl_pure (wants0 rfl) (d := 51) (v := (.int .i64 (0))) rfl (by kernel_rfl) ?_
      refine wl_pure (wants0 rfl) (d := 52) (v := (.bool false)) rfl (by kernel_rfl) ?_
      refine wl_pure (wants0 rfl) (d := 53) (v := (.bool false)) rfl (by kernel_rfl) ?_
      refine wl_pure (wantsY 2 53 false rfl (by kernel_rfl) rfl (by kernel_rfl)) (d := 54) (v := (.pointer (some ⟨k58, 0, none⟩))) rfl (by kernel_rfl) ?_
      refine wl_pure (wantsY 2 53 false rfl (by kernel_rfl) rfl (by kernel_rfl)) (d := 55) (v := (.bool false)) rfl (by kernel_rfl) ?_
      refine wl_pure (wants0 rfl) (d := 56) (v := (.bool false)) rfl (by kernel_rfl) ?_
      refine w_nil ?_
      refine then_normal ?_
      refine wp_iff rfl ?_
      refine w_skip ?_
      refine then_normal ?_
      refine w_seq ?_
      refine w_lit ?_
      refine wl_pure (wants0 rfl) (d := 57) (v := (.pointer (some ⟨k58, 0, none⟩))) rfl (by kernel_rfl) ?_
      refine wl_do (wants0 rfl) (fun K66 hK66 => ?_)
      refine d_call (d := 58) rfl (by kernel_rfl) (coreStart_any w53 k58 t59 hb60 cb61 ab62 lb63 pb64 D0 (ok_of (by kernel_rfl) (H54.fin [5, 6, 7] (by decide) rfl)) C0 ) ?_
      rintro _ w68 ⟨v67, rfl, S69⟩
      rw [hst] at S69
      replace S69 := Sat.cast (G' := [cellC k58 92 (([(.int .i64 (D1.f)), (.int .i64 (D1.c)), (.int .i64 (D1.epoch)), (.int .i64 (D1.replica)), (.int .i64 (D1.s.round)), (.int .i64 (D1.s.step)), (.int .i64 (D1.s.lr)), (.int .i64 (D1.s.vr))] : List Value) ++ hc D1.s.locked ++ hc D1.s.valid ++ ([(.bool (D1.s.decided))] : List Value) ++ hc D1.s.decision ++ ([(.pointer (some ⟨t59, 0, none⟩)), (.map (some pb64)), (.bool (D1.wv)), (.bool (D1.sp)), (.bool (D1.sc))] : List Value)), talC t59 hb60 cb61 ab62 lb63 D1.f D1.c D1.L, mapC pb64 (Value.int .i64) propV D1.P, rowC 45 35 v67 1 (([(.int .i64 (K)), (.int .i64 (0)), (.int .i64 (V))] : List Value) ++ hc hash0), restC w53 (coreC k58 t59 hb60 cb61 ab62 lb63 pb64 D0).fp]) S69 (by kernel_rfl)
      have H71 : Sat w [famC coreK bs Ds, restC w (fun _ => False), cellC b2 36 (hc x), cellC b10 25 ([(.int .i64 (F)), (.int .i64 (1))] : List Value), rowC 27 1 (.slice a1 bs.length q1) bs.length (bs.flatMap encP), cellC k58 92 (([(.int .i64 (D1.f)), (.int .i64 (D1.c)), (.int .i64 (D1.epoch)), (.int .i64 (D1.replica)), (.int .i64 (D1.s.round)), (.int .i64 (D1.s.step)), (.int .i64 (D1.s.lr)), (.int .i64 (D1.s.vr))] : List Value) ++ hc D1.s.locked ++ hc D1.s.valid ++ ([(.bool (D1.s.decided))] : List Value) ++ hc D1.s.decision ++ ([(.pointer (some ⟨t59, 0, none⟩)), (.map (some pb64)), (.bool (D1.wv)), (.bool (D1.sp)), (.bool (D1.sc))] : List Value)), talC t59 hb60 cb61 ab62 lb63 D1.f D1.c D1.L, mapC pb64 (Value.int .i64) propV D1.P, rowC 45 35 v67 1 (([(.int .i64 (K)), (.int .i64 (0)), (.int .i64 (V))] : List Value) ++ hc hash0)] w68 := (Sat.turnL (L' := [cellC k58 92 (([(.int .i64 (D1.f)), (.int .i64 (D1.c)), (.int .i64 (D1.epoch)), (.int .i64 (D1.replica)), (.int .i64 (D1.s.round)), (.int .i64 (D1.s.step)), (.int .i64 (D1.s.lr)), (.int .i64 (D1.s.vr))] : List Value) ++ hc D1.s.locked ++ hc D1.s.valid ++ ([(.bool (D1.s.decided))] : List Value) ++ hc D1.s.decision ++ ([(.pointer (some ⟨t59, 0, none⟩)), (.map (some pb64)), (.bool (D1.wv)), (.bool (D1.sp)), (.bool (D1.sc))] : List Value)), talC t59 hb60 cb61 ab62 lb63 D1.f D1.c D1.L, mapC pb64 (Value.int .i64) propV D1.P, rowC 45 35 v67 1 (([(.int .i64 (K)), (.int .i64 (0)), (.int .i64 (V))] : List Value) ++ hc hash0)]) (R := [famC coreK bs Ds, restC w (fun _ => False), cellC b2 36 (hc x), cellC b10 25 ([(.int .i64 (F)), (.int .i64 (1))] : List Value), rowC 27 1 (.slice a1 bs.length q1) bs.length (bs.flatMap encP)]) H54 [5, 6, 7] [0, 1, 2, 3, 4] (by decide) (by kernel_rfl) rfl S69).pick [4, 5, 6, 7, 8, 0, 1, 2, 3] (by decide)
      obtain ⟨g72, c73, rfl⟩ := row_shape (H71.at 8 rfl) (Nat.le_of_ble_eq_true rfl)
      refine ⟨_, rfl, ?_⟩
      refine hK66 _ _ ?_
      clear hK66 K66
      refine wl_pure (wants0 rfl) (d := 16) (v := (.slice (some ⟨g72, 0, none⟩) 1 c73)) rfl (by kernel_rfl) ?_
      refine w_nil ?_
      refine then_normal ?_
      refine w_seq ?_
      refine w_lit ?_
      refine wl_pure (wants0 rfl) (d := 17) (v := (.int .i64 (4))) rfl (by kernel_rfl) ?_
      refine w_nil ?_
      refine then_normal ?_
      refine wp_meetR [17, 59, 60, 61, 62, 63] (fun G_ W_ => G_ 17 = (.int .i64 (K)) ∧ Sat w [famC coreK bs Ds, restC w (fun _ => False), cellC b2 36 (hc x), cellC b10 25 ([(.int .i64 (F)), (.int .i64 (1))] : List Value), rowC 27 1 (.slice a1 bs.length q1) bs.length (bs.flatMap encP), cellC k58 92 (([(.int .i64 (D1.f)), (.int .i64 (D1.c)), (.int .i64 (D1.epoch)), (.int .i64 (D1.replica)), (.int .i64 (D1.s.round)), (.int .i64 (D1.s.step)), (.int .i64 (D1.s.lr)), (.int .i64 (D1.s.vr))] : List Value) ++ hc D1.s.locked ++ hc D1.s.valid ++ ([(.bool (D1.s.decided))] : List Value) ++ hc D1.s.decision ++ ([(.pointer (some ⟨t59, 0, none⟩)), (.map (some pb64)), (.bool (D1.wv)), (.bool (D1.sp)), (.bool (D1.sc))] : List Value)), talC t59 hb60 cb61 ab62 lb63 D1.f D1.c D1.L, mapC pb64 (Value.int .i64) propV D1.P, rowC 45 35 (.slice (some ⟨g72, 0, none⟩) 1 c73) 1 (([(.int .i64 (K)), (.int .i64 (0)), (.int .i64 (V))] : List Value) ++ hc hash0)] W_) ?_ ?_
      · refine w_seq ?_
        refine w_lit ?_
        refine wl_pure (wants0 rfl) (d := 59) (v := (.int .i64 ((bs.length : Int)))) rfl (by kernel_rfl) ?_
        refine wl_pure (wants0 rfl) (d := 60) (v := (.agg ⟨([(.int .i64 (F)), (.int .i64 (1))] : List Value)⟩)) rfl (e_loadN (vs := ([(.int .i64 (F)), (.int .i64 (1))] : List Value)) rfl (by kernel_rfl) (by kernel_rfl) (by exact Nat.le_of_ble_eq_true (by kernel_rfl)) (H71.at 3 rfl) (by kernel_rfl)) ?_
        refine wl_pure (wants0 rfl) (d := 61) (v := (.int .i64 (E))) rfl (by kernel_rfl) ?_
        refine wl_do (wants0 rfl) (fun K75 hK75 => ?_)
        refine d_call (d := 62) rfl (by kernel_rfl) (coreProposer_any w68 F 1 (by omega) E 0) ?_
        rintro _ w76 ⟨rfl, u78⟩
        have H77 := H71.keepU u78
        refine ⟨_, rfl, ?_⟩
        refine hK75 _ _ ?_
        clear hK75 K75
        refine wl_pure (wants0 rfl) (d := 63) (v := (.bool (decide ((bs.length : Int) = (proposerV F E 0))))) rfl (by kernel_rfl) ?_
        refine w_nil ?_
        refine then_normal ?_
        refine (bsplit (decide ((bs.length : Int) = (proposerV F E 0)))).elim (fun b79 => ?_) (fun b79 => ?_)
        · have g80 := of_decide_eq_true b79
          refine wp_know 63 (.bool true) (congrArg Value.bool b79) ?_
          have g81 := of_decide_eq_true b79
          refine wp_ift rfl ?_
          refine w_lit ?_
          refine wl_pure (wants0 rfl) (d := 17) (v := (.int .i64 (1))) rfl (by kernel_rfl) ?_
          refine w_nil ?_
          refine meetR_at ?_ ⟨(show (.int .i64 (1) : Value) = _ by rw [← hK, show calmK F E bs.length = 1 from if_pos (of_decide_eq_true b79).symm]), H77⟩
          exact (same_upd rfl (same_upd rfl (same_upd rfl (same_upd rfl (same_upd rfl (same_upd rfl (same_upd rfl (same_refl))))))))
        · have g82 := of_decide_eq_false b79
          refine wp_know 63 (.bool false) (congrArg Value.bool b79) ?_
          have g83 := of_decide_eq_false b79
          refine wp_iff rfl ?_
          refine w_skip ?_
          refine meetR_at ?_ ⟨(show (.int .i64 (4) : Value) = _ by rw [← hK, show calmK F E bs.length = 4 from if_neg (fun q => of_decide_eq_false b79 q.symm)]), H77⟩
          exact (same_upd rfl (same_upd rfl (same_upd rfl (same_upd rfl (same_upd rfl (same_upd rfl (same_refl)))))))
      · rintro f84 w85 ⟨v87, H86⟩
        refine wp_know 17 _ v87 ?_
        refine w_seq ?_
        refine w_seq ?_
        refine w_lit ?_
        refine wl_pure (wants0 rfl) (d := 64) (v := (.slice (some ⟨g72, 0, none⟩) 1 c73)) rfl (by kernel_rfl) ?_
        refine wl_pure (wants0 rfl) (d := 65) (v := (.int .i64 (1))) rfl (by kernel_rfl) ?_
        refine wl_pure (wants0 rfl) (d := 66) (v := (.bool false)) rfl (by kernel_rfl) ?_
        refine wl_pure (wants0 rfl) (d := 67) (v := (.bool false)) rfl (by kernel_rfl) ?_
        refine wl_pure (wantsY 3 67 false rfl (by kernel_rfl) rfl (by kernel_rfl)) (d := 68) (v := (.slice (some ⟨g72, 0, none⟩) 1 c73)) rfl (by kernel_rfl) ?_
        refine wl_pure (wantsY 3 67 false rfl (by kernel_rfl) rfl (by kernel_rfl)) (d := 69) (v := (.pointer (some ⟨g72, 0, none⟩))) rfl (e_indexAddr (E := 45) (z := 0) (o := 0) (len := 1) (sz := 35) (by kernel_rfl) (by kernel_rfl) (Nat.le_of_ble_eq_true rfl) rfl rfl (by decide) (by decide)) ?_
        refine wl_pure (wantsY 3 67 false rfl (by kernel_rfl) rfl (by kernel_rfl)) (d := 70) (v := (.pointer (some ⟨g72, 0, none⟩))) rfl (by kernel_rfl) ?_
        refine wl_pure (wantsY 3 67 false rfl (by kernel_rfl) rfl (by kernel_rfl)) (d := 71) (v := (.int .i64 (K))) rfl (e_load1 rfl (by kernel_rfl) (row_cell (H86.at 8 rfl) rfl (by kernel_rfl))) ?_
        refine wl_pure (wantsY 3 67 false rfl (by kernel_rfl) rfl (by kernel_rfl)) (d := 72) (v := (.int .i64 (K))) rfl (by kernel_rfl) ?_
        refine wl_pure (wantsY 3 67 false rfl (by kernel_rfl) rfl (by kernel_rfl)) (d := 73) (v := (.bool (!(decide (K = K))))) rfl (by kernel_rfl) ?_
        refine wl_pure (wants0 rfl) (d := 74) (v := (.bool (!(decide (K = K))))) rfl (by kernel_rfl) ?_
        refine w_nil ?_
        refine then_normal ?_
        have b88 : (!(decide (K = K))) = false := by simp
        refine wp_know 74 (.bool false) (congrArg Value.bool b88) ?_
        have g89 := bnot_false b88
        have g90 := of_decide_eq_true g89
        refine wp_iff rfl ?_
        refine w_skip ?_
        refine then_normal ?_
        refine w_lit ?_
        refine wl_pure (wants0 rfl) (d := 75) (v := (.slice a1 bs.length q1)) rfl (by kernel_rfl) ?_
        refine wl_pure (wants0 rfl) (d := 76) (v := (.pointer (some ⟨k58, 0, none⟩))) rfl (by kernel_rfl) ?_
        refine wl_do (wants0 rfl) (fun K91 hK91 => ?_)
        refine d_buildSlice (e := 27) (size := 1) (bytes := 8) (z := (.pointer none)) (pvs := [(0, (.pointer (some ⟨k58, 0, none⟩)))]) (vs := ([(.pointer (some ⟨k58, 0, none⟩))] : List Value)) rfl H86 (by kernel_rfl) (by kernel_rfl) (by kernel_rfl) (by kernel_rfl) (by kernel_rfl) rfl rfl ?_
        intro b92 w93 (H94 : Sat w [famC coreK bs Ds, restC w (fun _ => False), cellC b2 36 (hc x), cellC b10 25 ([(.int .i64 (F)), (.int .i64 (1))] : List Value), rowC 27 1 (.slice a1 bs.length q1) bs.length (bs.flatMap encP), cellC k58 92 (([(.int .i64 (D1.f)), (.int .i64 (D1.c)), (.int .i64 (D1.epoch)), (.int .i64 (D1.replica)), (.int .i64 (D1.s.round)), (.int .i64 (D1.s.step)), (.int .i64 (D1.s.lr)), (.int .i64 (D1.s.vr))] : List Value) ++ hc D1.s.locked ++ hc D1.s.valid ++ ([(.bool (D1.s.decided))] : List Value) ++ hc D1.s.decision ++ ([(.pointer (some ⟨t59, 0, none⟩)), (.map (some pb64)), (.bool (D1.wv)), (.bool (D1.sp)), (.bool (D1.sc))] : List Value)), talC t59 hb60 cb61 ab62 lb63 D1.f D1.c D1.L, mapC pb64 (Value.int .i64) propV D1.P, rowC 45 35 (.slice (some ⟨g72, 0, none⟩) 1 c73) 1 (([(.int .i64 (K)), (.int .i64 (0)), (.int .i64 (V))] : List Value) ++ hc hash0), rowC 27 1 (.slice (some ⟨b92, 0, none⟩) 1 1) 1 ([(.pointer (some ⟨k58, 0, none⟩))] : List Value)] w93)
        refine hK91 _ _ ?_
        clear hK91 K91
        refine wl_do (wants0 rfl) (fun K95 hK95 => ?_)
        refine d_append (T := 47) (e := 27) (size := 1) (bytes := 8) rfl H94 (by kernel_rfl) 4 9 rfl rfl rfl rfl (by kernel_rfl) (by omega) (by omega) ?_
        intro v96 w97 (H98 : Sat w [famC coreK bs Ds, restC w (fun _ => False), cellC b2 36 (hc x), cellC b10 25 ([(.int .i64 (F)), (.int .i64 (1))] : List Value), rowC 27 1 v96 (bs.length + 1) ((bs.flatMap encP) ++ ([(.pointer (some ⟨k58, 0, none⟩))] : List Value)), cellC k58 92 (([(.int .i64 (D1.f)), (.int .i64 (D1.c)), (.int .i64 (D1.epoch)), (.int .i64 (D1.replica)), (.int .i64 (D1.s.round)), (.int .i64 (D1.s.step)), (.int .i64 (D1.s.lr)), (.int .i64 (D1.s.vr))] : List Value) ++ hc D1.s.locked ++ hc D1.s.valid ++ ([(.bool (D1.s.decided))] : List Value) ++ hc D1.s.decision ++ ([(.pointer (some ⟨t59, 0, none⟩)), (.map (some pb64)), (.bool (D1.wv)), (.bool (D1.sp)), (.bool (D1.sc))] : List Value)), talC t59 hb60 cb61 ab62 lb63 D1.f D1.c D1.L, mapC pb64 (Value.int .i64) propV D1.P, rowC 45 35 (.slice (some ⟨g72, 0, none⟩) 1 c73) 1 (([(.int .i64 (K)), (.int .i64 (0)), (.int .i64 (V))] : List Value) ++ hc hash0), rowC 27 1 (.slice (some ⟨b92, 0, none⟩) 1 1) 1 ([(.pointer (some ⟨k58, 0, none⟩))] : List Value)] w97)
        have H101 : Sat w [famC coreK bs Ds, restC w (fun _ => False), cellC b2 36 (hc x), cellC b10 25 ([(.int .i64 (F)), (.int .i64 (1))] : List Value), rowC 27 1 v96 ((bs ++ [(⟨k58, t59, hb60, cb61, ab62, lb63, pb64⟩ : CoreB)]).length) ((bs ++ [(⟨k58, t59, hb60, cb61, ab62, lb63, pb64⟩ : CoreB)]).flatMap encP), cellC k58 92 (([(.int .i64 (D1.f)), (.int .i64 (D1.c)), (.int .i64 (D1.epoch)), (.int .i64 (D1.replica)), (.int .i64 (D1.s.round)), (.int .i64 (D1.s.step)), (.int .i64 (D1.s.lr)), (.int .i64 (D1.s.vr))] : List Value) ++ hc D1.s.locked ++ hc D1.s.valid ++ ([(.bool (D1.s.decided))] : List Value) ++ hc D1.s.decision ++ ([(.pointer (some ⟨t59, 0, none⟩)), (.map (some pb64)), (.bool (D1.wv)), (.bool (D1.sp)), (.bool (D1.sc))] : List Value)), talC t59 hb60 cb61 ab62 lb63 D1.f D1.c D1.L, mapC pb64 (Value.int .i64) propV D1.P, rowC 45 35 (.slice (some ⟨g72, 0, none⟩) 1 c73) 1 (([(.int .i64 (K)), (.int .i64 (0)), (.int .i64 (V))] : List Value) ++ hc hash0), rowC 27 1 (.slice (some ⟨b92, 0, none⟩) 1 1) 1 ([(.pointer (some ⟨k58, 0, none⟩))] : List Value)] w97 := H98.cast (by simp only [List.length_append, List.flatMap_append] <;> rfl)
        obtain ⟨a99, c100, rfl⟩ := ownsRow_shape (H101.at 4 rfl)
        refine hK95 _ _ ?_
        clear hK95 K95
        refine wl_pure (wants0 rfl) (d := 11) (v := (.slice a99 ((bs ++ [(⟨k58, t59, hb60, cb61, ab62, lb63, pb64⟩ : CoreB)]).length) c100)) rfl (by kernel_rfl) ?_
        refine w_nil ?_
        refine blk_normal ?_
        refine then_normal ?_
        refine w_lit ?_
        refine wl_pure (wants0 rfl) (d := 42) (v := (.int .i64 ((bs.length : Int)))) rfl (by kernel_rfl) ?_
        refine wl_pure (wants0 rfl) (d := 43) (v := (.int .i64 ((bs.length : Int) + 1))) rfl (e_int (z := (bs.length : Int) + 1) (by kernel_rfl) (IntWalk.i64_in _ (by omega))) ?_
        refine wl_pure (wants0 rfl) (d := 13) (v := (.int .i64 ((bs.length : Int) + 1))) rfl (by kernel_rfl) ?_
        refine w_nil ?_
        have H102 : Sat w [famC coreK bs Ds, restC w (fun _ => False), cellC b2 36 (hc x), cellC b10 25 ([(.int .i64 (F)), (.int .i64 (1))] : List Value), rowC 27 1 (.slice a99 ((bs ++ [(⟨k58, t59, hb60, cb61, ab62, lb63, pb64⟩ : CoreB)]).length) c100) ((bs ++ [(⟨k58, t59, hb60, cb61, ab62, lb63, pb64⟩ : CoreB)]).length) ((bs ++ [(⟨k58, t59, hb60, cb61, ab62, lb63, pb64⟩ : CoreB)]).flatMap encP), cellC k58 92 (([(.int .i64 (D1.f)), (.int .i64 (D1.c)), (.int .i64 (D1.epoch)), (.int .i64 (D1.replica)), (.int .i64 (D1.s.round)), (.int .i64 (D1.s.step)), (.int .i64 (D1.s.lr)), (.int .i64 (D1.s.vr))] : List Value) ++ hc D1.s.locked ++ hc D1.s.valid ++ ([(.bool (D1.s.decided))] : List Value) ++ hc D1.s.decision ++ ([(.pointer (some ⟨t59, 0, none⟩)), (.map (some pb64)), (.bool (D1.wv)), (.bool (D1.sp)), (.bool (D1.sc))] : List Value)), talC t59 hb60 cb61 ab62 lb63 D1.f D1.c D1.L, mapC pb64 (Value.int .i64) propV D1.P] w97 := H101.pick [0, 1, 2, 3, 4, 5, 6, 7] (by decide)
        have H103 : Sat w [famC coreK (bs ++ [(⟨k58, t59, hb60, cb61, ab62, lb63, pb64⟩ : CoreB)]) (Ds ++ [D1]), restC w (fun _ => False), cellC b2 36 (hc x), cellC b10 25 ([(.int .i64 (F)), (.int .i64 (1))] : List Value), rowC 27 1 (.slice a99 ((bs ++ [(⟨k58, t59, hb60, cb61, ab62, lb63, pb64⟩ : CoreB)]).length) c100) ((bs ++ [(⟨k58, t59, hb60, cb61, ab62, lb63, pb64⟩ : CoreB)]).length) ((bs ++ [(⟨k58, t59, hb60, cb61, ab62, lb63, pb64⟩ : CoreB)]).flatMap encP)] w97 := Sat.famSnoc (ck := coreK) (⟨k58, t59, hb60, cb61, ab62, lb63, pb64⟩ : CoreB) D1 ((Sat.closeL (L := coreG k58 t59 hb60 cb61 ab62 lb63 pb64 D1) (R := [famC coreK bs Ds, restC w (fun _ => False), cellC b2 36 (hc x), cellC b10 25 ([(.int .i64 (F)), (.int .i64 (1))] : List Value), rowC 27 1 (.slice a99 ((bs ++ [(⟨k58, t59, hb60, cb61, ab62, lb63, pb64⟩ : CoreB)]).length) c100) ((bs ++ [(⟨k58, t59, hb60, cb61, ab62, lb63, pb64⟩ : CoreB)]).length) ((bs ++ [(⟨k58, t59, hb60, cb61, ab62, lb63, pb64⟩ : CoreB)]).flatMap encP)]) (H102.pick [5, 6, 7, 0, 1, 2, 3, 4] (by decide))).pick [1, 0, 2, 3, 4, 5] (by decide))
        refine round_back ?_ _ ⟨(bs ++ [(⟨k58, t59, hb60, cb61, ab62, lb63, pb64⟩ : CoreB)]), (Ds ++ [D1]), a99, c100, (show ((.int .i64 ((bs.length : Int) + 1)) : Value) = _ by (rw [List.length_append, List.length_singleton]; rfl)), (show ((.slice a99 ((bs ++ [(⟨k58, t59, hb60, cb61, ab62, lb63, pb64⟩ : CoreB)]).length) c100) : Value) = _ by first | rfl | go_num), (by rw [List.length_append, List.length_singleton, calmL_succ, hDs, hD1]), (by rw [List.length_append, List.length_singleton]; omega), H103, rfl⟩ (by rw [List.length_append, List.length_singleton]; omega)
        exact (same_upd rfl (same_upd rfl (same_upd rfl (same_upd rfl (same_upd rfl (same_upd rfl (same_upd rfl (same_upd rfl (same_upd rfl (same_upd rfl (same_upd rfl (same_upd rfl (same_upd rfl (same_upd rfl (same_upd rfl (same_upd rfl (same_upd rfl (same_upd rfl (same_upd rfl (same_upd rfl (same_upd rfl (same_ovr2 rfl (same_upd rfl (same_upd rfl (same_upd rfl (same_upd rfl (same_upd rfl (same_upd rfl (same_upd rfl (same_upd rfl (same_upd rfl (same_upd rfl (same_upd rfl (same_upd rfl (same_upd rfl (same_upd rfl (same_upd rfl (same_upd rfl (same_upd rfl (same_upd rfl (same_upd rfl (same_upd rfl (same_upd rfl (same_upd rfl (same_upd rfl (same_upd rfl (same_upd rfl (same_ovr))))))))))))))))))))))))))))))))))))))))))))))))
    · have g104 := of_decide_eq_false b49
      refine wp_know 41 (.bool false) (congrArg Value.bool b49) ?_
      have g105 := of_decide_eq_false b49
      refine wp_iff rfl ?_
      refine w_exit ?_
      refine then_exit ?_
      refine back_exit ?_
      refine blk_hit ?_
      refine then_normal ?_
      refine w_seq ?_
      refine w_seq ?_
      refine w_lit ?_
      refine wl_pure (wants0 rfl) (d := 79) (v := (.slice a1 bs.length q1)) rfl (by kernel_rfl) ?_
      refine wl_pure (wants0 rfl) (d := 80) (v := (.int .i64 ((bs.length : Int)))) rfl (by kernel_rfl) ?_
      refine wl_pure (wants0 rfl) (d := 81) (v := (.int .i64 (0))) rfl (by kernel_rfl) ?_
      refine w_nil ?_
      refine then_normal ?_
      refine w_block ?_
      have hbn : (bs.length : Int) = 3 * F + 1 := by have := of_decide_eq_false b49; omega
      have hnk : ∀ j : Nat, j < bs.length → newOk F 1 E (j : Int) = true := fun j hj => by simp [newOk, confB, inB]; omega
      have hO0 : CalmO F E x bs.length 0 Ds := hDs ▸ CalmO.start F E x bs.length
      have Hv := H45.addNil 52 37
      refine wp_round [12, 18, 81, 82, 83, 84, 85, 86, 87, 88, 89, 90, 91, 92, 93, 94, 95, 96] (fun F_ W_ m_ => ∃ (i : Nat) (Ds : List CoreD) (vs : List SaidD) (a2 : Option Addr) (q2 : Nat), F_ 81 = (.int .i64 ((i : Int))) ∧ F_ 12 = (.slice a2 vs.length q2) ∧ (i ≤ bs.length) ∧ (CalmO F E x bs.length i Ds) ∧ (vs = sv 1 x i) ∧ Sat w [famC coreK bs Ds, restC w (fun _ => False), cellC b2 36 (hc x), cellC b10 25 ([(.int .i64 (F)), (.int .i64 (1))] : List Value), rowC 27 1 (.slice a1 bs.length q1) bs.length (bs.flatMap encP), rowC 52 37 (.slice a2 vs.length q2) vs.length (vs.flatMap encS)] W_ ∧ m_ = bs.length - i) _ ⟨0, Ds, [], none, 0, (show ((.int .i64 (0)) : Value) = _ by first | rfl | go_num), (by first | rfl | go_num), (Nat.zero_le _), hO0, rfl, Hv, rfl⟩ ?_
      rintro g106 w107 _ ⟨i, Ds, vs, a2, q2, v109, v110, hi, hO, hvs, H108, rfl⟩
      refine wp_know 81 _ v109 ?_
      refine wp_know 12 _ v110 ?_
      have hvsl : vs.length = i := by rw [hvs, sv_len]
      have hDl : Ds.length = bs.length := hO.len
      refine w_seq ?_
      refine w_lit ?_
      refine wl_pure (wants0 rfl) (d := 82) (v := (.bool (decide ((i : Int) < (bs.length : Int))))) rfl (by kernel_rfl) ?_
      refine w_nil ?_
      refine then_normal ?_
      refine w_seq ?_
      refine (bsplit (decide ((i : Int) < (bs.length : Int)))).elim (fun b112 => ?_) (fun b112 => ?_)
      · have g113 := of_decide_eq_true b112
        refine wp_know 82 (.bool true) (congrArg Value.bool b112) ?_
        have g114 := of_decide_eq_true b112
        refine wp_ift rfl ?_
        refine w_skip ?_
        refine then_normal ?_
        refine w_seq ?_
        refine w_block ?_
        refine w_seq ?_
        refine w_lit ?_
        refine wl_pure (wants0 rfl) (d := 83) (v := (.int .i64 ((i : Int)))) rfl (by kernel_rfl) ?_
        refine wl_pure (wants0 rfl) (d := 18) (v := (.int .i64 ((i : Int)))) rfl (by kernel_rfl) ?_
        refine w_nil ?_
        refine then_normal ?_
        obtain ⟨g115, c116, e117⟩ := row_shape (H108.at 4 rfl) (by omega)
        obtain ⟨x118, h119⟩ := get_at (show i < bs.length by omega)
        obtain ⟨g120, c121, e122⟩ := row_shape (H108.at 4 rfl) (by omega)
        obtain ⟨x123, h124⟩ := get_at (show i < bs.length by omega)
        refine h_start H108 [restC w (fun _ => False), cellC b2 36 (hc x), cellC b10 25 ([(.int .i64 (F)), (.int .i64 (1))] : List Value), rowC 27 1 (.slice a1 bs.length q1) bs.length (bs.flatMap encP)] 13 rfl (by kernel_rfl) (fun Hx => (Hx.pick [1, 2, 3, 4] (by decide))) ?_
        intro w125 H126 S127
        refine h_val 0 rfl (by kernel_rfl) (by kernel_rfl) (by kernel_rfl) (fun _ _ _ h => h) S127 (wants0 rfl) (d := 84) (v := (.slice a2 vs.length q2)) rfl (fun _ H' => (by kernel_rfl)) ?_
        refine h_val 1 rfl (by kernel_rfl) (by kernel_rfl) (by kernel_rfl) (fun _ _ _ h => h) S127 (wants0 rfl) (d := 85) (v := (.agg ⟨([(.int .i64 (F)), (.int .i64 (1))] : List Value)⟩)) rfl (fun _ H' => (e_loadN (vs := ([(.int .i64 (F)), (.int .i64 (1))] : List Value)) rfl (by kernel_rfl) (by kernel_rfl) (by exact Nat.le_of_ble_eq_true (by kernel_rfl)) (H'.at 2 rfl) (by kernel_rfl))) ?_
        refine h_val 2 rfl (by kernel_rfl) (by kernel_rfl) (by kernel_rfl) (fun _ _ _ h => h) S127 (wants0 rfl) (d := 86) (v := (.int .i64 (E))) rfl (fun _ H' => (by kernel_rfl)) ?_
        refine h_val 3 rfl (by kernel_rfl) (by kernel_rfl) (by kernel_rfl) (fun _ _ _ h => h) S127 (wants0 rfl) (d := 87) (v := (.int .i64 ((i : Int)))) rfl (fun _ H' => (by kernel_rfl)) ?_
        refine h_val 4 rfl (by kernel_rfl) (by kernel_rfl) (by kernel_rfl) (fun _ _ _ h => h) S127 (wants0 rfl) (d := 88) (v := (.slice a1 bs.length q1)) rfl (fun _ H' => (by kernel_rfl)) ?_
        refine h_val 5 rfl (by kernel_rfl) (by kernel_rfl) (by kernel_rfl) (fun _ _ _ h => h) S127 (wants0 rfl) (d := 89) (v := (.int .i64 ((i : Int)))) rfl (fun _ H' => (by kernel_rfl)) ?_
        obtain ⟨g128, c129, e130⟩ := row_shape (H126.at 4 rfl) (by omega)
        obtain ⟨x131, h132⟩ := get_at (show i < bs.length by omega)
        refine h_val 6 rfl (by kernel_rfl) (by kernel_rfl) (by kernel_rfl) (fun _ _ _ h => h) S127 (wants0 rfl) (d := 90) (v := (.pointer (some ⟨g128, 0 + ((i : Int)).toNat * 1, none⟩))) rfl (fun _ H' => (e_indexAddrV (E := 27) (by kernel_rfl) (by kernel_rfl) (Nat.le_of_ble_eq_true rfl) rfl e130 rfl (by omega) (by omega))) ?_
        refine h_val 7 rfl (by kernel_rfl) (by kernel_rfl) (by kernel_rfl) (fun _ _ _ h => h) S127 (wants0 rfl) (d := 91) (v := (.pointer (some ⟨x131.k, 0, none⟩))) rfl (fun _ H' => (e_load1 rfl (by kernel_rfl) (rows_cell (H'.at 3 rfl) e130 encP_len h132 0 rfl (show 0 + ((i : Int)).toNat * 1 = i * 1 + 0 by omega) (by kernel_rfl)))) ?_
        refine h_val 8 rfl (by kernel_rfl) (by kernel_rfl) (by kernel_rfl) (fun _ _ _ h => h) S127 (wants0 rfl) (d := 92) (v := (.agg ⟨(hc x)⟩)) rfl (fun _ H' => (e_loadN (vs := (hc x)) rfl (by kernel_rfl) (by kernel_rfl) (by exact Nat.le_of_ble_eq_true (by kernel_rfl)) (H'.at 1 rfl) (by kernel_rfl))) ?_
        refine h_do 9 rfl (by kernel_rfl) (wants0 rfl) (fun K133 hK133 => ?_)
        obtain ⟨D134, hD135⟩ := get_at (show i < Ds.length by have q := famC_len (H126.at 0 rfl); omega)
        obtain ⟨D136, A137, hst138⟩ : ∃ D2 A2, proposeD D134 0 (-1) x true = (D2, A2) := ⟨_, _, rfl⟩
        have hlA : A137.length ≤ 8388621 := by have q := propose_le (hO.ci hnk hD135) 0 (-1) x true; rw [hst138] at q; exact Nat.le_trans q (by decide)
        refine d_call (d := 93) rfl (by kernel_rfl) (calls_fam (T := 45) (D' := (proposeD D134 0 (-1) x true).1) (A := (proposeD D134 0 (-1) x true).2) (H126.at 0 rfl) h132 hD135 (corePropose_any w125 x131.k x131.t x131.hb x131.cb x131.ab x131.lb x131.pb D134 (famC_at (ck := coreK) (H126.at 0 rfl) h132 hD135) (hO.ci hnk hD135) 0 (-1) x true)) ?_
        rw [hst138]
        rintro _ w140 ⟨v139, rfl, S141⟩
        have H142 : Sat w [famC coreK bs (Ds.set i D136), restC w (fun _ => False), cellC b2 36 (hc x), cellC b10 25 ([(.int .i64 (F)), (.int .i64 (1))] : List Value), rowC 27 1 (.slice a1 bs.length q1) bs.length (bs.flatMap encP), rowC 52 37 (.slice a2 vs.length q2) vs.length (vs.flatMap encS), rowC 45 35 v139 A137.length (A137.flatMap encA)] w140 := (Sat.turn1 (L' := [famC coreK bs (Ds.set i D136), rowC 45 35 v139 A137.length (A137.flatMap encA)]) (R := [restC w (fun _ => False), cellC b2 36 (hc x), cellC b10 25 ([(.int .i64 (F)), (.int .i64 (1))] : List Value), rowC 27 1 (.slice a1 bs.length q1) bs.length (bs.flatMap encP), rowC 52 37 (.slice a2 vs.length q2) vs.length (vs.flatMap encS)]) H126 0 [1, 2, 3, 4, 5] (by decide) rfl rfl S141).pick [0, 2, 3, 4, 5, 6, 1] (by decide)
        obtain ⟨a143, c144, rfl⟩ := ownsRow_shape (H142.at 6 rfl)
        refine ⟨_, rfl, ?_⟩
        have S145 := H142.pick [1, 2, 3, 4] (by decide)
        refine hK133 _ _ S145 ?_
        clear hK133 K133
        refine h_do 10 rfl (by kernel_rfl) (wants0 rfl) (fun K146 hK146 => ?_)
        have hsk := speakA_len (i : Int) A137
        refine d_call (d := 94) rfl (by kernel_rfl) (speak_any w140 F 1 E (i : Int) _ A137 (H142.at 6 rfl) (by omega)) ?_
        rintro _ w148 ⟨u147, rfl, k150, u151, f152⟩
        have H149 : Sat w [famC coreK bs (Ds.set i D136), restC w (fun _ => False), cellC b2 36 (hc x), cellC b10 25 ([(.int .i64 (F)), (.int .i64 (1))] : List Value), rowC 27 1 (.slice a1 bs.length q1) bs.length (bs.flatMap encP), rowC 52 37 (.slice a2 vs.length q2) vs.length (vs.flatMap encS), rowC 45 35 (.slice a143 A137.length c144) A137.length (A137.flatMap encA), rowC 52 37 u147 ((A137.flatMap (speakA (i : Int))).length) ((A137.flatMap (speakA (i : Int))).flatMap encS)] w148 := H142.addU u151 k150 f152
        obtain ⟨a153, c154, rfl⟩ := ownsRow_shape (H149.at 7 rfl)
        refine ⟨_, rfl, ?_⟩
        have S155 := H149.pick [1, 2, 3, 4] (by decide)
        refine hK146 _ _ S155 ?_
        clear hK146 K146
        refine h_do 11 rfl (by kernel_rfl) (wants0 rfl) (fun K156 hK156 => ?_)
        refine d_append (T := 48) (e := 52) (size := 37) (bytes := 72) rfl H149 (by kernel_rfl) 5 7 rfl rfl rfl rfl (flat_one encS encS_one (A137.flatMap (speakA (i : Int)))) (by omega) (by omega) ?_
        intro v157 w158 (H159 : Sat w [famC coreK bs (Ds.set i D136), restC w (fun _ => False), cellC b2 36 (hc x), cellC b10 25 ([(.int .i64 (F)), (.int .i64 (1))] : List Value), rowC 27 1 (.slice a1 bs.length q1) bs.length (bs.flatMap encP), rowC 52 37 v157 (vs.length + (A137.flatMap (speakA (i : Int))).length) ((vs.flatMap encS) ++ ((A137.flatMap (speakA (i : Int))).flatMap encS)), rowC 45 35 (.slice a143 A137.length c144) A137.length (A137.flatMap encA), rowC 52 37 (.slice a153 ((A137.flatMap (speakA (i : Int))).length) c154) ((A137.flatMap (speakA (i : Int))).length) ((A137.flatMap (speakA (i : Int))).flatMap encS)] w158)
        have H162 : Sat w [famC coreK bs (Ds.set i D136), restC w (fun _ => False), cellC b2 36 (hc x), cellC b10 25 ([(.int .i64 (F)), (.int .i64 (1))] : List Value), rowC 27 1 (.slice a1 bs.length q1) bs.length (bs.flatMap encP), rowC 52 37 v157 ((vs ++ (A137.flatMap (speakA (i : Int)))).length) ((vs ++ (A137.flatMap (speakA (i : Int)))).flatMap encS), rowC 45 35 (.slice a143 A137.length c144) A137.length (A137.flatMap encA), rowC 52 37 (.slice a153 ((A137.flatMap (speakA (i : Int))).length) c154) ((A137.flatMap (speakA (i : Int))).length) ((A137.flatMap (speakA (i : Int))).flatMap encS)] w158 := H159.cast (by simp only [List.length_append, List.flatMap_append] <;> rfl)
        obtain ⟨a160, c161, rfl⟩ := ownsRow_shape (H162.at 5 rfl)
        have S163 := H162.pick [1, 2, 3, 4] (by decide)
        refine hK156 _ _ S163 ?_
        clear hK156 K156
        refine h_val 12 rfl (by kernel_rfl) (by kernel_rfl) (by kernel_rfl) (fun _ _ _ h => h) S163 (wants0 rfl) (d := 12) (v := (.slice a160 ((vs ++ (A137.flatMap (speakA (i : Int)))).length) c161)) rfl (fun _ H' => (by kernel_rfl)) ?_
        refine h_fin (by kernel_rfl) ?_
        refine blk_normal ?_
        refine then_normal ?_
        refine w_lit ?_
        refine wl_pure (wants0 rfl) (d := 96) (v := (.int .i64 ((i : Int) + 1))) rfl (e_int (z := (i : Int) + 1) (by kernel_rfl) (IntWalk.i64_in _ (by omega))) ?_
        refine wl_pure (wants0 rfl) (d := 81) (v := (.int .i64 ((i : Int) + 1))) rfl (by kernel_rfl) ?_
        refine w_nil ?_
        obtain ⟨hO2, hA2⟩ := hO.step hxz (by omega) hnk hD135 hst138
        have H164 : Sat w [famC coreK bs (Ds.set i D136), restC w (fun _ => False), cellC b2 36 (hc x), cellC b10 25 ([(.int .i64 (F)), (.int .i64 (1))] : List Value), rowC 27 1 (.slice a1 bs.length q1) bs.length (bs.flatMap encP), rowC 52 37 (.slice a160 ((vs ++ (A137.flatMap (speakA (i : Int)))).length) c161) ((vs ++ (A137.flatMap (speakA (i : Int)))).length) ((vs ++ (A137.flatMap (speakA (i : Int)))).flatMap encS)] w158 := H162.pick [0, 1, 2, 3, 4, 5] (by decide)
        refine round_back ?_ _ ⟨(i + 1), (Ds.set i D136), (vs ++ (A137.flatMap (speakA (i : Int)))), a160, c161, (show ((.int .i64 ((i : Int) + 1)) : Value) = _ by first | rfl | go_num), (show ((.slice a160 ((vs ++ (A137.flatMap (speakA (i : Int)))).length) c161) : Value) = _ by first | rfl | go_num), (by omega), hO2, (by rw [hA2, hvs, sv_succ]), H164, rfl⟩ (by omega)
        exact (same_upd rfl (same_upd rfl (same_upd rfl (same_upd rfl (same_upd rfl (same_upd rfl (same_upd rfl (same_upd rfl (same_upd rfl (same_upd rfl (same_upd rfl (same_upd rfl (same_upd rfl (same_upd rfl (same_upd rfl (same_upd rfl (same_upd rfl (same_upd rfl (same_upd rfl (same_upd rfl (same_upd rfl (same_ovr))))))))))))))))))))))
      · have g165 := of_decide_eq_false b112
        refine wp_know 82 (.bool false) (congrArg Value.bool b112) ?_
        have g166 := of_decide_eq_false b112
        refine wp_iff rfl ?_
        refine w_exit ?_
        refine then_exit ?_
        refine back_exit ?_
        refine blk_hit ?_
        refine then_normal ?_
        refine w_seq ?_
        refine w_seq ?_
        have hi2 : i = bs.length := by have := of_decide_eq_false b112; omega
        rw [hi2] at hO hvs
        have hvl : (vs.length : Int) = 3 * F + 1 := by rw [hvs, sv_len]; omega
        refine w_lit ?_
        refine wl_pure (wants0 rfl) (d := 97) (v := (.slice a2 vs.length q2)) rfl (by kernel_rfl) ?_
        refine wl_pure (wants0 rfl) (d := 98) (v := (.int .i64 ((vs.length : Int)))) rfl (by kernel_rfl) ?_
        refine wl_pure (wants0 rfl) (d := 99) (v := (.int .i64 (3 * F + 1))) rfl (by kernel_rfl) ?_
        refine wl_pure (wants0 rfl) (d := 100) (v := (.bool (!(decide ((vs.length : Int) = (3 * F + 1)))))) rfl (by kernel_rfl) ?_
        refine w_nil ?_
        refine then_normal ?_
        have b167 : (!(decide ((vs.length : Int) = (3 * F + 1)))) = false := by simp [hvl]
        refine wp_know 100 (.bool false) (congrArg Value.bool b167) ?_
        have g168 := bnot_false b167
        have g169 := of_decide_eq_true g168
        refine wp_iff rfl ?_
        refine w_skip ?_
        refine then_normal ?_
        refine w_seq ?_
        refine w_seq ?_
        refine w_lit ?_
        refine wl_pure (wants0 rfl) (d := 19) (v := (.int .i64 (0))) rfl (by kernel_rfl) ?_
        refine w_nil ?_
        refine then_normal ?_
        refine w_block ?_
        refine wp_round [12, 19, 20, 21, 22, 23, 24, 101, 102, 103, 104, 105, 106, 107, 108, 109, 110, 111, 112, 113, 114, 115, 116, 117, 118, 119, 120, 121, 122, 123, 124, 125, 126, 127, 128, 129, 130, 131, 132, 133, 134, 135, 136, 137, 138, 139, 140, 141, 142, 143, 144, 145, 146, 147, 148, 149, 150, 151, 152, 153, 154, 155, 156, 157, 158, 159, 160, 161] (fun F_ W_ m_ => ∃ (r : Nat) (Ds : List CoreD) (vs : List SaidD) (a2 : Option Addr) (q2 : Nat), F_ 19 = (.int .i64 ((r : Int))) ∧ F_ 12 = (.slice a2 vs.length q2) ∧ (r ≤ 2) ∧ (CalmR F x bs.length r Ds vs) ∧ Sat w [famC coreK bs Ds, restC w (fun _ => False), cellC b2 36 (hc x), cellC b10 25 ([(.int .i64 (F)), (.int .i64 (1))] : List Value), rowC 27 1 (.slice a1 bs.length q1) bs.length (bs.flatMap encP), rowC 52 37 (.slice a2 vs.length q2) vs.length (vs.flatMap encS)] W_ ∧ m_ = 2 - r) _ ⟨0, Ds, vs, a2, q2, (show ((.int .i64 (0)) : Value) = _ by first | rfl | go_num), (by first | rfl | go_num), (by omega), (by rw [hvs]; exact hO.done), H108, rfl⟩ ?_
        rintro g170 w171 _ ⟨r, Ds, vs, a2, q2, v173, v174, hr, hR, H172, rfl⟩
        refine wp_know 19 _ v173 ?_
        refine wp_know 12 _ v174 ?_
        refine w_seq ?_
        refine w_seq ?_
        refine w_lit ?_
        refine wl_pure (wants0 rfl) (d := 101) (v := (.int .i64 ((r : Int)))) rfl (by kernel_rfl) ?_
        refine wl_pure (wants0 rfl) (d := 102) (v := (.bool (decide ((r : Int) < 2)))) rfl (by kernel_rfl) ?_
        refine w_nil ?_
        refine then_normal ?_
        refine (bsplit (decide ((r : Int) < 2))).elim (fun b176 => ?_) (fun b176 => ?_)
        · have g177 := of_decide_eq_true b176
          refine wp_know 102 (.bool true) (congrArg Value.bool b176) ?_
          have g178 := of_decide_eq_true b176
          refine wp_ift rfl ?_
          refine w_skip ?_
          refine then_normal ?_
          refine w_seq ?_
          refine w_block ?_
          refine w_seq ?_
          have hr2 : r < 2 := by have := of_decide_eq_true b176; omega
          have hvs := hR.vs hr2
          have hvl : vs.length = bs.length := by rw [hvs, sv_len]
          refine w_lit ?_
          refine wl_pure (wants0 rfl) (d := 20) (v := (.slice none 0 0)) rfl (by kernel_rfl) ?_
          refine w_nil ?_
          refine then_normal ?_
          refine w_seq ?_
          refine w_seq ?_
          refine w_lit ?_
          refine wl_pure (wants0 rfl) (d := 105) (v := (.slice a1 bs.length q1)) rfl (by kernel_rfl) ?_
          refine wl_pure (wants0 rfl) (d := 106) (v := (.int .i64 ((bs.length : Int)))) rfl (by kernel_rfl) ?_
          refine wl_pure (wants0 rfl) (d := 107) (v := (.int .i64 (0))) rfl (by kernel_rfl) ?_
          refine w_nil ?_
          refine then_normal ?_
          refine w_block ?_
          have Hv := H172.addNil 52 37
          refine wp_round [20, 21, 22, 23, 24, 107, 108, 109, 110, 111, 112, 113, 114, 115, 116, 117, 118, 119, 120, 121, 122, 123, 124, 125, 126, 127, 128, 129, 130, 131, 132, 133, 134, 135, 136, 137, 138, 139, 140, 141, 142, 143, 144, 145, 146, 147, 148, 149, 150, 151, 152, 153, 154, 155, 156, 157, 158, 159, 160] (fun F_ W_ m_ => ∃ (i : Nat) (Ds : List CoreD) (nx : List SaidD) (a3 : Option Addr) (q3 : Nat), F_ 107 = (.int .i64 ((i : Int))) ∧ F_ 20 = (.slice a3 nx.length q3) ∧ (i ≤ bs.length) ∧ (CalmI F x bs.length r i Ds nx) ∧ Sat w [famC coreK bs Ds, restC w (fun _ => False), cellC b2 36 (hc x), cellC b10 25 ([(.int .i64 (F)), (.int .i64 (1))] : List Value), rowC 27 1 (.slice a1 bs.length q1) bs.length (bs.flatMap encP), rowC 52 37 (.slice a2 vs.length q2) vs.length (vs.flatMap encS), rowC 52 37 (.slice a3 nx.length q3) nx.length (nx.flatMap encS)] W_ ∧ m_ = bs.length - i) _ ⟨0, Ds, [], none, 0, (show ((.int .i64 (0)) : Value) = _ by first | rfl | go_num), (by first | rfl | go_num), (Nat.zero_le _), hR.first, Hv, rfl⟩ ?_
          rintro g179 w180 _ ⟨i, Ds, nx, a3, q3, v182, v183, hi, hI, H181, rfl⟩
          refine wp_know 107 _ v182 ?_
          refine wp_know 20 _ v183 ?_
          refine w_seq ?_
          refine w_lit ?_
          refine wl_pure (wants0 rfl) (d := 108) (v := (.bool (decide ((i : Int) < (bs.length : Int))))) rfl (by kernel_rfl) ?_
          refine w_nil ?_
          refine then_normal ?_
          refine w_seq ?_
          refine (bsplit (decide ((i : Int) < (bs.length : Int)))).elim (fun b185 => ?_) (fun b185 => ?_)
          · have g186 := of_decide_eq_true b185
            refine wp_know 108 (.bool true) (congrArg Value.bool b185) ?_
            have g187 := of_decide_eq_true b185
            refine wp_ift rfl ?_
            refine w_skip ?_
            refine then_normal ?_
            refine w_seq ?_
            refine w_block ?_
            refine w_seq ?_
            refine w_lit ?_
            refine wl_pure (wants0 rfl) (d := 109) (v := (.int .i64 ((i : Int)))) rfl (by kernel_rfl) ?_
            refine wl_pure (wants0 rfl) (d := 21) (v := (.int .i64 ((i : Int)))) rfl (by kernel_rfl) ?_
            refine w_nil ?_
            refine then_normal ?_
            refine w_seq ?_
            have hib : i < bs.length := by have := of_decide_eq_true b185; omega
            obtain ⟨off, ho, ho1, ho2⟩ := off_of ord i bs.length (by omega)
            refine w_lit ?_
            refine wl_pure (wants0 rfl) (d := 110) (v := (.slice a2 vs.length q2)) rfl (by kernel_rfl) ?_
            refine wl_pure (wants0 rfl) (d := 111) (v := (.int .i64 ((vs.length : Int)))) rfl (by kernel_rfl) ?_
            refine wl_pure (wants0 rfl) (d := 112) (v := (.int .i64 (0))) rfl (by kernel_rfl) ?_
            refine w_nil ?_
            refine then_normal ?_
            refine w_block ?_
            refine wp_round [20, 22, 23, 24, 112, 113, 114, 115, 116, 117, 118, 119, 120, 121, 122, 123, 124, 125, 126, 127, 128, 129, 130, 131, 132, 133, 134, 135, 136, 137, 138, 139, 140, 141, 142, 143, 144, 145, 146, 147, 148, 149, 150, 151, 152, 153, 154, 155, 156, 157, 158, 159] (fun F_ W_ m_ => ∃ (k : Nat) (Ds : List CoreD) (nx : List SaidD) (a3 : Option Addr) (q3 : Nat), F_ 112 = (.int .i64 ((k : Int))) ∧ F_ 20 = (.slice a3 nx.length q3) ∧ (k ≤ bs.length) ∧ (CalmK F x bs.length r i off k Ds nx) ∧ Sat w [famC coreK bs Ds, restC w (fun _ => False), cellC b2 36 (hc x), cellC b10 25 ([(.int .i64 (F)), (.int .i64 (1))] : List Value), rowC 27 1 (.slice a1 bs.length q1) bs.length (bs.flatMap encP), rowC 52 37 (.slice a2 vs.length q2) vs.length (vs.flatMap encS), rowC 52 37 (.slice a3 nx.length q3) nx.length (nx.flatMap encS)] W_ ∧ m_ = bs.length - k) _ ⟨0, Ds, nx, a3, q3, (show ((.int .i64 (0)) : Value) = _ by first | rfl | go_num), (by first | rfl | go_num), (Nat.zero_le _), (hI.first hr2 (by omega) off), H181, rfl⟩ ?_
            rintro g188 w189 _ ⟨k, Ds, nx, a3, q3, v191, v192, hk, hK, H190, rfl⟩
            refine wp_know 112 _ v191 ?_
            refine wp_know 20 _ v192 ?_
            have hsh := hK.short
            have hDl : Ds.length = bs.length := hK.len
            refine w_seq ?_
            refine w_lit ?_
            refine wl_pure (wants0 rfl) (d := 113) (v := (.bool (decide ((k : Int) < (vs.length : Int))))) rfl (by kernel_rfl) ?_
            refine w_nil ?_
            refine then_normal ?_
            refine w_seq ?_
            refine (bsplit (decide ((k : Int) < (vs.length : Int)))).elim (fun b194 => ?_) (fun b194 => ?_)
            · have g195 := of_decide_eq_true b194
              refine wp_know 113 (.bool true) (congrArg Value.bool b194) ?_
              have g196 := of_decide_eq_true b194
              refine wp_ift rfl ?_
              refine w_skip ?_
              refine then_normal ?_
              refine w_seq ?_
              refine w_block ?_
              refine w_seq ?_
              have hkb : k < bs.length := by have := of_decide_eq_true b194; omega
              obtain ⟨jn, hjn⟩ : ∃ j, rot bs.length off k = j := ⟨_, rfl⟩
              have hjl : jn < bs.length := hjn ▸ rot_lt hkb ho
              have hjr := rot_int hkb ho
              rw [hjn] at hjr
              refine w_lit ?_
              refine wl_pure (wants0 rfl) (d := 114) (v := (.int .i64 ((k : Int)))) rfl (by kernel_rfl) ?_
              refine wl_pure (wants0 rfl) (d := 22) (v := (.int .i64 ((k : Int)))) rfl (by kernel_rfl) ?_
              refine w_nil ?_
              refine then_normal ?_
              refine w_seq ?_
              refine w_lit ?_
              refine wl_pure (wants0 rfl) (d := 115) (v := (.int .i64 ((k : Int)))) rfl (by kernel_rfl) ?_
              refine wl_pure (wants0 rfl) (d := 23) (v := (.int .i64 ((k : Int)))) rfl (by kernel_rfl) ?_
              refine w_nil ?_
              refine then_normal ?_
              refine wp_meetR [23, 116, 117, 118, 119, 120, 121, 122, 123, 124, 125, 126, 127, 128, 129, 130, 131] (fun G_ W_ => G_ 23 = (.int .i64 ((jn : Int))) ∧ Sat w [famC coreK bs Ds, restC w (fun _ => False), cellC b2 36 (hc x), cellC b10 25 ([(.int .i64 (F)), (.int .i64 (1))] : List Value), rowC 27 1 (.slice a1 bs.length q1) bs.length (bs.flatMap encP), rowC 52 37 (.slice a2 vs.length q2) vs.length (vs.flatMap encS), rowC 52 37 (.slice a3 nx.length q3) nx.length (nx.flatMap encS)] W_) ?_ ?_
              · refine w_seq ?_
                refine w_lit ?_
                refine wl_pure (wants0 rfl) (d := 116) (v := (.int .i64 ((i : Int)))) rfl (by kernel_rfl) ?_
                refine wl_pure (wants0 rfl) (d := 117) (v := (.slice va ord.length vc)) rfl (by kernel_rfl) ?_
                refine wl_pure (wants0 rfl) (d := 118) (v := (.int .i64 ((ord.length : Int)))) rfl (by kernel_rfl) ?_
                refine wl_pure (wants0 rfl) (d := 119) (v := (.bool (decide ((i : Int) < (ord.length : Int))))) rfl (by kernel_rfl) ?_
                refine w_nil ?_
                refine then_normal ?_
                refine (bsplit (decide ((i : Int) < (ord.length : Int)))).elim (fun b198 => ?_) (fun b198 => ?_)
                · have g199 := of_decide_eq_true b198
                  refine wp_know 119 (.bool true) (congrArg Value.bool b198) ?_
                  have g200 := of_decide_eq_true b198
                  refine wp_ift rfl ?_
                  have hoff : withinV (ord.getD i 0) (vs.length : Int) = (off : Int) := by rw [hvl]; exact ho1 (by have := of_decide_eq_true b198; omega)
                  refine w_lit ?_
                  refine wl_pure (wants0 rfl) (d := 120) (v := (.int .i64 ((k : Int)))) rfl (by kernel_rfl) ?_
                  refine wl_pure (wants0 rfl) (d := 121) (v := (.slice va ord.length vc)) rfl (by kernel_rfl) ?_
                  refine wl_pure (wants0 rfl) (d := 122) (v := (.int .i64 ((i : Int)))) rfl (by kernel_rfl) ?_
                  obtain ⟨g201, o202, c203, e204, R205⟩ := hord.atD (show i < ord.length by omega)
                  have := hord.bd i
                  refine wl_pure (wants0 rfl) (d := 123) (v := (.pointer (some ⟨g201, o202 + ((i : Int)).toNat * 1, none⟩))) rfl (e_indexAddrW (E := 3) (by kernel_rfl) (by kernel_rfl) (Nat.le_of_ble_eq_true rfl) rfl e204 rfl (by omega) (by omega)) ?_
                  refine wl_pure (wants0 rfl) (d := 124) (v := (.int .i64 ((ord.getD i 0)))) rfl (e_load1 rfl (by kernel_rfl) (H190.cellR 1 rfl (cells_at R205 0 (by kernel_rfl) (show o202 + ((i : Int)).toNat * 1 = o202 + i * 1 + 0 by omega)) (fun h => h))) ?_
                  refine wl_pure (wants0 rfl) (d := 125) (v := (.slice a2 vs.length q2)) rfl (by kernel_rfl) ?_
                  refine wl_pure (wants0 rfl) (d := 126) (v := (.int .i64 ((vs.length : Int)))) rfl (by kernel_rfl) ?_
                  refine wl_do (wants0 rfl) (fun K206 hK206 => ?_)
                  refine d_call (d := 127) rfl (by kernel_rfl) (calls_conv (withinBig_any w189 (ord.getD i 0) (vs.length : Int) (by omega)) (congrArg (Value.int .i64) hoff)) ?_
                  rintro _ w207 ⟨rfl, u209⟩
                  have H208 := H190.keepU u209
                  refine ⟨_, rfl, ?_⟩
                  refine hK206 _ _ ?_
                  clear hK206 K206
                  refine wl_pure (wants0 rfl) (d := 128) (v := (.int .i64 ((k : Int) + (off : Int)))) rfl (e_int (z := (k : Int) + (off : Int)) (by kernel_rfl) (IntWalk.i64_in _ (by omega))) ?_
                  refine wl_pure (wants0 rfl) (d := 129) (v := (.slice a2 vs.length q2)) rfl (by kernel_rfl) ?_
                  refine wl_pure (wants0 rfl) (d := 130) (v := (.int .i64 ((vs.length : Int)))) rfl (by kernel_rfl) ?_
                  refine wl_pure (wants0 rfl) (d := 131) (v := (.int .i64 (((k : Int) + (off : Int)) % (vs.length : Int)))) rfl (e_rem (by kernel_rfl) (by omega) (by omega)) ?_
                  refine wl_pure (wants0 rfl) (d := 23) (v := (.int .i64 (((k : Int) + (off : Int)) % (vs.length : Int)))) rfl (by kernel_rfl) ?_
                  refine w_nil ?_
                  refine meetR_at ?_ ⟨(show ((.int .i64 (((k : Int) + (off : Int)) % (vs.length : Int))) : Value) = _ by rw [hvl, hjr]), H208⟩
                  exact (same_upd rfl (same_upd rfl (same_upd rfl (same_upd rfl (same_upd rfl (same_upd rfl (same_upd rfl (same_upd rfl (same_upd rfl (same_upd rfl (same_upd rfl (same_upd rfl (same_upd rfl (same_upd rfl (same_upd rfl (same_upd rfl (same_upd rfl (same_upd rfl (same_refl)))))))))))))))))))
                · have g210 := of_decide_eq_false b198
                  refine wp_know 119 (.bool false) (congrArg Value.bool b198) ?_
                  have g211 := of_decide_eq_false b198
                  refine wp_iff rfl ?_
                  refine w_skip ?_
                  refine meetR_at ?_ ⟨(show ((.int .i64 ((k : Int))) : Value) = _ by have q := ho2 (by have := of_decide_eq_false b198; omega); rw [← hjn]; unfold rot; rw [q]; simp [hkb]), H190⟩
                  exact (same_upd rfl (same_upd rfl (same_upd rfl (same_upd rfl (same_upd rfl (same_refl))))))
              · rintro f212 w213 ⟨v215, H214⟩
                refine wp_know 23 _ v215 ?_
                refine w_seq ?_
                refine w_lit ?_
                refine wl_pure (wants0 rfl) (d := 132) (v := (.slice a2 vs.length q2)) rfl (by kernel_rfl) ?_
                refine wl_pure (wants0 rfl) (d := 133) (v := (.int .i64 ((jn : Int)))) rfl (by kernel_rfl) ?_
                obtain ⟨g216, c217, e218⟩ := row_shape (H214.at 5 rfl) (by omega)
                obtain ⟨x219, h220⟩ := get_at (show jn < vs.length by omega)
                refine wl_pure (wants0 rfl) (d := 134) (v := (.pointer (some ⟨g216, 0 + ((jn : Int)).toNat * 37, none⟩))) rfl (e_indexAddrV (E := 52) (by kernel_rfl) (by kernel_rfl) (Nat.le_of_ble_eq_true rfl) rfl e218 rfl (by omega) (by omega)) ?_
                refine wl_pure (wants0 rfl) (d := 135) (v := (.agg ⟨(([(.bool (x219.vote)), (.int .i64 (x219.kind)), (.int .i64 (x219.round)), (.int .i64 (x219.valid)), (.int .i64 (x219.from'))] : List Value) ++ hc x219.h)⟩)) rfl (e_loadRun (vs := (([(.bool (x219.vote)), (.int .i64 (x219.kind)), (.int .i64 (x219.round)), (.int .i64 (x219.valid)), (.int .i64 (x219.from'))] : List Value) ++ hc x219.h)) rfl (by kernel_rfl) (by kernel_rfl) (Nat.le_of_ble_eq_true (by kernel_rfl)) (rows_run (H214.at 5 rfl) e218 encS_len h220 0 (show 0 + ((jn : Int)).toNat * 37 = jn * 37 + 0 by omega) (by kernel_rfl) (by kernel_rfl))) ?_
                refine wl_do (wants0 rfl) (fun K221 hK221 => ?_)
                refine d_alloc (zs := (([(.bool false), (.int .i64 (0)), (.int .i64 (0)), (.int .i64 (0)), (.int .i64 (0))] : List Value) ++ hc hash0)) (z := (.agg ⟨(([(.bool false), (.int .i64 (0)), (.int .i64 (0)), (.int .i64 (0)), (.int .i64 (0))] : List Value) ++ hc hash0)⟩)) rfl H214 (by kernel_rfl) (by kernel_rfl) ?_
                intro b222 w223 (H224 : Sat w [famC coreK bs Ds, restC w (fun _ => False), cellC b2 36 (hc x), cellC b10 25 ([(.int .i64 (F)), (.int .i64 (1))] : List Value), rowC 27 1 (.slice a1 bs.length q1) bs.length (bs.flatMap encP), rowC 52 37 (.slice a2 vs.length q2) vs.length (vs.flatMap encS), rowC 52 37 (.slice a3 nx.length q3) nx.length (nx.flatMap encS), cellC b222 52 (([(.bool false), (.int .i64 (0)), (.int .i64 (0)), (.int .i64 (0)), (.int .i64 (0))] : List Value) ++ hc hash0)] w223)
                refine hK221 _ _ ?_
                clear hK221 K221
                refine wl_do (wants0 rfl) (fun K225 hK225 => ?_)
                refine d_storeX (vs := (([(.bool (x219.vote)), (.int .i64 (x219.kind)), (.int .i64 (x219.round)), (.int .i64 (x219.valid)), (.int .i64 (x219.from'))] : List Value) ++ hc x219.h)) (cs' := (([(.bool (x219.vote)), (.int .i64 (x219.kind)), (.int .i64 (x219.round)), (.int .i64 (x219.valid)), (.int .i64 (x219.from'))] : List Value) ++ hc x219.h)) rfl H224 7 rfl rfl rfl rfl (by kernel_rfl) (Nat.le_of_ble_eq_true (by kernel_rfl)) (Nat.le_of_ble_eq_true (by kernel_rfl)) (by kernel_rfl) (by kernel_rfl) ?_
                intro w226 (H227 : Sat w [famC coreK bs Ds, restC w (fun _ => False), cellC b2 36 (hc x), cellC b10 25 ([(.int .i64 (F)), (.int .i64 (1))] : List Value), rowC 27 1 (.slice a1 bs.length q1) bs.length (bs.flatMap encP), rowC 52 37 (.slice a2 vs.length q2) vs.length (vs.flatMap encS), rowC 52 37 (.slice a3 nx.length q3) nx.length (nx.flatMap encS), cellC b222 52 (([(.bool (x219.vote)), (.int .i64 (x219.kind)), (.int .i64 (x219.round)), (.int .i64 (x219.valid)), (.int .i64 (x219.from'))] : List Value) ++ hc x219.h)] w226)
                refine hK225 _ _ ?_
                clear hK225 K225
                refine w_nil ?_
                refine then_normal ?_
                refine w_seq ?_
                have hy := (sv_get (kind := 1 + (r : Int)) (x := x) (i := bs.length) (by rw [← hvs]; exact h220)).1
                have hyf : x219.from' = (jn : Int) := by rw [hy]
                refine w_lit ?_
                refine wl_pure (wants0 rfl) (d := 136) (v := (.pointer (some ⟨b222, 4, none⟩))) rfl (by kernel_rfl) ?_
                refine wl_pure (wants0 rfl) (d := 137) (v := (.int .i64 (x219.from'))) rfl (e_load1 rfl (by kernel_rfl) (H227.cell 7 rfl (by kernel_rfl))) ?_
                refine wl_pure (wants0 rfl) (d := 138) (v := (.int .i64 ((i : Int)))) rfl (by kernel_rfl) ?_
                refine wl_pure (wants0 rfl) (d := 139) (v := (.bool (!(decide ((x219.from') = (i : Int)))))) rfl (by kernel_rfl) ?_
                refine w_nil ?_
                refine then_normal ?_
                refine (bsplit (!(decide ((x219.from') = (i : Int))))).elim (fun b229 => ?_) (fun b229 => ?_)
                · have g230 := bnot_true b229
                  have g231 := of_decide_eq_false g230
                  refine wp_know 139 (.bool true) (congrArg Value.bool b229) ?_
                  have g232 := bnot_true b229
                  have g233 := of_decide_eq_false g232
                  refine wp_ift rfl ?_
                  obtain ⟨g234, c235, e236⟩ := row_shape (H227.at 4 rfl) (by omega)
                  obtain ⟨x237, h238⟩ := get_at (show i < bs.length by omega)
                  obtain ⟨g239, c240, e241⟩ := row_shape (H227.at 4 rfl) (by omega)
                  obtain ⟨x242, h243⟩ := get_at (show i < bs.length by omega)
                  refine h_start H227 [restC w (fun _ => False), cellC b2 36 (hc x), cellC b10 25 ([(.int .i64 (F)), (.int .i64 (1))] : List Value), rowC 27 1 (.slice a1 bs.length q1) bs.length (bs.flatMap encP), rowC 52 37 (.slice a2 vs.length q2) vs.length (vs.flatMap encS), cellC b222 52 (([(.bool (x219.vote)), (.int .i64 (x219.kind)), (.int .i64 (x219.round)), (.int .i64 (x219.valid)), (.int .i64 (x219.from'))] : List Value) ++ hc x219.h)] 20 rfl (by kernel_rfl) (fun Hx => (Hx.pick [1, 2, 3, 4, 5, 7] (by decide))) ?_
                  intro w244 H245 S246
                  refine h_val 0 rfl (by kernel_rfl) (by kernel_rfl) (by kernel_rfl) (fun _ _ _ h => h) S246 (wants0 rfl) (d := 140) (v := (.slice a3 nx.length q3)) rfl (fun _ H' => (by kernel_rfl)) ?_
                  refine h_val 1 rfl (by kernel_rfl) (by kernel_rfl) (by kernel_rfl) (fun _ _ _ h => h) S246 (wants0 rfl) (d := 141) (v := (.agg ⟨([(.int .i64 (F)), (.int .i64 (1))] : List Value)⟩)) rfl (fun _ H' => (e_loadN (vs := ([(.int .i64 (F)), (.int .i64 (1))] : List Value)) rfl (by kernel_rfl) (by kernel_rfl) (by exact Nat.le_of_ble_eq_true (by kernel_rfl)) (H'.at 2 rfl) (by kernel_rfl))) ?_
                  refine h_val 2 rfl (by kernel_rfl) (by kernel_rfl) (by kernel_rfl) (fun _ _ _ h => h) S246 (wants0 rfl) (d := 142) (v := (.int .i64 (E))) rfl (fun _ H' => (by kernel_rfl)) ?_
                  refine h_val 3 rfl (by kernel_rfl) (by kernel_rfl) (by kernel_rfl) (fun _ _ _ h => h) S246 (wants0 rfl) (d := 143) (v := (.int .i64 ((i : Int)))) rfl (fun _ H' => (by kernel_rfl)) ?_
                  refine h_val 4 rfl (by kernel_rfl) (by kernel_rfl) (by kernel_rfl) (fun _ _ _ h => h) S246 (wants0 rfl) (d := 144) (v := (.slice a1 bs.length q1)) rfl (fun _ H' => (by kernel_rfl)) ?_
                  refine h_val 5 rfl (by kernel_rfl) (by kernel_rfl) (by kernel_rfl) (fun _ _ _ h => h) S246 (wants0 rfl) (d := 145) (v := (.int .i64 ((i : Int)))) rfl (fun _ H' => (by kernel_rfl)) ?_
                  obtain ⟨g247, c248, e249⟩ := row_shape (H245.at 4 rfl) (by omega)
                  obtain ⟨x250, h251⟩ := get_at (show i < bs.length by omega)
                  refine h_val 6 rfl (by kernel_rfl) (by kernel_rfl) (by kernel_rfl) (fun _ _ _ h => h) S246 (wants0 rfl) (d := 146) (v := (.pointer (some ⟨g247, 0 + ((i : Int)).toNat * 1, none⟩))) rfl (fun _ H' => (e_indexAddrV (E := 27) (by kernel_rfl) (by kernel_rfl) (Nat.le_of_ble_eq_true rfl) rfl e249 rfl (by omega) (by omega))) ?_
                  refine h_val 7 rfl (by kernel_rfl) (by kernel_rfl) (by kernel_rfl) (fun _ _ _ h => h) S246 (wants0 rfl) (d := 147) (v := (.pointer (some ⟨x250.k, 0, none⟩))) rfl (fun _ H' => (e_load1 rfl (by kernel_rfl) (rows_cell (H'.at 3 rfl) e249 encP_len h251 0 rfl (show 0 + ((i : Int)).toNat * 1 = i * 1 + 0 by omega) (by kernel_rfl)))) ?_
                  refine h_val 8 rfl (by kernel_rfl) (by kernel_rfl) (by kernel_rfl) (fun _ _ _ h => h) S246 (wants0 rfl) (d := 148) (v := (.pointer (some ⟨b222, 1, none⟩))) rfl (fun _ H' => (by kernel_rfl)) ?_
                  refine h_val 9 rfl (by kernel_rfl) (by kernel_rfl) (by kernel_rfl) (fun _ _ _ h => h) S246 (wants0 rfl) (d := 149) (v := (.int .i64 (x219.kind))) rfl (fun _ H' => (e_load1 rfl (by kernel_rfl) (H'.cell 5 rfl (by kernel_rfl)))) ?_
                  refine h_val 10 rfl (by kernel_rfl) (by kernel_rfl) (by kernel_rfl) (fun _ _ _ h => h) S246 (wants0 rfl) (d := 150) (v := (.pointer (some ⟨b222, 2, none⟩))) rfl (fun _ H' => (by kernel_rfl)) ?_
                  refine h_val 11 rfl (by kernel_rfl) (by kernel_rfl) (by kernel_rfl) (fun _ _ _ h => h) S246 (wants0 rfl) (d := 151) (v := (.int .i64 (x219.round))) rfl (fun _ H' => (e_load1 rfl (by kernel_rfl) (H'.cell 5 rfl (by kernel_rfl)))) ?_
                  refine h_val 12 rfl (by kernel_rfl) (by kernel_rfl) (by kernel_rfl) (fun _ _ _ h => h) S246 (wants0 rfl) (d := 152) (v := (.pointer (some ⟨b222, 4, none⟩))) rfl (fun _ H' => (by kernel_rfl)) ?_
                  refine h_val 13 rfl (by kernel_rfl) (by kernel_rfl) (by kernel_rfl) (fun _ _ _ h => h) S246 (wants0 rfl) (d := 153) (v := (.int .i64 (x219.from'))) rfl (fun _ H' => (e_load1 rfl (by kernel_rfl) (H'.cell 5 rfl (by kernel_rfl)))) ?_
                  refine h_val 14 rfl (by kernel_rfl) (by kernel_rfl) (by kernel_rfl) (fun _ _ _ h => h) S246 (wants0 rfl) (d := 154) (v := (.pointer (some ⟨b222, 5, none⟩))) rfl (fun _ H' => (by kernel_rfl)) ?_
                  refine h_val 15 rfl (by kernel_rfl) (by kernel_rfl) (by kernel_rfl) (fun _ _ _ h => h) S246 (wants0 rfl) (d := 155) (v := (.agg ⟨(hc x219.h)⟩)) rfl (fun _ H' => (e_loadN (vs := (hc x219.h)) rfl (by kernel_rfl) (by kernel_rfl) (by exact Nat.le_of_ble_eq_true (by kernel_rfl)) (H'.at 5 rfl) (by kernel_rfl))) ?_
                  refine h_do 16 rfl (by kernel_rfl) (wants0 rfl) (fun K252 hK252 => ?_)
                  obtain ⟨D253, hD254⟩ := get_at (show i < Ds.length by have q := famC_len (H245.at 0 rfl); omega)
                  obtain ⟨D255, A256, hst257⟩ : ∃ D2 A2, voteD' D253 x219.kind x219.round (x219.from') x219.h = (D2, A2) := ⟨_, _, rfl⟩
                  have hlA : A256.length ≤ 8388621 := by have q := vote_le (hK.ci hD254) x219.kind x219.round (x219.from') x219.h; rw [hst257] at q; exact Nat.le_trans q (by decide)
                  refine d_call (d := 156) rfl (by kernel_rfl) (calls_fam (T := 45) (D' := (voteD' D253 x219.kind x219.round (x219.from') x219.h).1) (A := (voteD' D253 x219.kind x219.round (x219.from') x219.h).2) (H245.at 0 rfl) h251 hD254 (coreVote_any w244 x250.k x250.t x250.hb x250.cb x250.ab x250.lb x250.pb D253 (famC_at (ck := coreK) (H245.at 0 rfl) h251 hD254) (hK.ci hD254) x219.kind x219.round (x219.from') x219.h)) ?_
                  rw [hst257]
                  rintro _ w259 ⟨v258, rfl, S260⟩
                  have H261 : Sat w [famC coreK bs (Ds.set i D255), restC w (fun _ => False), cellC b2 36 (hc x), cellC b10 25 ([(.int .i64 (F)), (.int .i64 (1))] : List Value), rowC 27 1 (.slice a1 bs.length q1) bs.length (bs.flatMap encP), rowC 52 37 (.slice a2 vs.length q2) vs.length (vs.flatMap encS), rowC 52 37 (.slice a3 nx.length q3) nx.length (nx.flatMap encS), cellC b222 52 (([(.bool (x219.vote)), (.int .i64 (x219.kind)), (.int .i64 (x219.round)), (.int .i64 (x219.valid)), (.int .i64 (x219.from'))] : List Value) ++ hc x219.h), rowC 45 35 v258 A256.length (A256.flatMap encA)] w259 := (Sat.turn1 (L' := [famC coreK bs (Ds.set i D255), rowC 45 35 v258 A256.length (A256.flatMap encA)]) (R := [restC w (fun _ => False), cellC b2 36 (hc x), cellC b10 25 ([(.int .i64 (F)), (.int .i64 (1))] : List Value), rowC 27 1 (.slice a1 bs.length q1) bs.length (bs.flatMap encP), rowC 52 37 (.slice a2 vs.length q2) vs.length (vs.flatMap encS), rowC 52 37 (.slice a3 nx.length q3) nx.length (nx.flatMap encS), cellC b222 52 (([(.bool (x219.vote)), (.int .i64 (x219.kind)), (.int .i64 (x219.round)), (.int .i64 (x219.valid)), (.int .i64 (x219.from'))] : List Value) ++ hc x219.h)]) H245 0 [1, 2, 3, 4, 5, 6, 7] (by decide) rfl rfl S260).pick [0, 2, 3, 4, 5, 6, 7, 8, 1] (by decide)
                  obtain ⟨a262, c263, rfl⟩ := ownsRow_shape (H261.at 8 rfl)
                  refine ⟨_, rfl, ?_⟩
                  have S264 := H261.pick [1, 2, 3, 4, 5, 7] (by decide)
                  refine hK252 _ _ S264 ?_
                  clear hK252 K252
                  refine h_do 17 rfl (by kernel_rfl) (wants0 rfl) (fun K265 hK265 => ?_)
                  have hsk := speakA_len (i : Int) A256
                  refine d_call (d := 157) rfl (by kernel_rfl) (speak_any w259 F 1 E (i : Int) _ A256 (H261.at 8 rfl) (by omega)) ?_
                  rintro _ w267 ⟨u266, rfl, k269, u270, f271⟩
                  have H268 : Sat w [famC coreK bs (Ds.set i D255), restC w (fun _ => False), cellC b2 36 (hc x), cellC b10 25 ([(.int .i64 (F)), (.int .i64 (1))] : List Value), rowC 27 1 (.slice a1 bs.length q1) bs.length (bs.flatMap encP), rowC 52 37 (.slice a2 vs.length q2) vs.length (vs.flatMap encS), rowC 52 37 (.slice a3 nx.length q3) nx.length (nx.flatMap encS), cellC b222 52 (([(.bool (x219.vote)), (.int .i64 (x219.kind)), (.int .i64 (x219.round)), (.int .i64 (x219.valid)), (.int .i64 (x219.from'))] : List Value) ++ hc x219.h), rowC 45 35 (.slice a262 A256.length c263) A256.length (A256.flatMap encA), rowC 52 37 u266 ((A256.flatMap (speakA (i : Int))).length) ((A256.flatMap (speakA (i : Int))).flatMap encS)] w267 := H261.addU u270 k269 f271
                  obtain ⟨a272, c273, rfl⟩ := ownsRow_shape (H268.at 9 rfl)
                  refine ⟨_, rfl, ?_⟩
                  have S274 := H268.pick [1, 2, 3, 4, 5, 7] (by decide)
                  refine hK265 _ _ S274 ?_
                  clear hK265 K265
                  refine h_do 18 rfl (by kernel_rfl) (wants0 rfl) (fun K275 hK275 => ?_)
                  refine d_append (T := 48) (e := 52) (size := 37) (bytes := 72) rfl H268 (by kernel_rfl) 6 9 rfl rfl rfl rfl (flat_one encS encS_one (A256.flatMap (speakA (i : Int)))) (by omega) (by omega) ?_
                  intro v276 w277 (H278 : Sat w [famC coreK bs (Ds.set i D255), restC w (fun _ => False), cellC b2 36 (hc x), cellC b10 25 ([(.int .i64 (F)), (.int .i64 (1))] : List Value), rowC 27 1 (.slice a1 bs.length q1) bs.length (bs.flatMap encP), rowC 52 37 (.slice a2 vs.length q2) vs.length (vs.flatMap encS), rowC 52 37 v276 (nx.length + (A256.flatMap (speakA (i : Int))).length) ((nx.flatMap encS) ++ ((A256.flatMap (speakA (i : Int))).flatMap encS)), cellC b222 52 (([(.bool (x219.vote)), (.int .i64 (x219.kind)), (.int .i64 (x219.round)), (.int .i64 (x219.valid)), (.int .i64 (x219.from'))] : List Value) ++ hc x219.h), rowC 45 35 (.slice a262 A256.length c263) A256.length (A256.flatMap encA), rowC 52 37 (.slice a272 ((A256.flatMap (speakA (i : Int))).length) c273) ((A256.flatMap (speakA (i : Int))).length) ((A256.flatMap (speakA (i : Int))).flatMap encS)] w277)
                  have H281 : Sat w [famC coreK bs (Ds.set i D255), restC w (fun _ => False), cellC b2 36 (hc x), cellC b10 25 ([(.int .i64 (F)), (.int .i64 (1))] : List Value), rowC 27 1 (.slice a1 bs.length q1) bs.length (bs.flatMap encP), rowC 52 37 (.slice a2 vs.length q2) vs.length (vs.flatMap encS), rowC 52 37 v276 ((nx ++ (A256.flatMap (speakA (i : Int)))).length) ((nx ++ (A256.flatMap (speakA (i : Int)))).flatMap encS), cellC b222 52 (([(.bool (x219.vote)), (.int .i64 (x219.kind)), (.int .i64 (x219.round)), (.int .i64 (x219.valid)), (.int .i64 (x219.from'))] : List Value) ++ hc x219.h), rowC 45 35 (.slice a262 A256.length c263) A256.length (A256.flatMap encA), rowC 52 37 (.slice a272 ((A256.flatMap (speakA (i : Int))).length) c273) ((A256.flatMap (speakA (i : Int))).length) ((A256.flatMap (speakA (i : Int))).flatMap encS)] w277 := H278.cast (by simp only [List.length_append, List.flatMap_append] <;> rfl)
                  obtain ⟨a279, c280, rfl⟩ := ownsRow_shape (H281.at 6 rfl)
                  have S282 := H281.pick [1, 2, 3, 4, 5, 7] (by decide)
                  refine hK275 _ _ S282 ?_
                  clear hK275 K275
                  refine h_val 19 rfl (by kernel_rfl) (by kernel_rfl) (by kernel_rfl) (fun _ _ _ h => h) S282 (wants0 rfl) (d := 20) (v := (.slice a279 ((nx ++ (A256.flatMap (speakA (i : Int)))).length) c280)) rfl (fun _ H' => (by kernel_rfl)) ?_
                  refine h_fin (by kernel_rfl) ?_
                  refine blk_normal ?_
                  refine then_normal ?_
                  refine w_lit ?_
                  refine wl_pure (wants0 rfl) (d := 159) (v := (.int .i64 ((k : Int) + 1))) rfl (e_int (z := (k : Int) + 1) (by kernel_rfl) (IntWalk.i64_in _ (by omega))) ?_
                  refine wl_pure (wants0 rfl) (d := 112) (v := (.int .i64 ((k : Int) + 1))) rfl (by kernel_rfl) ?_
                  refine w_nil ?_
                  have H283 : Sat w [famC coreK bs (Ds.set i D255), restC w (fun _ => False), cellC b2 36 (hc x), cellC b10 25 ([(.int .i64 (F)), (.int .i64 (1))] : List Value), rowC 27 1 (.slice a1 bs.length q1) bs.length (bs.flatMap encP), rowC 52 37 (.slice a2 vs.length q2) vs.length (vs.flatMap encS), rowC 52 37 (.slice a279 ((nx ++ (A256.flatMap (speakA (i : Int)))).length) c280) ((nx ++ (A256.flatMap (speakA (i : Int)))).length) ((nx ++ (A256.flatMap (speakA (i : Int)))).flatMap encS)] w277 := H281.pick [0, 1, 2, 3, 4, 5, 6] (by decide)
                  have hK2 : CalmK F x bs.length r i off (k + 1) (Ds.set i D255) (nx ++ (A256.flatMap (speakA (i : Int)))) := hK.vote hxz (by omega) hbn hr2 (by omega) ho (by rw [hjn]; intro q; have q2 := b229; rw [hyf, q] at q2; simp at q2) hD254 (by rw [hjn]; rw [hy] at hst257; exact hst257)
                  refine round_back ?_ _ ⟨(k + 1), (Ds.set i D255), (nx ++ (A256.flatMap (speakA (i : Int)))), a279, c280, (show ((.int .i64 ((k : Int) + 1)) : Value) = _ by first | rfl | go_num), (show ((.slice a279 ((nx ++ (A256.flatMap (speakA (i : Int)))).length) c280) : Value) = _ by first | rfl | go_num), (by omega), hK2, H283, rfl⟩ (by omega)
                  exact (same_upd rfl (same_upd rfl (same_upd rfl (same_upd rfl (same_upd rfl (same_upd rfl (same_upd rfl (same_upd rfl (same_upd rfl (same_upd rfl (same_upd rfl (same_upd rfl (same_upd rfl (same_upd rfl (same_upd rfl (same_upd rfl (same_upd rfl (same_upd rfl (same_upd rfl (same_upd rfl (same_upd rfl (same_upd rfl (same_upd rfl (same_upd rfl (same_upd rfl (same_upd rfl (same_upd rfl (same_upd rfl (same_upd rfl (same_upd rfl (same_upd rfl (same_upd rfl (same_upd rfl (same_ovr2 rfl (same_upd rfl (same_upd rfl (same_upd rfl (same_upd rfl (same_upd rfl (same_upd rfl (same_upd rfl (same_upd rfl (same_ovr)))))))))))))))))))))))))))))))))))))))))))
                · have g284 := bnot_false b229
                  have g285 := of_decide_eq_true g284
                  refine wp_know 139 (.bool false) (congrArg Value.bool b229) ?_
                  have g286 := bnot_false b229
                  have g287 := of_decide_eq_true g286
                  refine wp_iff rfl ?_
                  refine w_skip ?_
                  refine blk_normal ?_
                  refine then_normal ?_
                  refine w_lit ?_
                  refine wl_pure (wants0 rfl) (d := 159) (v := (.int .i64 ((k : Int) + 1))) rfl (e_int (z := (k : Int) + 1) (by kernel_rfl) (IntWalk.i64_in _ (by omega))) ?_
                  refine wl_pure (wants0 rfl) (d := 112) (v := (.int .i64 ((k : Int) + 1))) rfl (by kernel_rfl) ?_
                  refine w_nil ?_
                  have hK2 := hK.skip (by omega) (by rw [hjn]; by_cases q : jn = i; exact q; have q2 := b229; rw [hyf] at q2; simp at q2; omega)
                  have H288 : Sat w [famC coreK bs Ds, restC w (fun _ => False), cellC b2 36 (hc x), cellC b10 25 ([(.int .i64 (F)), (.int .i64 (1))] : List Value), rowC 27 1 (.slice a1 bs.length q1) bs.length (bs.flatMap encP), rowC 52 37 (.slice a2 vs.length q2) vs.length (vs.flatMap encS), rowC 52 37 (.slice a3 nx.length q3) nx.length (nx.flatMap encS)] w226 := H227.pick [0, 1, 2, 3, 4, 5, 6] (by decide)
                  refine round_back ?_ _ ⟨(k + 1), Ds, nx, a3, q3, (show ((.int .i64 ((k : Int) + 1)) : Value) = _ by first | rfl | go_num), (show ((.slice a3 nx.length q3) : Value) = _ by first | rfl | go_num), (by omega), hK2, H288, rfl⟩ (by omega)
                  exact (same_upd rfl (same_upd rfl (same_upd rfl (same_upd rfl (same_upd rfl (same_upd rfl (same_upd rfl (same_upd rfl (same_upd rfl (same_upd rfl (same_upd rfl (same_upd rfl (same_upd rfl (same_ovr2 rfl (same_upd rfl (same_upd rfl (same_upd rfl (same_upd rfl (same_upd rfl (same_upd rfl (same_upd rfl (same_upd rfl (same_ovr)))))))))))))))))))))))
            · have g289 := of_decide_eq_false b194
              refine wp_know 113 (.bool false) (congrArg Value.bool b194) ?_
              have g290 := of_decide_eq_false b194
              refine wp_iff rfl ?_
              refine w_exit ?_
              refine then_exit ?_
              refine back_exit ?_
              refine blk_hit ?_
              refine blk_normal ?_
              refine then_normal ?_
              refine w_lit ?_
              refine wl_pure (wants0 rfl) (d := 160) (v := (.int .i64 ((i : Int) + 1))) rfl (e_int (z := (i : Int) + 1) (by kernel_rfl) (IntWalk.i64_in _ (by omega))) ?_
              refine wl_pure (wants0 rfl) (d := 107) (v := (.int .i64 ((i : Int) + 1))) rfl (by kernel_rfl) ?_
              refine w_nil ?_
              have hk2 : k = bs.length := by have := of_decide_eq_false b194; omega
              rw [hk2] at hK
              have hI2 := hK.done (by omega) hbn hr2
              have H291 : Sat w [famC coreK bs Ds, restC w (fun _ => False), cellC b2 36 (hc x), cellC b10 25 ([(.int .i64 (F)), (.int .i64 (1))] : List Value), rowC 27 1 (.slice a1 bs.length q1) bs.length (bs.flatMap encP), rowC 52 37 (.slice a2 vs.length q2) vs.length (vs.flatMap encS), rowC 52 37 (.slice a3 nx.length q3) nx.length (nx.flatMap encS)] w189 := H190.pick [0, 1, 2, 3, 4, 5, 6] (by decide)
              refine round_back ?_ _ ⟨(i + 1), Ds, nx, a3, q3, (show ((.int .i64 ((i : Int) + 1)) : Value) = _ by first | rfl | go_num), (show ((.slice a3 nx.length q3) : Value) = _ by first | rfl | go_num), (by omega), hI2, H291, rfl⟩ (by omega)
              exact (same_upd rfl (same_upd rfl (same_upd rfl (same_upd rfl (same_upd rfl (same_upd rfl (same_ovr2 rfl (same_upd rfl (same_upd rfl (same_upd rfl (same_upd rfl (same_upd rfl (same_upd rfl (same_upd rfl (same_upd rfl (same_upd rfl (same_ovr)))))))))))))))))
          · have g292 := of_decide_eq_false b185
            refine wp_know 108 (.bool false) (congrArg Value.bool b185) ?_
            have g293 := of_decide_eq_false b185
            refine wp_iff rfl ?_
            refine w_exit ?_
            refine then_exit ?_
            refine back_exit ?_
            refine blk_hit ?_
            refine then_normal ?_
            refine w_lit ?_
            refine wl_pure (wants0 rfl) (d := 161) (v := (.slice a3 nx.length q3)) rfl (by kernel_rfl) ?_
            refine wl_pure (wants0 rfl) (d := 12) (v := (.slice a3 nx.length q3)) rfl (by kernel_rfl) ?_
            refine w_nil ?_
            refine blk_normal ?_
            refine then_normal ?_
            refine w_lit ?_
            refine wl_pure (wants0 rfl) (d := 103) (v := (.int .i64 ((r : Int)))) rfl (by kernel_rfl) ?_
            refine wl_pure (wants0 rfl) (d := 104) (v := (.int .i64 ((r : Int) + 1))) rfl (e_int (z := (r : Int) + 1) (by kernel_rfl) (IntWalk.i64_in _ (by omega))) ?_
            refine wl_pure (wants0 rfl) (d := 19) (v := (.int .i64 ((r : Int) + 1))) rfl (by kernel_rfl) ?_
            refine w_nil ?_
            have hi3 : i = bs.length := by have := of_decide_eq_false b185; omega
            rw [hi3] at hI
            have hR2 := hI.done hr2
            have H294 : Sat w [famC coreK bs Ds, restC w (fun _ => False), cellC b2 36 (hc x), cellC b10 25 ([(.int .i64 (F)), (.int .i64 (1))] : List Value), rowC 27 1 (.slice a1 bs.length q1) bs.length (bs.flatMap encP), rowC 52 37 (.slice a3 nx.length q3) nx.length (nx.flatMap encS)] w180 := H181.pick [0, 1, 2, 3, 4, 6] (by decide)
            refine round_back ?_ _ ⟨(r + 1), Ds, nx, a3, q3, (show ((.int .i64 ((r : Int) + 1)) : Value) = _ by first | rfl | go_num), (show ((.slice a3 nx.length q3) : Value) = _ by first | rfl | go_num), (by omega), hR2, H294, rfl⟩ (by omega)
            exact (same_upd rfl (same_upd rfl (same_upd rfl (same_upd rfl (same_upd rfl (same_upd rfl (same_upd rfl (same_upd rfl (same_upd rfl (same_ovr2 rfl (same_upd rfl (same_upd rfl (same_upd rfl (same_upd rfl (same_upd rfl (same_upd rfl (same_upd rfl (same_upd rfl (same_upd rfl (same_ovr))))))))))))))))))))
        · have g295 := of_decide_eq_false b176
          refine wp_know 102 (.bool false) (congrArg Value.bool b176) ?_
          have g296 := of_decide_eq_false b176
          refine wp_iff rfl ?_
          refine w_exit ?_
          refine then_exit ?_
          refine back_exit ?_
          refine blk_hit ?_
          refine then_normal ?_
          refine w_seq ?_
          refine w_seq ?_
          refine w_lit ?_
          refine wl_pure (wants0 rfl) (d := 162) (v := (.slice a1 bs.length q1)) rfl (by kernel_rfl) ?_
          refine wl_pure (wants0 rfl) (d := 163) (v := (.int .i64 ((bs.length : Int)))) rfl (by kernel_rfl) ?_
          refine wl_pure (wants0 rfl) (d := 164) (v := (.int .i64 (0))) rfl (by kernel_rfl) ?_
          refine w_nil ?_
          refine then_normal ?_
          refine w_block ?_
          obtain rfl : r = 2 := by have := of_decide_eq_false b176; omega
          refine wp_round [8, 25, 26, 164, 165, 166, 167, 168, 169, 170, 171, 172, 173, 174, 175, 176, 177, 178, 179, 180, 181, 182, 183, 184, 185, 186] (fun F_ W_ m_ => ∃ (i : Nat), F_ 164 = (.int .i64 ((i : Int))) ∧ (i ≤ bs.length) ∧ Sat w [famC coreK bs Ds, restC w (fun _ => False), cellC b2 36 (hc x), cellC b10 25 ([(.int .i64 (F)), (.int .i64 (1))] : List Value), rowC 27 1 (.slice a1 bs.length q1) bs.length (bs.flatMap encP), rowC 52 37 (.slice a2 vs.length q2) vs.length (vs.flatMap encS)] W_ ∧ m_ = bs.length - i) _ ⟨0, (show ((.int .i64 (0)) : Value) = _ by first | rfl | go_num), (Nat.zero_le _), H172, rfl⟩ ?_
          rintro g297 w298 _ ⟨i, v300, hi, H299, rfl⟩
          refine wp_know 164 _ v300 ?_
          have hDl : Ds.length = bs.length := hR.len
          refine w_seq ?_
          refine w_lit ?_
          refine wl_pure (wants0 rfl) (d := 165) (v := (.bool (decide ((i : Int) < (bs.length : Int))))) rfl (by kernel_rfl) ?_
          refine w_nil ?_
          refine then_normal ?_
          refine w_seq ?_
          refine (bsplit (decide ((i : Int) < (bs.length : Int)))).elim (fun b302 => ?_) (fun b302 => ?_)
          · have g303 := of_decide_eq_true b302
            refine wp_know 165 (.bool true) (congrArg Value.bool b302) ?_
            have g304 := of_decide_eq_true b302
            refine wp_ift rfl ?_
            refine w_skip ?_
            refine then_normal ?_
            refine w_seq ?_
            refine w_block ?_
            refine w_seq ?_
            refine w_lit ?_
            refine wl_pure (wants0 rfl) (d := 166) (v := (.int .i64 ((i : Int)))) rfl (by kernel_rfl) ?_
            refine wl_pure (wants0 rfl) (d := 25) (v := (.int .i64 ((i : Int)))) rfl (by kernel_rfl) ?_
            refine w_nil ?_
            refine then_normal ?_
            refine w_seq ?_
            refine w_lit ?_
            refine wl_pure (wants0 rfl) (d := 167) (v := (.slice a1 bs.length q1)) rfl (by kernel_rfl) ?_
            refine wl_pure (wants0 rfl) (d := 168) (v := (.int .i64 ((i : Int)))) rfl (by kernel_rfl) ?_
            obtain ⟨g305, c306, e307⟩ := row_shape (H299.at 4 rfl) (by omega)
            obtain ⟨x308, h309⟩ := get_at (show i < bs.length by omega)
            refine wl_pure (wants0 rfl) (d := 169) (v := (.pointer (some ⟨g305, 0 + ((i : Int)).toNat * 1, none⟩))) rfl (e_indexAddrV (E := 27) (by kernel_rfl) (by kernel_rfl) (Nat.le_of_ble_eq_true rfl) rfl e307 rfl (by omega) (by omega)) ?_
            refine wl_pure (wants0 rfl) (d := 170) (v := (.pointer (some ⟨x308.k, 0, none⟩))) rfl (e_load1 rfl (by kernel_rfl) (rows_cell (H299.at 4 rfl) e307 encP_len h309 0 rfl (show 0 + ((i : Int)).toNat * 1 = i * 1 + 0 by omega) (by kernel_rfl))) ?_
            refine wl_do (wants0 rfl) (fun K310 hK310 => ?_)
            obtain ⟨D311, hD312⟩ := get_at (show i < Ds.length by have q := famC_len (H299.at 0 rfl); omega)
            refine d_call (d := 171) rfl (by kernel_rfl) (coreState_any w298 x308.k x308.t x308.hb x308.cb x308.ab x308.lb x308.pb D311 (famC_at (ck := coreK) (H299.at 0 rfl) h309 hD312) ((hR.end hD312).1)) ?_
            rintro _ w313 ⟨rfl, u315⟩
            have H314 := H299.keepU u315
            refine ⟨_, rfl, ?_⟩
            refine hK310 _ _ ?_
            clear hK310 K310
            refine wl_do (wants0 rfl) (fun K316 hK316 => ?_)
            refine d_alloc (zs := (([(.int .i64 (0)), (.int .i64 (0)), (.int .i64 (0)), (.int .i64 (0))] : List Value) ++ hc hash0 ++ hc hash0 ++ ([(.bool false)] : List Value) ++ hc hash0)) (z := (.agg ⟨(([(.int .i64 (0)), (.int .i64 (0)), (.int .i64 (0)), (.int .i64 (0))] : List Value) ++ hc hash0 ++ hc hash0 ++ ([(.bool false)] : List Value) ++ hc hash0)⟩)) rfl H314 (by kernel_rfl) (by kernel_rfl) ?_
            intro b317 w318 (H319 : Sat w [famC coreK bs Ds, restC w (fun _ => False), cellC b2 36 (hc x), cellC b10 25 ([(.int .i64 (F)), (.int .i64 (1))] : List Value), rowC 27 1 (.slice a1 bs.length q1) bs.length (bs.flatMap encP), rowC 52 37 (.slice a2 vs.length q2) vs.length (vs.flatMap encS), cellC b317 38 (([(.int .i64 (0)), (.int .i64 (0)), (.int .i64 (0)), (.int .i64 (0))] : List Value) ++ hc hash0 ++ hc hash0 ++ ([(.bool false)] : List Value) ++ hc hash0)] w318)
            refine hK316 _ _ ?_
            clear hK316 K316
            refine wl_do (wants0 rfl) (fun K320 hK320 => ?_)
            refine d_storeX (vs := (([(.int .i64 (D311.s.round)), (.int .i64 (D311.s.step)), (.int .i64 (D311.s.lr)), (.int .i64 (D311.s.vr))] : List Value) ++ hc D311.s.locked ++ hc D311.s.valid ++ ([(.bool (D311.s.decided))] : List Value) ++ hc D311.s.decision)) (cs' := (([(.int .i64 (D311.s.round)), (.int .i64 (D311.s.step)), (.int .i64 (D311.s.lr)), (.int .i64 (D311.s.vr))] : List Value) ++ hc D311.s.locked ++ hc D311.s.valid ++ ([(.bool (D311.s.decided))] : List Value) ++ hc D311.s.decision)) rfl H319 6 rfl rfl rfl rfl (by kernel_rfl) (Nat.le_of_ble_eq_true (by kernel_rfl)) (Nat.le_of_ble_eq_true (by kernel_rfl)) (by kernel_rfl) (by kernel_rfl) ?_
            intro w321 (H322 : Sat w [famC coreK bs Ds, restC w (fun _ => False), cellC b2 36 (hc x), cellC b10 25 ([(.int .i64 (F)), (.int .i64 (1))] : List Value), rowC 27 1 (.slice a1 bs.length q1) bs.length (bs.flatMap encP), rowC 52 37 (.slice a2 vs.length q2) vs.length (vs.flatMap encS), cellC b317 38 (([(.int .i64 (D311.s.round)), (.int .i64 (D311.s.step)), (.int .i64 (D311.s.lr)), (.int .i64 (D311.s.vr))] : List Value) ++ hc D311.s.locked ++ hc D311.s.valid ++ ([(.bool (D311.s.decided))] : List Value) ++ hc D311.s.decision)] w321)
            refine hK320 _ _ ?_
            clear hK320 K320
            refine w_nil ?_
            refine then_normal ?_
            refine w_seq ?_
            obtain ⟨_, hd1, hd2, hd3⟩ := hR.end hD312
            refine w_lit ?_
            refine wl_pure (wants0 rfl) (d := 172) (v := (.pointer (some ⟨b317, 68, none⟩))) rfl (by kernel_rfl) ?_
            refine wl_pure (wants0 rfl) (d := 173) (v := (.bool (D311.s.decided))) rfl (e_load1 rfl (by kernel_rfl) (H322.cell 6 rfl (by kernel_rfl))) ?_
            refine wl_pure (wants0 rfl) (d := 174) (v := (.bool (!(D311.s.decided)))) rfl (by kernel_rfl) ?_
            refine wl_pure (wants0 rfl) (d := 175) (v := (.bool (!(D311.s.decided)))) rfl (by kernel_rfl) ?_
            have b324 : (!(D311.s.decided)) = false := by simp [hd1]
            refine wl_know 175 (.bool false) (congrArg Value.bool b324) ?_
            have g325 := bnot_false b324
            refine wl_pure (wantsY 3 175 false rfl (by kernel_rfl) rfl (by kernel_rfl)) (d := 176) (v := (.pointer (some ⟨b317, 69, none⟩))) rfl (by kernel_rfl) ?_
            refine wl_pure (wantsY 3 175 false rfl (by kernel_rfl) rfl (by kernel_rfl)) (d := 177) (v := (.agg ⟨(hc D311.s.decision)⟩)) rfl (e_loadN (vs := (hc D311.s.decision)) rfl (by kernel_rfl) (by kernel_rfl) (by exact Nat.le_of_ble_eq_true (by kernel_rfl)) (H322.at 6 rfl) (by kernel_rfl)) ?_
            refine wl_pure (wantsY 3 175 false rfl (by kernel_rfl) rfl (by kernel_rfl)) (d := 178) (v := (.agg ⟨(hc x)⟩)) rfl (e_loadN (vs := (hc x)) rfl (by kernel_rfl) (by kernel_rfl) (by exact Nat.le_of_ble_eq_true (by kernel_rfl)) (H322.at 2 rfl) (by kernel_rfl)) ?_
            refine wl_pure (wantsY 3 175 false rfl (by kernel_rfl) rfl (by kernel_rfl)) (d := 179) (v := (.bool (!(decide (D311.s.decision = x))))) rfl (e_neHash D311.s.decision x rfl rfl) ?_
            refine wl_pure (wants0 rfl) (d := 180) (v := (.bool (!(decide (D311.s.decision = x))))) rfl (by kernel_rfl) ?_
            refine wl_pure (wants0 rfl) (d := 181) (v := (.bool (!(decide (D311.s.decision = x))))) rfl (by kernel_rfl) ?_
            have b326 : (!(decide (D311.s.decision = x))) = false := by simp [hd2]
            refine wl_know 181 (.bool false) (congrArg Value.bool b326) ?_
            have g327 := bnot_false b326
            have g328 := of_decide_eq_true g327
            refine wl_pure (wantsY 9 181 false rfl (by kernel_rfl) rfl (by kernel_rfl)) (d := 182) (v := (.pointer (some ⟨b317, 0, none⟩))) rfl (by kernel_rfl) ?_
            refine wl_pure (wantsY 9 181 false rfl (by kernel_rfl) rfl (by kernel_rfl)) (d := 183) (v := (.int .i64 (D311.s.round))) rfl (e_load1 rfl (by kernel_rfl) (H322.cell 6 rfl (by kernel_rfl))) ?_
            refine wl_pure (wantsY 9 181 false rfl (by kernel_rfl) rfl (by kernel_rfl)) (d := 184) (v := (.bool (!(decide (D311.s.round = 0))))) rfl (by kernel_rfl) ?_
            refine wl_pure (wants0 rfl) (d := 185) (v := (.bool (!(decide (D311.s.round = 0))))) rfl (by kernel_rfl) ?_
            refine w_nil ?_
            refine then_normal ?_
            have b329 : (!(decide (D311.s.round = 0))) = false := by simp [hd3]
            refine wp_know 185 (.bool false) (congrArg Value.bool b329) ?_
            have g330 := bnot_false b329
            have g331 := of_decide_eq_true g330
            refine wp_iff rfl ?_
            refine w_skip ?_
            refine blk_normal ?_
            refine then_normal ?_
            refine w_lit ?_
            refine wl_pure (wants0 rfl) (d := 186) (v := (.int .i64 ((i : Int) + 1))) rfl (e_int (z := (i : Int) + 1) (by kernel_rfl) (IntWalk.i64_in _ (by omega))) ?_
            refine wl_pure (wants0 rfl) (d := 164) (v := (.int .i64 ((i : Int) + 1))) rfl (by kernel_rfl) ?_
            refine w_nil ?_
            have H332 : Sat w [famC coreK bs Ds, restC w (fun _ => False), cellC b2 36 (hc x), cellC b10 25 ([(.int .i64 (F)), (.int .i64 (1))] : List Value), rowC 27 1 (.slice a1 bs.length q1) bs.length (bs.flatMap encP), rowC 52 37 (.slice a2 vs.length q2) vs.length (vs.flatMap encS)] w321 := H322.pick [0, 1, 2, 3, 4, 5] (by decide)
            refine round_back ?_ _ ⟨(i + 1), (show ((.int .i64 ((i : Int) + 1)) : Value) = _ by first | rfl | go_num), (by omega), H332, rfl⟩ (by omega)
            exact (same_upd rfl (same_upd rfl (same_upd rfl (same_upd rfl (same_upd rfl (same_upd rfl (same_upd rfl (same_upd rfl (same_upd rfl (same_upd rfl (same_upd rfl (same_upd rfl (same_upd rfl (same_upd rfl (same_upd rfl (same_upd rfl (same_upd rfl (same_upd rfl (same_upd rfl (same_upd rfl (same_upd rfl (same_upd rfl (same_upd rfl (same_upd rfl (same_upd rfl (same_upd rfl (same_upd rfl (same_upd rfl (same_upd rfl (same_upd rfl (same_ovr)))))))))))))))))))))))))))))))
          · have g333 := of_decide_eq_false b302
            refine wp_know 165 (.bool false) (congrArg Value.bool b302) ?_
            have g334 := of_decide_eq_false b302
            refine wp_iff rfl ?_
            refine w_exit ?_
            refine then_exit ?_
            refine back_exit ?_
            refine blk_hit ?_
            refine then_normal ?_
            refine w_seq ?_
            refine w_lit ?_
            refine wl_do (wants0 rfl) (fun K335 hK335 => ?_)
            refine d_call (d := 187) rfl (by kernel_rfl) (wakes_any w298) ?_
            rintro _ w336 ⟨rfl, u338⟩
            have H337 := H299.keepU u338
            refine ⟨_, rfl, ?_⟩
            refine hK335 _ _ ?_
            clear hK335 K335
            refine wl_pure (wants0 rfl) (d := 8) (v := (.bool true)) rfl (by kernel_rfl) ?_
            refine w_nil ?_
            refine then_normal ?_
            refine w_ret ?_
            refine end1 rfl (res_tmp (v := (.bool true)) rfl) ?_
            exact ⟨rfl, H337.upd 1 rfl [] (fun _ h => h.elim)⟩

end Go.Proofs.Ythjmbhneifjeeaa
