/- WHAT IS PROVED: the contracts of making a core, and of its clone. Conditions: stated with each. -/
import Derived.Test.YthjmbhneifjeeaaCore3
import Derived.Test.YthjmbhneifjeeaaClone13
namespace Go.Proofs.Ythjmbhneifjeeaa
open Go.RowKit

set_option maxRecDepth 100000 in
set_option maxHeartbeats 400000 in
theorem coreNew_any (w : World) (f c ep r : Int) (hff : -1000000 ≤ f ∧ f ≤ 1000000) :
    Calls Try.prog 15 #[(.agg ⟨([(.int .i64 (f)), (.int .i64 (c))] : List Value)⟩), (.int .i64 (ep)), (.int .i64 (r))] w fun e w' => (newOk f c ep r = true ∧ ∃ k t hb cb ab lb pb, e = .returned (.tuple #[.pointer (some ⟨k, 0, none⟩), .int .i64 0]) ∧ (coreC k t hb cb ab lb pb (newD f c ep r)).ok w' ∧ Upd [] w w' ∧ ∀ b, (coreC k t hb cb ab lb pb (newD f c ep r)).fp b → w.heap.size ≤ b) ∨ (newOk f c ep r = false ∧ e = .returned (.tuple #[.pointer none, .int .i64 1]) ∧ Upd [] w w') := by
  have H := Sat.start0 w
  refine calls_fr Try.func15 rfl 40 rfl (Nat.le_of_ble_eq_true rfl) ?_
  refine w_seq ?_
  refine w_lit ?_
  refine wl_do (wants0 rfl) (fun K1 hK1 => ?_)
  refine d_box (vs := ([(.int .i64 (f)), (.int .i64 (c))] : List Value)) rfl H rfl rfl ?_
  intro b2 w3 (H4 : Sat w [restC w (fun _ => False), cellC b2 25 ([(.int .i64 (f)), (.int .i64 (c))] : List Value)] w3)
  refine hK1 _ _ ?_
  clear hK1 K1
  refine wl_pure (wants0 rfl) (d := 6) (v := (.pointer none)) rfl (by kernel_rfl) ?_
  refine wl_pure (wants0 rfl) (d := 7) (v := (.int .i64 (0))) rfl (by kernel_rfl) ?_
  refine w_nil ?_
  refine then_normal ?_
  refine w_seq ?_
  refine wp_meetR [10, 11, 12, 13, 14, 15, 16, 17, 18, 19, 20, 21, 22, 23, 24, 25, 26] (fun G_ W_ => G_ 26 = (.bool (!(newOk f c ep r))) ∧ Sat w [restC w (fun _ => False), cellC b2 25 ([(.int .i64 (f)), (.int .i64 (c))] : List Value)] W_) ?_ ?_
  · refine w_lit ?_
    refine wl_pure (wants0 rfl) (d := 10) (v := (.agg ⟨([(.int .i64 (f)), (.int .i64 (c))] : List Value)⟩)) rfl (e_loadN (vs := ([(.int .i64 (f)), (.int .i64 (c))] : List Value)) rfl (by kernel_rfl) (by kernel_rfl) (by exact Nat.le_of_ble_eq_true (by kernel_rfl)) (H4.at 1 rfl) (by kernel_rfl)) ?_
    refine wl_do (wants0 rfl) (fun K6 hK6 => ?_)
    refine d_call (d := 11) rfl (by kernel_rfl) (validConf_any w3 f c) ?_
    rintro _ w7 ⟨rfl, u9⟩
    have H8 := H4.keepU u9
    refine ⟨_, rfl, ?_⟩
    refine hK6 _ _ ?_
    clear hK6 K6
    refine wl_pure (wants0 rfl) (d := 12) (v := (.bool (!(confB f c)))) rfl (by kernel_rfl) ?_
    refine wl_pure (wants0 rfl) (d := 13) (v := (.bool (!(confB f c)))) rfl (by kernel_rfl) ?_
    refine (bsplit (!(confB f c))).elim (fun b10 => ?_) (fun b10 => ?_)
    · have g11 := bnot_true b10
      refine wl_know 13 (.bool true) (congrArg Value.bool b10) ?_
      refine wl_pass (wantsN 3 13 false rfl (by kernel_rfl) rfl (by kernel_rfl)) rfl ?_
      refine wl_pass (wantsN 3 13 false rfl (by kernel_rfl) rfl (by kernel_rfl)) rfl ?_
      refine wl_pure (wants0 rfl) (d := 16) (v := (.bool true)) rfl (by kernel_rfl) ?_
      refine wl_pure (wants0 rfl) (d := 17) (v := (.bool true)) rfl (by kernel_rfl) ?_
      refine wl_pass (wantsN 7 17 false rfl (by kernel_rfl) rfl (by kernel_rfl)) rfl ?_
      refine wl_pass (wantsN 7 17 false rfl (by kernel_rfl) rfl (by kernel_rfl)) rfl ?_
      refine wl_pure (wants0 rfl) (d := 20) (v := (.bool true)) rfl (by kernel_rfl) ?_
      refine wl_pure (wants0 rfl) (d := 21) (v := (.bool true)) rfl (by kernel_rfl) ?_
      refine wl_pass (wantsN 11 21 false rfl (by kernel_rfl) rfl (by kernel_rfl)) rfl ?_
      refine wl_pass (wantsN 11 21 false rfl (by kernel_rfl) rfl (by kernel_rfl)) rfl ?_
      refine wl_pass (wantsN 11 21 false rfl (by kernel_rfl) rfl (by kernel_rfl)) rfl ?_
      refine wl_pass (wantsN 11 21 false rfl (by kernel_rfl) rfl (by kernel_rfl)) rfl ?_
      refine wl_pure (wants0 rfl) (d := 26) (v := (.bool true)) rfl (by kernel_rfl) ?_
      refine w_nil ?_
      refine meetR_at ?_ ⟨(congrArg Value.bool (show true = (!(newOk f c ep r)) by simp [newOk, b10] <;> omega)), H8⟩
      exact (same_upd rfl (same_upd rfl (same_upd rfl (same_upd rfl (same_upd rfl (same_upd rfl (same_upd rfl (same_upd rfl (same_upd rfl (same_upd rfl (same_upd rfl (same_upd rfl (same_upd rfl (same_upd rfl (same_upd rfl (same_upd rfl (same_upd rfl (same_upd rfl (same_refl)))))))))))))))))))
    · have g12 := bnot_false b10
      refine wl_know 13 (.bool false) (congrArg Value.bool b10) ?_
      refine wl_pure (wantsY 3 13 false rfl (by kernel_rfl) rfl (by kernel_rfl)) (d := 14) (v := (.int .i64 (ep))) rfl (by kernel_rfl) ?_
      refine wl_pure (wantsY 3 13 false rfl (by kernel_rfl) rfl (by kernel_rfl)) (d := 15) (v := (.bool (decide (ep < 0)))) rfl (by kernel_rfl) ?_
      refine wl_pure (wants0 rfl) (d := 16) (v := (.bool (decide (ep < 0)))) rfl (by kernel_rfl) ?_
      refine wl_pure (wants0 rfl) (d := 17) (v := (.bool (decide (ep < 0)))) rfl (by kernel_rfl) ?_
      refine (bsplit (decide (ep < 0))).elim (fun b13 => ?_) (fun b13 => ?_)
      · have g14 := of_decide_eq_true b13
        refine wl_know 17 (.bool true) (congrArg Value.bool b13) ?_
        refine wl_pass (wantsN 7 17 false rfl (by kernel_rfl) rfl (by kernel_rfl)) rfl ?_
        refine wl_pass (wantsN 7 17 false rfl (by kernel_rfl) rfl (by kernel_rfl)) rfl ?_
        refine wl_pure (wants0 rfl) (d := 20) (v := (.bool true)) rfl (by kernel_rfl) ?_
        refine wl_pure (wants0 rfl) (d := 21) (v := (.bool true)) rfl (by kernel_rfl) ?_
        refine wl_pass (wantsN 11 21 false rfl (by kernel_rfl) rfl (by kernel_rfl)) rfl ?_
        refine wl_pass (wantsN 11 21 false rfl (by kernel_rfl) rfl (by kernel_rfl)) rfl ?_
        refine wl_pass (wantsN 11 21 false rfl (by kernel_rfl) rfl (by kernel_rfl)) rfl ?_
        refine wl_pass (wantsN 11 21 false rfl (by kernel_rfl) rfl (by kernel_rfl)) rfl ?_
        refine wl_pure (wants0 rfl) (d := 26) (v := (.bool true)) rfl (by kernel_rfl) ?_
        refine w_nil ?_
        refine meetR_at ?_ ⟨(congrArg Value.bool (show true = (!(newOk f c ep r)) by simp [newOk, b10, of_decide_eq_true b13] <;> omega)), H8⟩
        exact (same_upd rfl (same_upd rfl (same_upd rfl (same_upd rfl (same_upd rfl (same_upd rfl (same_upd rfl (same_upd rfl (same_upd rfl (same_upd rfl (same_upd rfl (same_upd rfl (same_upd rfl (same_upd rfl (same_upd rfl (same_upd rfl (same_upd rfl (same_upd rfl (same_upd rfl (same_refl))))))))))))))))))))
      · have g15 := of_decide_eq_false b13
        refine wl_know 17 (.bool false) (congrArg Value.bool b13) ?_
        refine wl_pure (wantsY 7 17 false rfl (by kernel_rfl) rfl (by kernel_rfl)) (d := 18) (v := (.int .i64 (ep))) rfl (by kernel_rfl) ?_
        refine wl_pure (wantsY 7 17 false rfl (by kernel_rfl) rfl (by kernel_rfl)) (d := 19) (v := (.bool (decide (ep > 1048576)))) rfl (by kernel_rfl) ?_
        refine wl_pure (wants0 rfl) (d := 20) (v := (.bool (decide (ep > 1048576)))) rfl (by kernel_rfl) ?_
        refine wl_pure (wants0 rfl) (d := 21) (v := (.bool (decide (ep > 1048576)))) rfl (by kernel_rfl) ?_
        refine (bsplit (decide (ep > 1048576))).elim (fun b16 => ?_) (fun b16 => ?_)
        · have g17 := of_decide_eq_true b16
          refine wl_know 21 (.bool true) (congrArg Value.bool b16) ?_
          refine wl_pass (wantsN 11 21 false rfl (by kernel_rfl) rfl (by kernel_rfl)) rfl ?_
          refine wl_pass (wantsN 11 21 false rfl (by kernel_rfl) rfl (by kernel_rfl)) rfl ?_
          refine wl_pass (wantsN 11 21 false rfl (by kernel_rfl) rfl (by kernel_rfl)) rfl ?_
          refine wl_pass (wantsN 11 21 false rfl (by kernel_rfl) rfl (by kernel_rfl)) rfl ?_
          refine wl_pure (wants0 rfl) (d := 26) (v := (.bool true)) rfl (by kernel_rfl) ?_
          refine w_nil ?_
          refine meetR_at ?_ ⟨(congrArg Value.bool (show true = (!(newOk f c ep r)) by simp [newOk, b10, of_decide_eq_false b13, of_decide_eq_true b16] <;> omega)), H8⟩
          exact (same_upd rfl (same_upd rfl (same_upd rfl (same_upd rfl (same_upd rfl (same_upd rfl (same_upd rfl (same_upd rfl (same_upd rfl (same_upd rfl (same_upd rfl (same_upd rfl (same_upd rfl (same_upd rfl (same_upd rfl (same_upd rfl (same_upd rfl (same_upd rfl (same_upd rfl (same_upd rfl (same_refl)))))))))))))))))))))
        · have g18 := of_decide_eq_false b16
          refine wl_know 21 (.bool false) (congrArg Value.bool b16) ?_
          refine wl_pure (wantsY 11 21 false rfl (by kernel_rfl) rfl (by kernel_rfl)) (d := 22) (v := (.agg ⟨([(.int .i64 (f)), (.int .i64 (c))] : List Value)⟩)) rfl (e_loadN (vs := ([(.int .i64 (f)), (.int .i64 (c))] : List Value)) rfl (by kernel_rfl) (by kernel_rfl) (by exact Nat.le_of_ble_eq_true (by kernel_rfl)) (H8.at 1 rfl) (by kernel_rfl)) ?_
          refine wl_pure (wantsY 11 21 false rfl (by kernel_rfl) rfl (by kernel_rfl)) (d := 23) (v := (.int .i64 (r))) rfl (by kernel_rfl) ?_
          refine wl_do (wantsY 11 21 false rfl (by kernel_rfl) rfl (by kernel_rfl)) (fun K19 hK19 => ?_)
          refine d_call (d := 24) rfl (by kernel_rfl) (wireIn_any w7 f c r (by omega)) ?_
          rintro _ w20 ⟨rfl, u22⟩
          have H21 := H8.keepU u22
          refine ⟨_, rfl, ?_⟩
          refine hK19 _ _ ?_
          clear hK19 K19
          refine wl_pure (wantsY 11 21 false rfl (by kernel_rfl) rfl (by kernel_rfl)) (d := 25) (v := (.bool (!(inB f r)))) rfl (by kernel_rfl) ?_
          refine wl_pure (wants0 rfl) (d := 26) (v := (.bool (!(inB f r)))) rfl (by kernel_rfl) ?_
          refine w_nil ?_
          refine meetR_at ?_ ⟨(congrArg Value.bool (show (!(inB f r)) = (!(newOk f c ep r)) by simp [newOk, b10, of_decide_eq_false b13, of_decide_eq_false b16] <;> omega)), H21⟩
          exact (same_upd rfl (same_upd rfl (same_upd rfl (same_upd rfl (same_upd rfl (same_upd rfl (same_upd rfl (same_upd rfl (same_upd rfl (same_upd rfl (same_upd rfl (same_upd rfl (same_upd rfl (same_upd rfl (same_upd rfl (same_upd rfl (same_upd rfl (same_upd rfl (same_upd rfl (same_upd rfl (same_refl)))))))))))))))))))))
  · rintro f23 w24 ⟨v26, H25⟩
    refine wp_know 26 _ v26 ?_
    refine (bsplit (!(newOk f c ep r))).elim (fun b27 => ?_) (fun b27 => ?_)
    · have g28 := bnot_true b27
      refine wp_know 26 (.bool true) (congrArg Value.bool b27) ?_
      refine wp_ift rfl ?_
      refine w_seq ?_
      refine w_lit ?_
      refine wl_pure (wants0 rfl) (d := 6) (v := (.pointer none)) rfl (by kernel_rfl) ?_
      refine wl_pure (wants0 rfl) (d := 7) (v := (.int .i64 (1))) rfl (by kernel_rfl) ?_
      refine w_nil ?_
      refine then_normal ?_
      refine w_ret ?_
      refine then_ret ?_
      refine end2 rfl (res_tmp (v := (.pointer none)) rfl) (res_tmp (v := (.int .i64 (1))) rfl) ?_
      exact .inr ⟨bnot_true b27, rfl, H25.upd 0 rfl [] (fun _ h => h.elim)⟩
    · have g29 := bnot_false b27
      refine wp_know 26 (.bool false) (congrArg Value.bool b27) ?_
      refine wp_iff rfl ?_
      refine w_skip ?_
      refine then_normal ?_
      refine w_seq ?_
      have hf : 1 ≤ f ∧ f ≤ 21 := by have q := bnot_false b27; simp [newOk, confB] at q; omega
      refine w_lit ?_
      refine wl_pure (wants0 rfl) (d := 28) (v := (.agg ⟨([(.int .i64 (f)), (.int .i64 (c))] : List Value)⟩)) rfl (e_loadN (vs := ([(.int .i64 (f)), (.int .i64 (c))] : List Value)) rfl (by kernel_rfl) (by kernel_rfl) (by exact Nat.le_of_ble_eq_true (by kernel_rfl)) (H25.at 1 rfl) (by kernel_rfl)) ?_
      refine wl_do (wants0 rfl) (fun K30 hK30 => ?_)
      refine d_call (d := 29) rfl (by kernel_rfl) (talNew_any w24 f c) ?_
      rintro _ w31 (⟨_, t36, hb37, cb38, ab39, lb40, rfl, k34, u33, q35⟩ | ⟨hcf, _⟩)
      rotate_left
      · exact absurd hcf (by rw [show confB f c = true by have q := bnot_false b27; simp [newOk] at q; exact q.1.1.1]; simp)
      have H32 : Sat w [restC w (fun _ => False), cellC b2 25 ([(.int .i64 (f)), (.int .i64 (c))] : List Value), talC t36 hb37 cb38 ab39 lb40 f c []] w31 := H25.addU u33 k34 q35
      refine ⟨_, rfl, ?_⟩
      refine hK30 _ _ ?_
      clear hK30 K30
      refine wl_pure (wants0 rfl) (d := 27) (v := (.tuple #[(.pointer (some ⟨t36, 0, none⟩)), (.int .i64 (0))])) rfl (by kernel_rfl) ?_
      refine wl_pure (wants0 rfl) (d := 30) (v := (.pointer (some ⟨t36, 0, none⟩))) rfl (by kernel_rfl) ?_
      refine wl_pure (wants0 rfl) (d := 31) (v := (.int .i64 (0))) rfl (by kernel_rfl) ?_
      refine wl_pure (wants0 rfl) (d := 8) (v := (.pointer (some ⟨t36, 0, none⟩))) rfl (by kernel_rfl) ?_
      refine wl_pure (wants0 rfl) (d := 9) (v := (.int .i64 (0))) rfl (by kernel_rfl) ?_
      refine w_nil ?_
      refine then_normal ?_
      refine w_seq ?_
      refine w_lit ?_
      refine wl_pure (wants0 rfl) (d := 32) (v := (.agg ⟨([(.int .i64 (f)), (.int .i64 (c))] : List Value)⟩)) rfl (e_loadN (vs := ([(.int .i64 (f)), (.int .i64 (c))] : List Value)) rfl (by kernel_rfl) (by kernel_rfl) (by exact Nat.le_of_ble_eq_true (by kernel_rfl)) (H32.at 1 rfl) (by kernel_rfl)) ?_
      refine wl_pure (wants0 rfl) (d := 33) (v := (.int .i64 (ep))) rfl (by kernel_rfl) ?_
      refine wl_pure (wants0 rfl) (d := 34) (v := (.int .i64 (r))) rfl (by kernel_rfl) ?_
      refine wl_pure (wants0 rfl) (d := 35) (v := (.agg ⟨(([(.int .i64 (0)), (.int .i64 (0)), (.int .i64 (-1)), (.int .i64 (-1))] : List Value) ++ hc hash0 ++ hc hash0 ++ ([(.bool false)] : List Value) ++ hc hash0)⟩)) rfl (by kernel_rfl) ?_
      refine wl_pure (wants0 rfl) (d := 36) (v := (.pointer (some ⟨t36, 0, none⟩))) rfl (by kernel_rfl) ?_
      refine wl_do (wants0 rfl) (fun K41 hK41 => ?_)
      refine d_makeMap (Value.int .i64) propV rfl H32 ?_
      intro b42 w43 (H44 : Sat w [restC w (fun _ => False), cellC b2 25 ([(.int .i64 (f)), (.int .i64 (c))] : List Value), talC t36 hb37 cb38 ab39 lb40 f c [], mapC b42 (Value.int .i64) propV []] w43)
      refine hK41 _ _ ?_
      clear hK41 K41
      refine wl_pure (wants0 rfl) (d := 38) (v := (.agg ⟨(([(.int .i64 (f)), (.int .i64 (c)), (.int .i64 (ep)), (.int .i64 (r)), (.int .i64 (0)), (.int .i64 (0)), (.int .i64 (-1)), (.int .i64 (-1))] : List Value) ++ hc hash0 ++ hc hash0 ++ ([(.bool false)] : List Value) ++ hc hash0 ++ ([(.pointer (some ⟨t36, 0, none⟩)), (.map (some b42)), (.bool false), (.bool false), (.bool false)] : List Value))⟩)) rfl (by kernel_rfl) ?_
      refine wl_do (wants0 rfl) (fun K45 hK45 => ?_)
      refine d_box (vs := (([(.int .i64 (f)), (.int .i64 (c)), (.int .i64 (ep)), (.int .i64 (r)), (.int .i64 (0)), (.int .i64 (0)), (.int .i64 (-1)), (.int .i64 (-1))] : List Value) ++ hc hash0 ++ hc hash0 ++ ([(.bool false)] : List Value) ++ hc hash0 ++ ([(.pointer (some ⟨t36, 0, none⟩)), (.map (some b42)), (.bool false), (.bool false), (.bool false)] : List Value))) rfl H44 rfl rfl ?_
      intro b46 w47 (H48 : Sat w [restC w (fun _ => False), cellC b2 25 ([(.int .i64 (f)), (.int .i64 (c))] : List Value), talC t36 hb37 cb38 ab39 lb40 f c [], mapC b42 (Value.int .i64) propV [], cellC b46 92 (([(.int .i64 (f)), (.int .i64 (c)), (.int .i64 (ep)), (.int .i64 (r)), (.int .i64 (0)), (.int .i64 (0)), (.int .i64 (-1)), (.int .i64 (-1))] : List Value) ++ hc hash0 ++ hc hash0 ++ ([(.bool false)] : List Value) ++ hc hash0 ++ ([(.pointer (some ⟨t36, 0, none⟩)), (.map (some b42)), (.bool false), (.bool false), (.bool false)] : List Value))] w47)
      refine hK45 _ _ ?_
      clear hK45 K45
      refine wl_pure (wants0 rfl) (d := 6) (v := (.pointer (some ⟨b46, 0, none⟩))) rfl (by kernel_rfl) ?_
      refine wl_pure (wants0 rfl) (d := 7) (v := (.int .i64 (0))) rfl (by kernel_rfl) ?_
      refine w_nil ?_
      refine then_normal ?_
      refine w_ret ?_
      refine end2 rfl (res_tmp (v := (.pointer (some ⟨b46, 0, none⟩))) rfl) (res_tmp (v := (.int .i64 (0))) rfl) ?_
      exact .inl ⟨bnot_false b27, b46, t36, hb37, cb38, ab39, lb40, b42, rfl, ok_of (by kernel_rfl) (H48.fin [4, 2, 3] (by decide) rfl), H48.upd 0 rfl [] (fun _ h => h.elim), fun b hb => H48.freshS 0 rfl (fun _ h => h) [4, 2, 3] rfl rfl b (show (sepC _).fp b from ⟨_, hb.choose_spec.1, hb.choose_spec.2⟩)⟩

set_option maxRecDepth 100000 in
set_option maxHeartbeats 1000000 in
theorem clP_raw (b : Nat) (es : Array MapEntry) (clock : Nat) (w : World) (hb : w.heap[b]? = some (.map es clock)) :
    Calls Try.prog 48 #[.map (some b)] w fun e w' => e = .returned (.map (some w.heap.size)) ∧ w' = w.alloc (.map es clock) := by
  have hq := fun w => run_eql_map_nil (P := Try.prog) w 90 3 96 (some b) Try.underlying90
  go_enter Try.func48, Try.ntmps48
  go_wp2
  rw [run_callFunc_extern Try.func62 (by kernel_rfl) (by kernel_rfl) (by kernel_rfl) (e := Extern.MapsClone.clone) (by kernel_rfl), run_maps_clone w 90 hb]
  simp only [Result.andThen]
  rw [Oper.upon_value]
  go_wp2
  rw [run_typeAssert_map _ 90 20 _ _ _ Try.underlying90]
  simp only [Result.andThen]
  rw [Oper.upon_value]
  go_wp2
  go_ret
  exact ⟨rfl, rfl⟩
/-- a map and its clone -/
theorem clP_any {κ ν : Type} {encK : κ → Value} {encV : ν → Value} {l : List (κ × ν)} (b : Nat) (w : World) (hm : MapAt w b encK encV l) :
    Calls Try.prog 48 #[.map (some b)] w fun e w' => ∃ c, e = .returned (.map (some c)) ∧ MapAt w' c encK encV l ∧ Upd [] w w' ∧ w.heap.size ≤ c := by
  obtain ⟨es, clock, hb, h1, h2⟩ := hm
  refine (clP_raw b es clock w hb).mono ?_
  rintro e w' ⟨rfl, rfl⟩
  exact ⟨w.heap.size, rfl, ⟨es, clock, heap_alloc_at w _, h1, h2⟩, (Upd.refl _ _).alloc _, Nat.le_refl _⟩

set_option maxRecDepth 100000 in
set_option maxHeartbeats 400000 in
theorem coreClone_any (w : World) (k t hb cb ab lb pb : Nat) (D : CoreD) (hT : (coreC k t hb cb ab lb pb D).ok w) (h : CI D) :
    Calls Try.prog 30 #[(.pointer (some ⟨k, 0, none⟩))] w fun e w' => ∃ k' t' hb' cb' ab' lb' pb', e = .returned (.pointer (some ⟨k', 0, none⟩)) ∧ (coreC k' t' hb' cb' ab' lb' pb' D).ok w' ∧ Upd [] w w' ∧ ∀ b, (coreC k' t' hb' cb' ab' lb' pb' D).fp b → w.heap.size ≤ b := by
  obtain ⟨hcell, htal, hmap⟩ := coreC_parts hT
  have H := Sat.start0 w
  have hf := h.f
  have hrd := h.rd
  refine calls_fr Try.func30 rfl 19 rfl (Nat.le_of_ble_eq_true rfl) ?_
  refine w_seq ?_
  refine w_lit ?_
  refine wl_pure (wants0 rfl) (d := 2) (v := (.pointer none)) rfl (by kernel_rfl) ?_
  refine w_nil ?_
  refine then_normal ?_
  refine w_seq ?_
  refine w_lit ?_
  refine wl_pure (wants0 rfl) (d := 4) (v := (.pointer (some ⟨k, 0, none⟩))) rfl (by kernel_rfl) ?_
  refine wl_pure (wants0 rfl) (d := 5) (v := (.pointer (some ⟨k, 0, none⟩))) rfl (by kernel_rfl) ?_
  refine wl_pure (wants0 rfl) (d := 6) (v := (.agg ⟨(([(.int .i64 (D.f)), (.int .i64 (D.c)), (.int .i64 (D.epoch)), (.int .i64 (D.replica)), (.int .i64 (D.s.round)), (.int .i64 (D.s.step)), (.int .i64 (D.s.lr)), (.int .i64 (D.s.vr))] : List Value) ++ hc D.s.locked ++ hc D.s.valid ++ ([(.bool (D.s.decided))] : List Value) ++ hc D.s.decision ++ ([(.pointer (some ⟨t, 0, none⟩)), (.map (some pb)), (.bool (D.wv)), (.bool (D.sp)), (.bool (D.sc))] : List Value))⟩)) rfl (e_loadN (vs := (([(.int .i64 (D.f)), (.int .i64 (D.c)), (.int .i64 (D.epoch)), (.int .i64 (D.replica)), (.int .i64 (D.s.round)), (.int .i64 (D.s.step)), (.int .i64 (D.s.lr)), (.int .i64 (D.s.vr))] : List Value) ++ hc D.s.locked ++ hc D.s.valid ++ ([(.bool (D.s.decided))] : List Value) ++ hc D.s.decision ++ ([(.pointer (some ⟨t, 0, none⟩)), (.map (some pb)), (.bool (D.wv)), (.bool (D.sp)), (.bool (D.sc))] : List Value))) rfl (by kernel_rfl) (by kernel_rfl) (by exact Nat.le_of_ble_eq_true (by kernel_rfl)) (H.roCells 0 rfl hcell (fun h => h)) (by kernel_rfl)) ?_
  refine wl_do (wants0 rfl) (fun K1 hK1 => ?_)
  refine d_alloc (zs := (([(.int .i64 (0)), (.int .i64 (0)), (.int .i64 (0)), (.int .i64 (0)), (.int .i64 (0)), (.int .i64 (0)), (.int .i64 (0)), (.int .i64 (0))] : List Value) ++ hc hash0 ++ hc hash0 ++ ([(.bool false)] : List Value) ++ hc hash0 ++ ([(.pointer none), ((Go.Value.map none)), (.bool false), (.bool false), (.bool false)] : List Value))) (z := (.agg ⟨(([(.int .i64 (0)), (.int .i64 (0)), (.int .i64 (0)), (.int .i64 (0)), (.int .i64 (0)), (.int .i64 (0)), (.int .i64 (0)), (.int .i64 (0))] : List Value) ++ hc hash0 ++ hc hash0 ++ ([(.bool false)] : List Value) ++ hc hash0 ++ ([(.pointer none), ((Go.Value.map none)), (.bool false), (.bool false), (.bool false)] : List Value))⟩)) rfl H (by kernel_rfl) (by kernel_rfl) ?_
  intro b2 w3 (H4 : Sat w [restC w (fun _ => False), cellC b2 92 (([(.int .i64 (0)), (.int .i64 (0)), (.int .i64 (0)), (.int .i64 (0)), (.int .i64 (0)), (.int .i64 (0)), (.int .i64 (0)), (.int .i64 (0))] : List Value) ++ hc hash0 ++ hc hash0 ++ ([(.bool false)] : List Value) ++ hc hash0 ++ ([(.pointer none), ((Go.Value.map none)), (.bool false), (.bool false), (.bool false)] : List Value))] w3)
  refine hK1 _ _ ?_
  clear hK1 K1
  refine wl_do (wants0 rfl) (fun K5 hK5 => ?_)
  refine d_storeX (vs := (([(.int .i64 (D.f)), (.int .i64 (D.c)), (.int .i64 (D.epoch)), (.int .i64 (D.replica)), (.int .i64 (D.s.round)), (.int .i64 (D.s.step)), (.int .i64 (D.s.lr)), (.int .i64 (D.s.vr))] : List Value) ++ hc D.s.locked ++ hc D.s.valid ++ ([(.bool (D.s.decided))] : List Value) ++ hc D.s.decision ++ ([(.pointer (some ⟨t, 0, none⟩)), (.map (some pb)), (.bool (D.wv)), (.bool (D.sp)), (.bool (D.sc))] : List Value))) (cs' := (([(.int .i64 (D.f)), (.int .i64 (D.c)), (.int .i64 (D.epoch)), (.int .i64 (D.replica)), (.int .i64 (D.s.round)), (.int .i64 (D.s.step)), (.int .i64 (D.s.lr)), (.int .i64 (D.s.vr))] : List Value) ++ hc D.s.locked ++ hc D.s.valid ++ ([(.bool (D.s.decided))] : List Value) ++ hc D.s.decision ++ ([(.pointer (some ⟨t, 0, none⟩)), (.map (some pb)), (.bool (D.wv)), (.bool (D.sp)), (.bool (D.sc))] : List Value))) rfl H4 1 rfl rfl rfl rfl (by kernel_rfl) (Nat.le_of_ble_eq_true (by kernel_rfl)) (Nat.le_of_ble_eq_true (by kernel_rfl)) (by kernel_rfl) (by kernel_rfl) ?_
  intro w6 (H7 : Sat w [restC w (fun _ => False), cellC b2 92 (([(.int .i64 (D.f)), (.int .i64 (D.c)), (.int .i64 (D.epoch)), (.int .i64 (D.replica)), (.int .i64 (D.s.round)), (.int .i64 (D.s.step)), (.int .i64 (D.s.lr)), (.int .i64 (D.s.vr))] : List Value) ++ hc D.s.locked ++ hc D.s.valid ++ ([(.bool (D.s.decided))] : List Value) ++ hc D.s.decision ++ ([(.pointer (some ⟨t, 0, none⟩)), (.map (some pb)), (.bool (D.wv)), (.bool (D.sp)), (.bool (D.sc))] : List Value))] w6)
  refine hK5 _ _ ?_
  clear hK5 K5
  refine w_nil ?_
  refine then_normal ?_
  refine w_seq ?_
  refine h_start H7 [restC w (fun _ => False)] 14 rfl (by kernel_rfl) (fun Hx => (Hx.pick [0] (by decide))) ?_
  intro w9 H10 S11
  refine h_val 0 rfl (by kernel_rfl) (by kernel_rfl) (by kernel_rfl) (fun _ _ _ h => h) S11 (wants0 rfl) (d := 7) (v := (.pointer (some ⟨k, 0, none⟩))) rfl (fun _ H' => (by kernel_rfl)) ?_
  refine h_val 1 rfl (by kernel_rfl) (by kernel_rfl) (by kernel_rfl) (fun _ _ _ h => h) S11 (wants0 rfl) (d := 8) (v := (.pointer (some ⟨k, 0, none⟩))) rfl (fun _ H' => (by kernel_rfl)) ?_
  refine h_val 2 rfl (by kernel_rfl) (by kernel_rfl) (by kernel_rfl) (fun _ _ _ h => h) S11 (wants0 rfl) (d := 9) (v := (.pointer (some ⟨k, 105, none⟩))) rfl (fun _ H' => (by kernel_rfl)) ?_
  refine h_val 3 rfl (by kernel_rfl) (by kernel_rfl) (by kernel_rfl) (fun _ _ _ h => h) S11 (wants0 rfl) (d := 10) (v := (.pointer (some ⟨t, 0, none⟩))) rfl (fun _ H' => (e_load1 rfl (by kernel_rfl) (H'.roCell 0 rfl hcell (fun h => h) (by kernel_rfl)))) ?_
  refine h_val 5 rfl (by kernel_rfl) (by kernel_rfl) (by kernel_rfl) (fun _ _ _ h => h) S11 (wants0 rfl) (d := 12) (v := (.pointer (some ⟨k, 0, none⟩))) rfl (fun _ H' => (by kernel_rfl)) ?_
  refine h_val 6 rfl (by kernel_rfl) (by kernel_rfl) (by kernel_rfl) (fun _ _ _ h => h) S11 (wants0 rfl) (d := 13) (v := (.pointer (some ⟨k, 0, none⟩))) rfl (fun _ H' => (by kernel_rfl)) ?_
  refine h_val 7 rfl (by kernel_rfl) (by kernel_rfl) (by kernel_rfl) (fun _ _ _ h => h) S11 (wants0 rfl) (d := 14) (v := (.pointer (some ⟨k, 106, none⟩))) rfl (fun _ H' => (by kernel_rfl)) ?_
  refine h_val 8 rfl (by kernel_rfl) (by kernel_rfl) (by kernel_rfl) (fun _ _ _ h => h) S11 (wants0 rfl) (d := 15) (v := (.map (some pb))) rfl (fun _ H' => (e_load1 rfl (by kernel_rfl) (H'.roCell 0 rfl hcell (fun h => h) (by kernel_rfl)))) ?_
  refine h_do 4 rfl (by kernel_rfl) (wants0 rfl) (fun K12 hK12 => ?_)
  refine d_call (d := 11) rfl (by kernel_rfl) (talClone_any w9 t hb cb ab lb D.f D.c D.L (H10.roCk 0 rfl htal (fun _ _ h => h))) ?_
  rintro _ w18 ⟨t13, hb14, cb15, ab16, lb17, rfl, k21, u20, q22⟩
  have H19 : Sat w [restC w (fun _ => False), cellC b2 92 (([(.int .i64 (D.f)), (.int .i64 (D.c)), (.int .i64 (D.epoch)), (.int .i64 (D.replica)), (.int .i64 (D.s.round)), (.int .i64 (D.s.step)), (.int .i64 (D.s.lr)), (.int .i64 (D.s.vr))] : List Value) ++ hc D.s.locked ++ hc D.s.valid ++ ([(.bool (D.s.decided))] : List Value) ++ hc D.s.decision ++ ([(.pointer (some ⟨t, 0, none⟩)), (.map (some pb)), (.bool (D.wv)), (.bool (D.sp)), (.bool (D.sc))] : List Value)), talC t13 hb14 cb15 ab16 lb17 D.f D.c D.L] w18 := H10.addU u20 k21 q22
  refine ⟨_, rfl, ?_⟩
  have S23 := H19.pick [0] (by decide)
  refine hK12 _ _ S23 ?_
  clear hK12 K12
  refine h_do 9 rfl (by kernel_rfl) (wants0 rfl) (fun K24 hK24 => ?_)
  refine d_call (d := 16) rfl (by kernel_rfl) (clP_any pb w18 (H19.roMap 0 rfl hmap (fun h => h))) ?_
  rintro _ w26 ⟨c25, rfl, k28, u29, f30⟩
  have H27 : Sat w [restC w (fun _ => False), cellC b2 92 (([(.int .i64 (D.f)), (.int .i64 (D.c)), (.int .i64 (D.epoch)), (.int .i64 (D.replica)), (.int .i64 (D.s.round)), (.int .i64 (D.s.step)), (.int .i64 (D.s.lr)), (.int .i64 (D.s.vr))] : List Value) ++ hc D.s.locked ++ hc D.s.valid ++ ([(.bool (D.s.decided))] : List Value) ++ hc D.s.decision ++ ([(.pointer (some ⟨t, 0, none⟩)), (.map (some pb)), (.bool (D.wv)), (.bool (D.sp)), (.bool (D.sc))] : List Value)), talC t13 hb14 cb15 ab16 lb17 D.f D.c D.L, mapC c25 (Value.int .i64) propV D.P] w26 := H19.addU u29 k28 (fun b hb => Nat.le_trans f30 (Nat.le_of_eq hb.symm))
  refine ⟨_, rfl, ?_⟩
  have S31 := H27.pick [0] (by decide)
  refine hK24 _ _ S31 ?_
  clear hK24 K24
  refine h_val 10 rfl (by kernel_rfl) (by kernel_rfl) (by kernel_rfl) (fun _ _ _ h => h) S31 (wants0 rfl) (d := 17) (v := (.pointer (some ⟨b2, 105, none⟩))) rfl (fun _ H' => (by kernel_rfl)) ?_
  refine h_do 11 rfl (by kernel_rfl) (wants0 rfl) (fun K32 hK32 => ?_)
  refine d_storeX (vs := ([(.pointer (some ⟨t13, 0, none⟩))] : List Value)) (cs' := (([(.int .i64 (D.f)), (.int .i64 (D.c)), (.int .i64 (D.epoch)), (.int .i64 (D.replica)), (.int .i64 (D.s.round)), (.int .i64 (D.s.step)), (.int .i64 (D.s.lr)), (.int .i64 (D.s.vr))] : List Value) ++ hc D.s.locked ++ hc D.s.valid ++ ([(.bool (D.s.decided))] : List Value) ++ hc D.s.decision ++ ([(.pointer (some ⟨t13, 0, none⟩)), (.map (some pb)), (.bool (D.wv)), (.bool (D.sp)), (.bool (D.sc))] : List Value))) rfl H27 1 rfl rfl rfl rfl (by kernel_rfl) (Nat.le_of_ble_eq_true (by kernel_rfl)) (Nat.le_of_ble_eq_true (by kernel_rfl)) (by kernel_rfl) (by kernel_rfl) ?_
  intro w33 (H34 : Sat w [restC w (fun _ => False), cellC b2 92 (([(.int .i64 (D.f)), (.int .i64 (D.c)), (.int .i64 (D.epoch)), (.int .i64 (D.replica)), (.int .i64 (D.s.round)), (.int .i64 (D.s.step)), (.int .i64 (D.s.lr)), (.int .i64 (D.s.vr))] : List Value) ++ hc D.s.locked ++ hc D.s.valid ++ ([(.bool (D.s.decided))] : List Value) ++ hc D.s.decision ++ ([(.pointer (some ⟨t13, 0, none⟩)), (.map (some pb)), (.bool (D.wv)), (.bool (D.sp)), (.bool (D.sc))] : List Value)), talC t13 hb14 cb15 ab16 lb17 D.f D.c D.L, mapC c25 (Value.int .i64) propV D.P] w33)
  have S36 := H34.pick [0] (by decide)
  refine hK32 _ _ S36 ?_
  clear hK32 K32
  refine h_val 12 rfl (by kernel_rfl) (by kernel_rfl) (by kernel_rfl) (fun _ _ _ h => h) S36 (wants0 rfl) (d := 18) (v := (.pointer (some ⟨b2, 106, none⟩))) rfl (fun _ H' => (by kernel_rfl)) ?_
  refine h_do 13 rfl (by kernel_rfl) (wants0 rfl) (fun K37 hK37 => ?_)
  refine d_storeX (vs := ([(.map (some c25))] : List Value)) (cs' := (([(.int .i64 (D.f)), (.int .i64 (D.c)), (.int .i64 (D.epoch)), (.int .i64 (D.replica)), (.int .i64 (D.s.round)), (.int .i64 (D.s.step)), (.int .i64 (D.s.lr)), (.int .i64 (D.s.vr))] : List Value) ++ hc D.s.locked ++ hc D.s.valid ++ ([(.bool (D.s.decided))] : List Value) ++ hc D.s.decision ++ ([(.pointer (some ⟨t13, 0, none⟩)), (.map (some c25)), (.bool (D.wv)), (.bool (D.sp)), (.bool (D.sc))] : List Value))) rfl H34 1 rfl rfl rfl rfl (by kernel_rfl) (Nat.le_of_ble_eq_true (by kernel_rfl)) (Nat.le_of_ble_eq_true (by kernel_rfl)) (by kernel_rfl) (by kernel_rfl) ?_
  intro w38 (H39 : Sat w [restC w (fun _ => False), cellC b2 92 (([(.int .i64 (D.f)), (.int .i64 (D.c)), (.int .i64 (D.epoch)), (.int .i64 (D.replica)), (.int .i64 (D.s.round)), (.int .i64 (D.s.step)), (.int .i64 (D.s.lr)), (.int .i64 (D.s.vr))] : List Value) ++ hc D.s.locked ++ hc D.s.valid ++ ([(.bool (D.s.decided))] : List Value) ++ hc D.s.decision ++ ([(.pointer (some ⟨t13, 0, none⟩)), (.map (some c25)), (.bool (D.wv)), (.bool (D.sp)), (.bool (D.sc))] : List Value)), talC t13 hb14 cb15 ab16 lb17 D.f D.c D.L, mapC c25 (Value.int .i64) propV D.P] w38)
  have S41 := H39.pick [0] (by decide)
  refine hK37 _ _ S41 ?_
  clear hK37 K37
  refine h_fin (by kernel_rfl) ?_
  refine then_normal ?_
  refine w_seq ?_
  refine w_lit ?_
  refine wl_pure (wants0 rfl) (d := 2) (v := (.pointer (some ⟨b2, 0, none⟩))) rfl (by kernel_rfl) ?_
  refine w_nil ?_
  refine then_normal ?_
  refine w_ret ?_
  refine end1 rfl (res_tmp (v := (.pointer (some ⟨b2, 0, none⟩))) rfl) ?_
  exact ⟨b2, t13, hb14, cb15, ab16, lb17, c25, rfl, ok_of (by kernel_rfl) (H39.fin [1, 2, 3] (by decide) rfl), H39.upd 0 rfl [] (fun _ h => h.elim), fun b hb => H39.freshS 0 rfl (fun _ h => h) [1, 2, 3] rfl rfl b (show (sepC _).fp b from ⟨_, hb.choose_spec.1, hb.choose_spec.2⟩)⟩

end Go.Proofs.Ythjmbhneifjeeaa
