/- WHAT IS PROVED: TallyCounts answers true whatever its input. No condition. -/
import Derived.Test.YtfhhljgjppcdlaaVotesMath
import Derived.Test.YtfhhljgjppcdlaaWakes13
namespace Go.Proofs.Ytfhhljgjppcdlaa
open Go.RowKit

set_option maxRecDepth 100000 in
set_option maxHeartbeats 2000000 in
theorem counts13_walk (w : World) (va : Option Addr) (vc : Nat) (ls : List VoteIn) (hvotes : VotesAt w (.slice va ls.length vc) ls) (hvl : ls.length ≤ 9223372036854775807) :
    Calls Try.prog 4 #[(.slice va ls.length vc)] w fun e w' => e = .returned (.bool true) ∧ Upd [] w w' := by
  have H := Sat.start0 w
  refine calls_fr Try.func4 rfl 193 rfl (Nat.le_of_ble_eq_true rfl) ?_
  refine w_seq ?_
  refine w_lit ?_
  refine wl_pure (wants0 rfl) (d := 2) (v := (.bool false)) rfl (by kernel_rfl) ?_
  refine w_nil ?_
  refine then_normal ?_
  refine w_seq ?_
  refine w_lit ?_
  refine wl_pure (wants0 rfl) (d := 16) (v := (.agg ⟨([(.int .i64 (2)), (.int .i64 (1))] : List Value)⟩)) rfl (by kernel_rfl) ?_
  refine wl_do (wants0 rfl) (fun K1 hK1 => ?_)
  refine d_alloc (zs := ([(.int .i64 (0)), (.int .i64 (0))] : List Value)) (z := (.agg ⟨([(.int .i64 (0)), (.int .i64 (0))] : List Value)⟩)) rfl H (by kernel_rfl) (by kernel_rfl) ?_
  intro b2 w3 (H4 : Sat w [restC w (fun _ => False), cellC b2 27 ([(.int .i64 (0)), (.int .i64 (0))] : List Value)] w3)
  refine hK1 _ _ ?_
  clear hK1 K1
  refine wl_do (wants0 rfl) (fun K5 hK5 => ?_)
  refine d_store (vs := ([(.int .i64 (2)), (.int .i64 (1))] : List Value)) rfl H4 1 rfl rfl rfl rfl (by kernel_rfl) (Nat.le_of_ble_eq_true (by kernel_rfl)) (Nat.le_of_ble_eq_true (by kernel_rfl)) (by kernel_rfl) ?_
  intro w6 (H7 : Sat w [restC w (fun _ => False), cellC b2 27 ([(.int .i64 (2)), (.int .i64 (1))] : List Value)] w6)
  refine hK5 _ _ ?_
  clear hK5 K5
  refine w_nil ?_
  refine then_normal ?_
  refine w_seq ?_
  refine w_lit ?_
  refine wl_pure (wants0 rfl) (d := 18) (v := (.agg ⟨([(.int .i64 (2)), (.int .i64 (1))] : List Value)⟩)) rfl (e_loadN (vs := ([(.int .i64 (2)), (.int .i64 (1))] : List Value)) rfl (by kernel_rfl) (by kernel_rfl) (by exact Nat.le_of_ble_eq_true (by kernel_rfl)) (H7.at 1 rfl) (by kernel_rfl)) ?_
  refine wl_do (wants0 rfl) (fun K9 hK9 => ?_)
  refine d_call (d := 19) rfl (by kernel_rfl) (talNew_any w6 2 1) ?_
  rintro _ w10 (⟨_, t15, hb16, cb17, ab18, lb19, rfl, k13, u12, q14⟩ | ⟨hcf, _⟩)
  rotate_left
  · exact absurd hcf (by rw [show confB 2 1 = true by decide]; simp)
  have H11 : Sat w [restC w (fun _ => False), cellC b2 27 ([(.int .i64 (2)), (.int .i64 (1))] : List Value), talC t15 hb16 cb17 ab18 lb19 2 1 []] w10 := H7.addU u12 k13 q14
  refine ⟨_, rfl, ?_⟩
  refine hK9 _ _ ?_
  clear hK9 K9
  refine wl_pure (wants0 rfl) (d := 17) (v := (.tuple #[(.pointer (some ⟨t15, 0, none⟩)), (.int .i64 (0))])) rfl (by kernel_rfl) ?_
  refine wl_pure (wants0 rfl) (d := 20) (v := (.pointer (some ⟨t15, 0, none⟩))) rfl (by kernel_rfl) ?_
  refine wl_pure (wants0 rfl) (d := 21) (v := (.int .i64 (0))) rfl (by kernel_rfl) ?_
  refine wl_pure (wants0 rfl) (d := 4) (v := (.pointer (some ⟨t15, 0, none⟩))) rfl (by kernel_rfl) ?_
  refine wl_pure (wants0 rfl) (d := 5) (v := (.int .i64 (0))) rfl (by kernel_rfl) ?_
  refine w_nil ?_
  refine then_normal ?_
  refine w_seq ?_
  refine w_seq ?_
  refine w_lit ?_
  refine wl_pure (wants0 rfl) (d := 22) (v := (.int .i64 (0))) rfl (by kernel_rfl) ?_
  refine wl_pure (wants0 rfl) (d := 23) (v := (.bool false)) rfl (by kernel_rfl) ?_
  refine wl_pure (wants0 rfl) (d := 24) (v := (.bool false)) rfl (by kernel_rfl) ?_
  refine wl_pure (wantsY 2 24 false rfl (by kernel_rfl) rfl (by kernel_rfl)) (d := 25) (v := (.pointer (some ⟨t15, 0, none⟩))) rfl (by kernel_rfl) ?_
  refine wl_pure (wantsY 2 24 false rfl (by kernel_rfl) rfl (by kernel_rfl)) (d := 26) (v := (.bool false)) rfl (by kernel_rfl) ?_
  refine wl_pure (wants0 rfl) (d := 27) (v := (.bool false)) rfl (by kernel_rfl) ?_
  refine w_nil ?_
  refine then_normal ?_
  refine wp_iff rfl ?_
  refine w_skip ?_
  refine then_normal ?_
  refine w_seq ?_
  refine w_seq ?_
  refine w_lit ?_
  refine wl_pure (wants0 rfl) (d := 6) (v := (.int .i64 (0))) rfl (by kernel_rfl) ?_
  refine w_nil ?_
  refine then_normal ?_
  refine w_block ?_
  refine wp_round [2, 6, 7, 8, 9, 28, 29, 30, 31, 32, 33, 34, 35, 36, 37, 38, 39, 40, 41, 42, 43, 44, 45, 46, 47, 48, 49, 50, 51, 52, 53, 54, 55, 56, 57, 58, 59, 60, 61, 62, 63, 64, 65, 66, 67, 68, 69, 70, 71, 72, 73, 74, 75, 76, 77, 78, 79, 80, 81, 82, 83, 84, 85, 86, 87, 88, 89, 90, 91, 92, 93, 94, 95, 96, 97] (fun F_ W_ m_ => ∃ (k : Nat), F_ 6 = (.int .i64 ((k : Int))) ∧ (k ≤ 60) ∧ Sat w [restC w (fun _ => False), cellC b2 27 ([(.int .i64 (2)), (.int .i64 (1))] : List Value), talC t15 hb16 cb17 ab18 lb19 2 1 (smallL ls k)] W_ ∧ m_ = 60 - k) _ ⟨0, (by first | rfl | go_num), by omega, H11, rfl⟩ ?_
  rintro g20 w21 _ ⟨k, v23, hk, H22, rfl⟩
  refine wp_know 6 _ v23 ?_
  refine w_seq ?_
  refine wp_meetR [28, 29, 30, 31, 32, 33, 34, 35] (fun G_ W_ => G_ 35 = (.bool (decide ((k : Int) < ls.length) && decide ((k : Int) < 60))) ∧ Sat w [restC w (fun _ => False), cellC b2 27 ([(.int .i64 (2)), (.int .i64 (1))] : List Value), talC t15 hb16 cb17 ab18 lb19 2 1 (smallL ls k)] W_) ?_ ?_
  · refine w_lit ?_
    refine wl_pure (wants0 rfl) (d := 28) (v := (.int .i64 ((k : Int)))) rfl (by kernel_rfl) ?_
    refine wl_pure (wants0 rfl) (d := 29) (v := (.slice va ls.length vc)) rfl (by kernel_rfl) ?_
    refine wl_pure (wants0 rfl) (d := 30) (v := (.int .i64 ((ls.length : Int)))) rfl (by kernel_rfl) ?_
    refine wl_pure (wants0 rfl) (d := 31) (v := (.bool (decide ((k : Int) < (ls.length : Int))))) rfl (by kernel_rfl) ?_
    refine wl_pure (wants0 rfl) (d := 32) (v := (.bool (decide ((k : Int) < (ls.length : Int))))) rfl (by kernel_rfl) ?_
    refine (bsplit (decide ((k : Int) < (ls.length : Int)))).elim (fun b26 => ?_) (fun b26 => ?_)
    · have g27 := of_decide_eq_true b26
      refine wl_know 32 (.bool true) (congrArg Value.bool b26) ?_
      refine wl_pure (wantsY 4 32 true rfl (by kernel_rfl) rfl (by kernel_rfl)) (d := 33) (v := (.int .i64 ((k : Int)))) rfl (by kernel_rfl) ?_
      refine wl_pure (wantsY 4 32 true rfl (by kernel_rfl) rfl (by kernel_rfl)) (d := 34) (v := (.bool (decide ((k : Int) < 60)))) rfl (by kernel_rfl) ?_
      refine wl_pure (wants0 rfl) (d := 35) (v := (.bool (decide ((k : Int) < 60)))) rfl (by kernel_rfl) ?_
      refine w_nil ?_
      refine meetR_at ?_ ⟨(congrArg Value.bool (show (decide ((k : Int) < 60)) = (decide ((k : Int) < ls.length) && decide ((k : Int) < 60)) by (simp <;> omega))), H22⟩
      exact (same_upd rfl (same_upd rfl (same_upd rfl (same_upd rfl (same_upd rfl (same_upd rfl (same_upd rfl (same_upd rfl (same_upd rfl (same_refl))))))))))
    · have g28 := of_decide_eq_false b26
      refine wl_know 32 (.bool false) (congrArg Value.bool b26) ?_
      refine wl_pass (wantsN 4 32 true rfl (by kernel_rfl) rfl (by kernel_rfl)) rfl ?_
      refine wl_pass (wantsN 4 32 true rfl (by kernel_rfl) rfl (by kernel_rfl)) rfl ?_
      refine wl_pure (wants0 rfl) (d := 35) (v := (.bool false)) rfl (by kernel_rfl) ?_
      refine w_nil ?_
      refine meetR_at ?_ ⟨(congrArg Value.bool (show false = (decide ((k : Int) < ls.length) && decide ((k : Int) < 60)) by (simp <;> omega))), H22⟩
      exact (same_upd rfl (same_upd rfl (same_upd rfl (same_upd rfl (same_upd rfl (same_upd rfl (same_upd rfl (same_upd rfl (same_upd rfl (same_refl))))))))))
  · rintro f29 w30 ⟨v32, H31⟩
    refine wp_know 35 _ v32 ?_
    refine (bsplit (decide ((k : Int) < ls.length) && decide ((k : Int) < 60))).elim (fun b33 => ?_) (fun b33 => ?_)
    · refine wp_know 35 (.bool true) (congrArg Value.bool b33) ?_
      refine wp_ift rfl ?_
      refine w_skip ?_
      refine then_normal ?_
      refine w_seq ?_
      refine w_block ?_
      refine w_seq ?_
      have hkl : (k : Int) < ls.length ∧ (k : Int) < 60 := by simpa using b33
      obtain ⟨vb, vo, vc', hva, _, hvs⟩ := hvotes.some (by omega)
      simp only [Value.slice.injEq] at hva
      obtain ⟨rfl, _, rfl⟩ := hva
      have hcell : CellsAt w ⟨vb, vo + ((k : Int)).toNat * 36, none⟩ (voteL (voteD ls k)) := by
        have h := hvs k (by omega)
        have e : voteD ls k = ls[k]'(by omega) := by simp [voteD, List.getD, List.getElem?_eq_getElem (show k < ls.length by omega)]
        rw [e]; simpa using h
      refine w_lit ?_
      refine wl_pure (wants0 rfl) (d := 38) (v := (.slice (some ⟨vb, vo, none⟩) ls.length vc)) rfl (by kernel_rfl) ?_
      refine wl_pure (wants0 rfl) (d := 39) (v := (.int .i64 ((k : Int)))) rfl (by kernel_rfl) ?_
      refine wl_pure (wants0 rfl) (d := 40) (v := (.pointer (some ⟨vb, vo + ((k : Int)).toNat * 36, none⟩))) rfl (e_indexAddr (E := 40) (by kernel_rfl) (by kernel_rfl) (Nat.le_of_ble_eq_true rfl) rfl rfl (by omega) (by omega)) ?_
      refine wl_pure (wants0 rfl) (d := 41) (v := (.agg ⟨(([(.int .i64 ((voteD ls k).kind)), (.int .i64 ((voteD ls k).round)), (.int .i64 ((voteD ls k).replica))] : List Value) ++ hc (voteD ls k).h ++ ([(.bool ((voteD ls k).small))] : List Value))⟩)) rfl (e_loadA (vs := voteL (voteD ls k)) rfl (by kernel_rfl) (by kernel_rfl) (Nat.le_of_ble_eq_true (by kernel_rfl)) (fun j v hj => H31.cellR 0 rfl (hcell j v hj) (fun h => h))) ?_
      refine wl_do (wants0 rfl) (fun K34 hK34 => ?_)
      refine d_alloc (zs := (([(.int .i64 (0)), (.int .i64 (0)), (.int .i64 (0))] : List Value) ++ hc hash0 ++ ([(.bool false)] : List Value))) (z := (.agg ⟨(([(.int .i64 (0)), (.int .i64 (0)), (.int .i64 (0))] : List Value) ++ hc hash0 ++ ([(.bool false)] : List Value))⟩)) rfl H31 (by kernel_rfl) (by kernel_rfl) ?_
      intro b35 w36 (H37 : Sat w [restC w (fun _ => False), cellC b2 27 ([(.int .i64 (2)), (.int .i64 (1))] : List Value), talC t15 hb16 cb17 ab18 lb19 2 1 (smallL ls k), cellC b35 40 (([(.int .i64 (0)), (.int .i64 (0)), (.int .i64 (0))] : List Value) ++ hc hash0 ++ ([(.bool false)] : List Value))] w36)
      refine hK34 _ _ ?_
      clear hK34 K34
      refine wl_do (wants0 rfl) (fun K38 hK38 => ?_)
      refine d_store (vs := (([(.int .i64 ((voteD ls k).kind)), (.int .i64 ((voteD ls k).round)), (.int .i64 ((voteD ls k).replica))] : List Value) ++ hc (voteD ls k).h ++ ([(.bool ((voteD ls k).small))] : List Value))) rfl H37 3 rfl rfl rfl rfl (by kernel_rfl) (Nat.le_of_ble_eq_true (by kernel_rfl)) (Nat.le_of_ble_eq_true (by kernel_rfl)) (by kernel_rfl) ?_
      intro w39 (H40 : Sat w [restC w (fun _ => False), cellC b2 27 ([(.int .i64 (2)), (.int .i64 (1))] : List Value), talC t15 hb16 cb17 ab18 lb19 2 1 (smallL ls k), cellC b35 40 (([(.int .i64 ((voteD ls k).kind)), (.int .i64 ((voteD ls k).round)), (.int .i64 ((voteD ls k).replica))] : List Value) ++ hc (voteD ls k).h ++ ([(.bool ((voteD ls k).small))] : List Value))] w39)
      refine hK38 _ _ ?_
      clear hK38 K38
      refine w_nil ?_
      refine then_normal ?_
      refine w_seq ?_
      refine w_lit ?_
      refine wl_pure (wants0 rfl) (d := 42) (v := (.pointer (some ⟨b35, 35, none⟩))) rfl (by kernel_rfl) ?_
      refine wl_do (wants0 rfl) (fun K42 hK42 => ?_)
      refine d_store (vs := ([(.bool true)] : List Value)) rfl H40 3 rfl rfl rfl rfl (by kernel_rfl) (Nat.le_of_ble_eq_true (by kernel_rfl)) (Nat.le_of_ble_eq_true (by kernel_rfl)) (by kernel_rfl) ?_
      intro w43 (H44 : Sat w [restC w (fun _ => False), cellC b2 27 ([(.int .i64 (2)), (.int .i64 (1))] : List Value), talC t15 hb16 cb17 ab18 lb19 2 1 (smallL ls k), cellC b35 40 (([(.int .i64 ((voteD ls k).kind)), (.int .i64 ((voteD ls k).round)), (.int .i64 ((voteD ls k).replica))] : List Value) ++ hc (voteD ls k).h ++ ([(.bool true)] : List Value))] w43)
      refine hK42 _ _ ?_
      clear hK42 K42
      refine w_nil ?_
      refine then_normal ?_
      refine w_seq ?_
      refine w_lit ?_
      refine wl_pure (wants0 rfl) (d := 43) (v := (.agg ⟨(([(.int .i64 ((voteD ls k).kind)), (.int .i64 ((voteD ls k).round)), (.int .i64 ((voteD ls k).replica))] : List Value) ++ hc (voteD ls k).h ++ ([(.bool true)] : List Value))⟩)) rfl (e_loadN (vs := (([(.int .i64 ((voteD ls k).kind)), (.int .i64 ((voteD ls k).round)), (.int .i64 ((voteD ls k).replica))] : List Value) ++ hc (voteD ls k).h ++ ([(.bool true)] : List Value))) rfl (by kernel_rfl) (by kernel_rfl) (by exact Nat.le_of_ble_eq_true (by kernel_rfl)) (H44.at 3 rfl) (by kernel_rfl)) ?_
      refine wl_do (wants0 rfl) (fun K46 hK46 => ?_)
      refine d_call (d := 44) rfl (by kernel_rfl) (cut_any w43 ⟨(voteD ls k).kind, (voteD ls k).round, (voteD ls k).replica, (voteD ls k).h, true⟩) ?_
      rintro _ w47 ⟨rfl, u49⟩
      have H48 := H44.keepU u49
      refine ⟨_, rfl, ?_⟩
      refine hK46 _ _ ?_
      clear hK46 K46
      refine wl_do (wants0 rfl) (fun K50 hK50 => ?_)
      refine d_store (vs := (([(.int .i64 ((vin (voteD ls k)).kind)), (.int .i64 ((vin (voteD ls k)).round)), (.int .i64 ((vin (voteD ls k)).replica))] : List Value) ++ hc (vin (voteD ls k)).h ++ ([(.bool true)] : List Value))) rfl H48 3 rfl rfl rfl rfl (by kernel_rfl) (Nat.le_of_ble_eq_true (by kernel_rfl)) (Nat.le_of_ble_eq_true (by kernel_rfl)) (by kernel_rfl) ?_
      intro w51 (H52 : Sat w [restC w (fun _ => False), cellC b2 27 ([(.int .i64 (2)), (.int .i64 (1))] : List Value), talC t15 hb16 cb17 ab18 lb19 2 1 (smallL ls k), cellC b35 40 (([(.int .i64 ((vin (voteD ls k)).kind)), (.int .i64 ((vin (voteD ls k)).round)), (.int .i64 ((vin (voteD ls k)).replica))] : List Value) ++ hc (vin (voteD ls k)).h ++ ([(.bool true)] : List Value))] w51)
      refine hK50 _ _ ?_
      clear hK50 K50
      refine w_nil ?_
      refine then_normal ?_
      refine w_seq ?_
      refine w_lit ?_
      refine wl_pure (wants0 rfl) (d := 45) (v := (.pointer (some ⟨t15, 0, none⟩))) rfl (by kernel_rfl) ?_
      refine wl_pure (wants0 rfl) (d := 46) (v := (.pointer (some ⟨b35, 0, none⟩))) rfl (by kernel_rfl) ?_
      refine wl_pure (wants0 rfl) (d := 47) (v := (.int .i64 ((vin (voteD ls k)).kind))) rfl (e_load1 rfl (by kernel_rfl) (H52.cell 3 rfl (by kernel_rfl))) ?_
      refine wl_pure (wants0 rfl) (d := 48) (v := (.pointer (some ⟨b35, 1, none⟩))) rfl (by kernel_rfl) ?_
      refine wl_pure (wants0 rfl) (d := 49) (v := (.int .i64 ((vin (voteD ls k)).round))) rfl (e_load1 rfl (by kernel_rfl) (H52.cell 3 rfl (by kernel_rfl))) ?_
      refine wl_do (wants0 rfl) (fun K54 hK54 => ?_)
      refine d_call (d := 50) rfl (by kernel_rfl) (talAll_any w51 t15 hb16 cb17 ab18 lb19 2 1 (smallL ls k) (H52.at 2 rfl) ((vin (voteD ls k)).kind) ((vin (voteD ls k)).round)) ?_
      rintro _ w55 ⟨rfl, u57⟩
      have H56 := H52.keepU u57
      refine ⟨_, rfl, ?_⟩
      refine hK54 _ _ ?_
      clear hK54 K54
      refine wl_pure (wants0 rfl) (d := 8) (v := (.int .i64 (allV (smallL ls k) ((vin (voteD ls k)).kind) ((vin (voteD ls k)).round)))) rfl (by kernel_rfl) ?_
      refine w_nil ?_
      refine then_normal ?_
      refine w_seq ?_
      refine w_lit ?_
      refine wl_pure (wants0 rfl) (d := 51) (v := (.pointer (some ⟨t15, 0, none⟩))) rfl (by kernel_rfl) ?_
      refine wl_pure (wants0 rfl) (d := 52) (v := (.pointer (some ⟨b35, 0, none⟩))) rfl (by kernel_rfl) ?_
      refine wl_pure (wants0 rfl) (d := 53) (v := (.int .i64 ((vin (voteD ls k)).kind))) rfl (e_load1 rfl (by kernel_rfl) (H56.cell 3 rfl (by kernel_rfl))) ?_
      refine wl_pure (wants0 rfl) (d := 54) (v := (.pointer (some ⟨b35, 1, none⟩))) rfl (by kernel_rfl) ?_
      refine wl_pure (wants0 rfl) (d := 55) (v := (.int .i64 ((vin (voteD ls k)).round))) rfl (e_load1 rfl (by kernel_rfl) (H56.cell 3 rfl (by kernel_rfl))) ?_
      refine wl_pure (wants0 rfl) (d := 56) (v := (.pointer (some ⟨b35, 2, none⟩))) rfl (by kernel_rfl) ?_
      refine wl_pure (wants0 rfl) (d := 57) (v := (.int .i64 ((vin (voteD ls k)).replica))) rfl (e_load1 rfl (by kernel_rfl) (H56.cell 3 rfl (by kernel_rfl))) ?_
      refine wl_pure (wants0 rfl) (d := 58) (v := (.pointer (some ⟨b35, 3, none⟩))) rfl (by kernel_rfl) ?_
      refine wl_pure (wants0 rfl) (d := 59) (v := (.agg ⟨(hc (vin (voteD ls k)).h)⟩)) rfl (e_loadN (vs := (hc (vin (voteD ls k)).h)) rfl (by kernel_rfl) (by kernel_rfl) (by exact Nat.le_of_ble_eq_true (by kernel_rfl)) (H56.at 3 rfl) (by kernel_rfl)) ?_
      refine wl_do (wants0 rfl) (fun K58 hK58 => ?_)
      refine d_call (d := 60) rfl (by kernel_rfl) (talAdd_any w55 t15 hb16 cb17 ab18 lb19 2 1 (smallL ls k) (H56.at 2 rfl) ((vin (voteD ls k)).kind) ((vin (voteD ls k)).round) ((vin (voteD ls k)).replica) ((vin (voteD ls k)).h) (by have := smallL_len ls k; omega)) ?_
      rintro _ w59 ⟨rfl, k62, u61⟩
      have H60 : Sat w [restC w (fun _ => False), cellC b2 27 ([(.int .i64 (2)), (.int .i64 (1))] : List Value), talC t15 hb16 cb17 ab18 lb19 2 1 (addV 2 (smallL ls k) ⟨((vin (voteD ls k)).kind), ((vin (voteD ls k)).round), ((vin (voteD ls k)).replica), ((vin (voteD ls k)).h)⟩), cellC b35 40 (([(.int .i64 ((vin (voteD ls k)).kind)), (.int .i64 ((vin (voteD ls k)).round)), (.int .i64 ((vin (voteD ls k)).replica))] : List Value) ++ hc (vin (voteD ls k)).h ++ ([(.bool true)] : List Value))] w59 := H56.setU u61 2 rfl (fun _ hb => hb) k62 (fun _ hb => .inl hb)
      refine ⟨_, rfl, ?_⟩
      refine hK58 _ _ ?_
      clear hK58 K58
      refine wl_pure (wants0 rfl) (d := 9) (v := (.bool (okV 2 (smallL ls k) ((vin (voteD ls k)).kind) ((vin (voteD ls k)).round) ((vin (voteD ls k)).replica)))) rfl (by kernel_rfl) ?_
      refine w_nil ?_
      refine then_normal ?_
      refine w_seq ?_
      refine w_lit ?_
      refine wl_pure (wants0 rfl) (d := 61) (v := (.bool (okV 2 (smallL ls k) ((vin (voteD ls k)).kind) ((vin (voteD ls k)).round) ((vin (voteD ls k)).replica)))) rfl (by kernel_rfl) ?_
      refine wl_pure (wants0 rfl) (d := 62) (v := (.bool (okV 2 (smallL ls k) ((vin (voteD ls k)).kind) ((vin (voteD ls k)).round) ((vin (voteD ls k)).replica)))) rfl (by kernel_rfl) ?_
      refine (bsplit (okV 2 (smallL ls k) ((vin (voteD ls k)).kind) ((vin (voteD ls k)).round) ((vin (voteD ls k)).replica))).elim (fun b63 => ?_) (fun b63 => ?_)
      · refine wl_know 62 (.bool true) (congrArg Value.bool b63) ?_
        refine wl_pure (wantsY 1 62 true rfl (by kernel_rfl) rfl (by kernel_rfl)) (d := 63) (v := (.pointer (some ⟨t15, 0, none⟩))) rfl (by kernel_rfl) ?_
        refine wl_pure (wantsY 1 62 true rfl (by kernel_rfl) rfl (by kernel_rfl)) (d := 64) (v := (.pointer (some ⟨b35, 0, none⟩))) rfl (by kernel_rfl) ?_
        refine wl_pure (wantsY 1 62 true rfl (by kernel_rfl) rfl (by kernel_rfl)) (d := 65) (v := (.int .i64 ((vin (voteD ls k)).kind))) rfl (e_load1 rfl (by kernel_rfl) (H60.cell 3 rfl (by kernel_rfl))) ?_
        refine wl_pure (wantsY 1 62 true rfl (by kernel_rfl) rfl (by kernel_rfl)) (d := 66) (v := (.pointer (some ⟨b35, 1, none⟩))) rfl (by kernel_rfl) ?_
        refine wl_pure (wantsY 1 62 true rfl (by kernel_rfl) rfl (by kernel_rfl)) (d := 67) (v := (.int .i64 ((vin (voteD ls k)).round))) rfl (e_load1 rfl (by kernel_rfl) (H60.cell 3 rfl (by kernel_rfl))) ?_
        refine wl_do (wantsY 1 62 true rfl (by kernel_rfl) rfl (by kernel_rfl)) (fun K64 hK64 => ?_)
        refine d_call (d := 68) rfl (by kernel_rfl) (talAll_any w59 t15 hb16 cb17 ab18 lb19 2 1 (addV 2 (smallL ls k) ⟨((vin (voteD ls k)).kind), ((vin (voteD ls k)).round), ((vin (voteD ls k)).replica), ((vin (voteD ls k)).h)⟩) (H60.at 2 rfl) ((vin (voteD ls k)).kind) ((vin (voteD ls k)).round)) ?_
        rintro _ w65 ⟨rfl, u67⟩
        have H66 := H60.keepU u67
        refine ⟨_, rfl, ?_⟩
        refine hK64 _ _ ?_
        clear hK64 K64
        refine wl_pure (wantsY 1 62 true rfl (by kernel_rfl) rfl (by kernel_rfl)) (d := 69) (v := (.int .i64 (allV (smallL ls k) ((vin (voteD ls k)).kind) ((vin (voteD ls k)).round)))) rfl (by kernel_rfl) ?_
        refine wl_pure (wantsY 1 62 true rfl (by kernel_rfl) rfl (by kernel_rfl)) (d := 70) (v := (.int .i64 ((allV (smallL ls k) ((vin (voteD ls k)).kind) ((vin (voteD ls k)).round)) + 1))) rfl (e_int (z := (allV (smallL ls k) ((vin (voteD ls k)).kind) ((vin (voteD ls k)).round)) + 1) (by kernel_rfl) (IntWalk.i64_in _ (by have h0 := allV_bd (smallL ls k) (vin (voteD ls k)).kind (vin (voteD ls k)).round; have h2 := smallL_len ls k; omega))) ?_
        refine wl_pure (wantsY 1 62 true rfl (by kernel_rfl) rfl (by kernel_rfl)) (d := 71) (v := (.bool (!(decide ((allV (addV 2 (smallL ls k) ⟨((vin (voteD ls k)).kind), ((vin (voteD ls k)).round), ((vin (voteD ls k)).replica), ((vin (voteD ls k)).h)⟩) ((vin (voteD ls k)).kind) ((vin (voteD ls k)).round)) = ((allV (smallL ls k) ((vin (voteD ls k)).kind) ((vin (voteD ls k)).round)) + 1)))))) rfl (by kernel_rfl) ?_
        refine wl_pure (wants0 rfl) (d := 72) (v := (.bool (!(decide ((allV (addV 2 (smallL ls k) ⟨((vin (voteD ls k)).kind), ((vin (voteD ls k)).round), ((vin (voteD ls k)).replica), ((vin (voteD ls k)).h)⟩) ((vin (voteD ls k)).kind) ((vin (voteD ls k)).round)) = ((allV (smallL ls k) ((vin (voteD ls k)).kind) ((vin (voteD ls k)).round)) + 1)))))) rfl (by kernel_rfl) ?_
        refine wl_pure (wants0 rfl) (d := 73) (v := (.bool (!(decide ((allV (addV 2 (smallL ls k) ⟨((vin (voteD ls k)).kind), ((vin (voteD ls k)).round), ((vin (voteD ls k)).replica), ((vin (voteD ls k)).h)⟩) ((vin (voteD ls k)).kind) ((vin (voteD ls k)).round)) = ((allV (smallL ls k) ((vin (voteD ls k)).kind) ((vin (voteD ls k)).round)) + 1)))))) rfl (by kernel_rfl) ?_
        have b68 : (!(decide ((allV (addV 2 (smallL ls k) ⟨((vin (voteD ls k)).kind), ((vin (voteD ls k)).round), ((vin (voteD ls k)).replica), ((vin (voteD ls k)).h)⟩) ((vin (voteD ls k)).kind) ((vin (voteD ls k)).round)) = ((allV (smallL ls k) ((vin (voteD ls k)).kind) ((vin (voteD ls k)).round)) + 1)))) = false := by (rw [allV_ok (by assumption)]; simp)
        refine wl_know 73 (.bool false) (congrArg Value.bool b68) ?_
        refine wl_pure (wantsY 12 73 false rfl (by kernel_rfl) rfl (by kernel_rfl)) (d := 74) (v := (.bool (okV 2 (smallL ls k) ((vin (voteD ls k)).kind) ((vin (voteD ls k)).round) ((vin (voteD ls k)).replica)))) rfl (by kernel_rfl) ?_
        refine wl_pure (wantsY 12 73 false rfl (by kernel_rfl) rfl (by kernel_rfl)) (d := 75) (v := (.bool (!(okV 2 (smallL ls k) ((vin (voteD ls k)).kind) ((vin (voteD ls k)).round) ((vin (voteD ls k)).replica))))) rfl (by kernel_rfl) ?_
        refine wl_pure (wantsY 12 73 false rfl (by kernel_rfl) rfl (by kernel_rfl)) (d := 76) (v := (.bool (!(okV 2 (smallL ls k) ((vin (voteD ls k)).kind) ((vin (voteD ls k)).round) ((vin (voteD ls k)).replica))))) rfl (by kernel_rfl) ?_
        refine (bsplit (!(okV 2 (smallL ls k) ((vin (voteD ls k)).kind) ((vin (voteD ls k)).round) ((vin (voteD ls k)).replica)))).elim (fun b69 => ?_) (fun b69 => ?_)
        · have g70 := bnot_true b69
          refine wl_know 76 (.bool true) (congrArg Value.bool b69) ?_
          refine wl_pure (wantsY 15 76 true rfl (by kernel_rfl) rfl (by kernel_rfl)) (d := 77) (v := (.pointer (some ⟨t15, 0, none⟩))) rfl (by kernel_rfl) ?_
          refine wl_pure (wantsY 15 76 true rfl (by kernel_rfl) rfl (by kernel_rfl)) (d := 78) (v := (.pointer (some ⟨b35, 0, none⟩))) rfl (by kernel_rfl) ?_
          refine wl_pure (wantsY 15 76 true rfl (by kernel_rfl) rfl (by kernel_rfl)) (d := 79) (v := (.int .i64 ((vin (voteD ls k)).kind))) rfl (e_load1 rfl (by kernel_rfl) (H66.cell 3 rfl (by kernel_rfl))) ?_
          refine wl_pure (wantsY 15 76 true rfl (by kernel_rfl) rfl (by kernel_rfl)) (d := 80) (v := (.pointer (some ⟨b35, 1, none⟩))) rfl (by kernel_rfl) ?_
          refine wl_pure (wantsY 15 76 true rfl (by kernel_rfl) rfl (by kernel_rfl)) (d := 81) (v := (.int .i64 ((vin (voteD ls k)).round))) rfl (e_load1 rfl (by kernel_rfl) (H66.cell 3 rfl (by kernel_rfl))) ?_
          refine wl_do (wantsY 15 76 true rfl (by kernel_rfl) rfl (by kernel_rfl)) (fun K71 hK71 => ?_)
          refine d_call (d := 82) rfl (by kernel_rfl) (talAll_any w65 t15 hb16 cb17 ab18 lb19 2 1 (addV 2 (smallL ls k) ⟨((vin (voteD ls k)).kind), ((vin (voteD ls k)).round), ((vin (voteD ls k)).replica), ((vin (voteD ls k)).h)⟩) (H66.at 2 rfl) ((vin (voteD ls k)).kind) ((vin (voteD ls k)).round)) ?_
          rintro _ w72 ⟨rfl, u74⟩
          have H73 := H66.keepU u74
          refine ⟨_, rfl, ?_⟩
          refine hK71 _ _ ?_
          clear hK71 K71
          refine wl_pure (wantsY 15 76 true rfl (by kernel_rfl) rfl (by kernel_rfl)) (d := 83) (v := (.int .i64 (allV (smallL ls k) ((vin (voteD ls k)).kind) ((vin (voteD ls k)).round)))) rfl (by kernel_rfl) ?_
          refine wl_pure (wantsY 15 76 true rfl (by kernel_rfl) rfl (by kernel_rfl)) (d := 84) (v := (.bool (!(decide ((allV (addV 2 (smallL ls k) ⟨((vin (voteD ls k)).kind), ((vin (voteD ls k)).round), ((vin (voteD ls k)).replica), ((vin (voteD ls k)).h)⟩) ((vin (voteD ls k)).kind) ((vin (voteD ls k)).round)) = (allV (smallL ls k) ((vin (voteD ls k)).kind) ((vin (voteD ls k)).round))))))) rfl (by kernel_rfl) ?_
          refine wl_pure (wantsY 12 73 false rfl (by kernel_rfl) rfl (by kernel_rfl)) (d := 85) (v := (.bool (!(decide ((allV (addV 2 (smallL ls k) ⟨((vin (voteD ls k)).kind), ((vin (voteD ls k)).round), ((vin (voteD ls k)).replica), ((vin (voteD ls k)).h)⟩) ((vin (voteD ls k)).kind) ((vin (voteD ls k)).round)) = (allV (smallL ls k) ((vin (voteD ls k)).kind) ((vin (voteD ls k)).round))))))) rfl (by kernel_rfl) ?_
          refine wl_pure (wants0 rfl) (d := 86) (v := (.bool (!(decide ((allV (addV 2 (smallL ls k) ⟨((vin (voteD ls k)).kind), ((vin (voteD ls k)).round), ((vin (voteD ls k)).replica), ((vin (voteD ls k)).h)⟩) ((vin (voteD ls k)).kind) ((vin (voteD ls k)).round)) = (allV (smallL ls k) ((vin (voteD ls k)).kind) ((vin (voteD ls k)).round))))))) rfl (by kernel_rfl) ?_
          refine wl_pure (wants0 rfl) (d := 87) (v := (.bool (!(decide ((allV (addV 2 (smallL ls k) ⟨((vin (voteD ls k)).kind), ((vin (voteD ls k)).round), ((vin (voteD ls k)).replica), ((vin (voteD ls k)).h)⟩) ((vin (voteD ls k)).kind) ((vin (voteD ls k)).round)) = (allV (smallL ls k) ((vin (voteD ls k)).kind) ((vin (voteD ls k)).round))))))) rfl (by kernel_rfl) ?_
          have b75 : (!(decide ((allV (addV 2 (smallL ls k) ⟨((vin (voteD ls k)).kind), ((vin (voteD ls k)).round), ((vin (voteD ls k)).replica), ((vin (voteD ls k)).h)⟩) ((vin (voteD ls k)).kind) ((vin (voteD ls k)).round)) = (allV (smallL ls k) ((vin (voteD ls k)).kind) ((vin (voteD ls k)).round))))) = false := by (rw [allV_no (by assumption)]; simp)
          refine wl_know 87 (.bool false) (congrArg Value.bool b75) ?_
          refine wl_pure (wantsY 26 87 false rfl (by kernel_rfl) rfl (by kernel_rfl)) (d := 88) (v := (.pointer (some ⟨t15, 0, none⟩))) rfl (by kernel_rfl) ?_
          refine wl_pure (wantsY 26 87 false rfl (by kernel_rfl) rfl (by kernel_rfl)) (d := 89) (v := (.pointer (some ⟨b35, 0, none⟩))) rfl (by kernel_rfl) ?_
          refine wl_pure (wantsY 26 87 false rfl (by kernel_rfl) rfl (by kernel_rfl)) (d := 90) (v := (.int .i64 ((vin (voteD ls k)).kind))) rfl (e_load1 rfl (by kernel_rfl) (H73.cell 3 rfl (by kernel_rfl))) ?_
          refine wl_pure (wantsY 26 87 false rfl (by kernel_rfl) rfl (by kernel_rfl)) (d := 91) (v := (.pointer (some ⟨b35, 1, none⟩))) rfl (by kernel_rfl) ?_
          refine wl_pure (wantsY 26 87 false rfl (by kernel_rfl) rfl (by kernel_rfl)) (d := 92) (v := (.int .i64 ((vin (voteD ls k)).round))) rfl (e_load1 rfl (by kernel_rfl) (H73.cell 3 rfl (by kernel_rfl))) ?_
          refine wl_pure (wantsY 26 87 false rfl (by kernel_rfl) rfl (by kernel_rfl)) (d := 93) (v := (.pointer (some ⟨b35, 2, none⟩))) rfl (by kernel_rfl) ?_
          refine wl_pure (wantsY 26 87 false rfl (by kernel_rfl) rfl (by kernel_rfl)) (d := 94) (v := (.int .i64 ((vin (voteD ls k)).replica))) rfl (e_load1 rfl (by kernel_rfl) (H73.cell 3 rfl (by kernel_rfl))) ?_
          refine wl_pure (wantsY 26 87 false rfl (by kernel_rfl) rfl (by kernel_rfl)) (d := 95) (v := (.agg ⟨(hc (hash1 (9)))⟩)) rfl (by kernel_rfl) ?_
          refine wl_do (wantsY 26 87 false rfl (by kernel_rfl) rfl (by kernel_rfl)) (fun K76 hK76 => ?_)
          refine d_call (d := 96) rfl (by kernel_rfl) (talAdd_any w72 t15 hb16 cb17 ab18 lb19 2 1 (addV 2 (smallL ls k) ⟨((vin (voteD ls k)).kind), ((vin (voteD ls k)).round), ((vin (voteD ls k)).replica), ((vin (voteD ls k)).h)⟩) (H73.at 2 rfl) ((vin (voteD ls k)).kind) ((vin (voteD ls k)).round) ((vin (voteD ls k)).replica) (hash1 (9)) (by have h1 := smallL_len ls k; exact Nat.le_trans (addV_len 2 (smallL ls k) (vin (voteD ls k))) (by omega))) ?_
          rintro _ w77 ⟨rfl, k80, u79⟩
          have H78 : Sat w [restC w (fun _ => False), cellC b2 27 ([(.int .i64 (2)), (.int .i64 (1))] : List Value), talC t15 hb16 cb17 ab18 lb19 2 1 (addV 2 (addV 2 (smallL ls k) ⟨((vin (voteD ls k)).kind), ((vin (voteD ls k)).round), ((vin (voteD ls k)).replica), ((vin (voteD ls k)).h)⟩) ⟨((vin (voteD ls k)).kind), ((vin (voteD ls k)).round), ((vin (voteD ls k)).replica), (hash1 (9))⟩), cellC b35 40 (([(.int .i64 ((vin (voteD ls k)).kind)), (.int .i64 ((vin (voteD ls k)).round)), (.int .i64 ((vin (voteD ls k)).replica))] : List Value) ++ hc (vin (voteD ls k)).h ++ ([(.bool true)] : List Value))] w77 := H73.setU u79 2 rfl (fun _ hb => hb) k80 (fun _ hb => .inl hb)
          refine ⟨_, rfl, ?_⟩
          refine hK76 _ _ ?_
          clear hK76 K76
          refine wl_pure (wants0 rfl) (d := 97) (v := (.bool (okV 2 (addV 2 (smallL ls k) ⟨((vin (voteD ls k)).kind), ((vin (voteD ls k)).round), ((vin (voteD ls k)).replica), ((vin (voteD ls k)).h)⟩) ((vin (voteD ls k)).kind) ((vin (voteD ls k)).round) ((vin (voteD ls k)).replica)))) rfl (by kernel_rfl) ?_
          refine w_nil ?_
          refine then_normal ?_
          have b81 : (okV 2 (addV 2 (smallL ls k) ⟨((vin (voteD ls k)).kind), ((vin (voteD ls k)).round), ((vin (voteD ls k)).replica), ((vin (voteD ls k)).h)⟩) ((vin (voteD ls k)).kind) ((vin (voteD ls k)).round) ((vin (voteD ls k)).replica)) = false := by exact okV_again 2 (smallL ls k) (vin (voteD ls k))
          refine wp_know 97 (.bool false) (congrArg Value.bool b81) ?_
          refine wp_iff rfl ?_
          refine w_skip ?_
          refine blk_normal ?_
          refine then_normal ?_
          refine w_lit ?_
          refine wl_pure (wants0 rfl) (d := 36) (v := (.int .i64 ((k : Int)))) rfl (by kernel_rfl) ?_
          refine wl_pure (wants0 rfl) (d := 37) (v := (.int .i64 ((k : Int) + 1))) rfl (e_int (z := (k : Int) + 1) (by kernel_rfl) (IntWalk.i64_in _ (by omega))) ?_
          refine wl_pure (wants0 rfl) (d := 6) (v := (.int .i64 ((k : Int) + 1))) rfl (by kernel_rfl) ?_
          refine w_nil ?_
          have H82 : Sat w [restC w (fun _ => False), cellC b2 27 ([(.int .i64 (2)), (.int .i64 (1))] : List Value), talC t15 hb16 cb17 ab18 lb19 2 1 (smallL ls (k + 1)), cellC b35 40 (([(.int .i64 ((vin (voteD ls k)).kind)), (.int .i64 ((vin (voteD ls k)).round)), (.int .i64 ((vin (voteD ls k)).replica))] : List Value) ++ hc (vin (voteD ls k)).h ++ ([(.bool true)] : List Value))] w77 := by have h := H78; rw [addV_again] at h; exact h
          have H83 : Sat w [restC w (fun _ => False), cellC b2 27 ([(.int .i64 (2)), (.int .i64 (1))] : List Value), talC t15 hb16 cb17 ab18 lb19 2 1 (smallL ls (k + 1))] w77 := H82.pick [0, 1, 2] (by decide)
          refine round_back ?_ _ ⟨(k + 1), (show ((.int .i64 ((k : Int) + 1)) : Value) = _ by first | rfl | go_num), by omega, H83, rfl⟩ (by omega)
          exact (same_upd rfl (same_upd rfl (same_upd rfl (same_upd rfl (same_upd rfl (same_upd rfl (same_upd rfl (same_upd rfl (same_upd rfl (same_upd rfl (same_upd rfl (same_upd rfl (same_upd rfl (same_upd rfl (same_upd rfl (same_upd rfl (same_upd rfl (same_upd rfl (same_upd rfl (same_upd rfl (same_upd rfl (same_upd rfl (same_upd rfl (same_upd rfl (same_upd rfl (same_upd rfl (same_upd rfl (same_upd rfl (same_upd rfl (same_upd rfl (same_upd rfl (same_upd rfl (same_upd rfl (same_upd rfl (same_upd rfl (same_upd rfl (same_upd rfl (same_upd rfl (same_upd rfl (same_upd rfl (same_upd rfl (same_upd rfl (same_upd rfl (same_upd rfl (same_upd rfl (same_upd rfl (same_upd rfl (same_upd rfl (same_upd rfl (same_upd rfl (same_upd rfl (same_upd rfl (same_upd rfl (same_upd rfl (same_upd rfl (same_upd rfl (same_upd rfl (same_upd rfl (same_upd rfl (same_upd rfl (same_upd rfl (same_upd rfl (same_upd rfl (same_upd rfl (same_upd rfl (same_upd rfl (same_upd rfl (same_upd rfl (same_upd rfl (same_upd rfl (same_upd rfl (same_upd rfl (same_upd rfl (same_ovr2 rfl (same_upd rfl (same_ovr))))))))))))))))))))))))))))))))))))))))))))))))))))))))))))))))))))))))))))
        · have g84 := bnot_false b69
          refine wl_know 76 (.bool false) (congrArg Value.bool b69) ?_
          refine wl_pass (wantsN 15 76 true rfl (by kernel_rfl) rfl (by kernel_rfl)) rfl ?_
          refine wl_pass (wantsN 15 76 true rfl (by kernel_rfl) rfl (by kernel_rfl)) rfl ?_
          refine wl_pass (wantsN 15 76 true rfl (by kernel_rfl) rfl (by kernel_rfl)) rfl ?_
          refine wl_pass (wantsN 15 76 true rfl (by kernel_rfl) rfl (by kernel_rfl)) rfl ?_
          refine wl_pass (wantsN 15 76 true rfl (by kernel_rfl) rfl (by kernel_rfl)) rfl ?_
          refine wl_pass (wantsN 15 76 true rfl (by kernel_rfl) rfl (by kernel_rfl)) rfl ?_
          refine wl_pass (wantsN 15 76 true rfl (by kernel_rfl) rfl (by kernel_rfl)) rfl ?_
          refine wl_pass (wantsN 15 76 true rfl (by kernel_rfl) rfl (by kernel_rfl)) rfl ?_
          refine wl_pure (wantsY 12 73 false rfl (by kernel_rfl) rfl (by kernel_rfl)) (d := 85) (v := (.bool false)) rfl (by kernel_rfl) ?_
          refine wl_pure (wants0 rfl) (d := 86) (v := (.bool false)) rfl (by kernel_rfl) ?_
          refine wl_pure (wants0 rfl) (d := 87) (v := (.bool false)) rfl (by kernel_rfl) ?_
          refine wl_pure (wantsY 26 87 false rfl (by kernel_rfl) rfl (by kernel_rfl)) (d := 88) (v := (.pointer (some ⟨t15, 0, none⟩))) rfl (by kernel_rfl) ?_
          refine wl_pure (wantsY 26 87 false rfl (by kernel_rfl) rfl (by kernel_rfl)) (d := 89) (v := (.pointer (some ⟨b35, 0, none⟩))) rfl (by kernel_rfl) ?_
          refine wl_pure (wantsY 26 87 false rfl (by kernel_rfl) rfl (by kernel_rfl)) (d := 90) (v := (.int .i64 ((vin (voteD ls k)).kind))) rfl (e_load1 rfl (by kernel_rfl) (H66.cell 3 rfl (by kernel_rfl))) ?_
          refine wl_pure (wantsY 26 87 false rfl (by kernel_rfl) rfl (by kernel_rfl)) (d := 91) (v := (.pointer (some ⟨b35, 1, none⟩))) rfl (by kernel_rfl) ?_
          refine wl_pure (wantsY 26 87 false rfl (by kernel_rfl) rfl (by kernel_rfl)) (d := 92) (v := (.int .i64 ((vin (voteD ls k)).round))) rfl (e_load1 rfl (by kernel_rfl) (H66.cell 3 rfl (by kernel_rfl))) ?_
          refine wl_pure (wantsY 26 87 false rfl (by kernel_rfl) rfl (by kernel_rfl)) (d := 93) (v := (.pointer (some ⟨b35, 2, none⟩))) rfl (by kernel_rfl) ?_
          refine wl_pure (wantsY 26 87 false rfl (by kernel_rfl) rfl (by kernel_rfl)) (d := 94) (v := (.int .i64 ((vin (voteD ls k)).replica))) rfl (e_load1 rfl (by kernel_rfl) (H66.cell 3 rfl (by kernel_rfl))) ?_
          refine wl_pure (wantsY 26 87 false rfl (by kernel_rfl) rfl (by kernel_rfl)) (d := 95) (v := (.agg ⟨(hc (hash1 (9)))⟩)) rfl (by kernel_rfl) ?_
          refine wl_do (wantsY 26 87 false rfl (by kernel_rfl) rfl (by kernel_rfl)) (fun K85 hK85 => ?_)
          refine d_call (d := 96) rfl (by kernel_rfl) (talAdd_any w65 t15 hb16 cb17 ab18 lb19 2 1 (addV 2 (smallL ls k) ⟨((vin (voteD ls k)).kind), ((vin (voteD ls k)).round), ((vin (voteD ls k)).replica), ((vin (voteD ls k)).h)⟩) (H66.at 2 rfl) ((vin (voteD ls k)).kind) ((vin (voteD ls k)).round) ((vin (voteD ls k)).replica) (hash1 (9)) (by have h1 := smallL_len ls k; exact Nat.le_trans (addV_len 2 (smallL ls k) (vin (voteD ls k))) (by omega))) ?_
          rintro _ w86 ⟨rfl, k89, u88⟩
          have H87 : Sat w [restC w (fun _ => False), cellC b2 27 ([(.int .i64 (2)), (.int .i64 (1))] : List Value), talC t15 hb16 cb17 ab18 lb19 2 1 (addV 2 (addV 2 (smallL ls k) ⟨((vin (voteD ls k)).kind), ((vin (voteD ls k)).round), ((vin (voteD ls k)).replica), ((vin (voteD ls k)).h)⟩) ⟨((vin (voteD ls k)).kind), ((vin (voteD ls k)).round), ((vin (voteD ls k)).replica), (hash1 (9))⟩), cellC b35 40 (([(.int .i64 ((vin (voteD ls k)).kind)), (.int .i64 ((vin (voteD ls k)).round)), (.int .i64 ((vin (voteD ls k)).replica))] : List Value) ++ hc (vin (voteD ls k)).h ++ ([(.bool true)] : List Value))] w86 := H66.setU u88 2 rfl (fun _ hb => hb) k89 (fun _ hb => .inl hb)
          refine ⟨_, rfl, ?_⟩
          refine hK85 _ _ ?_
          clear hK85 K85
          refine wl_pure (wants0 rfl) (d := 97) (v := (.bool (okV 2 (addV 2 (smallL ls k) ⟨((vin (voteD ls k)).kind), ((vin (voteD ls k)).round), ((vin (voteD ls k)).replica), ((vin (voteD ls k)).h)⟩) ((vin (voteD ls k)).kind) ((vin (voteD ls k)).round) ((vin (voteD ls k)).replica)))) rfl (by kernel_rfl) ?_
          refine w_nil ?_
          refine then_normal ?_
          have b90 : (okV 2 (addV 2 (smallL ls k) ⟨((vin (voteD ls k)).kind), ((vin (voteD ls k)).round), ((vin (voteD ls k)).replica), ((vin (voteD ls k)).h)⟩) ((vin (voteD ls k)).kind) ((vin (voteD ls k)).round) ((vin (voteD ls k)).replica)) = false := by exact okV_again 2 (smallL ls k) (vin (voteD ls k))
          refine wp_know 97 (.bool false) (congrArg Value.bool b90) ?_
          refine wp_iff rfl ?_
          refine w_skip ?_
          refine blk_normal ?_
          refine then_normal ?_
          refine w_lit ?_
          refine wl_pure (wants0 rfl) (d := 36) (v := (.int .i64 ((k : Int)))) rfl (by kernel_rfl) ?_
          refine wl_pure (wants0 rfl) (d := 37) (v := (.int .i64 ((k : Int) + 1))) rfl (e_int (z := (k : Int) + 1) (by kernel_rfl) (IntWalk.i64_in _ (by omega))) ?_
          refine wl_pure (wants0 rfl) (d := 6) (v := (.int .i64 ((k : Int) + 1))) rfl (by kernel_rfl) ?_
          refine w_nil ?_
          have H91 : Sat w [restC w (fun _ => False), cellC b2 27 ([(.int .i64 (2)), (.int .i64 (1))] : List Value), talC t15 hb16 cb17 ab18 lb19 2 1 (smallL ls (k + 1)), cellC b35 40 (([(.int .i64 ((vin (voteD ls k)).kind)), (.int .i64 ((vin (voteD ls k)).round)), (.int .i64 ((vin (voteD ls k)).replica))] : List Value) ++ hc (vin (voteD ls k)).h ++ ([(.bool true)] : List Value))] w86 := by have h := H87; rw [addV_again] at h; exact h
          have H92 : Sat w [restC w (fun _ => False), cellC b2 27 ([(.int .i64 (2)), (.int .i64 (1))] : List Value), talC t15 hb16 cb17 ab18 lb19 2 1 (smallL ls (k + 1))] w86 := H91.pick [0, 1, 2] (by decide)
          refine round_back ?_ _ ⟨(k + 1), (show ((.int .i64 ((k : Int) + 1)) : Value) = _ by first | rfl | go_num), by omega, H92, rfl⟩ (by omega)
          exact (same_upd rfl (same_upd rfl (same_upd rfl (same_upd rfl (same_upd rfl (same_upd rfl (same_upd rfl (same_upd rfl (same_upd rfl (same_upd rfl (same_upd rfl (same_upd rfl (same_upd rfl (same_upd rfl (same_upd rfl (same_upd rfl (same_upd rfl (same_upd rfl (same_upd rfl (same_upd rfl (same_upd rfl (same_upd rfl (same_upd rfl (same_upd rfl (same_upd rfl (same_upd rfl (same_upd rfl (same_upd rfl (same_upd rfl (same_upd rfl (same_upd rfl (same_upd rfl (same_upd rfl (same_upd rfl (same_upd rfl (same_upd rfl (same_upd rfl (same_upd rfl (same_upd rfl (same_upd rfl (same_upd rfl (same_upd rfl (same_upd rfl (same_upd rfl (same_upd rfl (same_upd rfl (same_upd rfl (same_upd rfl (same_upd rfl (same_upd rfl (same_upd rfl (same_upd rfl (same_upd rfl (same_upd rfl (same_upd rfl (same_upd rfl (same_upd rfl (same_upd rfl (same_upd rfl (same_upd rfl (same_upd rfl (same_upd rfl (same_upd rfl (same_upd rfl (same_upd rfl (same_upd rfl (same_upd rfl (same_upd rfl (same_upd rfl (same_upd rfl (same_upd rfl (same_upd rfl (same_ovr2 rfl (same_upd rfl (same_ovr)))))))))))))))))))))))))))))))))))))))))))))))))))))))))))))))))))))))))))
      · refine wl_know 62 (.bool false) (congrArg Value.bool b63) ?_
        refine wl_pass (wantsN 1 62 true rfl (by kernel_rfl) rfl (by kernel_rfl)) rfl ?_
        refine wl_pass (wantsN 1 62 true rfl (by kernel_rfl) rfl (by kernel_rfl)) rfl ?_
        refine wl_pass (wantsN 1 62 true rfl (by kernel_rfl) rfl (by kernel_rfl)) rfl ?_
        refine wl_pass (wantsN 1 62 true rfl (by kernel_rfl) rfl (by kernel_rfl)) rfl ?_
        refine wl_pass (wantsN 1 62 true rfl (by kernel_rfl) rfl (by kernel_rfl)) rfl ?_
        refine wl_pass (wantsN 1 62 true rfl (by kernel_rfl) rfl (by kernel_rfl)) rfl ?_
        refine wl_pass (wantsN 1 62 true rfl (by kernel_rfl) rfl (by kernel_rfl)) rfl ?_
        refine wl_pass (wantsN 1 62 true rfl (by kernel_rfl) rfl (by kernel_rfl)) rfl ?_
        refine wl_pass (wantsN 1 62 true rfl (by kernel_rfl) rfl (by kernel_rfl)) rfl ?_
        refine wl_pure (wants0 rfl) (d := 72) (v := (.bool false)) rfl (by kernel_rfl) ?_
        refine wl_pure (wants0 rfl) (d := 73) (v := (.bool false)) rfl (by kernel_rfl) ?_
        refine wl_pure (wantsY 12 73 false rfl (by kernel_rfl) rfl (by kernel_rfl)) (d := 74) (v := (.bool (okV 2 (smallL ls k) ((vin (voteD ls k)).kind) ((vin (voteD ls k)).round) ((vin (voteD ls k)).replica)))) rfl (by kernel_rfl) ?_
        refine wl_pure (wantsY 12 73 false rfl (by kernel_rfl) rfl (by kernel_rfl)) (d := 75) (v := (.bool (!(okV 2 (smallL ls k) ((vin (voteD ls k)).kind) ((vin (voteD ls k)).round) ((vin (voteD ls k)).replica))))) rfl (by kernel_rfl) ?_
        refine wl_pure (wantsY 12 73 false rfl (by kernel_rfl) rfl (by kernel_rfl)) (d := 76) (v := (.bool (!(okV 2 (smallL ls k) ((vin (voteD ls k)).kind) ((vin (voteD ls k)).round) ((vin (voteD ls k)).replica))))) rfl (by kernel_rfl) ?_
        refine (bsplit (!(okV 2 (smallL ls k) ((vin (voteD ls k)).kind) ((vin (voteD ls k)).round) ((vin (voteD ls k)).replica)))).elim (fun b93 => ?_) (fun b93 => ?_)
        · have g94 := bnot_true b93
          refine wl_know 76 (.bool true) (congrArg Value.bool b93) ?_
          refine wl_pure (wantsY 15 76 true rfl (by kernel_rfl) rfl (by kernel_rfl)) (d := 77) (v := (.pointer (some ⟨t15, 0, none⟩))) rfl (by kernel_rfl) ?_
          refine wl_pure (wantsY 15 76 true rfl (by kernel_rfl) rfl (by kernel_rfl)) (d := 78) (v := (.pointer (some ⟨b35, 0, none⟩))) rfl (by kernel_rfl) ?_
          refine wl_pure (wantsY 15 76 true rfl (by kernel_rfl) rfl (by kernel_rfl)) (d := 79) (v := (.int .i64 ((vin (voteD ls k)).kind))) rfl (e_load1 rfl (by kernel_rfl) (H60.cell 3 rfl (by kernel_rfl))) ?_
          refine wl_pure (wantsY 15 76 true rfl (by kernel_rfl) rfl (by kernel_rfl)) (d := 80) (v := (.pointer (some ⟨b35, 1, none⟩))) rfl (by kernel_rfl) ?_
          refine wl_pure (wantsY 15 76 true rfl (by kernel_rfl) rfl (by kernel_rfl)) (d := 81) (v := (.int .i64 ((vin (voteD ls k)).round))) rfl (e_load1 rfl (by kernel_rfl) (H60.cell 3 rfl (by kernel_rfl))) ?_
          refine wl_do (wantsY 15 76 true rfl (by kernel_rfl) rfl (by kernel_rfl)) (fun K95 hK95 => ?_)
          refine d_call (d := 82) rfl (by kernel_rfl) (talAll_any w59 t15 hb16 cb17 ab18 lb19 2 1 (addV 2 (smallL ls k) ⟨((vin (voteD ls k)).kind), ((vin (voteD ls k)).round), ((vin (voteD ls k)).replica), ((vin (voteD ls k)).h)⟩) (H60.at 2 rfl) ((vin (voteD ls k)).kind) ((vin (voteD ls k)).round)) ?_
          rintro _ w96 ⟨rfl, u98⟩
          have H97 := H60.keepU u98
          refine ⟨_, rfl, ?_⟩
          refine hK95 _ _ ?_
          clear hK95 K95
          refine wl_pure (wantsY 15 76 true rfl (by kernel_rfl) rfl (by kernel_rfl)) (d := 83) (v := (.int .i64 (allV (smallL ls k) ((vin (voteD ls k)).kind) ((vin (voteD ls k)).round)))) rfl (by kernel_rfl) ?_
          refine wl_pure (wantsY 15 76 true rfl (by kernel_rfl) rfl (by kernel_rfl)) (d := 84) (v := (.bool (!(decide ((allV (addV 2 (smallL ls k) ⟨((vin (voteD ls k)).kind), ((vin (voteD ls k)).round), ((vin (voteD ls k)).replica), ((vin (voteD ls k)).h)⟩) ((vin (voteD ls k)).kind) ((vin (voteD ls k)).round)) = (allV (smallL ls k) ((vin (voteD ls k)).kind) ((vin (voteD ls k)).round))))))) rfl (by kernel_rfl) ?_
          refine wl_pure (wantsY 12 73 false rfl (by kernel_rfl) rfl (by kernel_rfl)) (d := 85) (v := (.bool (!(decide ((allV (addV 2 (smallL ls k) ⟨((vin (voteD ls k)).kind), ((vin (voteD ls k)).round), ((vin (voteD ls k)).replica), ((vin (voteD ls k)).h)⟩) ((vin (voteD ls k)).kind) ((vin (voteD ls k)).round)) = (allV (smallL ls k) ((vin (voteD ls k)).kind) ((vin (voteD ls k)).round))))))) rfl (by kernel_rfl) ?_
          refine wl_pure (wants0 rfl) (d := 86) (v := (.bool (!(decide ((allV (addV 2 (smallL ls k) ⟨((vin (voteD ls k)).kind), ((vin (voteD ls k)).round), ((vin (voteD ls k)).replica), ((vin (voteD ls k)).h)⟩) ((vin (voteD ls k)).kind) ((vin (voteD ls k)).round)) = (allV (smallL ls k) ((vin (voteD ls k)).kind) ((vin (voteD ls k)).round))))))) rfl (by kernel_rfl) ?_
          refine wl_pure (wants0 rfl) (d := 87) (v := (.bool (!(decide ((allV (addV 2 (smallL ls k) ⟨((vin (voteD ls k)).kind), ((vin (voteD ls k)).round), ((vin (voteD ls k)).replica), ((vin (voteD ls k)).h)⟩) ((vin (voteD ls k)).kind) ((vin (voteD ls k)).round)) = (allV (smallL ls k) ((vin (voteD ls k)).kind) ((vin (voteD ls k)).round))))))) rfl (by kernel_rfl) ?_
          have b99 : (!(decide ((allV (addV 2 (smallL ls k) ⟨((vin (voteD ls k)).kind), ((vin (voteD ls k)).round), ((vin (voteD ls k)).replica), ((vin (voteD ls k)).h)⟩) ((vin (voteD ls k)).kind) ((vin (voteD ls k)).round)) = (allV (smallL ls k) ((vin (voteD ls k)).kind) ((vin (voteD ls k)).round))))) = false := by (rw [allV_no (by assumption)]; simp)
          refine wl_know 87 (.bool false) (congrArg Value.bool b99) ?_
          refine wl_pure (wantsY 26 87 false rfl (by kernel_rfl) rfl (by kernel_rfl)) (d := 88) (v := (.pointer (some ⟨t15, 0, none⟩))) rfl (by kernel_rfl) ?_
          refine wl_pure (wantsY 26 87 false rfl (by kernel_rfl) rfl (by kernel_rfl)) (d := 89) (v := (.pointer (some ⟨b35, 0, none⟩))) rfl (by kernel_rfl) ?_
          refine wl_pure (wantsY 26 87 false rfl (by kernel_rfl) rfl (by kernel_rfl)) (d := 90) (v := (.int .i64 ((vin (voteD ls k)).kind))) rfl (e_load1 rfl (by kernel_rfl) (H97.cell 3 rfl (by kernel_rfl))) ?_
          refine wl_pure (wantsY 26 87 false rfl (by kernel_rfl) rfl (by kernel_rfl)) (d := 91) (v := (.pointer (some ⟨b35, 1, none⟩))) rfl (by kernel_rfl) ?_
          refine wl_pure (wantsY 26 87 false rfl (by kernel_rfl) rfl (by kernel_rfl)) (d := 92) (v := (.int .i64 ((vin (voteD ls k)).round))) rfl (e_load1 rfl (by kernel_rfl) (H97.cell 3 rfl (by kernel_rfl))) ?_
          refine wl_pure (wantsY 26 87 false rfl (by kernel_rfl) rfl (by kernel_rfl)) (d := 93) (v := (.pointer (some ⟨b35, 2, none⟩))) rfl (by kernel_rfl) ?_
          refine wl_pure (wantsY 26 87 false rfl (by kernel_rfl) rfl (by kernel_rfl)) (d := 94) (v := (.int .i64 ((vin (voteD ls k)).replica))) rfl (e_load1 rfl (by kernel_rfl) (H97.cell 3 rfl (by kernel_rfl))) ?_
          refine wl_pure (wantsY 26 87 false rfl (by kernel_rfl) rfl (by kernel_rfl)) (d := 95) (v := (.agg ⟨(hc (hash1 (9)))⟩)) rfl (by kernel_rfl) ?_
          refine wl_do (wantsY 26 87 false rfl (by kernel_rfl) rfl (by kernel_rfl)) (fun K100 hK100 => ?_)
          refine d_call (d := 96) rfl (by kernel_rfl) (talAdd_any w96 t15 hb16 cb17 ab18 lb19 2 1 (addV 2 (smallL ls k) ⟨((vin (voteD ls k)).kind), ((vin (voteD ls k)).round), ((vin (voteD ls k)).replica), ((vin (voteD ls k)).h)⟩) (H97.at 2 rfl) ((vin (voteD ls k)).kind) ((vin (voteD ls k)).round) ((vin (voteD ls k)).replica) (hash1 (9)) (by have h1 := smallL_len ls k; exact Nat.le_trans (addV_len 2 (smallL ls k) (vin (voteD ls k))) (by omega))) ?_
          rintro _ w101 ⟨rfl, k104, u103⟩
          have H102 : Sat w [restC w (fun _ => False), cellC b2 27 ([(.int .i64 (2)), (.int .i64 (1))] : List Value), talC t15 hb16 cb17 ab18 lb19 2 1 (addV 2 (addV 2 (smallL ls k) ⟨((vin (voteD ls k)).kind), ((vin (voteD ls k)).round), ((vin (voteD ls k)).replica), ((vin (voteD ls k)).h)⟩) ⟨((vin (voteD ls k)).kind), ((vin (voteD ls k)).round), ((vin (voteD ls k)).replica), (hash1 (9))⟩), cellC b35 40 (([(.int .i64 ((vin (voteD ls k)).kind)), (.int .i64 ((vin (voteD ls k)).round)), (.int .i64 ((vin (voteD ls k)).replica))] : List Value) ++ hc (vin (voteD ls k)).h ++ ([(.bool true)] : List Value))] w101 := H97.setU u103 2 rfl (fun _ hb => hb) k104 (fun _ hb => .inl hb)
          refine ⟨_, rfl, ?_⟩
          refine hK100 _ _ ?_
          clear hK100 K100
          refine wl_pure (wants0 rfl) (d := 97) (v := (.bool (okV 2 (addV 2 (smallL ls k) ⟨((vin (voteD ls k)).kind), ((vin (voteD ls k)).round), ((vin (voteD ls k)).replica), ((vin (voteD ls k)).h)⟩) ((vin (voteD ls k)).kind) ((vin (voteD ls k)).round) ((vin (voteD ls k)).replica)))) rfl (by kernel_rfl) ?_
          refine w_nil ?_
          refine then_normal ?_
          have b105 : (okV 2 (addV 2 (smallL ls k) ⟨((vin (voteD ls k)).kind), ((vin (voteD ls k)).round), ((vin (voteD ls k)).replica), ((vin (voteD ls k)).h)⟩) ((vin (voteD ls k)).kind) ((vin (voteD ls k)).round) ((vin (voteD ls k)).replica)) = false := by exact okV_again 2 (smallL ls k) (vin (voteD ls k))
          refine wp_know 97 (.bool false) (congrArg Value.bool b105) ?_
          refine wp_iff rfl ?_
          refine w_skip ?_
          refine blk_normal ?_
          refine then_normal ?_
          refine w_lit ?_
          refine wl_pure (wants0 rfl) (d := 36) (v := (.int .i64 ((k : Int)))) rfl (by kernel_rfl) ?_
          refine wl_pure (wants0 rfl) (d := 37) (v := (.int .i64 ((k : Int) + 1))) rfl (e_int (z := (k : Int) + 1) (by kernel_rfl) (IntWalk.i64_in _ (by omega))) ?_
          refine wl_pure (wants0 rfl) (d := 6) (v := (.int .i64 ((k : Int) + 1))) rfl (by kernel_rfl) ?_
          refine w_nil ?_
          have H106 : Sat w [restC w (fun _ => False), cellC b2 27 ([(.int .i64 (2)), (.int .i64 (1))] : List Value), talC t15 hb16 cb17 ab18 lb19 2 1 (smallL ls (k + 1)), cellC b35 40 (([(.int .i64 ((vin (voteD ls k)).kind)), (.int .i64 ((vin (voteD ls k)).round)), (.int .i64 ((vin (voteD ls k)).replica))] : List Value) ++ hc (vin (voteD ls k)).h ++ ([(.bool true)] : List Value))] w101 := by have h := H102; rw [addV_again] at h; exact h
          have H107 : Sat w [restC w (fun _ => False), cellC b2 27 ([(.int .i64 (2)), (.int .i64 (1))] : List Value), talC t15 hb16 cb17 ab18 lb19 2 1 (smallL ls (k + 1))] w101 := H106.pick [0, 1, 2] (by decide)
          refine round_back ?_ _ ⟨(k + 1), (show ((.int .i64 ((k : Int) + 1)) : Value) = _ by first | rfl | go_num), by omega, H107, rfl⟩ (by omega)
          exact (same_upd rfl (same_upd rfl (same_upd rfl (same_upd rfl (same_upd rfl (same_upd rfl (same_upd rfl (same_upd rfl (same_upd rfl (same_upd rfl (same_upd rfl (same_upd rfl (same_upd rfl (same_upd rfl (same_upd rfl (same_upd rfl (same_upd rfl (same_upd rfl (same_upd rfl (same_upd rfl (same_upd rfl (same_upd rfl (same_upd rfl (same_upd rfl (same_upd rfl (same_upd rfl (same_upd rfl (same_upd rfl (same_upd rfl (same_upd rfl (same_upd rfl (same_upd rfl (same_upd rfl (same_upd rfl (same_upd rfl (same_upd rfl (same_upd rfl (same_upd rfl (same_upd rfl (same_upd rfl (same_upd rfl (same_upd rfl (same_upd rfl (same_upd rfl (same_upd rfl (same_upd rfl (same_upd rfl (same_upd rfl (same_upd rfl (same_upd rfl (same_upd rfl (same_upd rfl (same_upd rfl (same_upd rfl (same_upd rfl (same_upd rfl (same_upd rfl (same_upd rfl (same_upd rfl (same_upd rfl (same_upd rfl (same_upd rfl (same_upd rfl (same_upd rfl (same_upd rfl (same_upd rfl (same_upd rfl (same_upd rfl (same_upd rfl (same_upd rfl (same_upd rfl (same_upd rfl (same_ovr2 rfl (same_upd rfl (same_ovr)))))))))))))))))))))))))))))))))))))))))))))))))))))))))))))))))))))))))))
        · have g108 := bnot_false b93
          refine wl_know 76 (.bool false) (congrArg Value.bool b93) ?_
          refine wl_pass (wantsN 15 76 true rfl (by kernel_rfl) rfl (by kernel_rfl)) rfl ?_
          refine wl_pass (wantsN 15 76 true rfl (by kernel_rfl) rfl (by kernel_rfl)) rfl ?_
          refine wl_pass (wantsN 15 76 true rfl (by kernel_rfl) rfl (by kernel_rfl)) rfl ?_
          refine wl_pass (wantsN 15 76 true rfl (by kernel_rfl) rfl (by kernel_rfl)) rfl ?_
          refine wl_pass (wantsN 15 76 true rfl (by kernel_rfl) rfl (by kernel_rfl)) rfl ?_
          refine wl_pass (wantsN 15 76 true rfl (by kernel_rfl) rfl (by kernel_rfl)) rfl ?_
          refine wl_pass (wantsN 15 76 true rfl (by kernel_rfl) rfl (by kernel_rfl)) rfl ?_
          refine wl_pass (wantsN 15 76 true rfl (by kernel_rfl) rfl (by kernel_rfl)) rfl ?_
          refine wl_pure (wantsY 12 73 false rfl (by kernel_rfl) rfl (by kernel_rfl)) (d := 85) (v := (.bool false)) rfl (by kernel_rfl) ?_
          refine wl_pure (wants0 rfl) (d := 86) (v := (.bool false)) rfl (by kernel_rfl) ?_
          refine wl_pure (wants0 rfl) (d := 87) (v := (.bool false)) rfl (by kernel_rfl) ?_
          refine wl_pure (wantsY 26 87 false rfl (by kernel_rfl) rfl (by kernel_rfl)) (d := 88) (v := (.pointer (some ⟨t15, 0, none⟩))) rfl (by kernel_rfl) ?_
          refine wl_pure (wantsY 26 87 false rfl (by kernel_rfl) rfl (by kernel_rfl)) (d := 89) (v := (.pointer (some ⟨b35, 0, none⟩))) rfl (by kernel_rfl) ?_
          refine wl_pure (wantsY 26 87 false rfl (by kernel_rfl) rfl (by kernel_rfl)) (d := 90) (v := (.int .i64 ((vin (voteD ls k)).kind))) rfl (e_load1 rfl (by kernel_rfl) (H60.cell 3 rfl (by kernel_rfl))) ?_
          refine wl_pure (wantsY 26 87 false rfl (by kernel_rfl) rfl (by kernel_rfl)) (d := 91) (v := (.pointer (some ⟨b35, 1, none⟩))) rfl (by kernel_rfl) ?_
          refine wl_pure (wantsY 26 87 false rfl (by kernel_rfl) rfl (by kernel_rfl)) (d := 92) (v := (.int .i64 ((vin (voteD ls k)).round))) rfl (e_load1 rfl (by kernel_rfl) (H60.cell 3 rfl (by kernel_rfl))) ?_
          refine wl_pure (wantsY 26 87 false rfl (by kernel_rfl) rfl (by kernel_rfl)) (d := 93) (v := (.pointer (some ⟨b35, 2, none⟩))) rfl (by kernel_rfl) ?_
          refine wl_pure (wantsY 26 87 false rfl (by kernel_rfl) rfl (by kernel_rfl)) (d := 94) (v := (.int .i64 ((vin (voteD ls k)).replica))) rfl (e_load1 rfl (by kernel_rfl) (H60.cell 3 rfl (by kernel_rfl))) ?_
          refine wl_pure (wantsY 26 87 false rfl (by kernel_rfl) rfl (by kernel_rfl)) (d := 95) (v := (.agg ⟨(hc (hash1 (9)))⟩)) rfl (by kernel_rfl) ?_
          refine wl_do (wantsY 26 87 false rfl (by kernel_rfl) rfl (by kernel_rfl)) (fun K109 hK109 => ?_)
          refine d_call (d := 96) rfl (by kernel_rfl) (talAdd_any w59 t15 hb16 cb17 ab18 lb19 2 1 (addV 2 (smallL ls k) ⟨((vin (voteD ls k)).kind), ((vin (voteD ls k)).round), ((vin (voteD ls k)).replica), ((vin (voteD ls k)).h)⟩) (H60.at 2 rfl) ((vin (voteD ls k)).kind) ((vin (voteD ls k)).round) ((vin (voteD ls k)).replica) (hash1 (9)) (by have h1 := smallL_len ls k; exact Nat.le_trans (addV_len 2 (smallL ls k) (vin (voteD ls k))) (by omega))) ?_
          rintro _ w110 ⟨rfl, k113, u112⟩
          have H111 : Sat w [restC w (fun _ => False), cellC b2 27 ([(.int .i64 (2)), (.int .i64 (1))] : List Value), talC t15 hb16 cb17 ab18 lb19 2 1 (addV 2 (addV 2 (smallL ls k) ⟨((vin (voteD ls k)).kind), ((vin (voteD ls k)).round), ((vin (voteD ls k)).replica), ((vin (voteD ls k)).h)⟩) ⟨((vin (voteD ls k)).kind), ((vin (voteD ls k)).round), ((vin (voteD ls k)).replica), (hash1 (9))⟩), cellC b35 40 (([(.int .i64 ((vin (voteD ls k)).kind)), (.int .i64 ((vin (voteD ls k)).round)), (.int .i64 ((vin (voteD ls k)).replica))] : List Value) ++ hc (vin (voteD ls k)).h ++ ([(.bool true)] : List Value))] w110 := H60.setU u112 2 rfl (fun _ hb => hb) k113 (fun _ hb => .inl hb)
          refine ⟨_, rfl, ?_⟩
          refine hK109 _ _ ?_
          clear hK109 K109
          refine wl_pure (wants0 rfl) (d := 97) (v := (.bool (okV 2 (addV 2 (smallL ls k) ⟨((vin (voteD ls k)).kind), ((vin (voteD ls k)).round), ((vin (voteD ls k)).replica), ((vin (voteD ls k)).h)⟩) ((vin (voteD ls k)).kind) ((vin (voteD ls k)).round) ((vin (voteD ls k)).replica)))) rfl (by kernel_rfl) ?_
          refine w_nil ?_
          refine then_normal ?_
          have b114 : (okV 2 (addV 2 (smallL ls k) ⟨((vin (voteD ls k)).kind), ((vin (voteD ls k)).round), ((vin (voteD ls k)).replica), ((vin (voteD ls k)).h)⟩) ((vin (voteD ls k)).kind) ((vin (voteD ls k)).round) ((vin (voteD ls k)).replica)) = false := by exact okV_again 2 (smallL ls k) (vin (voteD ls k))
          refine wp_know 97 (.bool false) (congrArg Value.bool b114) ?_
          refine wp_iff rfl ?_
          refine w_skip ?_
          refine blk_normal ?_
          refine then_normal ?_
          refine w_lit ?_
          refine wl_pure (wants0 rfl) (d := 36) (v := (.int .i64 ((k : Int)))) rfl (by kernel_rfl) ?_
          refine wl_pure (wants0 rfl) (d := 37) (v := (.int .i64 ((k : Int) + 1))) rfl (e_int (z := (k : Int) + 1) (by kernel_rfl) (IntWalk.i64_in _ (by omega))) ?_
          refine wl_pure (wants0 rfl) (d := 6) (v := (.int .i64 ((k : Int) + 1))) rfl (by kernel_rfl) ?_
          refine w_nil ?_
          have H115 : Sat w [restC w (fun _ => False), cellC b2 27 ([(.int .i64 (2)), (.int .i64 (1))] : List Value), talC t15 hb16 cb17 ab18 lb19 2 1 (smallL ls (k + 1)), cellC b35 40 (([(.int .i64 ((vin (voteD ls k)).kind)), (.int .i64 ((vin (voteD ls k)).round)), (.int .i64 ((vin (voteD ls k)).replica))] : List Value) ++ hc (vin (voteD ls k)).h ++ ([(.bool true)] : List Value))] w110 := by have h := H111; rw [addV_again] at h; exact h
          have H116 : Sat w [restC w (fun _ => False), cellC b2 27 ([(.int .i64 (2)), (.int .i64 (1))] : List Value), talC t15 hb16 cb17 ab18 lb19 2 1 (smallL ls (k + 1))] w110 := H115.pick [0, 1, 2] (by decide)
          refine round_back ?_ _ ⟨(k + 1), (show ((.int .i64 ((k : Int) + 1)) : Value) = _ by first | rfl | go_num), by omega, H116, rfl⟩ (by omega)
          exact (same_upd rfl (same_upd rfl (same_upd rfl (same_upd rfl (same_upd rfl (same_upd rfl (same_upd rfl (same_upd rfl (same_upd rfl (same_upd rfl (same_upd rfl (same_upd rfl (same_upd rfl (same_upd rfl (same_upd rfl (same_upd rfl (same_upd rfl (same_upd rfl (same_upd rfl (same_upd rfl (same_upd rfl (same_upd rfl (same_upd rfl (same_upd rfl (same_upd rfl (same_upd rfl (same_upd rfl (same_upd rfl (same_upd rfl (same_upd rfl (same_upd rfl (same_upd rfl (same_upd rfl (same_upd rfl (same_upd rfl (same_upd rfl (same_upd rfl (same_upd rfl (same_upd rfl (same_upd rfl (same_upd rfl (same_upd rfl (same_upd rfl (same_upd rfl (same_upd rfl (same_upd rfl (same_upd rfl (same_upd rfl (same_upd rfl (same_upd rfl (same_upd rfl (same_upd rfl (same_upd rfl (same_upd rfl (same_upd rfl (same_upd rfl (same_upd rfl (same_upd rfl (same_upd rfl (same_upd rfl (same_upd rfl (same_upd rfl (same_upd rfl (same_upd rfl (same_upd rfl (same_upd rfl (same_upd rfl (same_upd rfl (same_upd rfl (same_upd rfl (same_upd rfl (same_ovr2 rfl (same_upd rfl (same_ovr))))))))))))))))))))))))))))))))))))))))))))))))))))))))))))))))))))))))))
    · refine wp_know 35 (.bool false) (congrArg Value.bool b33) ?_
      refine wp_iff rfl ?_
      refine w_exit ?_
      refine then_exit ?_
      refine back_exit ?_
      refine blk_hit ?_
      refine then_normal ?_
      refine w_seq ?_
      refine w_seq ?_
      refine w_lit ?_
      refine wl_pure (wants0 rfl) (d := 10) (v := (.int .i64 (1))) rfl (by kernel_rfl) ?_
      refine w_nil ?_
      refine then_normal ?_
      refine w_block ?_
      refine wp_round [2, 10, 11, 12, 13, 14, 15, 98, 99, 100, 101, 102, 103, 104, 105, 106, 107, 108, 109, 110, 111, 112, 113, 114, 115, 116, 117, 118, 119, 120, 121, 122, 123, 124, 125, 126, 127, 128, 129, 130, 131, 132, 133, 134, 135, 136, 137, 138, 139, 140, 141, 142, 143, 144, 145, 146, 147, 148, 149, 150, 151, 152, 153, 154, 155, 156, 157, 158, 159, 160, 161, 162, 163, 164, 165, 166, 167, 168, 169, 170, 171, 172, 173, 174, 175, 176, 177, 178, 179, 180, 181, 182, 183] (fun F_ W_ m_ => ∃ (kd : Nat), F_ 10 = (.int .i64 ((kd : Int))) ∧ (1 ≤ kd ∧ kd ≤ 3) ∧ Sat w [restC w (fun _ => False), cellC b2 27 ([(.int .i64 (2)), (.int .i64 (1))] : List Value), talC t15 hb16 cb17 ab18 lb19 2 1 (smallL ls k)] W_ ∧ m_ = 3 - kd) _ ⟨1, (by first | rfl | go_num), by omega, H31, rfl⟩ ?_
      rintro g117 w118 _ ⟨kd, v120, hkd, H119, rfl⟩
      refine wp_know 10 _ v120 ?_
      refine w_seq ?_
      refine w_seq ?_
      refine w_lit ?_
      refine wl_pure (wants0 rfl) (d := 98) (v := (.int .i64 ((kd : Int)))) rfl (by kernel_rfl) ?_
      refine wl_pure (wants0 rfl) (d := 99) (v := (.bool (decide ((kd : Int) ≤ 2)))) rfl (by kernel_rfl) ?_
      refine w_nil ?_
      refine then_normal ?_
      refine (bsplit (decide ((kd : Int) ≤ 2))).elim (fun b122 => ?_) (fun b122 => ?_)
      · have g123 := of_decide_eq_true b122
        refine wp_know 99 (.bool true) (congrArg Value.bool b122) ?_
        refine wp_ift rfl ?_
        refine w_skip ?_
        refine then_normal ?_
        refine w_seq ?_
        refine w_block ?_
        refine w_seq ?_
        refine w_lit ?_
        refine wl_pure (wants0 rfl) (d := 11) (v := (.int .i64 (0))) rfl (by kernel_rfl) ?_
        refine w_nil ?_
        refine then_normal ?_
        refine w_block ?_
        refine wp_round [2, 11, 12, 13, 14, 15, 102, 103, 104, 105, 106, 107, 108, 109, 110, 111, 112, 113, 114, 115, 116, 117, 118, 119, 120, 121, 122, 123, 124, 125, 126, 127, 128, 129, 130, 131, 132, 133, 134, 135, 136, 137, 138, 139, 140, 141, 142, 143, 144, 145, 146, 147, 148, 149, 150, 151, 152, 153, 154, 155, 156, 157, 158, 159, 160, 161, 162, 163, 164, 165, 166, 167, 168, 169, 170, 171, 172, 173, 174, 175, 176, 177, 178, 179, 180, 181, 182, 183] (fun F_ W_ m_ => ∃ (r : Nat), F_ 11 = (.int .i64 ((r : Int))) ∧ (r ≤ 4) ∧ Sat w [restC w (fun _ => False), cellC b2 27 ([(.int .i64 (2)), (.int .i64 (1))] : List Value), talC t15 hb16 cb17 ab18 lb19 2 1 (smallL ls k)] W_ ∧ m_ = 4 - r) _ ⟨0, (by first | rfl | go_num), by omega, H119, rfl⟩ ?_
        rintro g124 w125 _ ⟨r, v127, hr, H126, rfl⟩
        refine wp_know 11 _ v127 ?_
        refine w_seq ?_
        refine w_seq ?_
        refine w_lit ?_
        refine wl_pure (wants0 rfl) (d := 102) (v := (.int .i64 ((r : Int)))) rfl (by kernel_rfl) ?_
        refine wl_pure (wants0 rfl) (d := 103) (v := (.bool (decide ((r : Int) < 4)))) rfl (by kernel_rfl) ?_
        refine w_nil ?_
        refine then_normal ?_
        refine (bsplit (decide ((r : Int) < 4))).elim (fun b129 => ?_) (fun b129 => ?_)
        · have g130 := of_decide_eq_true b129
          refine wp_know 103 (.bool true) (congrArg Value.bool b129) ?_
          refine wp_ift rfl ?_
          refine w_skip ?_
          refine then_normal ?_
          refine w_seq ?_
          refine w_block ?_
          refine w_seq ?_
          refine w_lit ?_
          refine wl_pure (wants0 rfl) (d := 12) (v := (.int .i64 (0))) rfl (by kernel_rfl) ?_
          refine w_nil ?_
          refine then_normal ?_
          refine w_seq ?_
          refine w_seq ?_
          refine w_lit ?_
          refine wl_pure (wants0 rfl) (d := 13) (v := (.int .i64 (0))) rfl (by kernel_rfl) ?_
          refine w_nil ?_
          refine then_normal ?_
          refine w_block ?_
          refine wp_round [12, 13, 106, 107, 108, 109, 110, 111, 112, 113, 114, 115, 116, 117, 118] (fun F_ W_ m_ => ∃ (j : Nat), F_ 13 = (.int .i64 ((j : Int))) ∧ F_ 12 = (.int .i64 (sumH (smallL ls k) (kd : Int) (r : Int) j)) ∧ (j ≤ 3) ∧ Sat w [restC w (fun _ => False), cellC b2 27 ([(.int .i64 (2)), (.int .i64 (1))] : List Value), talC t15 hb16 cb17 ab18 lb19 2 1 (smallL ls k)] W_ ∧ m_ = 3 - j) _ ⟨0, (by first | rfl | go_num), (by first | rfl | go_num), by omega, H126, rfl⟩ ?_
          rintro g131 w132 _ ⟨j, v134, v135, hj, H133, rfl⟩
          refine wp_know 13 _ v134 ?_
          refine wp_know 12 _ v135 ?_
          refine w_seq ?_
          refine w_seq ?_
          refine w_lit ?_
          refine wl_pure (wants0 rfl) (d := 106) (v := (.int .i64 ((j : Int)))) rfl (by kernel_rfl) ?_
          refine wl_pure (wants0 rfl) (d := 107) (v := (.bool (decide ((j : Int) < 3)))) rfl (by kernel_rfl) ?_
          refine w_nil ?_
          refine then_normal ?_
          refine (bsplit (decide ((j : Int) < 3))).elim (fun b137 => ?_) (fun b137 => ?_)
          · have g138 := of_decide_eq_true b137
            refine wp_know 107 (.bool true) (congrArg Value.bool b137) ?_
            refine wp_ift rfl ?_
            refine w_skip ?_
            refine then_normal ?_
            refine w_seq ?_
            refine w_block ?_
            refine w_lit ?_
            refine wl_pure (wants0 rfl) (d := 110) (v := (.int .i64 (sumH (smallL ls k) (kd : Int) (r : Int) j))) rfl (by kernel_rfl) ?_
            refine wl_pure (wants0 rfl) (d := 111) (v := (.pointer (some ⟨t15, 0, none⟩))) rfl (by kernel_rfl) ?_
            refine wl_pure (wants0 rfl) (d := 112) (v := (.int .i64 ((kd : Int)))) rfl (by kernel_rfl) ?_
            refine wl_pure (wants0 rfl) (d := 113) (v := (.int .i64 ((r : Int)))) rfl (by kernel_rfl) ?_
            refine wl_pure (wants0 rfl) (d := 114) (v := (.int .i64 ((j : Int)))) rfl (by kernel_rfl) ?_
            refine wl_pure (wants0 rfl) (d := 115) (v := (.int .u8 (((UInt8.ofNat j).toNat : Int)))) rfl (e_int (z := (j : Int)) (by kernel_rfl) ((by exact u8_ofNat j))) ?_
            refine wl_pure (wants0 rfl) (d := 116) (v := (.agg ⟨(hc (hash1 (UInt8.ofNat j)))⟩)) rfl (by kernel_rfl) ?_
            refine wl_do (wants0 rfl) (fun K139 hK139 => ?_)
            refine d_call (d := 117) rfl (by kernel_rfl) (talFor_any w132 t15 hb16 cb17 ab18 lb19 2 1 (smallL ls k) (H133.at 2 rfl) (kd : Int) (r : Int) (hash1 (UInt8.ofNat j))) ?_
            rintro _ w140 ⟨rfl, u142⟩
            have H141 := H133.keepU u142
            refine ⟨_, rfl, ?_⟩
            refine hK139 _ _ ?_
            clear hK139 K139
            refine wl_pure (wants0 rfl) (d := 118) (v := (.int .i64 ((sumH (smallL ls k) (kd : Int) (r : Int) j) + (forV (smallL ls k) (kd : Int) (r : Int) (hash1 (UInt8.ofNat j)))))) rfl (e_int (z := (sumH (smallL ls k) (kd : Int) (r : Int) j) + (forV (smallL ls k) (kd : Int) (r : Int) (hash1 (UInt8.ofNat j)))) (by kernel_rfl) (IntWalk.i64_in _ (by have h0 := sumH_bd (smallL ls k) kd r j (by omega); have h1 := forV_bd (smallL ls k) kd r (hash1 (UInt8.ofNat j)); have h2 := smallL_len ls k; omega))) ?_
            refine wl_pure (wants0 rfl) (d := 12) (v := (.int .i64 ((sumH (smallL ls k) (kd : Int) (r : Int) j) + (forV (smallL ls k) (kd : Int) (r : Int) (hash1 (UInt8.ofNat j)))))) rfl (by kernel_rfl) ?_
            refine w_nil ?_
            refine blk_normal ?_
            refine then_normal ?_
            refine w_lit ?_
            refine wl_pure (wants0 rfl) (d := 108) (v := (.int .i64 ((j : Int)))) rfl (by kernel_rfl) ?_
            refine wl_pure (wants0 rfl) (d := 109) (v := (.int .i64 ((j : Int) + 1))) rfl (e_int (z := (j : Int) + 1) (by kernel_rfl) (IntWalk.i64_in _ (by omega))) ?_
            refine wl_pure (wants0 rfl) (d := 13) (v := (.int .i64 ((j : Int) + 1))) rfl (by kernel_rfl) ?_
            refine w_nil ?_
            refine round_back ?_ _ ⟨(j + 1), (show ((.int .i64 ((j : Int) + 1)) : Value) = _ by first | rfl | go_num), (show ((.int .i64 ((sumH (smallL ls k) (kd : Int) (r : Int) j) + (forV (smallL ls k) (kd : Int) (r : Int) (hash1 (UInt8.ofNat j))))) : Value) = _ by first | rfl | go_num), by omega, H141, rfl⟩ (by omega)
            exact (same_upd rfl (same_upd rfl (same_upd rfl (same_upd rfl (same_upd rfl (same_upd rfl (same_upd rfl (same_upd rfl (same_upd rfl (same_upd rfl (same_upd rfl (same_upd rfl (same_upd rfl (same_upd rfl (same_upd rfl (same_upd rfl (same_upd rfl (same_upd rfl (same_ovr)))))))))))))))))))
          · have g143 := of_decide_eq_false b137
            refine wp_know 107 (.bool false) (congrArg Value.bool b137) ?_
            refine wp_iff rfl ?_
            refine w_exit ?_
            refine then_exit ?_
            refine back_exit ?_
            refine blk_hit ?_
            refine then_normal ?_
            refine w_seq ?_
            refine w_lit ?_
            refine wl_pure (wants0 rfl) (d := 120) (v := (.pointer (some ⟨t15, 0, none⟩))) rfl (by kernel_rfl) ?_
            refine wl_pure (wants0 rfl) (d := 121) (v := (.int .i64 ((kd : Int)))) rfl (by kernel_rfl) ?_
            refine wl_pure (wants0 rfl) (d := 122) (v := (.int .i64 ((r : Int)))) rfl (by kernel_rfl) ?_
            refine wl_do (wants0 rfl) (fun K144 hK144 => ?_)
            refine d_call (d := 123) rfl (by kernel_rfl) (talMost_any w132 t15 hb16 cb17 ab18 lb19 2 1 (smallL ls k) (H133.at 2 rfl) (kd : Int) (r : Int)) ?_
            rintro _ w145 ⟨h148, n149, q150, rfl, u147⟩
            have H146 := H133.keepU u147
            refine ⟨_, rfl, ?_⟩
            refine hK144 _ _ ?_
            clear hK144 K144
            refine wl_pure (wants0 rfl) (d := 119) (v := (.tuple #[(.agg ⟨(hc h148)⟩), (.int .i64 (n149))])) rfl (by kernel_rfl) ?_
            refine wl_pure (wants0 rfl) (d := 124) (v := (.agg ⟨(hc h148)⟩)) rfl (by kernel_rfl) ?_
            refine wl_pure (wants0 rfl) (d := 125) (v := (.int .i64 (n149))) rfl (by kernel_rfl) ?_
            refine wl_do (wants0 rfl) (fun K151 hK151 => ?_)
            refine d_alloc (zs := (hc hash0)) (z := (.agg ⟨(hc hash0)⟩)) rfl H146 (by kernel_rfl) (by kernel_rfl) ?_
            intro b152 w153 (H154 : Sat w [restC w (fun _ => False), cellC b2 27 ([(.int .i64 (2)), (.int .i64 (1))] : List Value), talC t15 hb16 cb17 ab18 lb19 2 1 (smallL ls k), cellC b152 24 (hc hash0)] w153)
            refine hK151 _ _ ?_
            clear hK151 K151
            refine wl_do (wants0 rfl) (fun K155 hK155 => ?_)
            refine d_store (vs := (hc h148)) rfl H154 3 rfl rfl rfl rfl (by kernel_rfl) (Nat.le_of_ble_eq_true (by kernel_rfl)) (Nat.le_of_ble_eq_true (by kernel_rfl)) (by kernel_rfl) ?_
            intro w156 (H157 : Sat w [restC w (fun _ => False), cellC b2 27 ([(.int .i64 (2)), (.int .i64 (1))] : List Value), talC t15 hb16 cb17 ab18 lb19 2 1 (smallL ls k), cellC b152 24 (hc h148)] w156)
            refine hK155 _ _ ?_
            clear hK155 K155
            refine wl_pure (wants0 rfl) (d := 15) (v := (.int .i64 (n149))) rfl (by kernel_rfl) ?_
            refine w_nil ?_
            refine then_normal ?_
            refine w_seq ?_
            refine w_lit ?_
            refine wl_pure (wants0 rfl) (d := 126) (v := (.int .i64 (sumH (smallL ls k) (kd : Int) (r : Int) j))) rfl (by kernel_rfl) ?_
            refine wl_pure (wants0 rfl) (d := 127) (v := (.pointer (some ⟨t15, 0, none⟩))) rfl (by kernel_rfl) ?_
            refine wl_pure (wants0 rfl) (d := 128) (v := (.int .i64 ((kd : Int)))) rfl (by kernel_rfl) ?_
            refine wl_pure (wants0 rfl) (d := 129) (v := (.int .i64 ((r : Int)))) rfl (by kernel_rfl) ?_
            refine wl_do (wants0 rfl) (fun K159 hK159 => ?_)
            refine d_call (d := 130) rfl (by kernel_rfl) (talAll_any w156 t15 hb16 cb17 ab18 lb19 2 1 (smallL ls k) (H157.at 2 rfl) (kd : Int) (r : Int)) ?_
            rintro _ w160 ⟨rfl, u162⟩
            have H161 := H157.keepU u162
            refine ⟨_, rfl, ?_⟩
            refine hK159 _ _ ?_
            clear hK159 K159
            refine wl_pure (wants0 rfl) (d := 131) (v := (.bool (!(decide ((sumH (smallL ls k) (kd : Int) (r : Int) j) = (allV (smallL ls k) (kd : Int) (r : Int))))))) rfl (by kernel_rfl) ?_
            refine wl_pure (wants0 rfl) (d := 132) (v := (.bool (!(decide ((sumH (smallL ls k) (kd : Int) (r : Int) j) = (allV (smallL ls k) (kd : Int) (r : Int))))))) rfl (by kernel_rfl) ?_
            have b163 : (!(decide ((sumH (smallL ls k) (kd : Int) (r : Int) j) = (allV (smallL ls k) (kd : Int) (r : Int))))) = false := by (obtain rfl : j = 3 := (by omega); rw [sumH_3 (smallL_h ls k)]; simp)
            refine wl_know 132 (.bool false) (congrArg Value.bool b163) ?_
            refine wl_pure (wantsY 6 132 false rfl (by kernel_rfl) rfl (by kernel_rfl)) (d := 133) (v := (.int .i64 (sumH (smallL ls k) (kd : Int) (r : Int) j))) rfl (by kernel_rfl) ?_
            refine wl_pure (wantsY 6 132 false rfl (by kernel_rfl) rfl (by kernel_rfl)) (d := 134) (v := (.agg ⟨([(.int .i64 (2)), (.int .i64 (1))] : List Value)⟩)) rfl (e_loadN (vs := ([(.int .i64 (2)), (.int .i64 (1))] : List Value)) rfl (by kernel_rfl) (by kernel_rfl) (by exact Nat.le_of_ble_eq_true (by kernel_rfl)) (H161.at 1 rfl) (by kernel_rfl)) ?_
            refine wl_do (wantsY 6 132 false rfl (by kernel_rfl) rfl (by kernel_rfl)) (fun K164 hK164 => ?_)
            refine d_call (d := 135) rfl (by kernel_rfl) (refN_any w160 2 1 (by omega)) ?_
            rintro _ w165 ⟨rfl, u167⟩
            have H166 := H161.keepU u167
            refine ⟨_, rfl, ?_⟩
            refine hK164 _ _ ?_
            clear hK164 K164
            refine wl_pure (wantsY 6 132 false rfl (by kernel_rfl) rfl (by kernel_rfl)) (d := 136) (v := (.bool (decide ((sumH (smallL ls k) (kd : Int) (r : Int) j) > (3 * 2 + 1))))) rfl (by kernel_rfl) ?_
            refine wl_pure (wants0 rfl) (d := 137) (v := (.bool (decide ((sumH (smallL ls k) (kd : Int) (r : Int) j) > (3 * 2 + 1))))) rfl (by kernel_rfl) ?_
            refine wl_pure (wants0 rfl) (d := 138) (v := (.bool (decide ((sumH (smallL ls k) (kd : Int) (r : Int) j) > (3 * 2 + 1))))) rfl (by kernel_rfl) ?_
            have b168 : (decide ((sumH (smallL ls k) (kd : Int) (r : Int) j) > (3 * 2 + 1))) = false := by (obtain rfl : j = 3 := (by omega); have h1 := sumH_3 (smallL_h ls k) (kd : Int) (r : Int); have h2 := all_heard (smallL_inv ls k) (kd : Int) (r : Int); have h3 := heard_le (f := 2) (by omega) (smallL ls k) (r : Int); rw [decide_eq_false_iff_not]; omega)
            refine wl_know 138 (.bool false) (congrArg Value.bool b168) ?_
            refine wl_pure (wantsY 12 138 false rfl (by kernel_rfl) rfl (by kernel_rfl)) (d := 139) (v := (.int .i64 (n149))) rfl (by kernel_rfl) ?_
            refine wl_pure (wantsY 12 138 false rfl (by kernel_rfl) rfl (by kernel_rfl)) (d := 140) (v := (.bool (decide (n149 > 0)))) rfl (by kernel_rfl) ?_
            refine wl_pure (wantsY 12 138 false rfl (by kernel_rfl) rfl (by kernel_rfl)) (d := 141) (v := (.bool (decide (n149 > 0)))) rfl (by kernel_rfl) ?_
            refine (bsplit (decide (n149 > 0))).elim (fun b169 => ?_) (fun b169 => ?_)
            · have g170 := of_decide_eq_true b169
              refine wl_know 141 (.bool true) (congrArg Value.bool b169) ?_
              refine wl_pure (wantsY 15 141 true rfl (by kernel_rfl) rfl (by kernel_rfl)) (d := 142) (v := (.pointer (some ⟨t15, 0, none⟩))) rfl (by kernel_rfl) ?_
              refine wl_pure (wantsY 15 141 true rfl (by kernel_rfl) rfl (by kernel_rfl)) (d := 143) (v := (.int .i64 ((kd : Int)))) rfl (by kernel_rfl) ?_
              refine wl_pure (wantsY 15 141 true rfl (by kernel_rfl) rfl (by kernel_rfl)) (d := 144) (v := (.int .i64 ((r : Int)))) rfl (by kernel_rfl) ?_
              refine wl_pure (wantsY 15 141 true rfl (by kernel_rfl) rfl (by kernel_rfl)) (d := 145) (v := (.agg ⟨(hc h148)⟩)) rfl (e_loadN (vs := (hc h148)) rfl (by kernel_rfl) (by kernel_rfl) (by exact Nat.le_of_ble_eq_true (by kernel_rfl)) (H166.at 3 rfl) (by kernel_rfl)) ?_
              refine wl_do (wantsY 15 141 true rfl (by kernel_rfl) rfl (by kernel_rfl)) (fun K171 hK171 => ?_)
              refine d_call (d := 146) rfl (by kernel_rfl) (talFor_any w165 t15 hb16 cb17 ab18 lb19 2 1 (smallL ls k) (H166.at 2 rfl) (kd : Int) (r : Int) h148) ?_
              rintro _ w172 ⟨rfl, u174⟩
              have H173 := H166.keepU u174
              refine ⟨_, rfl, ?_⟩
              refine hK171 _ _ ?_
              clear hK171 K171
              refine wl_pure (wantsY 15 141 true rfl (by kernel_rfl) rfl (by kernel_rfl)) (d := 147) (v := (.int .i64 (n149))) rfl (by kernel_rfl) ?_
              refine wl_pure (wantsY 15 141 true rfl (by kernel_rfl) rfl (by kernel_rfl)) (d := 148) (v := (.bool (!(decide ((forV (smallL ls k) (kd : Int) (r : Int) h148) = n149))))) rfl (by kernel_rfl) ?_
              refine wl_pure (wantsY 12 138 false rfl (by kernel_rfl) rfl (by kernel_rfl)) (d := 149) (v := (.bool (!(decide ((forV (smallL ls k) (kd : Int) (r : Int) h148) = n149))))) rfl (by kernel_rfl) ?_
              refine wl_pure (wants0 rfl) (d := 150) (v := (.bool (!(decide ((forV (smallL ls k) (kd : Int) (r : Int) h148) = n149))))) rfl (by kernel_rfl) ?_
              refine wl_pure (wants0 rfl) (d := 151) (v := (.bool (!(decide ((forV (smallL ls k) (kd : Int) (r : Int) h148) = n149))))) rfl (by kernel_rfl) ?_
              have b175 : (!(decide ((forV (smallL ls k) (kd : Int) (r : Int) h148) = n149))) = false := by (rw [most_pos q150 (by assumption)]; simp)
              refine wl_know 151 (.bool false) (congrArg Value.bool b175) ?_
              refine wl_pure (wantsY 25 151 false rfl (by kernel_rfl) rfl (by kernel_rfl)) (d := 152) (v := (.int .i64 (n149))) rfl (by kernel_rfl) ?_
              refine wl_pure (wantsY 25 151 false rfl (by kernel_rfl) rfl (by kernel_rfl)) (d := 153) (v := (.bool (decide (n149 = 0)))) rfl (by kernel_rfl) ?_
              refine wl_pure (wantsY 25 151 false rfl (by kernel_rfl) rfl (by kernel_rfl)) (d := 154) (v := (.bool (decide (n149 = 0)))) rfl (by kernel_rfl) ?_
              refine (bsplit (decide (n149 = 0))).elim (fun b176 => ?_) (fun b176 => ?_)
              · have g177 := of_decide_eq_true b176
                refine wl_know 154 (.bool true) (congrArg Value.bool b176) ?_
                refine wl_pure (wantsY 28 154 true rfl (by kernel_rfl) rfl (by kernel_rfl)) (d := 155) (v := (.int .i64 (sumH (smallL ls k) (kd : Int) (r : Int) j))) rfl (by kernel_rfl) ?_
                refine wl_pure (wantsY 28 154 true rfl (by kernel_rfl) rfl (by kernel_rfl)) (d := 156) (v := (.bool (!(decide ((sumH (smallL ls k) (kd : Int) (r : Int) j) = 0))))) rfl (by kernel_rfl) ?_
                refine wl_pure (wantsY 28 154 true rfl (by kernel_rfl) rfl (by kernel_rfl)) (d := 157) (v := (.bool (!(decide ((sumH (smallL ls k) (kd : Int) (r : Int) j) = 0))))) rfl (by kernel_rfl) ?_
                have b178 : (!(decide ((sumH (smallL ls k) (kd : Int) (r : Int) j) = 0))) = false := by (obtain rfl : j = 3 := (by omega); rw [sumH_3 (smallL_h ls k), (most_zero (smallL_h ls k) q150 (by assumption)).1]; simp)
                refine wl_know 157 (.bool false) (congrArg Value.bool b178) ?_
                refine wl_pure (wantsY 31 157 false rfl (by kernel_rfl) rfl (by kernel_rfl)) (d := 158) (v := (.agg ⟨(hc h148)⟩)) rfl (e_loadN (vs := (hc h148)) rfl (by kernel_rfl) (by kernel_rfl) (by exact Nat.le_of_ble_eq_true (by kernel_rfl)) (H173.at 3 rfl) (by kernel_rfl)) ?_
                refine wl_pure (wantsY 31 157 false rfl (by kernel_rfl) rfl (by kernel_rfl)) (d := 159) (v := (.agg ⟨(hc hash0)⟩)) rfl (by kernel_rfl) ?_
                refine wl_pure (wantsY 31 157 false rfl (by kernel_rfl) rfl (by kernel_rfl)) (d := 160) (v := (.bool (!(decide (h148 = hash0))))) rfl (e_neHash h148 hash0 rfl rfl) ?_
                refine wl_pure (wantsY 28 154 true rfl (by kernel_rfl) rfl (by kernel_rfl)) (d := 161) (v := (.bool (!(decide (h148 = hash0))))) rfl (by kernel_rfl) ?_
                refine wl_pure (wantsY 25 151 false rfl (by kernel_rfl) rfl (by kernel_rfl)) (d := 162) (v := (.bool (!(decide (h148 = hash0))))) rfl (by kernel_rfl) ?_
                refine wl_pure (wants0 rfl) (d := 163) (v := (.bool (!(decide (h148 = hash0))))) rfl (by kernel_rfl) ?_
                refine wl_pure (wants0 rfl) (d := 164) (v := (.bool (!(decide (h148 = hash0))))) rfl (by kernel_rfl) ?_
                have b179 : (!(decide (h148 = hash0))) = false := by (rw [(most_zero (smallL_h ls k) q150 (by assumption)).2]; simp)
                refine wl_know 164 (.bool false) (congrArg Value.bool b179) ?_
                refine wl_pure (wantsY 38 164 false rfl (by kernel_rfl) rfl (by kernel_rfl)) (d := 165) (v := (.pointer (some ⟨t15, 0, none⟩))) rfl (by kernel_rfl) ?_
                refine wl_pure (wantsY 38 164 false rfl (by kernel_rfl) rfl (by kernel_rfl)) (d := 166) (v := (.int .i64 ((r : Int)))) rfl (by kernel_rfl) ?_
                refine wl_pure (wantsY 38 164 false rfl (by kernel_rfl) rfl (by kernel_rfl)) (d := 167) (v := (.int .i64 ((r : Int) + 1))) rfl (e_int (z := (r : Int) + 1) (by kernel_rfl) (IntWalk.i64_in _ (by omega))) ?_
                refine wl_do (wantsY 38 164 false rfl (by kernel_rfl) rfl (by kernel_rfl)) (fun K180 hK180 => ?_)
                refine d_call (d := 168) rfl (by kernel_rfl) (talHeard_any w172 t15 hb16 cb17 ab18 lb19 2 1 (smallL ls k) (H173.at 2 rfl) ((r : Int) + 1)) ?_
                rintro _ w181 ⟨rfl, u183⟩
                have H182 := H173.keepU u183
                refine ⟨_, rfl, ?_⟩
                refine hK180 _ _ ?_
                clear hK180 K180
                refine wl_pure (wantsY 38 164 false rfl (by kernel_rfl) rfl (by kernel_rfl)) (d := 169) (v := (.pointer (some ⟨t15, 0, none⟩))) rfl (by kernel_rfl) ?_
                refine wl_pure (wantsY 38 164 false rfl (by kernel_rfl) rfl (by kernel_rfl)) (d := 170) (v := (.int .i64 ((r : Int)))) rfl (by kernel_rfl) ?_
                refine wl_do (wantsY 38 164 false rfl (by kernel_rfl) rfl (by kernel_rfl)) (fun K184 hK184 => ?_)
                refine d_call (d := 171) rfl (by kernel_rfl) (talHeard_any w181 t15 hb16 cb17 ab18 lb19 2 1 (smallL ls k) (H182.at 2 rfl) (r : Int)) ?_
                rintro _ w185 ⟨rfl, u187⟩
                have H186 := H182.keepU u187
                refine ⟨_, rfl, ?_⟩
                refine hK184 _ _ ?_
                clear hK184 K184
                refine wl_pure (wantsY 38 164 false rfl (by kernel_rfl) rfl (by kernel_rfl)) (d := 172) (v := (.bool (decide ((heardV 2 (smallL ls k) ((r : Int) + 1)) > (heardV 2 (smallL ls k) (r : Int)))))) rfl (by kernel_rfl) ?_
                refine wl_pure (wants0 rfl) (d := 173) (v := (.bool (decide ((heardV 2 (smallL ls k) ((r : Int) + 1)) > (heardV 2 (smallL ls k) (r : Int)))))) rfl (by kernel_rfl) ?_
                refine wl_pure (wants0 rfl) (d := 174) (v := (.bool (decide ((heardV 2 (smallL ls k) ((r : Int) + 1)) > (heardV 2 (smallL ls k) (r : Int)))))) rfl (by kernel_rfl) ?_
                have b188 : (decide ((heardV 2 (smallL ls k) ((r : Int) + 1)) > (heardV 2 (smallL ls k) (r : Int)))) = false := by (have := heard_mono 2 (smallL ls k) (r : Int) ((r : Int) + 1) (by omega); rw [decide_eq_false_iff_not]; omega)
                refine wl_know 174 (.bool false) (congrArg Value.bool b188) ?_
                refine wl_pure (wantsY 48 174 false rfl (by kernel_rfl) rfl (by kernel_rfl)) (d := 175) (v := (.pointer (some ⟨t15, 0, none⟩))) rfl (by kernel_rfl) ?_
                refine wl_pure (wantsY 48 174 false rfl (by kernel_rfl) rfl (by kernel_rfl)) (d := 176) (v := (.int .i64 ((kd : Int)))) rfl (by kernel_rfl) ?_
                refine wl_pure (wantsY 48 174 false rfl (by kernel_rfl) rfl (by kernel_rfl)) (d := 177) (v := (.int .i64 ((r : Int)))) rfl (by kernel_rfl) ?_
                refine wl_do (wantsY 48 174 false rfl (by kernel_rfl) rfl (by kernel_rfl)) (fun K189 hK189 => ?_)
                refine d_call (d := 178) rfl (by kernel_rfl) (talAll_any w185 t15 hb16 cb17 ab18 lb19 2 1 (smallL ls k) (H186.at 2 rfl) (kd : Int) (r : Int)) ?_
                rintro _ w190 ⟨rfl, u192⟩
                have H191 := H186.keepU u192
                refine ⟨_, rfl, ?_⟩
                refine hK189 _ _ ?_
                clear hK189 K189
                refine wl_pure (wantsY 48 174 false rfl (by kernel_rfl) rfl (by kernel_rfl)) (d := 179) (v := (.pointer (some ⟨t15, 0, none⟩))) rfl (by kernel_rfl) ?_
                refine wl_pure (wantsY 48 174 false rfl (by kernel_rfl) rfl (by kernel_rfl)) (d := 180) (v := (.int .i64 ((r : Int)))) rfl (by kernel_rfl) ?_
                refine wl_do (wantsY 48 174 false rfl (by kernel_rfl) rfl (by kernel_rfl)) (fun K193 hK193 => ?_)
                refine d_call (d := 181) rfl (by kernel_rfl) (talHeard_any w190 t15 hb16 cb17 ab18 lb19 2 1 (smallL ls k) (H191.at 2 rfl) (r : Int)) ?_
                rintro _ w194 ⟨rfl, u196⟩
                have H195 := H191.keepU u196
                refine ⟨_, rfl, ?_⟩
                refine hK193 _ _ ?_
                clear hK193 K193
                refine wl_pure (wantsY 48 174 false rfl (by kernel_rfl) rfl (by kernel_rfl)) (d := 182) (v := (.bool (decide ((allV (smallL ls k) (kd : Int) (r : Int)) > (heardV 2 (smallL ls k) (r : Int)))))) rfl (by kernel_rfl) ?_
                refine wl_pure (wants0 rfl) (d := 183) (v := (.bool (decide ((allV (smallL ls k) (kd : Int) (r : Int)) > (heardV 2 (smallL ls k) (r : Int)))))) rfl (by kernel_rfl) ?_
                refine w_nil ?_
                refine then_normal ?_
                have b197 : (decide ((allV (smallL ls k) (kd : Int) (r : Int)) > (heardV 2 (smallL ls k) (r : Int)))) = false := by (have := all_heard (smallL_inv ls k) (kd : Int) (r : Int); rw [decide_eq_false_iff_not]; omega)
                refine wp_know 183 (.bool false) (congrArg Value.bool b197) ?_
                refine wp_iff rfl ?_
                refine w_skip ?_
                refine blk_normal ?_
                refine then_normal ?_
                refine w_lit ?_
                refine wl_pure (wants0 rfl) (d := 104) (v := (.int .i64 ((r : Int)))) rfl (by kernel_rfl) ?_
                refine wl_pure (wants0 rfl) (d := 105) (v := (.int .i64 ((r : Int) + 1))) rfl (e_int (z := (r : Int) + 1) (by kernel_rfl) (IntWalk.i64_in _ (by omega))) ?_
                refine wl_pure (wants0 rfl) (d := 11) (v := (.int .i64 ((r : Int) + 1))) rfl (by kernel_rfl) ?_
                refine w_nil ?_
                have H198 : Sat w [restC w (fun _ => False), cellC b2 27 ([(.int .i64 (2)), (.int .i64 (1))] : List Value), talC t15 hb16 cb17 ab18 lb19 2 1 (smallL ls k)] w194 := H195.pick [0, 1, 2] (by decide)
                refine round_back ?_ _ ⟨(r + 1), (show ((.int .i64 ((r : Int) + 1)) : Value) = _ by first | rfl | go_num), by omega, H198, rfl⟩ (by omega)
                exact (same_upd rfl (same_upd rfl (same_upd rfl (same_upd rfl (same_upd rfl (same_upd rfl (same_upd rfl (same_upd rfl (same_upd rfl (same_upd rfl (same_upd rfl (same_upd rfl (same_upd rfl (same_upd rfl (same_upd rfl (same_upd rfl (same_upd rfl (same_upd rfl (same_upd rfl (same_upd rfl (same_upd rfl (same_upd rfl (same_upd rfl (same_upd rfl (same_upd rfl (same_upd rfl (same_upd rfl (same_upd rfl (same_upd rfl (same_upd rfl (same_upd rfl (same_upd rfl (same_upd rfl (same_upd rfl (same_upd rfl (same_upd rfl (same_upd rfl (same_upd rfl (same_upd rfl (same_upd rfl (same_upd rfl (same_upd rfl (same_upd rfl (same_upd rfl (same_upd rfl (same_upd rfl (same_upd rfl (same_upd rfl (same_upd rfl (same_upd rfl (same_upd rfl (same_upd rfl (same_upd rfl (same_upd rfl (same_upd rfl (same_upd rfl (same_upd rfl (same_upd rfl (same_upd rfl (same_upd rfl (same_upd rfl (same_upd rfl (same_upd rfl (same_upd rfl (same_upd rfl (same_upd rfl (same_upd rfl (same_upd rfl (same_upd rfl (same_upd rfl (same_upd rfl (same_upd rfl (same_upd rfl (same_upd rfl (same_upd rfl (same_upd rfl (same_upd rfl (same_upd rfl (same_upd rfl (same_upd rfl (same_upd rfl (same_upd rfl (same_upd rfl (same_upd rfl (same_ovr2 rfl (same_upd rfl (same_upd rfl (same_upd rfl (same_upd rfl (same_upd rfl (same_upd rfl (same_ovr))))))))))))))))))))))))))))))))))))))))))))))))))))))))))))))))))))))))))))))))))))))))))))
              · have g199 := of_decide_eq_false b176
                refine wl_know 154 (.bool false) (congrArg Value.bool b176) ?_
                refine wl_pass (wantsN 28 154 true rfl (by kernel_rfl) rfl (by kernel_rfl)) rfl ?_
                refine wl_pass (wantsN 28 154 true rfl (by kernel_rfl) rfl (by kernel_rfl)) rfl ?_
                refine wl_pass (wantsN 28 154 true rfl (by kernel_rfl) rfl (by kernel_rfl)) rfl ?_
                refine wl_pass (wantsU 31 157 false rfl (by kernel_rfl) rfl (by kernel_rfl)) rfl ?_
                refine wl_pass (wantsU 31 157 false rfl (by kernel_rfl) rfl (by kernel_rfl)) rfl ?_
                refine wl_pass (wantsU 31 157 false rfl (by kernel_rfl) rfl (by kernel_rfl)) rfl ?_
                refine wl_pass (wantsN 28 154 true rfl (by kernel_rfl) rfl (by kernel_rfl)) rfl ?_
                refine wl_pure (wantsY 25 151 false rfl (by kernel_rfl) rfl (by kernel_rfl)) (d := 162) (v := (.bool false)) rfl (by kernel_rfl) ?_
                refine wl_pure (wants0 rfl) (d := 163) (v := (.bool false)) rfl (by kernel_rfl) ?_
                refine wl_pure (wants0 rfl) (d := 164) (v := (.bool false)) rfl (by kernel_rfl) ?_
                refine wl_pure (wantsY 38 164 false rfl (by kernel_rfl) rfl (by kernel_rfl)) (d := 165) (v := (.pointer (some ⟨t15, 0, none⟩))) rfl (by kernel_rfl) ?_
                refine wl_pure (wantsY 38 164 false rfl (by kernel_rfl) rfl (by kernel_rfl)) (d := 166) (v := (.int .i64 ((r : Int)))) rfl (by kernel_rfl) ?_
                refine wl_pure (wantsY 38 164 false rfl (by kernel_rfl) rfl (by kernel_rfl)) (d := 167) (v := (.int .i64 ((r : Int) + 1))) rfl (e_int (z := (r : Int) + 1) (by kernel_rfl) (IntWalk.i64_in _ (by omega))) ?_
                refine wl_do (wantsY 38 164 false rfl (by kernel_rfl) rfl (by kernel_rfl)) (fun K200 hK200 => ?_)
                refine d_call (d := 168) rfl (by kernel_rfl) (talHeard_any w172 t15 hb16 cb17 ab18 lb19 2 1 (smallL ls k) (H173.at 2 rfl) ((r : Int) + 1)) ?_
                rintro _ w201 ⟨rfl, u203⟩
                have H202 := H173.keepU u203
                refine ⟨_, rfl, ?_⟩
                refine hK200 _ _ ?_
                clear hK200 K200
                refine wl_pure (wantsY 38 164 false rfl (by kernel_rfl) rfl (by kernel_rfl)) (d := 169) (v := (.pointer (some ⟨t15, 0, none⟩))) rfl (by kernel_rfl) ?_
                refine wl_pure (wantsY 38 164 false rfl (by kernel_rfl) rfl (by kernel_rfl)) (d := 170) (v := (.int .i64 ((r : Int)))) rfl (by kernel_rfl) ?_
                refine wl_do (wantsY 38 164 false rfl (by kernel_rfl) rfl (by kernel_rfl)) (fun K204 hK204 => ?_)
                refine d_call (d := 171) rfl (by kernel_rfl) (talHeard_any w201 t15 hb16 cb17 ab18 lb19 2 1 (smallL ls k) (H202.at 2 rfl) (r : Int)) ?_
                rintro _ w205 ⟨rfl, u207⟩
                have H206 := H202.keepU u207
                refine ⟨_, rfl, ?_⟩
                refine hK204 _ _ ?_
                clear hK204 K204
                refine wl_pure (wantsY 38 164 false rfl (by kernel_rfl) rfl (by kernel_rfl)) (d := 172) (v := (.bool (decide ((heardV 2 (smallL ls k) ((r : Int) + 1)) > (heardV 2 (smallL ls k) (r : Int)))))) rfl (by kernel_rfl) ?_
                refine wl_pure (wants0 rfl) (d := 173) (v := (.bool (decide ((heardV 2 (smallL ls k) ((r : Int) + 1)) > (heardV 2 (smallL ls k) (r : Int)))))) rfl (by kernel_rfl) ?_
                refine wl_pure (wants0 rfl) (d := 174) (v := (.bool (decide ((heardV 2 (smallL ls k) ((r : Int) + 1)) > (heardV 2 (smallL ls k) (r : Int)))))) rfl (by kernel_rfl) ?_
                have b208 : (decide ((heardV 2 (smallL ls k) ((r : Int) + 1)) > (heardV 2 (smallL ls k) (r : Int)))) = false := by (have := heard_mono 2 (smallL ls k) (r : Int) ((r : Int) + 1) (by omega); rw [decide_eq_false_iff_not]; omega)
                refine wl_know 174 (.bool false) (congrArg Value.bool b208) ?_
                refine wl_pure (wantsY 48 174 false rfl (by kernel_rfl) rfl (by kernel_rfl)) (d := 175) (v := (.pointer (some ⟨t15, 0, none⟩))) rfl (by kernel_rfl) ?_
                refine wl_pure (wantsY 48 174 false rfl (by kernel_rfl) rfl (by kernel_rfl)) (d := 176) (v := (.int .i64 ((kd : Int)))) rfl (by kernel_rfl) ?_
                refine wl_pure (wantsY 48 174 false rfl (by kernel_rfl) rfl (by kernel_rfl)) (d := 177) (v := (.int .i64 ((r : Int)))) rfl (by kernel_rfl) ?_
                refine wl_do (wantsY 48 174 false rfl (by kernel_rfl) rfl (by kernel_rfl)) (fun K209 hK209 => ?_)
                refine d_call (d := 178) rfl (by kernel_rfl) (talAll_any w205 t15 hb16 cb17 ab18 lb19 2 1 (smallL ls k) (H206.at 2 rfl) (kd : Int) (r : Int)) ?_
                rintro _ w210 ⟨rfl, u212⟩
                have H211 := H206.keepU u212
                refine ⟨_, rfl, ?_⟩
                refine hK209 _ _ ?_
                clear hK209 K209
                refine wl_pure (wantsY 48 174 false rfl (by kernel_rfl) rfl (by kernel_rfl)) (d := 179) (v := (.pointer (some ⟨t15, 0, none⟩))) rfl (by kernel_rfl) ?_
                refine wl_pure (wantsY 48 174 false rfl (by kernel_rfl) rfl (by kernel_rfl)) (d := 180) (v := (.int .i64 ((r : Int)))) rfl (by kernel_rfl) ?_
                refine wl_do (wantsY 48 174 false rfl (by kernel_rfl) rfl (by kernel_rfl)) (fun K213 hK213 => ?_)
                refine d_call (d := 181) rfl (by kernel_rfl) (talHeard_any w210 t15 hb16 cb17 ab18 lb19 2 1 (smallL ls k) (H211.at 2 rfl) (r : Int)) ?_
                rintro _ w214 ⟨rfl, u216⟩
                have H215 := H211.keepU u216
                refine ⟨_, rfl, ?_⟩
                refine hK213 _ _ ?_
                clear hK213 K213
                refine wl_pure (wantsY 48 174 false rfl (by kernel_rfl) rfl (by kernel_rfl)) (d := 182) (v := (.bool (decide ((allV (smallL ls k) (kd : Int) (r : Int)) > (heardV 2 (smallL ls k) (r : Int)))))) rfl (by kernel_rfl) ?_
                refine wl_pure (wants0 rfl) (d := 183) (v := (.bool (decide ((allV (smallL ls k) (kd : Int) (r : Int)) > (heardV 2 (smallL ls k) (r : Int)))))) rfl (by kernel_rfl) ?_
                refine w_nil ?_
                refine then_normal ?_
                have b217 : (decide ((allV (smallL ls k) (kd : Int) (r : Int)) > (heardV 2 (smallL ls k) (r : Int)))) = false := by (have := all_heard (smallL_inv ls k) (kd : Int) (r : Int); rw [decide_eq_false_iff_not]; omega)
                refine wp_know 183 (.bool false) (congrArg Value.bool b217) ?_
                refine wp_iff rfl ?_
                refine w_skip ?_
                refine blk_normal ?_
                refine then_normal ?_
                refine w_lit ?_
                refine wl_pure (wants0 rfl) (d := 104) (v := (.int .i64 ((r : Int)))) rfl (by kernel_rfl) ?_
                refine wl_pure (wants0 rfl) (d := 105) (v := (.int .i64 ((r : Int) + 1))) rfl (e_int (z := (r : Int) + 1) (by kernel_rfl) (IntWalk.i64_in _ (by omega))) ?_
                refine wl_pure (wants0 rfl) (d := 11) (v := (.int .i64 ((r : Int) + 1))) rfl (by kernel_rfl) ?_
                refine w_nil ?_
                have H218 : Sat w [restC w (fun _ => False), cellC b2 27 ([(.int .i64 (2)), (.int .i64 (1))] : List Value), talC t15 hb16 cb17 ab18 lb19 2 1 (smallL ls k)] w214 := H215.pick [0, 1, 2] (by decide)
                refine round_back ?_ _ ⟨(r + 1), (show ((.int .i64 ((r : Int) + 1)) : Value) = _ by first | rfl | go_num), by omega, H218, rfl⟩ (by omega)
                exact (same_upd rfl (same_upd rfl (same_upd rfl (same_upd rfl (same_upd rfl (same_upd rfl (same_upd rfl (same_upd rfl (same_upd rfl (same_upd rfl (same_upd rfl (same_upd rfl (same_upd rfl (same_upd rfl (same_upd rfl (same_upd rfl (same_upd rfl (same_upd rfl (same_upd rfl (same_upd rfl (same_upd rfl (same_upd rfl (same_upd rfl (same_upd rfl (same_upd rfl (same_upd rfl (same_upd rfl (same_upd rfl (same_upd rfl (same_upd rfl (same_upd rfl (same_upd rfl (same_upd rfl (same_upd rfl (same_upd rfl (same_upd rfl (same_upd rfl (same_upd rfl (same_upd rfl (same_upd rfl (same_upd rfl (same_upd rfl (same_upd rfl (same_upd rfl (same_upd rfl (same_upd rfl (same_upd rfl (same_upd rfl (same_upd rfl (same_upd rfl (same_upd rfl (same_upd rfl (same_upd rfl (same_upd rfl (same_upd rfl (same_upd rfl (same_upd rfl (same_upd rfl (same_upd rfl (same_upd rfl (same_upd rfl (same_upd rfl (same_upd rfl (same_upd rfl (same_upd rfl (same_upd rfl (same_upd rfl (same_upd rfl (same_upd rfl (same_upd rfl (same_upd rfl (same_upd rfl (same_upd rfl (same_upd rfl (same_upd rfl (same_upd rfl (same_upd rfl (same_upd rfl (same_upd rfl (same_upd rfl (same_upd rfl (same_upd rfl (same_ovr2 rfl (same_upd rfl (same_upd rfl (same_upd rfl (same_upd rfl (same_upd rfl (same_upd rfl (same_ovr))))))))))))))))))))))))))))))))))))))))))))))))))))))))))))))))))))))))))))))))))))))))))
            · have g219 := of_decide_eq_false b169
              refine wl_know 141 (.bool false) (congrArg Value.bool b169) ?_
              refine wl_pass (wantsN 15 141 true rfl (by kernel_rfl) rfl (by kernel_rfl)) rfl ?_
              refine wl_pass (wantsN 15 141 true rfl (by kernel_rfl) rfl (by kernel_rfl)) rfl ?_
              refine wl_pass (wantsN 15 141 true rfl (by kernel_rfl) rfl (by kernel_rfl)) rfl ?_
              refine wl_pass (wantsN 15 141 true rfl (by kernel_rfl) rfl (by kernel_rfl)) rfl ?_
              refine wl_pass (wantsN 15 141 true rfl (by kernel_rfl) rfl (by kernel_rfl)) rfl ?_
              refine wl_pass (wantsN 15 141 true rfl (by kernel_rfl) rfl (by kernel_rfl)) rfl ?_
              refine wl_pass (wantsN 15 141 true rfl (by kernel_rfl) rfl (by kernel_rfl)) rfl ?_
              refine wl_pure (wantsY 12 138 false rfl (by kernel_rfl) rfl (by kernel_rfl)) (d := 149) (v := (.bool false)) rfl (by kernel_rfl) ?_
              refine wl_pure (wants0 rfl) (d := 150) (v := (.bool false)) rfl (by kernel_rfl) ?_
              refine wl_pure (wants0 rfl) (d := 151) (v := (.bool false)) rfl (by kernel_rfl) ?_
              refine wl_pure (wantsY 25 151 false rfl (by kernel_rfl) rfl (by kernel_rfl)) (d := 152) (v := (.int .i64 (n149))) rfl (by kernel_rfl) ?_
              refine wl_pure (wantsY 25 151 false rfl (by kernel_rfl) rfl (by kernel_rfl)) (d := 153) (v := (.bool (decide (n149 = 0)))) rfl (by kernel_rfl) ?_
              refine wl_pure (wantsY 25 151 false rfl (by kernel_rfl) rfl (by kernel_rfl)) (d := 154) (v := (.bool (decide (n149 = 0)))) rfl (by kernel_rfl) ?_
              refine (bsplit (decide (n149 = 0))).elim (fun b220 => ?_) (fun b220 => ?_)
              · have g221 := of_decide_eq_true b220
                refine wl_know 154 (.bool true) (congrArg Value.bool b220) ?_
                refine wl_pure (wantsY 28 154 true rfl (by kernel_rfl) rfl (by kernel_rfl)) (d := 155) (v := (.int .i64 (sumH (smallL ls k) (kd : Int) (r : Int) j))) rfl (by kernel_rfl) ?_
                refine wl_pure (wantsY 28 154 true rfl (by kernel_rfl) rfl (by kernel_rfl)) (d := 156) (v := (.bool (!(decide ((sumH (smallL ls k) (kd : Int) (r : Int) j) = 0))))) rfl (by kernel_rfl) ?_
                refine wl_pure (wantsY 28 154 true rfl (by kernel_rfl) rfl (by kernel_rfl)) (d := 157) (v := (.bool (!(decide ((sumH (smallL ls k) (kd : Int) (r : Int) j) = 0))))) rfl (by kernel_rfl) ?_
                have b222 : (!(decide ((sumH (smallL ls k) (kd : Int) (r : Int) j) = 0))) = false := by (obtain rfl : j = 3 := (by omega); rw [sumH_3 (smallL_h ls k), (most_zero (smallL_h ls k) q150 (by assumption)).1]; simp)
                refine wl_know 157 (.bool false) (congrArg Value.bool b222) ?_
                refine wl_pure (wantsY 31 157 false rfl (by kernel_rfl) rfl (by kernel_rfl)) (d := 158) (v := (.agg ⟨(hc h148)⟩)) rfl (e_loadN (vs := (hc h148)) rfl (by kernel_rfl) (by kernel_rfl) (by exact Nat.le_of_ble_eq_true (by kernel_rfl)) (H166.at 3 rfl) (by kernel_rfl)) ?_
                refine wl_pure (wantsY 31 157 false rfl (by kernel_rfl) rfl (by kernel_rfl)) (d := 159) (v := (.agg ⟨(hc hash0)⟩)) rfl (by kernel_rfl) ?_
                refine wl_pure (wantsY 31 157 false rfl (by kernel_rfl) rfl (by kernel_rfl)) (d := 160) (v := (.bool (!(decide (h148 = hash0))))) rfl (e_neHash h148 hash0 rfl rfl) ?_
                refine wl_pure (wantsY 28 154 true rfl (by kernel_rfl) rfl (by kernel_rfl)) (d := 161) (v := (.bool (!(decide (h148 = hash0))))) rfl (by kernel_rfl) ?_
                refine wl_pure (wantsY 25 151 false rfl (by kernel_rfl) rfl (by kernel_rfl)) (d := 162) (v := (.bool (!(decide (h148 = hash0))))) rfl (by kernel_rfl) ?_
                refine wl_pure (wants0 rfl) (d := 163) (v := (.bool (!(decide (h148 = hash0))))) rfl (by kernel_rfl) ?_
                refine wl_pure (wants0 rfl) (d := 164) (v := (.bool (!(decide (h148 = hash0))))) rfl (by kernel_rfl) ?_
                have b223 : (!(decide (h148 = hash0))) = false := by (rw [(most_zero (smallL_h ls k) q150 (by assumption)).2]; simp)
                refine wl_know 164 (.bool false) (congrArg Value.bool b223) ?_
                refine wl_pure (wantsY 38 164 false rfl (by kernel_rfl) rfl (by kernel_rfl)) (d := 165) (v := (.pointer (some ⟨t15, 0, none⟩))) rfl (by kernel_rfl) ?_
                refine wl_pure (wantsY 38 164 false rfl (by kernel_rfl) rfl (by kernel_rfl)) (d := 166) (v := (.int .i64 ((r : Int)))) rfl (by kernel_rfl) ?_
                refine wl_pure (wantsY 38 164 false rfl (by kernel_rfl) rfl (by kernel_rfl)) (d := 167) (v := (.int .i64 ((r : Int) + 1))) rfl (e_int (z := (r : Int) + 1) (by kernel_rfl) (IntWalk.i64_in _ (by omega))) ?_
                refine wl_do (wantsY 38 164 false rfl (by kernel_rfl) rfl (by kernel_rfl)) (fun K224 hK224 => ?_)
                refine d_call (d := 168) rfl (by kernel_rfl) (talHeard_any w165 t15 hb16 cb17 ab18 lb19 2 1 (smallL ls k) (H166.at 2 rfl) ((r : Int) + 1)) ?_
                rintro _ w225 ⟨rfl, u227⟩
                have H226 := H166.keepU u227
                refine ⟨_, rfl, ?_⟩
                refine hK224 _ _ ?_
                clear hK224 K224
                refine wl_pure (wantsY 38 164 false rfl (by kernel_rfl) rfl (by kernel_rfl)) (d := 169) (v := (.pointer (some ⟨t15, 0, none⟩))) rfl (by kernel_rfl) ?_
                refine wl_pure (wantsY 38 164 false rfl (by kernel_rfl) rfl (by kernel_rfl)) (d := 170) (v := (.int .i64 ((r : Int)))) rfl (by kernel_rfl) ?_
                refine wl_do (wantsY 38 164 false rfl (by kernel_rfl) rfl (by kernel_rfl)) (fun K228 hK228 => ?_)
                refine d_call (d := 171) rfl (by kernel_rfl) (talHeard_any w225 t15 hb16 cb17 ab18 lb19 2 1 (smallL ls k) (H226.at 2 rfl) (r : Int)) ?_
                rintro _ w229 ⟨rfl, u231⟩
                have H230 := H226.keepU u231
                refine ⟨_, rfl, ?_⟩
                refine hK228 _ _ ?_
                clear hK228 K228
                refine wl_pure (wantsY 38 164 false rfl (by kernel_rfl) rfl (by kernel_rfl)) (d := 172) (v := (.bool (decide ((heardV 2 (smallL ls k) ((r : Int) + 1)) > (heardV 2 (smallL ls k) (r : Int)))))) rfl (by kernel_rfl) ?_
                refine wl_pure (wants0 rfl) (d := 173) (v := (.bool (decide ((heardV 2 (smallL ls k) ((r : Int) + 1)) > (heardV 2 (smallL ls k) (r : Int)))))) rfl (by kernel_rfl) ?_
                refine wl_pure (wants0 rfl) (d := 174) (v := (.bool (decide ((heardV 2 (smallL ls k) ((r : Int) + 1)) > (heardV 2 (smallL ls k) (r : Int)))))) rfl (by kernel_rfl) ?_
                have b232 : (decide ((heardV 2 (smallL ls k) ((r : Int) + 1)) > (heardV 2 (smallL ls k) (r : Int)))) = false := by (have := heard_mono 2 (smallL ls k) (r : Int) ((r : Int) + 1) (by omega); rw [decide_eq_false_iff_not]; omega)
                refine wl_know 174 (.bool false) (congrArg Value.bool b232) ?_
                refine wl_pure (wantsY 48 174 false rfl (by kernel_rfl) rfl (by kernel_rfl)) (d := 175) (v := (.pointer (some ⟨t15, 0, none⟩))) rfl (by kernel_rfl) ?_
                refine wl_pure (wantsY 48 174 false rfl (by kernel_rfl) rfl (by kernel_rfl)) (d := 176) (v := (.int .i64 ((kd : Int)))) rfl (by kernel_rfl) ?_
                refine wl_pure (wantsY 48 174 false rfl (by kernel_rfl) rfl (by kernel_rfl)) (d := 177) (v := (.int .i64 ((r : Int)))) rfl (by kernel_rfl) ?_
                refine wl_do (wantsY 48 174 false rfl (by kernel_rfl) rfl (by kernel_rfl)) (fun K233 hK233 => ?_)
                refine d_call (d := 178) rfl (by kernel_rfl) (talAll_any w229 t15 hb16 cb17 ab18 lb19 2 1 (smallL ls k) (H230.at 2 rfl) (kd : Int) (r : Int)) ?_
                rintro _ w234 ⟨rfl, u236⟩
                have H235 := H230.keepU u236
                refine ⟨_, rfl, ?_⟩
                refine hK233 _ _ ?_
                clear hK233 K233
                refine wl_pure (wantsY 48 174 false rfl (by kernel_rfl) rfl (by kernel_rfl)) (d := 179) (v := (.pointer (some ⟨t15, 0, none⟩))) rfl (by kernel_rfl) ?_
                refine wl_pure (wantsY 48 174 false rfl (by kernel_rfl) rfl (by kernel_rfl)) (d := 180) (v := (.int .i64 ((r : Int)))) rfl (by kernel_rfl) ?_
                refine wl_do (wantsY 48 174 false rfl (by kernel_rfl) rfl (by kernel_rfl)) (fun K237 hK237 => ?_)
                refine d_call (d := 181) rfl (by kernel_rfl) (talHeard_any w234 t15 hb16 cb17 ab18 lb19 2 1 (smallL ls k) (H235.at 2 rfl) (r : Int)) ?_
                rintro _ w238 ⟨rfl, u240⟩
                have H239 := H235.keepU u240
                refine ⟨_, rfl, ?_⟩
                refine hK237 _ _ ?_
                clear hK237 K237
                refine wl_pure (wantsY 48 174 false rfl (by kernel_rfl) rfl (by kernel_rfl)) (d := 182) (v := (.bool (decide ((allV (smallL ls k) (kd : Int) (r : Int)) > (heardV 2 (smallL ls k) (r : Int)))))) rfl (by kernel_rfl) ?_
                refine wl_pure (wants0 rfl) (d := 183) (v := (.bool (decide ((allV (smallL ls k) (kd : Int) (r : Int)) > (heardV 2 (smallL ls k) (r : Int)))))) rfl (by kernel_rfl) ?_
                refine w_nil ?_
                refine then_normal ?_
                have b241 : (decide ((allV (smallL ls k) (kd : Int) (r : Int)) > (heardV 2 (smallL ls k) (r : Int)))) = false := by (have := all_heard (smallL_inv ls k) (kd : Int) (r : Int); rw [decide_eq_false_iff_not]; omega)
                refine wp_know 183 (.bool false) (congrArg Value.bool b241) ?_
                refine wp_iff rfl ?_
                refine w_skip ?_
                refine blk_normal ?_
                refine then_normal ?_
                refine w_lit ?_
                refine wl_pure (wants0 rfl) (d := 104) (v := (.int .i64 ((r : Int)))) rfl (by kernel_rfl) ?_
                refine wl_pure (wants0 rfl) (d := 105) (v := (.int .i64 ((r : Int) + 1))) rfl (e_int (z := (r : Int) + 1) (by kernel_rfl) (IntWalk.i64_in _ (by omega))) ?_
                refine wl_pure (wants0 rfl) (d := 11) (v := (.int .i64 ((r : Int) + 1))) rfl (by kernel_rfl) ?_
                refine w_nil ?_
                have H242 : Sat w [restC w (fun _ => False), cellC b2 27 ([(.int .i64 (2)), (.int .i64 (1))] : List Value), talC t15 hb16 cb17 ab18 lb19 2 1 (smallL ls k)] w238 := H239.pick [0, 1, 2] (by decide)
                refine round_back ?_ _ ⟨(r + 1), (show ((.int .i64 ((r : Int) + 1)) : Value) = _ by first | rfl | go_num), by omega, H242, rfl⟩ (by omega)
                exact (same_upd rfl (same_upd rfl (same_upd rfl (same_upd rfl (same_upd rfl (same_upd rfl (same_upd rfl (same_upd rfl (same_upd rfl (same_upd rfl (same_upd rfl (same_upd rfl (same_upd rfl (same_upd rfl (same_upd rfl (same_upd rfl (same_upd rfl (same_upd rfl (same_upd rfl (same_upd rfl (same_upd rfl (same_upd rfl (same_upd rfl (same_upd rfl (same_upd rfl (same_upd rfl (same_upd rfl (same_upd rfl (same_upd rfl (same_upd rfl (same_upd rfl (same_upd rfl (same_upd rfl (same_upd rfl (same_upd rfl (same_upd rfl (same_upd rfl (same_upd rfl (same_upd rfl (same_upd rfl (same_upd rfl (same_upd rfl (same_upd rfl (same_upd rfl (same_upd rfl (same_upd rfl (same_upd rfl (same_upd rfl (same_upd rfl (same_upd rfl (same_upd rfl (same_upd rfl (same_upd rfl (same_upd rfl (same_upd rfl (same_upd rfl (same_upd rfl (same_upd rfl (same_upd rfl (same_upd rfl (same_upd rfl (same_upd rfl (same_upd rfl (same_upd rfl (same_upd rfl (same_upd rfl (same_upd rfl (same_upd rfl (same_upd rfl (same_upd rfl (same_upd rfl (same_upd rfl (same_upd rfl (same_upd rfl (same_upd rfl (same_upd rfl (same_upd rfl (same_upd rfl (same_upd rfl (same_upd rfl (same_upd rfl (same_upd rfl (same_upd rfl (same_ovr2 rfl (same_upd rfl (same_upd rfl (same_upd rfl (same_upd rfl (same_upd rfl (same_upd rfl (same_ovr)))))))))))))))))))))))))))))))))))))))))))))))))))))))))))))))))))))))))))))))))))))))))))
              · have g243 := of_decide_eq_false b220
                refine wl_know 154 (.bool false) (congrArg Value.bool b220) ?_
                refine wl_pass (wantsN 28 154 true rfl (by kernel_rfl) rfl (by kernel_rfl)) rfl ?_
                refine wl_pass (wantsN 28 154 true rfl (by kernel_rfl) rfl (by kernel_rfl)) rfl ?_
                refine wl_pass (wantsN 28 154 true rfl (by kernel_rfl) rfl (by kernel_rfl)) rfl ?_
                refine wl_pass (wantsU 31 157 false rfl (by kernel_rfl) rfl (by kernel_rfl)) rfl ?_
                refine wl_pass (wantsU 31 157 false rfl (by kernel_rfl) rfl (by kernel_rfl)) rfl ?_
                refine wl_pass (wantsU 31 157 false rfl (by kernel_rfl) rfl (by kernel_rfl)) rfl ?_
                refine wl_pass (wantsN 28 154 true rfl (by kernel_rfl) rfl (by kernel_rfl)) rfl ?_
                refine wl_pure (wantsY 25 151 false rfl (by kernel_rfl) rfl (by kernel_rfl)) (d := 162) (v := (.bool false)) rfl (by kernel_rfl) ?_
                refine wl_pure (wants0 rfl) (d := 163) (v := (.bool false)) rfl (by kernel_rfl) ?_
                refine wl_pure (wants0 rfl) (d := 164) (v := (.bool false)) rfl (by kernel_rfl) ?_
                refine wl_pure (wantsY 38 164 false rfl (by kernel_rfl) rfl (by kernel_rfl)) (d := 165) (v := (.pointer (some ⟨t15, 0, none⟩))) rfl (by kernel_rfl) ?_
                refine wl_pure (wantsY 38 164 false rfl (by kernel_rfl) rfl (by kernel_rfl)) (d := 166) (v := (.int .i64 ((r : Int)))) rfl (by kernel_rfl) ?_
                refine wl_pure (wantsY 38 164 false rfl (by kernel_rfl) rfl (by kernel_rfl)) (d := 167) (v := (.int .i64 ((r : Int) + 1))) rfl (e_int (z := (r : Int) + 1) (by kernel_rfl) (IntWalk.i64_in _ (by omega))) ?_
                refine wl_do (wantsY 38 164 false rfl (by kernel_rfl) rfl (by kernel_rfl)) (fun K244 hK244 => ?_)
                refine d_call (d := 168) rfl (by kernel_rfl) (talHeard_any w165 t15 hb16 cb17 ab18 lb19 2 1 (smallL ls k) (H166.at 2 rfl) ((r : Int) + 1)) ?_
                rintro _ w245 ⟨rfl, u247⟩
                have H246 := H166.keepU u247
                refine ⟨_, rfl, ?_⟩
                refine hK244 _ _ ?_
                clear hK244 K244
                refine wl_pure (wantsY 38 164 false rfl (by kernel_rfl) rfl (by kernel_rfl)) (d := 169) (v := (.pointer (some ⟨t15, 0, none⟩))) rfl (by kernel_rfl) ?_
                refine wl_pure (wantsY 38 164 false rfl (by kernel_rfl) rfl (by kernel_rfl)) (d := 170) (v := (.int .i64 ((r : Int)))) rfl (by kernel_rfl) ?_
                refine wl_do (wantsY 38 164 false rfl (by kernel_rfl) rfl (by kernel_rfl)) (fun K248 hK248 => ?_)
                refine d_call (d := 171) rfl (by kernel_rfl) (talHeard_any w245 t15 hb16 cb17 ab18 lb19 2 1 (smallL ls k) (H246.at 2 rfl) (r : Int)) ?_
                rintro _ w249 ⟨rfl, u251⟩
                have H250 := H246.keepU u251
                refine ⟨_, rfl, ?_⟩
                refine hK248 _ _ ?_
                clear hK248 K248
                refine wl_pure (wantsY 38 164 false rfl (by kernel_rfl) rfl (by kernel_rfl)) (d := 172) (v := (.bool (decide ((heardV 2 (smallL ls k) ((r : Int) + 1)) > (heardV 2 (smallL ls k) (r : Int)))))) rfl (by kernel_rfl) ?_
                refine wl_pure (wants0 rfl) (d := 173) (v := (.bool (decide ((heardV 2 (smallL ls k) ((r : Int) + 1)) > (heardV 2 (smallL ls k) (r : Int)))))) rfl (by kernel_rfl) ?_
                refine wl_pure (wants0 rfl) (d := 174) (v := (.bool (decide ((heardV 2 (smallL ls k) ((r : Int) + 1)) > (heardV 2 (smallL ls k) (r : Int)))))) rfl (by kernel_rfl) ?_
                have b252 : (decide ((heardV 2 (smallL ls k) ((r : Int) + 1)) > (heardV 2 (smallL ls k) (r : Int)))) = false := by (have := heard_mono 2 (smallL ls k) (r : Int) ((r : Int) + 1) (by omega); rw [decide_eq_false_iff_not]; omega)
                refine wl_know 174 (.bool false) (congrArg Value.bool b252) ?_
                refine wl_pure (wantsY 48 174 false rfl (by kernel_rfl) rfl (by kernel_rfl)) (d := 175) (v := (.pointer (some ⟨t15, 0, none⟩))) rfl (by kernel_rfl) ?_
                refine wl_pure (wantsY 48 174 false rfl (by kernel_rfl) rfl (by kernel_rfl)) (d := 176) (v := (.int .i64 ((kd : Int)))) rfl (by kernel_rfl) ?_
                refine wl_pure (wantsY 48 174 false rfl (by kernel_rfl) rfl (by kernel_rfl)) (d := 177) (v := (.int .i64 ((r : Int)))) rfl (by kernel_rfl) ?_
                refine wl_do (wantsY 48 174 false rfl (by kernel_rfl) rfl (by kernel_rfl)) (fun K253 hK253 => ?_)
                refine d_call (d := 178) rfl (by kernel_rfl) (talAll_any w249 t15 hb16 cb17 ab18 lb19 2 1 (smallL ls k) (H250.at 2 rfl) (kd : Int) (r : Int)) ?_
                rintro _ w254 ⟨rfl, u256⟩
                have H255 := H250.keepU u256
                refine ⟨_, rfl, ?_⟩
                refine hK253 _ _ ?_
                clear hK253 K253
                refine wl_pure (wantsY 48 174 false rfl (by kernel_rfl) rfl (by kernel_rfl)) (d := 179) (v := (.pointer (some ⟨t15, 0, none⟩))) rfl (by kernel_rfl) ?_
                refine wl_pure (wantsY 48 174 false rfl (by kernel_rfl) rfl (by kernel_rfl)) (d := 180) (v := (.int .i64 ((r : Int)))) rfl (by kernel_rfl) ?_
                refine wl_do (wantsY 48 174 false rfl (by kernel_rfl) rfl (by kernel_rfl)) (fun K257 hK257 => ?_)
                refine d_call (d := 181) rfl (by kernel_rfl) (talHeard_any w254 t15 hb16 cb17 ab18 lb19 2 1 (smallL ls k) (H255.at 2 rfl) (r : Int)) ?_
                rintro _ w258 ⟨rfl, u260⟩
                have H259 := H255.keepU u260
                refine ⟨_, rfl, ?_⟩
                refine hK257 _ _ ?_
                clear hK257 K257
                refine wl_pure (wantsY 48 174 false rfl (by kernel_rfl) rfl (by kernel_rfl)) (d := 182) (v := (.bool (decide ((allV (smallL ls k) (kd : Int) (r : Int)) > (heardV 2 (smallL ls k) (r : Int)))))) rfl (by kernel_rfl) ?_
                refine wl_pure (wants0 rfl) (d := 183) (v := (.bool (decide ((allV (smallL ls k) (kd : Int) (r : Int)) > (heardV 2 (smallL ls k) (r : Int)))))) rfl (by kernel_rfl) ?_
                refine w_nil ?_
                refine then_normal ?_
                have b261 : (decide ((allV (smallL ls k) (kd : Int) (r : Int)) > (heardV 2 (smallL ls k) (r : Int)))) = false := by (have := all_heard (smallL_inv ls k) (kd : Int) (r : Int); rw [decide_eq_false_iff_not]; omega)
                refine wp_know 183 (.bool false) (congrArg Value.bool b261) ?_
                refine wp_iff rfl ?_
                refine w_skip ?_
                refine blk_normal ?_
                refine then_normal ?_
                refine w_lit ?_
                refine wl_pure (wants0 rfl) (d := 104) (v := (.int .i64 ((r : Int)))) rfl (by kernel_rfl) ?_
                refine wl_pure (wants0 rfl) (d := 105) (v := (.int .i64 ((r : Int) + 1))) rfl (e_int (z := (r : Int) + 1) (by kernel_rfl) (IntWalk.i64_in _ (by omega))) ?_
                refine wl_pure (wants0 rfl) (d := 11) (v := (.int .i64 ((r : Int) + 1))) rfl (by kernel_rfl) ?_
                refine w_nil ?_
                have H262 : Sat w [restC w (fun _ => False), cellC b2 27 ([(.int .i64 (2)), (.int .i64 (1))] : List Value), talC t15 hb16 cb17 ab18 lb19 2 1 (smallL ls k)] w258 := H259.pick [0, 1, 2] (by decide)
                refine round_back ?_ _ ⟨(r + 1), (show ((.int .i64 ((r : Int) + 1)) : Value) = _ by first | rfl | go_num), by omega, H262, rfl⟩ (by omega)
                exact (same_upd rfl (same_upd rfl (same_upd rfl (same_upd rfl (same_upd rfl (same_upd rfl (same_upd rfl (same_upd rfl (same_upd rfl (same_upd rfl (same_upd rfl (same_upd rfl (same_upd rfl (same_upd rfl (same_upd rfl (same_upd rfl (same_upd rfl (same_upd rfl (same_upd rfl (same_upd rfl (same_upd rfl (same_upd rfl (same_upd rfl (same_upd rfl (same_upd rfl (same_upd rfl (same_upd rfl (same_upd rfl (same_upd rfl (same_upd rfl (same_upd rfl (same_upd rfl (same_upd rfl (same_upd rfl (same_upd rfl (same_upd rfl (same_upd rfl (same_upd rfl (same_upd rfl (same_upd rfl (same_upd rfl (same_upd rfl (same_upd rfl (same_upd rfl (same_upd rfl (same_upd rfl (same_upd rfl (same_upd rfl (same_upd rfl (same_upd rfl (same_upd rfl (same_upd rfl (same_upd rfl (same_upd rfl (same_upd rfl (same_upd rfl (same_upd rfl (same_upd rfl (same_upd rfl (same_upd rfl (same_upd rfl (same_upd rfl (same_upd rfl (same_upd rfl (same_upd rfl (same_upd rfl (same_upd rfl (same_upd rfl (same_upd rfl (same_upd rfl (same_upd rfl (same_upd rfl (same_upd rfl (same_upd rfl (same_upd rfl (same_upd rfl (same_upd rfl (same_upd rfl (same_upd rfl (same_upd rfl (same_upd rfl (same_ovr2 rfl (same_upd rfl (same_upd rfl (same_upd rfl (same_upd rfl (same_upd rfl (same_upd rfl (same_ovr)))))))))))))))))))))))))))))))))))))))))))))))))))))))))))))))))))))))))))))))))))))))))
        · have g263 := of_decide_eq_false b129
          refine wp_know 103 (.bool false) (congrArg Value.bool b129) ?_
          refine wp_iff rfl ?_
          refine w_exit ?_
          refine then_exit ?_
          refine back_exit ?_
          refine blk_hit ?_
          refine blk_normal ?_
          refine then_normal ?_
          refine w_lit ?_
          refine wl_pure (wants0 rfl) (d := 100) (v := (.int .i64 ((kd : Int)))) rfl (by kernel_rfl) ?_
          refine wl_pure (wants0 rfl) (d := 101) (v := (.int .i64 ((kd : Int) + 1))) rfl (e_int (z := (kd : Int) + 1) (by kernel_rfl) (IntWalk.i64_in _ (by omega))) ?_
          refine wl_pure (wants0 rfl) (d := 10) (v := (.int .i64 ((kd : Int) + 1))) rfl (by kernel_rfl) ?_
          refine w_nil ?_
          refine round_back ?_ _ ⟨(kd + 1), (show ((.int .i64 ((kd : Int) + 1)) : Value) = _ by first | rfl | go_num), by omega, H126, rfl⟩ (by omega)
          exact (same_upd rfl (same_upd rfl (same_upd rfl (same_upd rfl (same_upd rfl (same_upd rfl (same_upd rfl (same_ovr2 rfl (same_upd rfl (same_upd rfl (same_upd rfl (same_upd rfl (same_upd rfl (same_ovr))))))))))))))
      · have g264 := of_decide_eq_false b122
        refine wp_know 99 (.bool false) (congrArg Value.bool b122) ?_
        refine wp_iff rfl ?_
        refine w_exit ?_
        refine then_exit ?_
        refine back_exit ?_
        refine blk_hit ?_
        refine then_normal ?_
        refine w_seq ?_
        refine w_lit ?_
        refine wl_pure (wants0 rfl) (d := 184) (v := (.pointer (some ⟨t15, 0, none⟩))) rfl (by kernel_rfl) ?_
        refine wl_do (wants0 rfl) (fun K265 hK265 => ?_)
        refine d_call (d := 185) rfl (by kernel_rfl) (talHeard_any w118 t15 hb16 cb17 ab18 lb19 2 1 (smallL ls k) (H119.at 2 rfl) 0) ?_
        rintro _ w266 ⟨rfl, u268⟩
        have H267 := H119.keepU u268
        refine ⟨_, rfl, ?_⟩
        refine hK265 _ _ ?_
        clear hK265 K265
        refine wl_do (wants0 rfl) (fun K269 hK269 => ?_)
        refine d_call (d := 186) rfl (by kernel_rfl) (within_any w266 (heardV 2 (smallL ls k) 0) 8 (by omega)) ?_
        rintro _ w270 ⟨rfl, u272⟩
        have H271 := H267.keepU u272
        refine ⟨_, rfl, ?_⟩
        refine hK269 _ _ ?_
        clear hK269 K269
        refine wl_pure (wants0 rfl) (d := 187) (v := (.pointer (some ⟨t15, 0, none⟩))) rfl (by kernel_rfl) ?_
        refine wl_do (wants0 rfl) (fun K273 hK273 => ?_)
        refine d_call (d := 188) rfl (by kernel_rfl) (talHeard_any w270 t15 hb16 cb17 ab18 lb19 2 1 (smallL ls k) (H271.at 2 rfl) 0) ?_
        rintro _ w274 ⟨rfl, u276⟩
        have H275 := H271.keepU u276
        refine ⟨_, rfl, ?_⟩
        refine hK273 _ _ ?_
        clear hK273 K273
        refine wl_pure (wants0 rfl) (d := 189) (v := (.bool (decide ((withinV (heardV 2 (smallL ls k) 0) 8) = (heardV 2 (smallL ls k) 0))))) rfl (by kernel_rfl) ?_
        refine wl_pure (wants0 rfl) (d := 190) (v := (.bool (decide ((withinV (heardV 2 (smallL ls k) 0) 8) = (heardV 2 (smallL ls k) 0))))) rfl (by kernel_rfl) ?_
        have b277 : (decide ((withinV (heardV 2 (smallL ls k) 0) 8) = (heardV 2 (smallL ls k) 0))) = true := by (have h3 := heard_le (f := 2) (by omega) (smallL ls k) 0; rw [within_self _ _ h3.1 (by omega)]; simp)
        refine wl_know 190 (.bool true) (congrArg Value.bool b277) ?_
        refine wl_do (wantsY 6 190 true rfl (by kernel_rfl) rfl (by kernel_rfl)) (fun K278 hK278 => ?_)
        refine d_call (d := 191) rfl (by kernel_rfl) (wakes_any w274) ?_
        rintro _ w279 ⟨rfl, u281⟩
        have H280 := H275.keepU u281
        refine ⟨_, rfl, ?_⟩
        refine hK278 _ _ ?_
        clear hK278 K278
        refine wl_pure (wants0 rfl) (d := 192) (v := (.bool true)) rfl (by kernel_rfl) ?_
        refine wl_pure (wants0 rfl) (d := 2) (v := (.bool true)) rfl (by kernel_rfl) ?_
        refine w_nil ?_
        refine then_normal ?_
        refine w_ret ?_
        refine end1 rfl (res_tmp (v := (.bool true)) rfl) ?_
        exact ⟨rfl, H280.upd 0 rfl [] (fun _ h => h.elim)⟩

end Go.Proofs.Ytfhhljgjppcdlaa
