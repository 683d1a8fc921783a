/- WHAT IS PROVED: the contract of a vote's Cut. No condition. -/
import Derived.Test.YtfhhljgjppcdlaaVotes
namespace Go.Proofs.Ytfhhljgjppcdlaa
open Go.RowKit

set_option maxRecDepth 100000 in
set_option maxHeartbeats 400000 in
theorem cut_any (w : World) (x : VoteIn) :
    Calls Try.prog 16 #[(.agg ⟨(([(.int .i64 (x.kind)), (.int .i64 (x.round)), (.int .i64 (x.replica))] : List Value) ++ hc x.h ++ ([(.bool (x.small))] : List Value))⟩)] w fun e w' => e = .returned (.agg ⟨voteL x.cut⟩) ∧ Upd [] w w' := by
  have H := Sat.start0 w
  have hb1 := within_lim x.kind 2 (by omega)
  have hb2 := within_lim x.round 3 (by omega)
  have hb3 := within_lim x.replica 7 (by omega)
  refine calls_fr Try.func16 rfl 25 rfl (Nat.le_of_ble_eq_true rfl) ?_
  refine w_seq ?_
  refine w_lit ?_
  refine wl_do (wants0 rfl) (fun K1 hK1 => ?_)
  refine d_box (vs := (([(.int .i64 (x.kind)), (.int .i64 (x.round)), (.int .i64 (x.replica))] : List Value) ++ hc x.h ++ ([(.bool (x.small))] : List Value))) rfl H rfl rfl ?_
  intro b2 w3 (H4 : Sat w [restC w (fun _ => False), cellC b2 40 (([(.int .i64 (x.kind)), (.int .i64 (x.round)), (.int .i64 (x.replica))] : List Value) ++ hc x.h ++ ([(.bool (x.small))] : List Value))] w3)
  refine hK1 _ _ ?_
  clear hK1 K1
  refine wl_do (wants0 rfl) (fun K5 hK5 => ?_)
  refine d_alloc (zs := (([(.int .i64 (0)), (.int .i64 (0)), (.int .i64 (0))] : List Value) ++ hc hash0 ++ ([(.bool false)] : List Value))) (z := (.agg ⟨(([(.int .i64 (0)), (.int .i64 (0)), (.int .i64 (0))] : List Value) ++ hc hash0 ++ ([(.bool false)] : List Value))⟩)) rfl H4 (by kernel_rfl) (by kernel_rfl) ?_
  intro b6 w7 (H8 : Sat w [restC w (fun _ => False), cellC b2 40 (([(.int .i64 (x.kind)), (.int .i64 (x.round)), (.int .i64 (x.replica))] : List Value) ++ hc x.h ++ ([(.bool (x.small))] : List Value)), cellC b6 40 (([(.int .i64 (0)), (.int .i64 (0)), (.int .i64 (0))] : List Value) ++ hc hash0 ++ ([(.bool false)] : List Value))] w7)
  refine hK5 _ _ ?_
  clear hK5 K5
  refine w_nil ?_
  refine then_normal ?_
  refine w_seq ?_
  refine w_seq ?_
  refine w_lit ?_
  refine wl_pure (wants0 rfl) (d := 3) (v := (.pointer (some ⟨b2, 35, none⟩))) rfl (by kernel_rfl) ?_
  refine wl_pure (wants0 rfl) (d := 4) (v := (.bool (x.small))) rfl (e_load1 rfl (by kernel_rfl) (H8.cell 1 rfl (by kernel_rfl))) ?_
  refine w_nil ?_
  refine then_normal ?_
  refine (bsplit (x.small)).elim (fun b9 => ?_) (fun b9 => ?_)
  · refine wp_know 4 (.bool true) (congrArg Value.bool b9) ?_
    refine wp_ift rfl ?_
    refine k_start H8 [restC w (fun _ => False), cellC b2 40 (([(.int .i64 (x.kind)), (.int .i64 (x.round)), (.int .i64 (x.replica))] : List Value) ++ hc x.h ++ ([(.bool (x.small))] : List Value)), cellC b6 40 (([(.int .i64 (0)), (.int .i64 (0)), (.int .i64 (0))] : List Value) ++ hc hash0 ++ ([(.bool false)] : List Value))] [16, 18, 20, 22] 23 rfl (by kernel_rfl) (fun Hx => (Hx.pick [0, 1, 2] (by decide))) ?_
    intro w10 H11 S12
    refine k_pure 0 rfl (by kernel_rfl) (by kernel_rfl) (by kernel_rfl) (fun _ _ _ h => h) S12 (wants0 rfl) rfl (d := 5) (v := (.pointer (some ⟨b2, 0, none⟩))) rfl (fun _ => (by kernel_rfl)) ?_
    refine k_val 1 rfl (by kernel_rfl) (by kernel_rfl) (by kernel_rfl) (fun _ _ _ h => h) S12 (wants0 rfl) rfl (by kernel_rfl) (d := 6) (v := (.int .i64 (x.kind))) rfl (fun _ H' => (e_load1 rfl (by kernel_rfl) (H'.cell 1 rfl (by kernel_rfl)))) ?_
    refine k_pure 4 rfl (by kernel_rfl) (by kernel_rfl) (by kernel_rfl) (fun _ _ _ h => h) S12 (wants0 rfl) rfl (d := 9) (v := (.pointer (some ⟨b2, 1, none⟩))) rfl (fun _ => (by kernel_rfl)) ?_
    refine k_val 5 rfl (by kernel_rfl) (by kernel_rfl) (by kernel_rfl) (fun _ _ _ h => h) S12 (wants0 rfl) rfl (by kernel_rfl) (d := 10) (v := (.int .i64 (x.round))) rfl (fun _ H' => (e_load1 rfl (by kernel_rfl) (H'.cell 1 rfl (by kernel_rfl)))) ?_
    refine k_pure 7 rfl (by kernel_rfl) (by kernel_rfl) (by kernel_rfl) (fun _ _ _ h => h) S12 (wants0 rfl) rfl (d := 12) (v := (.pointer (some ⟨b2, 2, none⟩))) rfl (fun _ => (by kernel_rfl)) ?_
    refine k_val 8 rfl (by kernel_rfl) (by kernel_rfl) (by kernel_rfl) (fun _ _ _ h => h) S12 (wants0 rfl) rfl (by kernel_rfl) (d := 13) (v := (.int .i64 (x.replica))) rfl (fun _ H' => (e_load1 rfl (by kernel_rfl) (H'.cell 1 rfl (by kernel_rfl)))) ?_
    refine k_pure 10 rfl (by kernel_rfl) (by kernel_rfl) (by kernel_rfl) (fun _ _ _ h => h) S12 (wants0 rfl) rfl (d := 15) (v := (.pointer (some ⟨b2, 3, none⟩))) rfl (fun _ => (by kernel_rfl)) ?_
    refine k_pure 11 rfl (by kernel_rfl) (by kernel_rfl) (by kernel_rfl) (fun _ _ _ h => h) S12 (wants0 rfl) rfl (d := 16) (v := (.pointer (some ⟨b2, 3, none⟩))) rfl (fun _ => (by kernel_rfl)) ?_
    refine k_val 12 rfl (by kernel_rfl) (by kernel_rfl) (by kernel_rfl) (fun _ _ _ h => h) S12 (wants0 rfl) rfl (by kernel_rfl) (d := 17) (v := (.int .u8 (((x.h.l.getD 0 0).toNat : Int)))) rfl (fun _ H' => (e_load1 rfl (by kernel_rfl) (H'.cell 1 rfl (by kernel_rfl)))) ?_
    refine k_pure 13 rfl (by kernel_rfl) (by kernel_rfl) (by kernel_rfl) (fun _ _ _ h => h) S12 (wants0 rfl) rfl (d := 18) (v := (.int .u8 ((((x.h.l.getD 0 0) % 3).toNat : Int)))) rfl (fun _ => (e_remU8 (x.h.l.getD 0 0) 3 (by kernel_rfl) (by decide))) ?_
    refine k_pure 14 rfl (by kernel_rfl) (by kernel_rfl) (by kernel_rfl) (fun _ _ _ h => h) S12 (wants0 rfl) rfl (d := 19) (v := (.agg ⟨(hc (hash1 ((x.h.l.getD 0 0) % 3)))⟩)) rfl (fun _ => (by kernel_rfl)) ?_
    refine k_do 2 rfl (by kernel_rfl) (wants0 rfl) rfl (fun K13 hK13 => ?_)
    refine d_call (d := 7) rfl (by kernel_rfl) (within_any w10 x.kind 2 (by omega)) ?_
    rintro _ w14 ⟨rfl, u16⟩
    have H15 := H11.keepU u16
    refine ⟨_, rfl, ?_⟩
    have S17 := H15.pick [0, 1, 2] (by decide)
    refine hK13 _ _ S17 ?_
    clear hK13 K13
    refine k_pure 3 rfl (by kernel_rfl) (by kernel_rfl) (by kernel_rfl) (fun _ _ _ h => h) S17 (wants0 rfl) rfl (d := 8) (v := (.int .i64 (1 + (withinV x.kind 2)))) rfl (fun _ => (e_int (z := 1 + (withinV x.kind 2)) (by kernel_rfl) (IntWalk.i64_in _ (by omega)))) ?_
    refine k_pure 15 rfl (by kernel_rfl) (by kernel_rfl) (by kernel_rfl) (fun _ _ _ h => h) S17 (wants0 rfl) rfl (d := 20) (v := (.pointer (some ⟨b2, 0, none⟩))) rfl (fun _ => (by kernel_rfl)) ?_
    refine k_do 6 rfl (by kernel_rfl) (wants0 rfl) rfl (fun K18 hK18 => ?_)
    refine d_call (d := 11) rfl (by kernel_rfl) (within_any w14 x.round 3 (by omega)) ?_
    rintro _ w19 ⟨rfl, u21⟩
    have H20 := H15.keepU u21
    refine ⟨_, rfl, ?_⟩
    have S22 := H20.pick [0, 1, 2] (by decide)
    refine hK18 _ _ S22 ?_
    clear hK18 K18
    refine k_do 9 rfl (by kernel_rfl) (wants0 rfl) rfl (fun K23 hK23 => ?_)
    refine d_call (d := 14) rfl (by kernel_rfl) (within_any w19 x.replica 7 (by omega)) ?_
    rintro _ w24 ⟨rfl, u26⟩
    have H25 := H20.keepU u26
    refine ⟨_, rfl, ?_⟩
    have S27 := H25.pick [0, 1, 2] (by decide)
    refine hK23 _ _ S27 ?_
    clear hK23 K23
    refine k_brk 16 (Sat w [restC w (fun _ => False), cellC b6 40 (([(.int .i64 (0)), (.int .i64 (0)), (.int .i64 (0))] : List Value) ++ hc hash0 ++ ([(.bool false)] : List Value))]) rfl (by kernel_rfl) (wants0 rfl) rfl (fun K28 hK28 => ?_)
    refine d_store (vs := ([(.int .i64 (1 + (withinV x.kind 2)))] : List Value)) rfl H25 1 rfl rfl rfl rfl (by kernel_rfl) (Nat.le_of_ble_eq_true (by kernel_rfl)) (Nat.le_of_ble_eq_true (by kernel_rfl)) (by kernel_rfl) ?_
    intro w29 (H30 : Sat w [restC w (fun _ => False), cellC b2 40 (([(.int .i64 (1 + (withinV x.kind 2))), (.int .i64 (x.round)), (.int .i64 (x.replica))] : List Value) ++ hc x.h ++ ([(.bool (x.small))] : List Value)), cellC b6 40 (([(.int .i64 (0)), (.int .i64 (0)), (.int .i64 (0))] : List Value) ++ hc hash0 ++ ([(.bool false)] : List Value))] w29)
    have S32 := H30.pick [0, 2] (by decide)
    refine hK28 _ _ S32 ?_
    clear hK28 K28
    refine h_val 17 rfl (by kernel_rfl) (by kernel_rfl) (by kernel_rfl) (fun _ _ _ h => h) S32 (wants0 rfl) (d := 21) (v := (.pointer (some ⟨b2, 1, none⟩))) rfl (fun _ H' => (by kernel_rfl)) ?_
    refine h_do 18 rfl (by kernel_rfl) (wants0 rfl) (fun K33 hK33 => ?_)
    refine d_store (vs := ([(.int .i64 (withinV x.round 3))] : List Value)) rfl H30 1 rfl rfl rfl rfl (by kernel_rfl) (Nat.le_of_ble_eq_true (by kernel_rfl)) (Nat.le_of_ble_eq_true (by kernel_rfl)) (by kernel_rfl) ?_
    intro w34 (H35 : Sat w [restC w (fun _ => False), cellC b2 40 (([(.int .i64 (1 + (withinV x.kind 2))), (.int .i64 (withinV x.round 3)), (.int .i64 (x.replica))] : List Value) ++ hc x.h ++ ([(.bool (x.small))] : List Value)), cellC b6 40 (([(.int .i64 (0)), (.int .i64 (0)), (.int .i64 (0))] : List Value) ++ hc hash0 ++ ([(.bool false)] : List Value))] w34)
    have S37 := H35.pick [0, 2] (by decide)
    refine hK33 _ _ S37 ?_
    clear hK33 K33
    refine h_val 19 rfl (by kernel_rfl) (by kernel_rfl) (by kernel_rfl) (fun _ _ _ h => h) S37 (wants0 rfl) (d := 22) (v := (.pointer (some ⟨b2, 2, none⟩))) rfl (fun _ H' => (by kernel_rfl)) ?_
    refine h_do 20 rfl (by kernel_rfl) (wants0 rfl) (fun K38 hK38 => ?_)
    refine d_store (vs := ([(.int .i64 (withinV x.replica 7))] : List Value)) rfl H35 1 rfl rfl rfl rfl (by kernel_rfl) (Nat.le_of_ble_eq_true (by kernel_rfl)) (Nat.le_of_ble_eq_true (by kernel_rfl)) (by kernel_rfl) ?_
    intro w39 (H40 : Sat w [restC w (fun _ => False), cellC b2 40 (([(.int .i64 (1 + (withinV x.kind 2))), (.int .i64 (withinV x.round 3)), (.int .i64 (withinV x.replica 7))] : List Value) ++ hc x.h ++ ([(.bool (x.small))] : List Value)), cellC b6 40 (([(.int .i64 (0)), (.int .i64 (0)), (.int .i64 (0))] : List Value) ++ hc hash0 ++ ([(.bool false)] : List Value))] w39)
    have S42 := H40.pick [0, 2] (by decide)
    refine hK38 _ _ S42 ?_
    clear hK38 K38
    refine h_val 21 rfl (by kernel_rfl) (by kernel_rfl) (by kernel_rfl) (fun _ _ _ h => h) S42 (wants0 rfl) (d := 23) (v := (.pointer (some ⟨b2, 3, none⟩))) rfl (fun _ H' => (by kernel_rfl)) ?_
    refine h_do 22 rfl (by kernel_rfl) (wants0 rfl) (fun K43 hK43 => ?_)
    refine d_store (vs := (hc (hash1 ((x.h.l.getD 0 0) % 3)))) rfl H40 1 rfl rfl rfl rfl (by kernel_rfl) (Nat.le_of_ble_eq_true (by kernel_rfl)) (Nat.le_of_ble_eq_true (by kernel_rfl)) (by kernel_rfl) ?_
    intro w44 (H45 : Sat w [restC w (fun _ => False), cellC b2 40 (([(.int .i64 (1 + (withinV x.kind 2))), (.int .i64 (withinV x.round 3)), (.int .i64 (withinV x.replica 7))] : List Value) ++ hc (hash1 ((x.h.l.getD 0 0) % 3)) ++ ([(.bool (x.small))] : List Value)), cellC b6 40 (([(.int .i64 (0)), (.int .i64 (0)), (.int .i64 (0))] : List Value) ++ hc hash0 ++ ([(.bool false)] : List Value))] w44)
    have S47 := H45.pick [0, 2] (by decide)
    refine hK43 _ _ S47 ?_
    clear hK43 K43
    refine h_fin (by kernel_rfl) ?_
    refine then_normal ?_
    refine w_seq ?_
    refine w_lit ?_
    refine wl_pure (wants0 rfl) (d := 24) (v := (.agg ⟨(([(.int .i64 (1 + (withinV x.kind 2))), (.int .i64 (withinV x.round 3)), (.int .i64 (withinV x.replica 7))] : List Value) ++ hc (hash1 ((x.h.l.getD 0 0) % 3)) ++ ([(.bool (x.small))] : List Value))⟩)) rfl (e_loadN (vs := (([(.int .i64 (1 + (withinV x.kind 2))), (.int .i64 (withinV x.round 3)), (.int .i64 (withinV x.replica 7))] : List Value) ++ hc (hash1 ((x.h.l.getD 0 0) % 3)) ++ ([(.bool (x.small))] : List Value))) rfl (by kernel_rfl) (by kernel_rfl) (by exact Nat.le_of_ble_eq_true (by kernel_rfl)) (H45.at 1 rfl) (by kernel_rfl)) ?_
    refine wl_do (wants0 rfl) (fun K48 hK48 => ?_)
    refine d_store (vs := (([(.int .i64 (1 + (withinV x.kind 2))), (.int .i64 (withinV x.round 3)), (.int .i64 (withinV x.replica 7))] : List Value) ++ hc (hash1 ((x.h.l.getD 0 0) % 3)) ++ ([(.bool (x.small))] : List Value))) rfl H45 2 rfl rfl rfl rfl (by kernel_rfl) (Nat.le_of_ble_eq_true (by kernel_rfl)) (Nat.le_of_ble_eq_true (by kernel_rfl)) (by kernel_rfl) ?_
    intro w49 (H50 : Sat w [restC w (fun _ => False), cellC b2 40 (([(.int .i64 (1 + (withinV x.kind 2))), (.int .i64 (withinV x.round 3)), (.int .i64 (withinV x.replica 7))] : List Value) ++ hc (hash1 ((x.h.l.getD 0 0) % 3)) ++ ([(.bool (x.small))] : List Value)), cellC b6 40 (([(.int .i64 (1 + (withinV x.kind 2))), (.int .i64 (withinV x.round 3)), (.int .i64 (withinV x.replica 7))] : List Value) ++ hc (hash1 ((x.h.l.getD 0 0) % 3)) ++ ([(.bool (x.small))] : List Value))] w49)
    refine hK48 _ _ ?_
    clear hK48 K48
    refine w_nil ?_
    refine then_normal ?_
    refine w_ret ?_
    refine end1 rfl (res_cellN (vs := (([(.int .i64 (1 + (withinV x.kind 2))), (.int .i64 (withinV x.round 3)), (.int .i64 (withinV x.replica 7))] : List Value) ++ hc (hash1 ((x.h.l.getD 0 0) % 3)) ++ ([(.bool (x.small))] : List Value))) rfl (by kernel_rfl) (by kernel_rfl) (by exact Nat.le_of_ble_eq_true (by kernel_rfl)) (H50.at 2 rfl) (by kernel_rfl)) ?_
    exact ⟨by unfold VoteIn.cut; rw [if_pos  b9]; rfl, H50.upd 0 rfl [] (fun _ h => h.elim)⟩
  · refine wp_know 4 (.bool false) (congrArg Value.bool b9) ?_
    refine wp_iff rfl ?_
    refine w_skip ?_
    refine then_normal ?_
    refine w_seq ?_
    refine w_lit ?_
    refine wl_pure (wants0 rfl) (d := 24) (v := (.agg ⟨(([(.int .i64 (x.kind)), (.int .i64 (x.round)), (.int .i64 (x.replica))] : List Value) ++ hc x.h ++ ([(.bool (x.small))] : List Value))⟩)) rfl (e_loadN (vs := (([(.int .i64 (x.kind)), (.int .i64 (x.round)), (.int .i64 (x.replica))] : List Value) ++ hc x.h ++ ([(.bool (x.small))] : List Value))) rfl (by kernel_rfl) (by kernel_rfl) (by exact Nat.le_of_ble_eq_true (by kernel_rfl)) (H8.at 1 rfl) (by kernel_rfl)) ?_
    refine wl_do (wants0 rfl) (fun K52 hK52 => ?_)
    refine d_store (vs := (([(.int .i64 (x.kind)), (.int .i64 (x.round)), (.int .i64 (x.replica))] : List Value) ++ hc x.h ++ ([(.bool (x.small))] : List Value))) rfl H8 2 rfl rfl rfl rfl (by kernel_rfl) (Nat.le_of_ble_eq_true (by kernel_rfl)) (Nat.le_of_ble_eq_true (by kernel_rfl)) (by kernel_rfl) ?_
    intro w53 (H54 : Sat w [restC w (fun _ => False), cellC b2 40 (([(.int .i64 (x.kind)), (.int .i64 (x.round)), (.int .i64 (x.replica))] : List Value) ++ hc x.h ++ ([(.bool (x.small))] : List Value)), cellC b6 40 (([(.int .i64 (x.kind)), (.int .i64 (x.round)), (.int .i64 (x.replica))] : List Value) ++ hc x.h ++ ([(.bool (x.small))] : List Value))] w53)
    refine hK52 _ _ ?_
    clear hK52 K52
    refine w_nil ?_
    refine then_normal ?_
    refine w_ret ?_
    refine end1 rfl (res_cellN (vs := (([(.int .i64 (x.kind)), (.int .i64 (x.round)), (.int .i64 (x.replica))] : List Value) ++ hc x.h ++ ([(.bool (x.small))] : List Value))) rfl (by kernel_rfl) (by kernel_rfl) (by exact Nat.le_of_ble_eq_true (by kernel_rfl)) (H54.at 2 rfl) (by kernel_rfl)) ?_
    exact ⟨by unfold VoteIn.cut; rw [if_neg (by rw [b9]; simp)]; rfl, H54.upd 0 rfl [] (fun _ h => h.elim)⟩

end Go.Proofs.Ytfhhljgjppcdlaa
