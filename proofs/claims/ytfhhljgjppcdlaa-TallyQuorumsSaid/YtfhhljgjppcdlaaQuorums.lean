/- WHAT IS PROVED: TallyQuorums answers true whatever its input. No condition. -/
import Derived.Test.YtfhhljgjppcdlaaQuorumsMath
namespace Go.Proofs.Ytfhhljgjppcdlaa
open Go.RowKit

set_option maxRecDepth 100000 in
set_option maxHeartbeats 2000000 in
theorem quorums_walk (w : World) (f liars : Int) (va : Option Addr) (vc : Nat) (vs : List Int) (a b : Hash) (hvotes : IntsAt w (.slice va vs.length vc) vs) (hvl : vs.length ≤ 9223372036854775807) :
    Calls Try.prog 3 #[(.int .i64 (f)), (.slice va vs.length vc), (.int .i64 (liars)), (.agg ⟨(hc a)⟩), (.agg ⟨(hc b)⟩)] w fun e w' => e = .returned (.bool true) ∧ Upd [] w w' := by
  have H := Sat.start0 w
  have hwf := within_lim f 21 (by omega)
  have hwl := within_lim liars (3 * (1 + withinV f 21) + 1) (by omega)
  refine calls_fr Try.func3 rfl 142 rfl (Nat.le_of_ble_eq_true rfl) ?_
  refine w_seq ?_
  refine w_lit ?_
  refine wl_do (wants0 rfl) (fun K1 hK1 => ?_)
  refine d_box (vs := (hc a)) rfl H rfl rfl ?_
  intro b2 w3 (H4 : Sat w [restC w (fun _ => False), cellC b2 24 (hc a)] w3)
  refine hK1 _ _ ?_
  clear hK1 K1
  refine wl_do (wants0 rfl) (fun K5 hK5 => ?_)
  refine d_box (vs := (hc b)) rfl H4 rfl rfl ?_
  intro b6 w7 (H8 : Sat w [restC w (fun _ => False), cellC b2 24 (hc a), cellC b6 24 (hc b)] w7)
  refine hK5 _ _ ?_
  clear hK5 K5
  refine wl_pure (wants0 rfl) (d := 10) (v := (.bool false)) rfl (by kernel_rfl) ?_
  refine w_nil ?_
  refine then_normal ?_
  refine w_seq ?_
  refine w_lit ?_
  refine wl_pure (wants0 rfl) (d := 20) (v := (.int .i64 (f))) rfl (by kernel_rfl) ?_
  refine wl_do (wants0 rfl) (fun K9 hK9 => ?_)
  refine d_call (d := 21) rfl (by kernel_rfl) (within_any w7 f 21 (by omega)) ?_
  rintro _ w10 ⟨rfl, u12⟩
  have H11 := H8.keepU u12
  refine ⟨_, rfl, ?_⟩
  refine hK9 _ _ ?_
  clear hK9 K9
  refine wl_pure (wants0 rfl) (d := 22) (v := (.int .i64 (1 + (withinV f 21)))) rfl (e_int (z := 1 + (withinV f 21)) (by kernel_rfl) (IntWalk.i64_in _ (by omega))) ?_
  refine wl_pure (wants0 rfl) (d := 23) (v := (.agg ⟨[(.int .i64 (1 + (withinV f 21))), (.int .i64 (1))]⟩)) rfl (by kernel_rfl) ?_
  refine wl_do (wants0 rfl) (fun K13 hK13 => ?_)
  refine d_alloc (zs := [(.int .i64 (0)), (.int .i64 (0))]) (z := (.agg ⟨[(.int .i64 (0)), (.int .i64 (0))]⟩)) rfl H11 (by kernel_rfl) rfl ?_
  intro b14 w15 (H16 : Sat w [restC w (fun _ => False), cellC b2 24 (hc a), cellC b6 24 (hc b), cellC b14 27 [(.int .i64 (0)), (.int .i64 (0))]] w15)
  refine hK13 _ _ ?_
  clear hK13 K13
  refine wl_do (wants0 rfl) (fun K17 hK17 => ?_)
  refine d_store (vs := [(.int .i64 (1 + (withinV f 21))), (.int .i64 (1))]) rfl H16 3 rfl rfl rfl rfl (by kernel_rfl) (Nat.le_of_ble_eq_true (by kernel_rfl)) (Nat.le_of_ble_eq_true (by kernel_rfl)) (by kernel_rfl) ?_
  intro w18 (H19 : Sat w [restC w (fun _ => False), cellC b2 24 (hc a), cellC b6 24 (hc b), cellC b14 27 [(.int .i64 (1 + (withinV f 21))), (.int .i64 (1))]] w18)
  refine hK17 _ _ ?_
  clear hK17 K17
  refine w_nil ?_
  refine then_normal ?_
  refine w_seq ?_
  refine w_lit ?_
  refine wl_pure (wants0 rfl) (d := 24) (v := (.agg ⟨[(.int .i64 (1 + (withinV f 21))), (.int .i64 (1))]⟩)) rfl (e_loadN (vs := [(.int .i64 (1 + (withinV f 21))), (.int .i64 (1))]) rfl (by kernel_rfl) (by kernel_rfl) (by exact Nat.le_of_ble_eq_true (by kernel_rfl)) (H19.at 3 rfl) (by kernel_rfl)) ?_
  refine wl_do (wants0 rfl) (fun K21 hK21 => ?_)
  refine d_call (d := 25) rfl (by kernel_rfl) (refN_any w18 (1 + (withinV f 21)) 1 (by omega)) ?_
  rintro _ w22 ⟨rfl, u24⟩
  have H23 := H19.keepU u24
  refine ⟨_, rfl, ?_⟩
  refine hK21 _ _ ?_
  clear hK21 K21
  refine wl_pure (wants0 rfl) (d := 12) (v := (.int .i64 (3 * (1 + (withinV f 21)) + 1))) rfl (by kernel_rfl) ?_
  refine w_nil ?_
  refine then_normal ?_
  refine w_seq ?_
  refine w_lit ?_
  refine wl_pure (wants0 rfl) (d := 27) (v := (.agg ⟨[(.int .i64 (1 + (withinV f 21))), (.int .i64 (1))]⟩)) rfl (e_loadN (vs := [(.int .i64 (1 + (withinV f 21))), (.int .i64 (1))]) rfl (by kernel_rfl) (by kernel_rfl) (by exact Nat.le_of_ble_eq_true (by kernel_rfl)) (H23.at 3 rfl) (by kernel_rfl)) ?_
  refine wl_do (wants0 rfl) (fun K25 hK25 => ?_)
  refine d_call (d := 28) rfl (by kernel_rfl) (talNew_any w22 (1 + (withinV f 21)) 1) ?_
  rintro _ w26 (⟨_, t31, hb32, cb33, ab34, lb35, rfl, k29, u28, q30⟩ | ⟨hcf, _⟩)
  rotate_left
  · exact absurd hcf (by rw [show confB (1 + (withinV f 21)) 1 = true by (simp [confB]; omega)]; simp)
  have H27 : Sat w [restC w (fun _ => False), cellC b2 24 (hc a), cellC b6 24 (hc b), cellC b14 27 [(.int .i64 (1 + (withinV f 21))), (.int .i64 (1))], talC t31 hb32 cb33 ab34 lb35 (1 + (withinV f 21)) 1 []] w26 := H23.addU u28 k29 q30
  refine ⟨_, rfl, ?_⟩
  refine hK25 _ _ ?_
  clear hK25 K25
  refine wl_pure (wants0 rfl) (d := 26) (v := (.tuple #[(.pointer (some ⟨t31, 0, none⟩)), (.int .i64 (0))])) rfl (by kernel_rfl) ?_
  refine wl_pure (wants0 rfl) (d := 29) (v := (.pointer (some ⟨t31, 0, none⟩))) rfl (by kernel_rfl) ?_
  refine wl_pure (wants0 rfl) (d := 30) (v := (.int .i64 (0))) rfl (by kernel_rfl) ?_
  refine wl_pure (wants0 rfl) (d := 13) (v := (.pointer (some ⟨t31, 0, none⟩))) rfl (by kernel_rfl) ?_
  refine wl_pure (wants0 rfl) (d := 14) (v := (.int .i64 (0))) rfl (by kernel_rfl) ?_
  refine w_nil ?_
  refine then_normal ?_
  refine w_seq ?_
  refine w_lit ?_
  refine wl_pure (wants0 rfl) (d := 32) (v := (.agg ⟨[(.int .i64 (1 + (withinV f 21))), (.int .i64 (1))]⟩)) rfl (e_loadN (vs := [(.int .i64 (1 + (withinV f 21))), (.int .i64 (1))]) rfl (by kernel_rfl) (by kernel_rfl) (by exact Nat.le_of_ble_eq_true (by kernel_rfl)) (H27.at 3 rfl) (by kernel_rfl)) ?_
  refine wl_do (wants0 rfl) (fun K36 hK36 => ?_)
  refine d_call (d := 33) rfl (by kernel_rfl) (talNew_any w26 (1 + (withinV f 21)) 1) ?_
  rintro _ w37 (⟨_, t42, hb43, cb44, ab45, lb46, rfl, k40, u39, q41⟩ | ⟨hcf, _⟩)
  rotate_left
  · exact absurd hcf (by rw [show confB (1 + (withinV f 21)) 1 = true by (simp [confB]; omega)]; simp)
  have H38 : Sat w [restC w (fun _ => False), cellC b2 24 (hc a), cellC b6 24 (hc b), cellC b14 27 [(.int .i64 (1 + (withinV f 21))), (.int .i64 (1))], talC t31 hb32 cb33 ab34 lb35 (1 + (withinV f 21)) 1 [], talC t42 hb43 cb44 ab45 lb46 (1 + (withinV f 21)) 1 []] w37 := H27.addU u39 k40 q41
  refine ⟨_, rfl, ?_⟩
  refine hK36 _ _ ?_
  clear hK36 K36
  refine wl_pure (wants0 rfl) (d := 31) (v := (.tuple #[(.pointer (some ⟨t42, 0, none⟩)), (.int .i64 (0))])) rfl (by kernel_rfl) ?_
  refine wl_pure (wants0 rfl) (d := 34) (v := (.pointer (some ⟨t42, 0, none⟩))) rfl (by kernel_rfl) ?_
  refine wl_pure (wants0 rfl) (d := 35) (v := (.int .i64 (0))) rfl (by kernel_rfl) ?_
  refine wl_pure (wants0 rfl) (d := 15) (v := (.pointer (some ⟨t42, 0, none⟩))) rfl (by kernel_rfl) ?_
  refine wl_pure (wants0 rfl) (d := 16) (v := (.int .i64 (0))) rfl (by kernel_rfl) ?_
  refine w_nil ?_
  refine then_normal ?_
  refine w_seq ?_
  refine w_seq ?_
  refine w_lit ?_
  refine wl_pure (wants0 rfl) (d := 36) (v := (.int .i64 (0))) rfl (by kernel_rfl) ?_
  refine wl_pure (wants0 rfl) (d := 37) (v := (.bool false)) rfl (by kernel_rfl) ?_
  refine wl_pure (wants0 rfl) (d := 38) (v := (.bool false)) rfl (by kernel_rfl) ?_
  refine wl_pure (wantsY 2 38 false rfl (by kernel_rfl) rfl (by kernel_rfl)) (d := 39) (v := (.int .i64 (0))) rfl (by kernel_rfl) ?_
  refine wl_pure (wantsY 2 38 false rfl (by kernel_rfl) rfl (by kernel_rfl)) (d := 40) (v := (.bool false)) rfl (by kernel_rfl) ?_
  refine wl_pure (wants0 rfl) (d := 41) (v := (.bool false)) rfl (by kernel_rfl) ?_
  refine wl_pure (wants0 rfl) (d := 42) (v := (.bool false)) rfl (by kernel_rfl) ?_
  refine wl_pure (wantsY 6 42 false rfl (by kernel_rfl) rfl (by kernel_rfl)) (d := 43) (v := (.pointer (some ⟨t31, 0, none⟩))) rfl (by kernel_rfl) ?_
  refine wl_pure (wantsY 6 42 false rfl (by kernel_rfl) rfl (by kernel_rfl)) (d := 44) (v := (.bool false)) rfl (by kernel_rfl) ?_
  refine wl_pure (wants0 rfl) (d := 45) (v := (.bool false)) rfl (by kernel_rfl) ?_
  refine wl_pure (wants0 rfl) (d := 46) (v := (.bool false)) rfl (by kernel_rfl) ?_
  refine wl_pure (wantsY 10 46 false rfl (by kernel_rfl) rfl (by kernel_rfl)) (d := 47) (v := (.pointer (some ⟨t42, 0, none⟩))) rfl (by kernel_rfl) ?_
  refine wl_pure (wantsY 10 46 false rfl (by kernel_rfl) rfl (by kernel_rfl)) (d := 48) (v := (.bool false)) rfl (by kernel_rfl) ?_
  refine wl_pure (wants0 rfl) (d := 49) (v := (.bool false)) rfl (by kernel_rfl) ?_
  refine w_nil ?_
  refine then_normal ?_
  refine wp_iff rfl ?_
  refine w_skip ?_
  refine then_normal ?_
  refine wp_meetR [50, 51, 52, 53, 54, 55, 56] (fun G_ W_ => ∃ A : Hash, (A ≠ b) ∧ Sat w [restC w (fun _ => False), cellC b2 24 (hc A), cellC b6 24 (hc b), cellC b14 27 [(.int .i64 (1 + (withinV f 21))), (.int .i64 (1))], talC t31 hb32 cb33 ab34 lb35 (1 + (withinV f 21)) 1 [], talC t42 hb43 cb44 ab45 lb46 (1 + (withinV f 21)) 1 []] W_) ?_ ?_
  · refine w_seq ?_
    refine w_lit ?_
    refine wl_pure (wants0 rfl) (d := 50) (v := (.agg ⟨(hc a)⟩)) rfl (e_loadN (vs := (hc a)) rfl (by kernel_rfl) (by kernel_rfl) (by exact Nat.le_of_ble_eq_true (by kernel_rfl)) (H38.at 1 rfl) (by kernel_rfl)) ?_
    refine wl_pure (wants0 rfl) (d := 51) (v := (.agg ⟨(hc b)⟩)) rfl (e_loadN (vs := (hc b)) rfl (by kernel_rfl) (by kernel_rfl) (by exact Nat.le_of_ble_eq_true (by kernel_rfl)) (H38.at 2 rfl) (by kernel_rfl)) ?_
    refine wl_pure (wants0 rfl) (d := 52) (v := (.bool (decide (a = b)))) rfl (e_eqHash a b rfl rfl) ?_
    refine w_nil ?_
    refine then_normal ?_
    refine (bsplit (decide (a = b))).elim (fun b48 => ?_) (fun b48 => ?_)
    · have g49 := of_decide_eq_true b48
      refine wp_know 52 (.bool true) (congrArg Value.bool b48) ?_
      refine wp_ift rfl ?_
      have H50 : Sat w [restC w (fun _ => False), cellC b2 24 [(.int .u8 (((a.l.getD 0 0).toNat : Int))), (.int .u8 (((a.l.getD 1 0).toNat : Int))), (.int .u8 (((a.l.getD 2 0).toNat : Int))), (.int .u8 (((a.l.getD 3 0).toNat : Int))), (.int .u8 (((a.l.getD 4 0).toNat : Int))), (.int .u8 (((a.l.getD 5 0).toNat : Int))), (.int .u8 (((a.l.getD 6 0).toNat : Int))), (.int .u8 (((a.l.getD 7 0).toNat : Int))), (.int .u8 (((a.l.getD 8 0).toNat : Int))), (.int .u8 (((a.l.getD 9 0).toNat : Int))), (.int .u8 (((a.l.getD 10 0).toNat : Int))), (.int .u8 (((a.l.getD 11 0).toNat : Int))), (.int .u8 (((a.l.getD 12 0).toNat : Int))), (.int .u8 (((a.l.getD 13 0).toNat : Int))), (.int .u8 (((a.l.getD 14 0).toNat : Int))), (.int .u8 (((a.l.getD 15 0).toNat : Int))), (.int .u8 (((a.l.getD 16 0).toNat : Int))), (.int .u8 (((a.l.getD 17 0).toNat : Int))), (.int .u8 (((a.l.getD 18 0).toNat : Int))), (.int .u8 (((a.l.getD 19 0).toNat : Int))), (.int .u8 (((a.l.getD 20 0).toNat : Int))), (.int .u8 (((a.l.getD 21 0).toNat : Int))), (.int .u8 (((a.l.getD 22 0).toNat : Int))), (.int .u8 (((a.l.getD 23 0).toNat : Int))), (.int .u8 (((a.l.getD 24 0).toNat : Int))), (.int .u8 (((a.l.getD 25 0).toNat : Int))), (.int .u8 (((a.l.getD 26 0).toNat : Int))), (.int .u8 (((a.l.getD 27 0).toNat : Int))), (.int .u8 (((a.l.getD 28 0).toNat : Int))), (.int .u8 (((a.l.getD 29 0).toNat : Int))), (.int .u8 (((a.l.getD 30 0).toNat : Int))), (.int .u8 (((a.l.getD 31 0).toNat : Int)))], cellC b6 24 (hc b), cellC b14 27 [(.int .i64 (1 + (withinV f 21))), (.int .i64 (1))], talC t31 hb32 cb33 ab34 lb35 (1 + (withinV f 21)) 1 [], talC t42 hb43 cb44 ab45 lb46 (1 + (withinV f 21)) 1 []] w37 := H38
      refine w_lit ?_
      refine wl_pure (wants0 rfl) (d := 53) (v := (.pointer (some ⟨b2, 0, none⟩))) rfl (by kernel_rfl) ?_
      refine wl_pure (wants0 rfl) (d := 54) (v := (.int .u8 (((a.l.getD 0 0).toNat : Int)))) rfl (e_load1 rfl (by kernel_rfl) (H50.cell 1 rfl rfl)) ?_
      refine wl_pure (wants0 rfl) (d := 55) (v := (.int .u8 (((a.l.getD 0 0 + 1).toNat : Int)))) rfl (e_int (z := ((a.l.getD 0 0).toNat : Int) + 1) (by kernel_rfl) ((by exact u8_bump _))) ?_
      refine wl_pure (wants0 rfl) (d := 56) (v := (.pointer (some ⟨b2, 0, none⟩))) rfl (by kernel_rfl) ?_
      refine wl_do (wants0 rfl) (fun K51 hK51 => ?_)
      refine d_store (vs := [(.int .u8 (((a.l.getD 0 0 + 1).toNat : Int)))]) rfl H50 1 rfl rfl rfl rfl (by kernel_rfl) (Nat.le_of_ble_eq_true (by kernel_rfl)) (Nat.le_of_ble_eq_true (by kernel_rfl)) (by kernel_rfl) ?_
      intro w52 (H53 : Sat w [restC w (fun _ => False), cellC b2 24 [(.int .u8 (((a.l.getD 0 0 + 1).toNat : Int))), (.int .u8 (((a.l.getD 1 0).toNat : Int))), (.int .u8 (((a.l.getD 2 0).toNat : Int))), (.int .u8 (((a.l.getD 3 0).toNat : Int))), (.int .u8 (((a.l.getD 4 0).toNat : Int))), (.int .u8 (((a.l.getD 5 0).toNat : Int))), (.int .u8 (((a.l.getD 6 0).toNat : Int))), (.int .u8 (((a.l.getD 7 0).toNat : Int))), (.int .u8 (((a.l.getD 8 0).toNat : Int))), (.int .u8 (((a.l.getD 9 0).toNat : Int))), (.int .u8 (((a.l.getD 10 0).toNat : Int))), (.int .u8 (((a.l.getD 11 0).toNat : Int))), (.int .u8 (((a.l.getD 12 0).toNat : Int))), (.int .u8 (((a.l.getD 13 0).toNat : Int))), (.int .u8 (((a.l.getD 14 0).toNat : Int))), (.int .u8 (((a.l.getD 15 0).toNat : Int))), (.int .u8 (((a.l.getD 16 0).toNat : Int))), (.int .u8 (((a.l.getD 17 0).toNat : Int))), (.int .u8 (((a.l.getD 18 0).toNat : Int))), (.int .u8 (((a.l.getD 19 0).toNat : Int))), (.int .u8 (((a.l.getD 20 0).toNat : Int))), (.int .u8 (((a.l.getD 21 0).toNat : Int))), (.int .u8 (((a.l.getD 22 0).toNat : Int))), (.int .u8 (((a.l.getD 23 0).toNat : Int))), (.int .u8 (((a.l.getD 24 0).toNat : Int))), (.int .u8 (((a.l.getD 25 0).toNat : Int))), (.int .u8 (((a.l.getD 26 0).toNat : Int))), (.int .u8 (((a.l.getD 27 0).toNat : Int))), (.int .u8 (((a.l.getD 28 0).toNat : Int))), (.int .u8 (((a.l.getD 29 0).toNat : Int))), (.int .u8 (((a.l.getD 30 0).toNat : Int))), (.int .u8 (((a.l.getD 31 0).toNat : Int)))], cellC b6 24 (hc b), cellC b14 27 [(.int .i64 (1 + (withinV f 21))), (.int .i64 (1))], talC t31 hb32 cb33 ab34 lb35 (1 + (withinV f 21)) 1 [], talC t42 hb43 cb44 ab45 lb46 (1 + (withinV f 21)) 1 []] w52)
      refine hK51 _ _ ?_
      clear hK51 K51
      refine w_nil ?_
      have H55 : Sat w [restC w (fun _ => False), cellC b2 24 (hc a.bump), cellC b6 24 (hc b), cellC b14 27 [(.int .i64 (1 + (withinV f 21))), (.int .i64 (1))], talC t31 hb32 cb33 ab34 lb35 (1 + (withinV f 21)) 1 [], talC t42 hb43 cb44 ab45 lb46 (1 + (withinV f 21)) 1 []] w52 := H53
      refine meetR_at ?_ ⟨a.bump, (by have := g49; subst this; exact Hash.bump_ne _), H55⟩
      exact (same_upd rfl (same_upd rfl (same_upd rfl (same_upd rfl (same_upd rfl (same_upd rfl (same_upd rfl (same_upd rfl (same_refl)))))))))
    · have g56 := of_decide_eq_false b48
      refine wp_know 52 (.bool false) (congrArg Value.bool b48) ?_
      refine wp_iff rfl ?_
      refine w_skip ?_
      refine meetR_at ?_ ⟨a, (by exact g56), H38⟩
      exact (same_upd rfl (same_upd rfl (same_upd rfl (same_upd rfl (same_refl)))))
  · rintro f57 w58 ⟨A, hA, H59⟩
    refine w_seq ?_
    refine w_lit ?_
    refine wl_pure (wants0 rfl) (d := 57) (v := (.int .i64 (liars))) rfl (by kernel_rfl) ?_
    refine wl_pure (wants0 rfl) (d := 58) (v := (.int .i64 (3 * (1 + (withinV f 21)) + 1))) rfl (by kernel_rfl) ?_
    refine wl_do (wants0 rfl) (fun K60 hK60 => ?_)
    refine d_call (d := 59) rfl (by kernel_rfl) (within_any w58 liars (3 * (1 + (withinV f 21)) + 1) (by omega)) ?_
    rintro _ w61 ⟨rfl, u63⟩
    have H62 := H59.keepU u63
    refine ⟨_, rfl, ?_⟩
    refine hK60 _ _ ?_
    clear hK60 K60
    refine wl_pure (wants0 rfl) (d := 2) (v := (.int .i64 (withinV liars (3 * (1 + (withinV f 21)) + 1)))) rfl (by kernel_rfl) ?_
    refine w_nil ?_
    refine then_normal ?_
    refine w_seq ?_
    refine w_seq ?_
    refine w_lit ?_
    refine wl_pure (wants0 rfl) (d := 17) (v := (.int .i64 (0))) rfl (by kernel_rfl) ?_
    refine w_nil ?_
    refine then_normal ?_
    refine w_block ?_
    refine wp_round [17, 18, 60, 61, 62, 63, 64, 65, 66, 67, 68, 69, 70, 71, 72, 73, 74, 75, 76, 77, 78, 79, 80, 81, 82, 83, 84, 85, 86, 87, 88, 89, 90, 91, 92, 93, 94, 95, 96, 97, 98, 99, 100, 101, 102, 103, 104, 105, 106, 107] (fun F_ W_ m_ => ∃ (k : Nat), F_ 17 = (.int .i64 ((k : Int))) ∧ ((k : Int) ≤ (3 * (1 + withinV f 21) + 1)) ∧ Sat w [restC w (fun _ => False), cellC b2 24 (hc A), cellC b6 24 (hc b), cellC b14 27 [(.int .i64 (1 + (withinV f 21))), (.int .i64 (1))], talC t31 hb32 cb33 ab34 lb35 (1 + (withinV f 21)) 1 (quL (1 + withinV f 21) (quX (1 + withinV f 21) (withinV liars (3 * (1 + withinV f 21) + 1)) vs A b) k), talC t42 hb43 cb44 ab45 lb46 (1 + (withinV f 21)) 1 (quL (1 + withinV f 21) (quY (1 + withinV f 21) (withinV liars (3 * (1 + withinV f 21) + 1)) vs A b) k)] W_ ∧ m_ = ((3 * (1 + withinV f 21) + 1)).toNat - k) _ ⟨0, (by first | rfl | go_num), by omega, H62, rfl⟩ ?_
    rintro g64 w65 _ ⟨k, v67, hk, H66, rfl⟩
    refine wp_know 17 _ v67 ?_
    refine w_seq ?_
    refine w_seq ?_
    refine w_lit ?_
    refine wl_pure (wants0 rfl) (d := 60) (v := (.int .i64 ((k : Int)))) rfl (by kernel_rfl) ?_
    refine wl_pure (wants0 rfl) (d := 61) (v := (.int .i64 (3 * (1 + (withinV f 21)) + 1))) rfl (by kernel_rfl) ?_
    refine wl_pure (wants0 rfl) (d := 62) (v := (.bool (decide ((k : Int) < (3 * (1 + (withinV f 21)) + 1))))) rfl (by kernel_rfl) ?_
    refine w_nil ?_
    refine then_normal ?_
    refine (bsplit (decide ((k : Int) < (3 * (1 + (withinV f 21)) + 1)))).elim (fun b69 => ?_) (fun b69 => ?_)
    · have g70 := of_decide_eq_true b69
      refine wp_know 62 (.bool true) (congrArg Value.bool b69) ?_
      refine wp_ift rfl ?_
      refine w_skip ?_
      refine then_normal ?_
      refine w_seq ?_
      refine w_block ?_
      refine w_seq ?_
      refine w_lit ?_
      refine wl_pure (wants0 rfl) (d := 18) (v := (.int .i64 (0))) rfl (by kernel_rfl) ?_
      refine w_nil ?_
      refine then_normal ?_
      refine wp_meetR [18, 65, 66, 67, 68, 69, 70, 71, 72] (fun G_ W_ => G_ 18 = (.int .i64 (vs.getD k 0)) ∧ Sat w [restC w (fun _ => False), cellC b2 24 (hc A), cellC b6 24 (hc b), cellC b14 27 [(.int .i64 (1 + (withinV f 21))), (.int .i64 (1))], talC t31 hb32 cb33 ab34 lb35 (1 + (withinV f 21)) 1 (quL (1 + withinV f 21) (quX (1 + withinV f 21) (withinV liars (3 * (1 + withinV f 21) + 1)) vs A b) k), talC t42 hb43 cb44 ab45 lb46 (1 + (withinV f 21)) 1 (quL (1 + withinV f 21) (quY (1 + withinV f 21) (withinV liars (3 * (1 + withinV f 21) + 1)) vs A b) k)] W_) ?_ ?_
      · refine w_seq ?_
        refine w_lit ?_
        refine wl_pure (wants0 rfl) (d := 65) (v := (.int .i64 ((k : Int)))) rfl (by kernel_rfl) ?_
        refine wl_pure (wants0 rfl) (d := 66) (v := (.slice va vs.length vc)) rfl (by kernel_rfl) ?_
        refine wl_pure (wants0 rfl) (d := 67) (v := (.int .i64 ((vs.length : Int)))) rfl (by kernel_rfl) ?_
        refine wl_pure (wants0 rfl) (d := 68) (v := (.bool (decide ((k : Int) < (vs.length : Int))))) rfl (by kernel_rfl) ?_
        refine w_nil ?_
        refine then_normal ?_
        refine (bsplit (decide ((k : Int) < (vs.length : Int)))).elim (fun b72 => ?_) (fun b72 => ?_)
        · have g73 := of_decide_eq_true b72
          refine wp_know 68 (.bool true) (congrArg Value.bool b72) ?_
          refine wp_ift rfl ?_
          obtain ⟨vb, vo, vc', hva, _, hvs⟩ := hvotes.some (by omega)
          simp only [Value.slice.injEq] at hva
          obtain ⟨rfl, _, rfl⟩ := hva
          have hcell : w.cell? ⟨vb, vo + ((k : Int)).toNat * 1, none⟩ = some (.int .i64 (vs.getD k 0)) := by simpa using hvs k (by omega)
          refine w_lit ?_
          refine wl_pure (wants0 rfl) (d := 69) (v := (.slice (some ⟨vb, vo, none⟩) vs.length vc)) rfl (by kernel_rfl) ?_
          refine wl_pure (wants0 rfl) (d := 70) (v := (.int .i64 ((k : Int)))) rfl (by kernel_rfl) ?_
          refine wl_pure (wants0 rfl) (d := 71) (v := (.pointer (some ⟨vb, vo + ((k : Int)).toNat * 1, none⟩))) rfl (e_indexAddr (E := 3) (by kernel_rfl) (by kernel_rfl) (Nat.le_of_ble_eq_true rfl) rfl rfl (by omega) (by omega)) ?_
          refine wl_pure (wants0 rfl) (d := 72) (v := (.int .i64 (vs.getD k 0))) rfl (e_load1 rfl (by kernel_rfl) (H66.cellR 0 rfl hcell (fun h => h))) ?_
          refine wl_pure (wants0 rfl) (d := 18) (v := (.int .i64 (vs.getD k 0))) rfl (by kernel_rfl) ?_
          refine w_nil ?_
          refine meetR_at ?_ ⟨rfl, H66⟩
          exact (same_upd rfl (same_upd rfl (same_upd rfl (same_upd rfl (same_upd rfl (same_upd rfl (same_upd rfl (same_upd rfl (same_upd rfl (same_upd rfl (same_refl)))))))))))
        · have g74 := of_decide_eq_false b72
          refine wp_know 68 (.bool false) (congrArg Value.bool b72) ?_
          refine wp_iff rfl ?_
          refine w_skip ?_
          refine meetR_at ?_ ⟨(show (Value.int .i64 0) = _ from by rw [List.getD, List.getElem?_eq_none (by omega)]; rfl), H66⟩
          exact (same_upd rfl (same_upd rfl (same_upd rfl (same_upd rfl (same_upd rfl (same_refl))))))
      · rintro f75 w76 ⟨v78, H77⟩
        refine wp_know 18 _ v78 ?_
        refine w_seq ?_
        refine q_start H77 (by kernel_rfl) (by kernel_rfl) ?_
        refine q_val (wants0 rfl) (d := 73) (v := (.int .i64 ((k : Int)))) rfl (fun _ H' => (by kernel_rfl)) ?_
        refine q_val (wants0 rfl) (d := 74) (v := (.int .i64 (withinV liars (3 * (1 + (withinV f 21)) + 1)))) rfl (fun _ H' => (by kernel_rfl)) ?_
        refine q_val (wants0 rfl) (d := 75) (v := (.int .i64 ((k : Int) + (withinV liars (3 * (1 + (withinV f 21)) + 1))))) rfl (fun _ H' => (e_int (z := (k : Int) + (withinV liars (3 * (1 + (withinV f 21)) + 1))) (by kernel_rfl) (IntWalk.i64_in _ (by omega)))) ?_
        refine q_val (wants0 rfl) (d := 76) (v := (.int .i64 (3 * (1 + (withinV f 21)) + 1))) rfl (fun _ H' => (by kernel_rfl)) ?_
        refine q_val (wants0 rfl) (d := 77) (v := (.int .i64 (((k : Int) + (withinV liars (3 * (1 + (withinV f 21)) + 1))) % (3 * (1 + (withinV f 21)) + 1)))) rfl (fun _ H' => (e_rem (by kernel_rfl) (by omega) (by omega))) ?_
        refine q_val (wants0 rfl) (d := 78) (v := (.pointer (some ⟨b14, 0, none⟩))) rfl (fun _ H' => (by kernel_rfl)) ?_
        refine q_val (wants0 rfl) (d := 79) (v := (.int .i64 (1 + (withinV f 21)))) rfl (fun _ H' => (e_load1 rfl (by kernel_rfl) (H'.cell 3 rfl rfl))) ?_
        refine q_val (wants0 rfl) (d := 80) (v := (.bool (decide ((((k : Int) + (withinV liars (3 * (1 + (withinV f 21)) + 1))) % (3 * (1 + (withinV f 21)) + 1)) < (1 + (withinV f 21)))))) rfl (fun _ H' => (by kernel_rfl)) ?_
        refine q_end ?_
        intro w79 H80
        refine then_normal ?_
        refine (bsplit (decide ((((k : Int) + (withinV liars (3 * (1 + (withinV f 21)) + 1))) % (3 * (1 + (withinV f 21)) + 1)) < (1 + (withinV f 21))))).elim (fun b81 => ?_) (fun b81 => ?_)
        · have g82 := of_decide_eq_true b81
          refine wp_know 80 (.bool true) (congrArg Value.bool b81) ?_
          refine wp_ift rfl ?_
          refine w_seq ?_
          refine w_lit ?_
          refine wl_pure (wants0 rfl) (d := 81) (v := (.pointer (some ⟨t31, 0, none⟩))) rfl (by kernel_rfl) ?_
          refine wl_pure (wants0 rfl) (d := 82) (v := (.int .i64 ((k : Int)))) rfl (by kernel_rfl) ?_
          refine wl_pure (wants0 rfl) (d := 83) (v := (.agg ⟨(hc A)⟩)) rfl (e_loadN (vs := (hc A)) rfl (by kernel_rfl) (by kernel_rfl) (by exact Nat.le_of_ble_eq_true (by kernel_rfl)) (H80.at 1 rfl) (by kernel_rfl)) ?_
          refine wl_do (wants0 rfl) (fun K83 hK83 => ?_)
          refine d_call (d := 84) rfl (by kernel_rfl) (talAdd_any w79 t31 hb32 cb33 ab34 lb35 (1 + (withinV f 21)) 1 (quL (1 + withinV f 21) (quX (1 + withinV f 21) (withinV liars (3 * (1 + withinV f 21) + 1)) vs A b) k) (H80.at 4 rfl) 1 3 (k : Int) A (by rw [qu_len _ _ (by omega)]; omega)) ?_
          rintro _ w84 ⟨rfl, k87, u86⟩
          have H85 : Sat w [restC w (fun _ => False), cellC b2 24 (hc A), cellC b6 24 (hc b), cellC b14 27 [(.int .i64 (1 + (withinV f 21))), (.int .i64 (1))], talC t31 hb32 cb33 ab34 lb35 (1 + (withinV f 21)) 1 (addV (1 + (withinV f 21)) (quL (1 + withinV f 21) (quX (1 + withinV f 21) (withinV liars (3 * (1 + withinV f 21) + 1)) vs A b) k) ⟨1, 3, (k : Int), A⟩), talC t42 hb43 cb44 ab45 lb46 (1 + (withinV f 21)) 1 (quL (1 + withinV f 21) (quY (1 + withinV f 21) (withinV liars (3 * (1 + withinV f 21) + 1)) vs A b) k)] w84 := H80.setU u86 4 rfl (fun _ hb => hb) k87 (fun _ hb => .inl hb)
          refine ⟨_, rfl, ?_⟩
          refine hK83 _ _ ?_
          clear hK83 K83
          refine w_nil ?_
          refine then_normal ?_
          refine w_lit ?_
          refine wl_pure (wants0 rfl) (d := 85) (v := (.pointer (some ⟨t42, 0, none⟩))) rfl (by kernel_rfl) ?_
          refine wl_pure (wants0 rfl) (d := 86) (v := (.int .i64 ((k : Int)))) rfl (by kernel_rfl) ?_
          refine wl_pure (wants0 rfl) (d := 87) (v := (.agg ⟨(hc b)⟩)) rfl (e_loadN (vs := (hc b)) rfl (by kernel_rfl) (by kernel_rfl) (by exact Nat.le_of_ble_eq_true (by kernel_rfl)) (H85.at 2 rfl) (by kernel_rfl)) ?_
          refine wl_do (wants0 rfl) (fun K88 hK88 => ?_)
          refine d_call (d := 88) rfl (by kernel_rfl) (talAdd_any w84 t42 hb43 cb44 ab45 lb46 (1 + (withinV f 21)) 1 (quL (1 + withinV f 21) (quY (1 + withinV f 21) (withinV liars (3 * (1 + withinV f 21) + 1)) vs A b) k) (H85.at 5 rfl) 1 3 (k : Int) b (by rw [qu_len _ _ (by omega)]; omega)) ?_
          rintro _ w89 ⟨rfl, k92, u91⟩
          have H90 : Sat w [restC w (fun _ => False), cellC b2 24 (hc A), cellC b6 24 (hc b), cellC b14 27 [(.int .i64 (1 + (withinV f 21))), (.int .i64 (1))], talC t31 hb32 cb33 ab34 lb35 (1 + (withinV f 21)) 1 (addV (1 + (withinV f 21)) (quL (1 + withinV f 21) (quX (1 + withinV f 21) (withinV liars (3 * (1 + withinV f 21) + 1)) vs A b) k) ⟨1, 3, (k : Int), A⟩), talC t42 hb43 cb44 ab45 lb46 (1 + (withinV f 21)) 1 (addV (1 + (withinV f 21)) (quL (1 + withinV f 21) (quY (1 + withinV f 21) (withinV liars (3 * (1 + withinV f 21) + 1)) vs A b) k) ⟨1, 3, (k : Int), b⟩)] w89 := H85.setU u91 5 rfl (fun _ hb => hb) k92 (fun _ hb => .inl hb)
          refine ⟨_, rfl, ?_⟩
          refine hK88 _ _ ?_
          clear hK88 K88
          refine w_nil ?_
          refine blk_normal ?_
          refine then_normal ?_
          refine w_lit ?_
          refine wl_pure (wants0 rfl) (d := 63) (v := (.int .i64 ((k : Int)))) rfl (by kernel_rfl) ?_
          refine wl_pure (wants0 rfl) (d := 64) (v := (.int .i64 ((k : Int) + 1))) rfl (e_int (z := (k : Int) + 1) (by kernel_rfl) (IntWalk.i64_in _ (by omega))) ?_
          refine wl_pure (wants0 rfl) (d := 17) (v := (.int .i64 ((k : Int) + 1))) rfl (by kernel_rfl) ?_
          refine w_nil ?_
          have e940 : (addV (1 + (withinV f 21)) (quL (1 + withinV f 21) (quX (1 + withinV f 21) (withinV liars (3 * (1 + withinV f 21) + 1)) vs A b) k) ⟨1, 3, (k : Int), A⟩) = (quL (1 + withinV f 21) (quX (1 + withinV f 21) (withinV liars (3 * (1 + withinV f 21) + 1)) vs A b) (k + 1)) := by simp only [quL, quX]; rw [if_pos (of_decide_eq_true b81)]
          have e941 : (addV (1 + (withinV f 21)) (quL (1 + withinV f 21) (quY (1 + withinV f 21) (withinV liars (3 * (1 + withinV f 21) + 1)) vs A b) k) ⟨1, 3, (k : Int), b⟩) = (quL (1 + withinV f 21) (quY (1 + withinV f 21) (withinV liars (3 * (1 + withinV f 21) + 1)) vs A b) (k + 1)) := by simp only [quL, quY]; rw [if_pos (of_decide_eq_true b81)]
          have H93 : Sat w [restC w (fun _ => False), cellC b2 24 (hc A), cellC b6 24 (hc b), cellC b14 27 [(.int .i64 (1 + (withinV f 21))), (.int .i64 (1))], talC t31 hb32 cb33 ab34 lb35 (1 + (withinV f 21)) 1 (quL (1 + withinV f 21) (quX (1 + withinV f 21) (withinV liars (3 * (1 + withinV f 21) + 1)) vs A b) (k + 1)), talC t42 hb43 cb44 ab45 lb46 (1 + (withinV f 21)) 1 (quL (1 + withinV f 21) (quY (1 + withinV f 21) (withinV liars (3 * (1 + withinV f 21) + 1)) vs A b) (k + 1))] w89 := by rw [← e940, ← e941]; exact H90
          refine round_back ?_ _ ⟨(k + 1), (show ((.int .i64 ((k : Int) + 1)) : Value) = _ by first | rfl | go_num), by omega, H93, rfl⟩ (by omega)
          exact (same_upd rfl (same_upd rfl (same_upd rfl (same_upd rfl (same_upd rfl (same_upd rfl (same_upd rfl (same_upd rfl (same_upd rfl (same_upd rfl (same_upd rfl (same_upd rfl (same_upd rfl (same_upd rfl (same_upd rfl (same_upd rfl (same_upd rfl (same_upd rfl (same_upd rfl (same_upd rfl (same_upd rfl (same_ovr2 rfl (same_upd rfl (same_upd rfl (same_upd rfl (same_upd rfl (same_upd rfl (same_upd rfl (same_ovr)))))))))))))))))))))))))))))
        · have g95 := of_decide_eq_false b81
          refine wp_know 80 (.bool false) (congrArg Value.bool b81) ?_
          refine wp_iff rfl ?_
          refine w_seq ?_
          refine w_lit ?_
          refine wl_pure (wants0 rfl) (d := 89) (v := (.int .i64 (vs.getD k 0))) rfl (by kernel_rfl) ?_
          refine wl_pure (wants0 rfl) (d := 90) (v := (.int .i64 (Int.tmod (vs.getD k 0) 2))) rfl (e_tmod (by kernel_rfl) (by omega)) ?_
          refine wl_pure (wants0 rfl) (d := 91) (v := (.bool (decide ((Int.tmod (vs.getD k 0) 2) = 0)))) rfl (by kernel_rfl) ?_
          refine w_nil ?_
          refine then_normal ?_
          refine (bsplit (decide ((Int.tmod (vs.getD k 0) 2) = 0))).elim (fun b96 => ?_) (fun b96 => ?_)
          · have g97 := of_decide_eq_true b96
            refine wp_know 91 (.bool true) (congrArg Value.bool b96) ?_
            refine wp_ift rfl ?_
            refine w_seq ?_
            refine w_lit ?_
            refine wl_pure (wants0 rfl) (d := 92) (v := (.pointer (some ⟨t31, 0, none⟩))) rfl (by kernel_rfl) ?_
            refine wl_pure (wants0 rfl) (d := 93) (v := (.int .i64 ((k : Int)))) rfl (by kernel_rfl) ?_
            refine wl_pure (wants0 rfl) (d := 94) (v := (.agg ⟨(hc A)⟩)) rfl (e_loadN (vs := (hc A)) rfl (by kernel_rfl) (by kernel_rfl) (by exact Nat.le_of_ble_eq_true (by kernel_rfl)) (H80.at 1 rfl) (by kernel_rfl)) ?_
            refine wl_do (wants0 rfl) (fun K98 hK98 => ?_)
            refine d_call (d := 95) rfl (by kernel_rfl) (talAdd_any w79 t31 hb32 cb33 ab34 lb35 (1 + (withinV f 21)) 1 (quL (1 + withinV f 21) (quX (1 + withinV f 21) (withinV liars (3 * (1 + withinV f 21) + 1)) vs A b) k) (H80.at 4 rfl) 1 3 (k : Int) A (by rw [qu_len _ _ (by omega)]; omega)) ?_
            rintro _ w99 ⟨rfl, k102, u101⟩
            have H100 : Sat w [restC w (fun _ => False), cellC b2 24 (hc A), cellC b6 24 (hc b), cellC b14 27 [(.int .i64 (1 + (withinV f 21))), (.int .i64 (1))], talC t31 hb32 cb33 ab34 lb35 (1 + (withinV f 21)) 1 (addV (1 + (withinV f 21)) (quL (1 + withinV f 21) (quX (1 + withinV f 21) (withinV liars (3 * (1 + withinV f 21) + 1)) vs A b) k) ⟨1, 3, (k : Int), A⟩), talC t42 hb43 cb44 ab45 lb46 (1 + (withinV f 21)) 1 (quL (1 + withinV f 21) (quY (1 + withinV f 21) (withinV liars (3 * (1 + withinV f 21) + 1)) vs A b) k)] w99 := H80.setU u101 4 rfl (fun _ hb => hb) k102 (fun _ hb => .inl hb)
            refine ⟨_, rfl, ?_⟩
            refine hK98 _ _ ?_
            clear hK98 K98
            refine w_nil ?_
            refine then_normal ?_
            refine w_lit ?_
            refine wl_pure (wants0 rfl) (d := 96) (v := (.pointer (some ⟨t42, 0, none⟩))) rfl (by kernel_rfl) ?_
            refine wl_pure (wants0 rfl) (d := 97) (v := (.int .i64 ((k : Int)))) rfl (by kernel_rfl) ?_
            refine wl_pure (wants0 rfl) (d := 98) (v := (.agg ⟨(hc A)⟩)) rfl (e_loadN (vs := (hc A)) rfl (by kernel_rfl) (by kernel_rfl) (by exact Nat.le_of_ble_eq_true (by kernel_rfl)) (H100.at 1 rfl) (by kernel_rfl)) ?_
            refine wl_do (wants0 rfl) (fun K103 hK103 => ?_)
            refine d_call (d := 99) rfl (by kernel_rfl) (talAdd_any w99 t42 hb43 cb44 ab45 lb46 (1 + (withinV f 21)) 1 (quL (1 + withinV f 21) (quY (1 + withinV f 21) (withinV liars (3 * (1 + withinV f 21) + 1)) vs A b) k) (H100.at 5 rfl) 1 3 (k : Int) A (by rw [qu_len _ _ (by omega)]; omega)) ?_
            rintro _ w104 ⟨rfl, k107, u106⟩
            have H105 : Sat w [restC w (fun _ => False), cellC b2 24 (hc A), cellC b6 24 (hc b), cellC b14 27 [(.int .i64 (1 + (withinV f 21))), (.int .i64 (1))], talC t31 hb32 cb33 ab34 lb35 (1 + (withinV f 21)) 1 (addV (1 + (withinV f 21)) (quL (1 + withinV f 21) (quX (1 + withinV f 21) (withinV liars (3 * (1 + withinV f 21) + 1)) vs A b) k) ⟨1, 3, (k : Int), A⟩), talC t42 hb43 cb44 ab45 lb46 (1 + (withinV f 21)) 1 (addV (1 + (withinV f 21)) (quL (1 + withinV f 21) (quY (1 + withinV f 21) (withinV liars (3 * (1 + withinV f 21) + 1)) vs A b) k) ⟨1, 3, (k : Int), A⟩)] w104 := H100.setU u106 5 rfl (fun _ hb => hb) k107 (fun _ hb => .inl hb)
            refine ⟨_, rfl, ?_⟩
            refine hK103 _ _ ?_
            clear hK103 K103
            refine w_nil ?_
            refine blk_normal ?_
            refine then_normal ?_
            refine w_lit ?_
            refine wl_pure (wants0 rfl) (d := 63) (v := (.int .i64 ((k : Int)))) rfl (by kernel_rfl) ?_
            refine wl_pure (wants0 rfl) (d := 64) (v := (.int .i64 ((k : Int) + 1))) rfl (e_int (z := (k : Int) + 1) (by kernel_rfl) (IntWalk.i64_in _ (by omega))) ?_
            refine wl_pure (wants0 rfl) (d := 17) (v := (.int .i64 ((k : Int) + 1))) rfl (by kernel_rfl) ?_
            refine w_nil ?_
            have e1090 : (addV (1 + (withinV f 21)) (quL (1 + withinV f 21) (quX (1 + withinV f 21) (withinV liars (3 * (1 + withinV f 21) + 1)) vs A b) k) ⟨1, 3, (k : Int), A⟩) = (quL (1 + withinV f 21) (quX (1 + withinV f 21) (withinV liars (3 * (1 + withinV f 21) + 1)) vs A b) (k + 1)) := by simp only [quL, quX]; rw [if_neg (of_decide_eq_false b81), if_pos (of_decide_eq_true b96)]
            have e1091 : (addV (1 + (withinV f 21)) (quL (1 + withinV f 21) (quY (1 + withinV f 21) (withinV liars (3 * (1 + withinV f 21) + 1)) vs A b) k) ⟨1, 3, (k : Int), A⟩) = (quL (1 + withinV f 21) (quY (1 + withinV f 21) (withinV liars (3 * (1 + withinV f 21) + 1)) vs A b) (k + 1)) := by simp only [quL, quY]; rw [if_neg (of_decide_eq_false b81), if_pos (of_decide_eq_true b96)]
            have H108 : Sat w [restC w (fun _ => False), cellC b2 24 (hc A), cellC b6 24 (hc b), cellC b14 27 [(.int .i64 (1 + (withinV f 21))), (.int .i64 (1))], talC t31 hb32 cb33 ab34 lb35 (1 + (withinV f 21)) 1 (quL (1 + withinV f 21) (quX (1 + withinV f 21) (withinV liars (3 * (1 + withinV f 21) + 1)) vs A b) (k + 1)), talC t42 hb43 cb44 ab45 lb46 (1 + (withinV f 21)) 1 (quL (1 + withinV f 21) (quY (1 + withinV f 21) (withinV liars (3 * (1 + withinV f 21) + 1)) vs A b) (k + 1))] w104 := by rw [← e1090, ← e1091]; exact H105
            refine round_back ?_ _ ⟨(k + 1), (show ((.int .i64 ((k : Int) + 1)) : Value) = _ by first | rfl | go_num), by omega, H108, rfl⟩ (by omega)
            exact (same_upd rfl (same_upd rfl (same_upd rfl (same_upd rfl (same_upd rfl (same_upd rfl (same_upd rfl (same_upd rfl (same_upd rfl (same_upd rfl (same_upd rfl (same_upd rfl (same_upd rfl (same_upd rfl (same_upd rfl (same_upd rfl (same_upd rfl (same_upd rfl (same_upd rfl (same_upd rfl (same_upd rfl (same_upd rfl (same_upd rfl (same_upd rfl (same_upd rfl (same_ovr2 rfl (same_upd rfl (same_upd rfl (same_upd rfl (same_upd rfl (same_upd rfl (same_upd rfl (same_ovr)))))))))))))))))))))))))))))))))
          · have g110 := of_decide_eq_false b96
            refine wp_know 91 (.bool false) (congrArg Value.bool b96) ?_
            refine wp_iff rfl ?_
            refine w_seq ?_
            refine w_lit ?_
            refine wl_pure (wants0 rfl) (d := 100) (v := (.pointer (some ⟨t31, 0, none⟩))) rfl (by kernel_rfl) ?_
            refine wl_pure (wants0 rfl) (d := 101) (v := (.int .i64 ((k : Int)))) rfl (by kernel_rfl) ?_
            refine wl_pure (wants0 rfl) (d := 102) (v := (.agg ⟨(hc b)⟩)) rfl (e_loadN (vs := (hc b)) rfl (by kernel_rfl) (by kernel_rfl) (by exact Nat.le_of_ble_eq_true (by kernel_rfl)) (H80.at 2 rfl) (by kernel_rfl)) ?_
            refine wl_do (wants0 rfl) (fun K111 hK111 => ?_)
            refine d_call (d := 103) rfl (by kernel_rfl) (talAdd_any w79 t31 hb32 cb33 ab34 lb35 (1 + (withinV f 21)) 1 (quL (1 + withinV f 21) (quX (1 + withinV f 21) (withinV liars (3 * (1 + withinV f 21) + 1)) vs A b) k) (H80.at 4 rfl) 1 3 (k : Int) b (by rw [qu_len _ _ (by omega)]; omega)) ?_
            rintro _ w112 ⟨rfl, k115, u114⟩
            have H113 : Sat w [restC w (fun _ => False), cellC b2 24 (hc A), cellC b6 24 (hc b), cellC b14 27 [(.int .i64 (1 + (withinV f 21))), (.int .i64 (1))], talC t31 hb32 cb33 ab34 lb35 (1 + (withinV f 21)) 1 (addV (1 + (withinV f 21)) (quL (1 + withinV f 21) (quX (1 + withinV f 21) (withinV liars (3 * (1 + withinV f 21) + 1)) vs A b) k) ⟨1, 3, (k : Int), b⟩), talC t42 hb43 cb44 ab45 lb46 (1 + (withinV f 21)) 1 (quL (1 + withinV f 21) (quY (1 + withinV f 21) (withinV liars (3 * (1 + withinV f 21) + 1)) vs A b) k)] w112 := H80.setU u114 4 rfl (fun _ hb => hb) k115 (fun _ hb => .inl hb)
            refine ⟨_, rfl, ?_⟩
            refine hK111 _ _ ?_
            clear hK111 K111
            refine w_nil ?_
            refine then_normal ?_
            refine w_lit ?_
            refine wl_pure (wants0 rfl) (d := 104) (v := (.pointer (some ⟨t42, 0, none⟩))) rfl (by kernel_rfl) ?_
            refine wl_pure (wants0 rfl) (d := 105) (v := (.int .i64 ((k : Int)))) rfl (by kernel_rfl) ?_
            refine wl_pure (wants0 rfl) (d := 106) (v := (.agg ⟨(hc b)⟩)) rfl (e_loadN (vs := (hc b)) rfl (by kernel_rfl) (by kernel_rfl) (by exact Nat.le_of_ble_eq_true (by kernel_rfl)) (H113.at 2 rfl) (by kernel_rfl)) ?_
            refine wl_do (wants0 rfl) (fun K116 hK116 => ?_)
            refine d_call (d := 107) rfl (by kernel_rfl) (talAdd_any w112 t42 hb43 cb44 ab45 lb46 (1 + (withinV f 21)) 1 (quL (1 + withinV f 21) (quY (1 + withinV f 21) (withinV liars (3 * (1 + withinV f 21) + 1)) vs A b) k) (H113.at 5 rfl) 1 3 (k : Int) b (by rw [qu_len _ _ (by omega)]; omega)) ?_
            rintro _ w117 ⟨rfl, k120, u119⟩
            have H118 : Sat w [restC w (fun _ => False), cellC b2 24 (hc A), cellC b6 24 (hc b), cellC b14 27 [(.int .i64 (1 + (withinV f 21))), (.int .i64 (1))], talC t31 hb32 cb33 ab34 lb35 (1 + (withinV f 21)) 1 (addV (1 + (withinV f 21)) (quL (1 + withinV f 21) (quX (1 + withinV f 21) (withinV liars (3 * (1 + withinV f 21) + 1)) vs A b) k) ⟨1, 3, (k : Int), b⟩), talC t42 hb43 cb44 ab45 lb46 (1 + (withinV f 21)) 1 (addV (1 + (withinV f 21)) (quL (1 + withinV f 21) (quY (1 + withinV f 21) (withinV liars (3 * (1 + withinV f 21) + 1)) vs A b) k) ⟨1, 3, (k : Int), b⟩)] w117 := H113.setU u119 5 rfl (fun _ hb => hb) k120 (fun _ hb => .inl hb)
            refine ⟨_, rfl, ?_⟩
            refine hK116 _ _ ?_
            clear hK116 K116
            refine w_nil ?_
            refine blk_normal ?_
            refine then_normal ?_
            refine w_lit ?_
            refine wl_pure (wants0 rfl) (d := 63) (v := (.int .i64 ((k : Int)))) rfl (by kernel_rfl) ?_
            refine wl_pure (wants0 rfl) (d := 64) (v := (.int .i64 ((k : Int) + 1))) rfl (e_int (z := (k : Int) + 1) (by kernel_rfl) (IntWalk.i64_in _ (by omega))) ?_
            refine wl_pure (wants0 rfl) (d := 17) (v := (.int .i64 ((k : Int) + 1))) rfl (by kernel_rfl) ?_
            refine w_nil ?_
            have e1220 : (addV (1 + (withinV f 21)) (quL (1 + withinV f 21) (quX (1 + withinV f 21) (withinV liars (3 * (1 + withinV f 21) + 1)) vs A b) k) ⟨1, 3, (k : Int), b⟩) = (quL (1 + withinV f 21) (quX (1 + withinV f 21) (withinV liars (3 * (1 + withinV f 21) + 1)) vs A b) (k + 1)) := by simp only [quL, quX]; rw [if_neg (of_decide_eq_false b81), if_neg (of_decide_eq_false b96)]
            have e1221 : (addV (1 + (withinV f 21)) (quL (1 + withinV f 21) (quY (1 + withinV f 21) (withinV liars (3 * (1 + withinV f 21) + 1)) vs A b) k) ⟨1, 3, (k : Int), b⟩) = (quL (1 + withinV f 21) (quY (1 + withinV f 21) (withinV liars (3 * (1 + withinV f 21) + 1)) vs A b) (k + 1)) := by simp only [quL, quY]; rw [if_neg (of_decide_eq_false b81), if_neg (of_decide_eq_false b96)]
            have H121 : Sat w [restC w (fun _ => False), cellC b2 24 (hc A), cellC b6 24 (hc b), cellC b14 27 [(.int .i64 (1 + (withinV f 21))), (.int .i64 (1))], talC t31 hb32 cb33 ab34 lb35 (1 + (withinV f 21)) 1 (quL (1 + withinV f 21) (quX (1 + withinV f 21) (withinV liars (3 * (1 + withinV f 21) + 1)) vs A b) (k + 1)), talC t42 hb43 cb44 ab45 lb46 (1 + (withinV f 21)) 1 (quL (1 + withinV f 21) (quY (1 + withinV f 21) (withinV liars (3 * (1 + withinV f 21) + 1)) vs A b) (k + 1))] w117 := by rw [← e1220, ← e1221]; exact H118
            refine round_back ?_ _ ⟨(k + 1), (show ((.int .i64 ((k : Int) + 1)) : Value) = _ by first | rfl | go_num), by omega, H121, rfl⟩ (by omega)
            exact (same_upd rfl (same_upd rfl (same_upd rfl (same_upd rfl (same_upd rfl (same_upd rfl (same_upd rfl (same_upd rfl (same_upd rfl (same_upd rfl (same_upd rfl (same_upd rfl (same_upd rfl (same_upd rfl (same_upd rfl (same_upd rfl (same_upd rfl (same_upd rfl (same_upd rfl (same_upd rfl (same_upd rfl (same_upd rfl (same_upd rfl (same_upd rfl (same_upd rfl (same_ovr2 rfl (same_upd rfl (same_upd rfl (same_upd rfl (same_upd rfl (same_upd rfl (same_upd rfl (same_ovr)))))))))))))))))))))))))))))))))
    · have g123 := of_decide_eq_false b69
      refine wp_know 62 (.bool false) (congrArg Value.bool b69) ?_
      refine wp_iff rfl ?_
      refine w_exit ?_
      refine then_exit ?_
      refine back_exit ?_
      refine blk_hit ?_
      refine then_normal ?_
      refine w_seq ?_
      refine w_lit ?_
      refine wl_pure (wants0 rfl) (d := 108) (v := (.agg ⟨[(.int .i64 (1 + (withinV f 21))), (.int .i64 (1))]⟩)) rfl (e_loadN (vs := [(.int .i64 (1 + (withinV f 21))), (.int .i64 (1))]) rfl (by kernel_rfl) (by kernel_rfl) (by exact Nat.le_of_ble_eq_true (by kernel_rfl)) (H66.at 3 rfl) (by kernel_rfl)) ?_
      refine wl_do (wants0 rfl) (fun K124 hK124 => ?_)
      refine d_call (d := 109) rfl (by kernel_rfl) (refQuorum_any w65 (1 + (withinV f 21)) 1 (by omega)) ?_
      rintro _ w125 ⟨rfl, u127⟩
      have H126 := H66.keepU u127
      refine ⟨_, rfl, ?_⟩
      refine hK124 _ _ ?_
      clear hK124 K124
      refine wl_pure (wants0 rfl) (d := 19) (v := (.int .i64 (2 * (1 + (withinV f 21)) + 1))) rfl (by kernel_rfl) ?_
      refine w_nil ?_
      refine then_normal ?_
      refine w_seq ?_
      refine w_seq ?_
      refine w_lit ?_
      refine wl_pure (wants0 rfl) (d := 110) (v := (.pointer (some ⟨t31, 0, none⟩))) rfl (by kernel_rfl) ?_
      refine wl_do (wants0 rfl) (fun K128 hK128 => ?_)
      refine d_call (d := 111) rfl (by kernel_rfl) (talAll_any w125 t31 hb32 cb33 ab34 lb35 (1 + (withinV f 21)) 1 (quL (1 + withinV f 21) (quX (1 + withinV f 21) (withinV liars (3 * (1 + withinV f 21) + 1)) vs A b) k) (H126.at 4 rfl) 1 3) ?_
      rintro _ w129 ⟨rfl, u131⟩
      have H130 := H126.keepU u131
      refine ⟨_, rfl, ?_⟩
      refine hK128 _ _ ?_
      clear hK128 K128
      refine wl_pure (wants0 rfl) (d := 112) (v := (.int .i64 (3 * (1 + (withinV f 21)) + 1))) rfl (by kernel_rfl) ?_
      refine wl_pure (wants0 rfl) (d := 113) (v := (.bool (!(decide ((allV (quL (1 + withinV f 21) (quX (1 + withinV f 21) (withinV liars (3 * (1 + withinV f 21) + 1)) vs A b) k) 1 3) = (3 * (1 + (withinV f 21)) + 1)))))) rfl (by kernel_rfl) ?_
      refine wl_pure (wants0 rfl) (d := 114) (v := (.bool (!(decide ((allV (quL (1 + withinV f 21) (quX (1 + withinV f 21) (withinV liars (3 * (1 + withinV f 21) + 1)) vs A b) k) 1 3) = (3 * (1 + (withinV f 21)) + 1)))))) rfl (by kernel_rfl) ?_
      have b132 : (!(decide ((allV (quL (1 + withinV f 21) (quX (1 + withinV f 21) (withinV liars (3 * (1 + withinV f 21) + 1)) vs A b) k) 1 3) = (3 * (1 + (withinV f 21)) + 1)))) = false := by rw [qu_all _ _ (show (k : Int) = (3 * (1 + withinV f 21) + 1) by omega)]; simp
      refine wl_know 114 (.bool false) (congrArg Value.bool b132) ?_
      refine wl_pure (wantsY 4 114 false rfl (by kernel_rfl) rfl (by kernel_rfl)) (d := 115) (v := (.pointer (some ⟨t42, 0, none⟩))) rfl (by kernel_rfl) ?_
      refine wl_do (wantsY 4 114 false rfl (by kernel_rfl) rfl (by kernel_rfl)) (fun K133 hK133 => ?_)
      refine d_call (d := 116) rfl (by kernel_rfl) (talAll_any w129 t42 hb43 cb44 ab45 lb46 (1 + (withinV f 21)) 1 (quL (1 + withinV f 21) (quY (1 + withinV f 21) (withinV liars (3 * (1 + withinV f 21) + 1)) vs A b) k) (H130.at 5 rfl) 1 3) ?_
      rintro _ w134 ⟨rfl, u136⟩
      have H135 := H130.keepU u136
      refine ⟨_, rfl, ?_⟩
      refine hK133 _ _ ?_
      clear hK133 K133
      refine wl_pure (wantsY 4 114 false rfl (by kernel_rfl) rfl (by kernel_rfl)) (d := 117) (v := (.int .i64 (3 * (1 + (withinV f 21)) + 1))) rfl (by kernel_rfl) ?_
      refine wl_pure (wantsY 4 114 false rfl (by kernel_rfl) rfl (by kernel_rfl)) (d := 118) (v := (.bool (!(decide ((allV (quL (1 + withinV f 21) (quY (1 + withinV f 21) (withinV liars (3 * (1 + withinV f 21) + 1)) vs A b) k) 1 3) = (3 * (1 + (withinV f 21)) + 1)))))) rfl (by kernel_rfl) ?_
      refine wl_pure (wants0 rfl) (d := 119) (v := (.bool (!(decide ((allV (quL (1 + withinV f 21) (quY (1 + withinV f 21) (withinV liars (3 * (1 + withinV f 21) + 1)) vs A b) k) 1 3) = (3 * (1 + (withinV f 21)) + 1)))))) rfl (by kernel_rfl) ?_
      refine wl_pure (wants0 rfl) (d := 120) (v := (.bool (!(decide ((allV (quL (1 + withinV f 21) (quY (1 + withinV f 21) (withinV liars (3 * (1 + withinV f 21) + 1)) vs A b) k) 1 3) = (3 * (1 + (withinV f 21)) + 1)))))) rfl (by kernel_rfl) ?_
      have b137 : (!(decide ((allV (quL (1 + withinV f 21) (quY (1 + withinV f 21) (withinV liars (3 * (1 + withinV f 21) + 1)) vs A b) k) 1 3) = (3 * (1 + (withinV f 21)) + 1)))) = false := by rw [qu_all _ _ (show (k : Int) = (3 * (1 + withinV f 21) + 1) by omega)]; simp
      refine wl_know 120 (.bool false) (congrArg Value.bool b137) ?_
      refine wl_pure (wantsY 10 120 false rfl (by kernel_rfl) rfl (by kernel_rfl)) (d := 121) (v := (.pointer (some ⟨t31, 0, none⟩))) rfl (by kernel_rfl) ?_
      refine wl_do (wantsY 10 120 false rfl (by kernel_rfl) rfl (by kernel_rfl)) (fun K138 hK138 => ?_)
      refine d_call (d := 122) rfl (by kernel_rfl) (talHeard_any w134 t31 hb32 cb33 ab34 lb35 (1 + (withinV f 21)) 1 (quL (1 + withinV f 21) (quX (1 + withinV f 21) (withinV liars (3 * (1 + withinV f 21) + 1)) vs A b) k) (H135.at 4 rfl) 0) ?_
      rintro _ w139 ⟨rfl, u141⟩
      have H140 := H135.keepU u141
      refine ⟨_, rfl, ?_⟩
      refine hK138 _ _ ?_
      clear hK138 K138
      refine wl_pure (wantsY 10 120 false rfl (by kernel_rfl) rfl (by kernel_rfl)) (d := 123) (v := (.int .i64 (3 * (1 + (withinV f 21)) + 1))) rfl (by kernel_rfl) ?_
      refine wl_pure (wantsY 10 120 false rfl (by kernel_rfl) rfl (by kernel_rfl)) (d := 124) (v := (.bool (!(decide ((heardV (1 + (withinV f 21)) (quL (1 + withinV f 21) (quX (1 + withinV f 21) (withinV liars (3 * (1 + withinV f 21) + 1)) vs A b) k) 0) = (3 * (1 + (withinV f 21)) + 1)))))) rfl (by kernel_rfl) ?_
      refine wl_pure (wants0 rfl) (d := 125) (v := (.bool (!(decide ((heardV (1 + (withinV f 21)) (quL (1 + withinV f 21) (quX (1 + withinV f 21) (withinV liars (3 * (1 + withinV f 21) + 1)) vs A b) k) 0) = (3 * (1 + (withinV f 21)) + 1)))))) rfl (by kernel_rfl) ?_
      refine w_nil ?_
      refine then_normal ?_
      have b142 : (!(decide ((heardV (1 + (withinV f 21)) (quL (1 + withinV f 21) (quX (1 + withinV f 21) (withinV liars (3 * (1 + withinV f 21) + 1)) vs A b) k) 0) = (3 * (1 + (withinV f 21)) + 1)))) = false := by rw [qu_heard (by omega) _ _ (show (k : Int) = (3 * (1 + withinV f 21) + 1) by omega)]; simp
      refine wp_know 125 (.bool false) (congrArg Value.bool b142) ?_
      refine wp_iff rfl ?_
      refine w_skip ?_
      refine then_normal ?_
      refine w_seq ?_
      refine w_lit ?_
      refine wl_pure (wants0 rfl) (d := 126) (v := (.pointer (some ⟨t31, 0, none⟩))) rfl (by kernel_rfl) ?_
      refine wl_pure (wants0 rfl) (d := 127) (v := (.agg ⟨(hc A)⟩)) rfl (e_loadN (vs := (hc A)) rfl (by kernel_rfl) (by kernel_rfl) (by exact Nat.le_of_ble_eq_true (by kernel_rfl)) (H140.at 1 rfl) (by kernel_rfl)) ?_
      refine wl_do (wants0 rfl) (fun K143 hK143 => ?_)
      refine d_call (d := 128) rfl (by kernel_rfl) (talFor_any w139 t31 hb32 cb33 ab34 lb35 (1 + (withinV f 21)) 1 (quL (1 + withinV f 21) (quX (1 + withinV f 21) (withinV liars (3 * (1 + withinV f 21) + 1)) vs A b) k) (H140.at 4 rfl) 1 3 A) ?_
      rintro _ w144 ⟨rfl, u146⟩
      have H145 := H140.keepU u146
      refine ⟨_, rfl, ?_⟩
      refine hK143 _ _ ?_
      clear hK143 K143
      refine wl_pure (wants0 rfl) (d := 129) (v := (.int .i64 (2 * (1 + (withinV f 21)) + 1))) rfl (by kernel_rfl) ?_
      refine wl_pure (wants0 rfl) (d := 130) (v := (.bool (decide ((forV (quL (1 + withinV f 21) (quX (1 + withinV f 21) (withinV liars (3 * (1 + withinV f 21) + 1)) vs A b) k) 1 3 A) ≥ (2 * (1 + (withinV f 21)) + 1))))) rfl (by kernel_rfl) ?_
      refine wl_pure (wants0 rfl) (d := 131) (v := (.bool (decide ((forV (quL (1 + withinV f 21) (quX (1 + withinV f 21) (withinV liars (3 * (1 + withinV f 21) + 1)) vs A b) k) 1 3 A) ≥ (2 * (1 + (withinV f 21)) + 1))))) rfl (by kernel_rfl) ?_
      refine (bsplit (decide ((forV (quL (1 + withinV f 21) (quX (1 + withinV f 21) (withinV liars (3 * (1 + withinV f 21) + 1)) vs A b) k) 1 3 A) ≥ (2 * (1 + (withinV f 21)) + 1)))).elim (fun b147 => ?_) (fun b147 => ?_)
      · have g148 := of_decide_eq_true b147
        have gfor := g148
        refine wl_know 131 (.bool true) (congrArg Value.bool b147) ?_
        refine wl_pure (wantsY 5 131 true rfl (by kernel_rfl) rfl (by kernel_rfl)) (d := 132) (v := (.pointer (some ⟨t42, 0, none⟩))) rfl (by kernel_rfl) ?_
        refine wl_pure (wantsY 5 131 true rfl (by kernel_rfl) rfl (by kernel_rfl)) (d := 133) (v := (.agg ⟨(hc b)⟩)) rfl (e_loadN (vs := (hc b)) rfl (by kernel_rfl) (by kernel_rfl) (by exact Nat.le_of_ble_eq_true (by kernel_rfl)) (H145.at 2 rfl) (by kernel_rfl)) ?_
        refine wl_do (wantsY 5 131 true rfl (by kernel_rfl) rfl (by kernel_rfl)) (fun K149 hK149 => ?_)
        refine d_call (d := 134) rfl (by kernel_rfl) (talFor_any w144 t42 hb43 cb44 ab45 lb46 (1 + (withinV f 21)) 1 (quL (1 + withinV f 21) (quY (1 + withinV f 21) (withinV liars (3 * (1 + withinV f 21) + 1)) vs A b) k) (H145.at 5 rfl) 1 3 b) ?_
        rintro _ w150 ⟨rfl, u152⟩
        have H151 := H145.keepU u152
        refine ⟨_, rfl, ?_⟩
        refine hK149 _ _ ?_
        clear hK149 K149
        refine wl_pure (wantsY 5 131 true rfl (by kernel_rfl) rfl (by kernel_rfl)) (d := 135) (v := (.int .i64 (2 * (1 + (withinV f 21)) + 1))) rfl (by kernel_rfl) ?_
        refine wl_pure (wantsY 5 131 true rfl (by kernel_rfl) rfl (by kernel_rfl)) (d := 136) (v := (.bool (decide ((forV (quL (1 + withinV f 21) (quY (1 + withinV f 21) (withinV liars (3 * (1 + withinV f 21) + 1)) vs A b) k) 1 3 b) ≥ (2 * (1 + (withinV f 21)) + 1))))) rfl (by kernel_rfl) ?_
        refine wl_pure (wants0 rfl) (d := 137) (v := (.bool (decide ((forV (quL (1 + withinV f 21) (quY (1 + withinV f 21) (withinV liars (3 * (1 + withinV f 21) + 1)) vs A b) k) 1 3 b) ≥ (2 * (1 + (withinV f 21)) + 1))))) rfl (by kernel_rfl) ?_
        refine wl_pure (wants0 rfl) (d := 138) (v := (.bool (!(decide ((forV (quL (1 + withinV f 21) (quY (1 + withinV f 21) (withinV liars (3 * (1 + withinV f 21) + 1)) vs A b) k) 1 3 b) ≥ (2 * (1 + (withinV f 21)) + 1)))))) rfl (by kernel_rfl) ?_
        refine wl_pure (wants0 rfl) (d := 139) (v := (.bool (!(decide ((forV (quL (1 + withinV f 21) (quY (1 + withinV f 21) (withinV liars (3 * (1 + withinV f 21) + 1)) vs A b) k) 1 3 b) ≥ (2 * (1 + (withinV f 21)) + 1)))))) rfl (by kernel_rfl) ?_
        have b153 : (!(decide ((forV (quL (1 + withinV f 21) (quY (1 + withinV f 21) (withinV liars (3 * (1 + withinV f 21) + 1)) vs A b) k) 1 3 b) ≥ (2 * (1 + (withinV f 21)) + 1)))) = true := by rw [decide_eq_false (qu_final (by omega) hA _ (show (k : Int) = (3 * (1 + withinV f 21) + 1) by omega) gfor)]; rfl
        refine wl_know 139 (.bool true) (congrArg Value.bool b153) ?_
        refine wl_do (wantsY 13 139 true rfl (by kernel_rfl) rfl (by kernel_rfl)) (fun K154 hK154 => ?_)
        refine d_call (d := 140) rfl (by kernel_rfl) (wakes_any w150) ?_
        rintro _ w155 ⟨rfl, u157⟩
        have H156 := H151.keepU u157
        refine ⟨_, rfl, ?_⟩
        refine hK154 _ _ ?_
        clear hK154 K154
        refine wl_pure (wants0 rfl) (d := 141) (v := (.bool true)) rfl (by kernel_rfl) ?_
        refine wl_pure (wants0 rfl) (d := 10) (v := (.bool true)) rfl (by kernel_rfl) ?_
        refine w_nil ?_
        refine then_normal ?_
        refine w_ret ?_
        refine end1 rfl (res_tmp (v := (.bool true)) rfl) ?_
        exact ⟨rfl, H156.upd 0 rfl [] (fun _ h => h.elim)⟩
      · have g158 := of_decide_eq_false b147
        refine wl_know 131 (.bool false) (congrArg Value.bool b147) ?_
        refine wl_pass (wantsN 5 131 true rfl (by kernel_rfl) rfl (by kernel_rfl)) rfl ?_
        refine wl_pass (wantsN 5 131 true rfl (by kernel_rfl) rfl (by kernel_rfl)) rfl ?_
        refine wl_pass (wantsN 5 131 true rfl (by kernel_rfl) rfl (by kernel_rfl)) rfl ?_
        refine wl_pass (wantsN 5 131 true rfl (by kernel_rfl) rfl (by kernel_rfl)) rfl ?_
        refine wl_pass (wantsN 5 131 true rfl (by kernel_rfl) rfl (by kernel_rfl)) rfl ?_
        refine wl_pure (wants0 rfl) (d := 137) (v := (.bool false)) rfl (by kernel_rfl) ?_
        refine wl_pure (wants0 rfl) (d := 138) (v := (.bool true)) rfl (by kernel_rfl) ?_
        refine wl_pure (wants0 rfl) (d := 139) (v := (.bool true)) rfl (by kernel_rfl) ?_
        refine wl_do (wantsY 13 139 true rfl (by kernel_rfl) rfl (by kernel_rfl)) (fun K159 hK159 => ?_)
        refine d_call (d := 140) rfl (by kernel_rfl) (wakes_any w144) ?_
        rintro _ w160 ⟨rfl, u162⟩
        have H161 := H145.keepU u162
        refine ⟨_, rfl, ?_⟩
        refine hK159 _ _ ?_
        clear hK159 K159
        refine wl_pure (wants0 rfl) (d := 141) (v := (.bool true)) rfl (by kernel_rfl) ?_
        refine wl_pure (wants0 rfl) (d := 10) (v := (.bool true)) rfl (by kernel_rfl) ?_
        refine w_nil ?_
        refine then_normal ?_
        refine w_ret ?_
        refine end1 rfl (res_tmp (v := (.bool true)) rfl) ?_
        exact ⟨rfl, H161.upd 0 rfl [] (fun _ h => h.elim)⟩

end Go.Proofs.Ytfhhljgjppcdlaa
