/- WHAT IS PROVED: TallyMost answers true whatever its input. No condition. -/
import Derived.Test.YtfhhljgjppcdlaaMostMath
import Derived.Test.YtfhhljgjppcdlaaVotes
import Derived.Test.YtfhhljgjppcdlaaWakes13
namespace Go.Proofs.Ytfhhljgjppcdlaa
open Go.RowKit

set_option maxRecDepth 100000 in
set_option maxHeartbeats 2000000 in
theorem most13_walk (w : World) (va : Option Addr) (vc : Nat) (ls : List VoteIn) (turn : Int) (hvotes : VotesAt w (.slice va ls.length vc) ls) (hvl : ls.length ≤ 9223372036854775807) :
    Calls Try.prog 5 #[(.slice va ls.length vc), (.int .i64 (turn))] w fun e w' => e = .returned (.bool true) ∧ Upd [] w w' := by
  have H := Sat.start0 w
  refine calls_fr Try.func5 rfl 151 rfl (Nat.le_of_ble_eq_true rfl) ?_
  refine w_seq ?_
  refine w_lit ?_
  refine wl_pure (wants0 rfl) (d := 4) (v := (.bool false)) rfl (by kernel_rfl) ?_
  refine w_nil ?_
  refine then_normal ?_
  refine w_seq ?_
  refine w_lit ?_
  refine wl_pure (wants0 rfl) (d := 19) (v := (.agg ⟨([(.int .i64 (2)), (.int .i64 (1))] : List Value)⟩)) rfl (by kernel_rfl) ?_
  refine wl_do (wants0 rfl) (fun K1 hK1 => ?_)
  refine d_alloc (zs := ([(.int .i64 (0)), (.int .i64 (0))] : List Value)) (z := (.agg ⟨([(.int .i64 (0)), (.int .i64 (0))] : List Value)⟩)) rfl H (by kernel_rfl) (by kernel_rfl) ?_
  intro b2 w3 (H4 : Sat w [restC w (fun _ => False), cellC b2 27 ([(.int .i64 (0)), (.int .i64 (0))] : List Value)] w3)
  refine hK1 _ _ ?_
  clear hK1 K1
  refine wl_do (wants0 rfl) (fun K5 hK5 => ?_)
  refine d_store (vs := ([(.int .i64 (2)), (.int .i64 (1))] : List Value)) rfl H4 1 rfl rfl rfl rfl (by kernel_rfl) (Nat.le_of_ble_eq_true (by kernel_rfl)) (Nat.le_of_ble_eq_true (by kernel_rfl)) (by kernel_rfl) ?_
  intro w6 (H7 : Sat w [restC w (fun _ => False), cellC b2 27 ([(.int .i64 (2)), (.int .i64 (1))] : List Value)] w6)
  refine hK5 _ _ ?_
  clear hK5 K5
  refine w_nil ?_
  refine then_normal ?_
  refine w_seq ?_
  refine w_lit ?_
  refine wl_pure (wants0 rfl) (d := 21) (v := (.agg ⟨([(.int .i64 (2)), (.int .i64 (1))] : List Value)⟩)) rfl (e_loadN (vs := ([(.int .i64 (2)), (.int .i64 (1))] : List Value)) rfl (by kernel_rfl) (by kernel_rfl) (by exact Nat.le_of_ble_eq_true (by kernel_rfl)) (H7.at 1 rfl) (by kernel_rfl)) ?_
  refine wl_do (wants0 rfl) (fun K9 hK9 => ?_)
  refine d_call (d := 22) rfl (by kernel_rfl) (talNew_any w6 2 1) ?_
  rintro _ w10 (⟨_, t15, hb16, cb17, ab18, lb19, rfl, k13, u12, q14⟩ | ⟨hcf, _⟩)
  rotate_left
  · exact absurd hcf (by rw [show confB 2 1 = true by decide]; simp)
  have H11 : Sat w [restC w (fun _ => False), cellC b2 27 ([(.int .i64 (2)), (.int .i64 (1))] : List Value), talC t15 hb16 cb17 ab18 lb19 2 1 []] w10 := H7.addU u12 k13 q14
  refine ⟨_, rfl, ?_⟩
  refine hK9 _ _ ?_
  clear hK9 K9
  refine wl_pure (wants0 rfl) (d := 20) (v := (.tuple #[(.pointer (some ⟨t15, 0, none⟩)), (.int .i64 (0))])) rfl (by kernel_rfl) ?_
  refine wl_pure (wants0 rfl) (d := 23) (v := (.pointer (some ⟨t15, 0, none⟩))) rfl (by kernel_rfl) ?_
  refine wl_pure (wants0 rfl) (d := 24) (v := (.int .i64 (0))) rfl (by kernel_rfl) ?_
  refine wl_pure (wants0 rfl) (d := 6) (v := (.pointer (some ⟨t15, 0, none⟩))) rfl (by kernel_rfl) ?_
  refine wl_pure (wants0 rfl) (d := 7) (v := (.int .i64 (0))) rfl (by kernel_rfl) ?_
  refine w_nil ?_
  refine then_normal ?_
  refine w_seq ?_
  refine w_lit ?_
  refine wl_pure (wants0 rfl) (d := 26) (v := (.agg ⟨([(.int .i64 (2)), (.int .i64 (1))] : List Value)⟩)) rfl (e_loadN (vs := ([(.int .i64 (2)), (.int .i64 (1))] : List Value)) rfl (by kernel_rfl) (by kernel_rfl) (by exact Nat.le_of_ble_eq_true (by kernel_rfl)) (H11.at 1 rfl) (by kernel_rfl)) ?_
  refine wl_do (wants0 rfl) (fun K20 hK20 => ?_)
  refine d_call (d := 27) rfl (by kernel_rfl) (talNew_any w10 2 1) ?_
  rintro _ w21 (⟨_, t26, hb27, cb28, ab29, lb30, rfl, k24, u23, q25⟩ | ⟨hcf, _⟩)
  rotate_left
  · exact absurd hcf (by rw [show confB 2 1 = true by decide]; simp)
  have H22 : Sat w [restC w (fun _ => False), cellC b2 27 ([(.int .i64 (2)), (.int .i64 (1))] : List Value), talC t15 hb16 cb17 ab18 lb19 2 1 [], talC t26 hb27 cb28 ab29 lb30 2 1 []] w21 := H11.addU u23 k24 q25
  refine ⟨_, rfl, ?_⟩
  refine hK20 _ _ ?_
  clear hK20 K20
  refine wl_pure (wants0 rfl) (d := 25) (v := (.tuple #[(.pointer (some ⟨t26, 0, none⟩)), (.int .i64 (0))])) rfl (by kernel_rfl) ?_
  refine wl_pure (wants0 rfl) (d := 28) (v := (.pointer (some ⟨t26, 0, none⟩))) rfl (by kernel_rfl) ?_
  refine wl_pure (wants0 rfl) (d := 29) (v := (.int .i64 (0))) rfl (by kernel_rfl) ?_
  refine wl_pure (wants0 rfl) (d := 8) (v := (.pointer (some ⟨t26, 0, none⟩))) rfl (by kernel_rfl) ?_
  refine wl_pure (wants0 rfl) (d := 9) (v := (.int .i64 (0))) rfl (by kernel_rfl) ?_
  refine w_nil ?_
  refine then_normal ?_
  refine w_seq ?_
  refine w_seq ?_
  refine w_lit ?_
  refine wl_pure (wants0 rfl) (d := 30) (v := (.int .i64 (0))) rfl (by kernel_rfl) ?_
  refine wl_pure (wants0 rfl) (d := 31) (v := (.bool false)) rfl (by kernel_rfl) ?_
  refine wl_pure (wants0 rfl) (d := 32) (v := (.bool false)) rfl (by kernel_rfl) ?_
  refine wl_pure (wantsY 2 32 false rfl (by kernel_rfl) rfl (by kernel_rfl)) (d := 33) (v := (.int .i64 (0))) rfl (by kernel_rfl) ?_
  refine wl_pure (wantsY 2 32 false rfl (by kernel_rfl) rfl (by kernel_rfl)) (d := 34) (v := (.bool false)) rfl (by kernel_rfl) ?_
  refine wl_pure (wants0 rfl) (d := 35) (v := (.bool false)) rfl (by kernel_rfl) ?_
  refine wl_pure (wants0 rfl) (d := 36) (v := (.bool false)) rfl (by kernel_rfl) ?_
  refine wl_pure (wantsY 6 36 false rfl (by kernel_rfl) rfl (by kernel_rfl)) (d := 37) (v := (.pointer (some ⟨t15, 0, none⟩))) rfl (by kernel_rfl) ?_
  refine wl_pure (wantsY 6 36 false rfl (by kernel_rfl) rfl (by kernel_rfl)) (d := 38) (v := (.bool false)) rfl (by kernel_rfl) ?_
  refine wl_pure (wants0 rfl) (d := 39) (v := (.bool false)) rfl (by kernel_rfl) ?_
  refine wl_pure (wants0 rfl) (d := 40) (v := (.bool false)) rfl (by kernel_rfl) ?_
  refine wl_pure (wantsY 10 40 false rfl (by kernel_rfl) rfl (by kernel_rfl)) (d := 41) (v := (.pointer (some ⟨t26, 0, none⟩))) rfl (by kernel_rfl) ?_
  refine wl_pure (wantsY 10 40 false rfl (by kernel_rfl) rfl (by kernel_rfl)) (d := 42) (v := (.bool false)) rfl (by kernel_rfl) ?_
  refine wl_pure (wants0 rfl) (d := 43) (v := (.bool false)) rfl (by kernel_rfl) ?_
  refine w_nil ?_
  refine then_normal ?_
  refine wp_iff rfl ?_
  refine w_skip ?_
  refine then_normal ?_
  refine w_seq ?_
  obtain ⟨N, hN, hN7, hNl⟩ : ∃ N : Nat, min (ls.length : Int) (3 * 2 + 1) = (N : Int) ∧ N ≤ 7 ∧ N ≤ ls.length := ⟨min ls.length 7, by omega, by omega, by omega⟩
  refine w_lit ?_
  refine wl_pure (wants0 rfl) (d := 44) (v := (.slice va ls.length vc)) rfl (by kernel_rfl) ?_
  refine wl_pure (wants0 rfl) (d := 45) (v := (.int .i64 ((ls.length : Int)))) rfl (by kernel_rfl) ?_
  refine wl_pure (wants0 rfl) (d := 46) (v := (.agg ⟨([(.int .i64 (2)), (.int .i64 (1))] : List Value)⟩)) rfl (e_loadN (vs := ([(.int .i64 (2)), (.int .i64 (1))] : List Value)) rfl (by kernel_rfl) (by kernel_rfl) (by exact Nat.le_of_ble_eq_true (by kernel_rfl)) (H22.at 1 rfl) (by kernel_rfl)) ?_
  refine wl_do (wants0 rfl) (fun K31 hK31 => ?_)
  refine d_call (d := 47) rfl (by kernel_rfl) (refN_any w21 2 1 (by omega)) ?_
  rintro _ w32 ⟨rfl, u34⟩
  have H33 := H22.keepU u34
  refine ⟨_, rfl, ?_⟩
  refine hK31 _ _ ?_
  clear hK31 K31
  refine wl_pure (wants0 rfl) (d := 48) (v := (.int .i64 ((N : Int)))) rfl (e_min (k := .i64) (a := (ls.length : Int)) (b := 3 * 2 + 1) (z := (N : Int)) rfl rfl (hN)) ?_
  refine wl_pure (wants0 rfl) (d := 10) (v := (.int .i64 ((N : Int)))) rfl (by kernel_rfl) ?_
  refine w_nil ?_
  refine then_normal ?_
  refine w_seq ?_
  refine w_seq ?_
  refine w_lit ?_
  refine wl_pure (wants0 rfl) (d := 11) (v := (.int .i64 (0))) rfl (by kernel_rfl) ?_
  refine w_nil ?_
  refine then_normal ?_
  refine w_block ?_
  refine wp_round [11, 12, 49, 50, 51, 52, 53, 54, 55, 56, 57, 58, 59, 60, 61, 62, 63, 64, 65, 66, 67, 68, 69, 70, 71, 72, 73, 74, 75, 76, 77, 78, 79, 80, 81, 82] (fun F_ W_ m_ => ∃ (k : Nat), F_ 11 = (.int .i64 ((k : Int))) ∧ (k ≤ N) ∧ Sat w [restC w (fun _ => False), cellC b2 27 ([(.int .i64 (2)), (.int .i64 (1))] : List Value), talC t15 hb16 cb17 ab18 lb19 2 1 (stL ls jS k), talC t26 hb27 cb28 ab29 lb30 2 1 (stL ls (jT turn N) k)] W_ ∧ m_ = N - k) _ ⟨0, (by first | rfl | go_num), by omega, H33, rfl⟩ ?_
  rintro g35 w36 _ ⟨k, v38, hk, H37, rfl⟩
  refine wp_know 11 _ v38 ?_
  refine w_seq ?_
  refine w_seq ?_
  refine w_lit ?_
  refine wl_pure (wants0 rfl) (d := 49) (v := (.int .i64 ((k : Int)))) rfl (by kernel_rfl) ?_
  refine wl_pure (wants0 rfl) (d := 50) (v := (.int .i64 ((N : Int)))) rfl (by kernel_rfl) ?_
  refine wl_pure (wants0 rfl) (d := 51) (v := (.bool (decide ((k : Int) < (N : Int))))) rfl (by kernel_rfl) ?_
  refine w_nil ?_
  refine then_normal ?_
  refine (bsplit (decide ((k : Int) < (N : Int)))).elim (fun b40 => ?_) (fun b40 => ?_)
  · have g41 := of_decide_eq_true b40
    refine wp_know 51 (.bool true) (congrArg Value.bool b40) ?_
    refine wp_ift rfl ?_
    refine w_skip ?_
    refine then_normal ?_
    refine w_seq ?_
    refine w_block ?_
    refine w_seq ?_
    have hwl := within_lim turn (N : Int) (by omega)
    refine w_lit ?_
    refine wl_pure (wants0 rfl) (d := 54) (v := (.int .i64 ((k : Int)))) rfl (by kernel_rfl) ?_
    refine wl_pure (wants0 rfl) (d := 55) (v := (.int .i64 (turn))) rfl (by kernel_rfl) ?_
    refine wl_pure (wants0 rfl) (d := 56) (v := (.int .i64 ((N : Int)))) rfl (by kernel_rfl) ?_
    refine wl_do (wants0 rfl) (fun K42 hK42 => ?_)
    refine d_call (d := 57) rfl (by kernel_rfl) (within_any w36 turn (N : Int) (by omega)) ?_
    rintro _ w43 ⟨rfl, u45⟩
    have H44 := H37.keepU u45
    refine ⟨_, rfl, ?_⟩
    refine hK42 _ _ ?_
    clear hK42 K42
    refine wl_pure (wants0 rfl) (d := 58) (v := (.int .i64 ((k : Int) + (withinV turn (N : Int))))) rfl (e_int (z := (k : Int) + (withinV turn (N : Int))) (by kernel_rfl) (IntWalk.i64_in _ (by omega))) ?_
    refine wl_pure (wants0 rfl) (d := 59) (v := (.int .i64 ((N : Int)))) rfl (by kernel_rfl) ?_
    refine wl_pure (wants0 rfl) (d := 60) (v := (.int .i64 (((k : Int) + (withinV turn (N : Int))) % (N : Int)))) rfl (e_rem (by kernel_rfl) (by omega) (by omega)) ?_
    refine wl_pure (wants0 rfl) (d := 12) (v := (.int .i64 (((k : Int) + (withinV turn (N : Int))) % (N : Int)))) rfl (by kernel_rfl) ?_
    refine w_nil ?_
    refine then_normal ?_
    refine w_seq ?_
    have hJ := jT_int turn N k (by omega)
    have hJl := jT_lt turn N k (by omega)
    refine wp_know 12 (.int .i64 ((jT turn N k : Nat) : Int)) (congrArg (Value.int .i64) hJ) ?_
    obtain ⟨vb, vo, vc', hva, _, hvs⟩ := hvotes.some (by omega)
    simp only [Value.slice.injEq] at hva
    obtain ⟨rfl, _, rfl⟩ := hva
    have hcS : w.cell? ⟨vb, vo + ((k : Int)).toNat * 36 + 3 + 0, none⟩ = some (.int .u8 (((voteD ls k).h.l.getD 0 0).toNat : Int)) := by
      have h := hvs (k) (by omega)
      have e : voteD ls (k) = ls[k]'(by omega) := by simp [voteD, List.getD, List.getElem?_eq_getElem (show k < ls.length by omega)]
      have h2 := h 3 (.int .u8 (((ls[k]'(by omega)).h.l.getD 0 0).toNat : Int)) rfl
      rw [e]; rw [Addr.add_lit] at h2; simpa using h2
    have hcT : w.cell? ⟨vb, vo + (((jT turn N k) : Int)).toNat * 36 + 3 + 0, none⟩ = some (.int .u8 (((voteD ls (jT turn N k)).h.l.getD 0 0).toNat : Int)) := by
      have h := hvs ((jT turn N k)) (by omega)
      have e : voteD ls ((jT turn N k)) = ls[(jT turn N k)]'(by omega) := by simp [voteD, List.getD, List.getElem?_eq_getElem (show (jT turn N k) < ls.length by omega)]
      have h2 := h 3 (.int .u8 (((ls[(jT turn N k)]'(by omega)).h.l.getD 0 0).toNat : Int)) rfl
      rw [e]; rw [Addr.add_lit] at h2; simpa using h2
    refine w_lit ?_
    refine wl_pure (wants0 rfl) (d := 61) (v := (.pointer (some ⟨t15, 0, none⟩))) rfl (by kernel_rfl) ?_
    refine wl_pure (wants0 rfl) (d := 62) (v := (.int .i64 ((k : Int)))) rfl (by kernel_rfl) ?_
    refine wl_pure (wants0 rfl) (d := 63) (v := (.slice (some ⟨vb, vo, none⟩) ls.length vc)) rfl (by kernel_rfl) ?_
    refine wl_pure (wants0 rfl) (d := 64) (v := (.int .i64 ((k : Int)))) rfl (by kernel_rfl) ?_
    refine wl_pure (wants0 rfl) (d := 65) (v := (.pointer (some ⟨vb, vo + ((k : Int)).toNat * 36, none⟩))) rfl (e_indexAddr (E := 40) (by kernel_rfl) (by kernel_rfl) (Nat.le_of_ble_eq_true rfl) rfl rfl (by omega) (by omega)) ?_
    refine wl_pure (wants0 rfl) (d := 66) (v := (.pointer (some ⟨vb, vo + ((k : Int)).toNat * 36 + 3, none⟩))) rfl (by kernel_rfl) ?_
    refine wl_pure (wants0 rfl) (d := 67) (v := (.pointer (some ⟨vb, vo + ((k : Int)).toNat * 36 + 3 + 0, none⟩))) rfl (by kernel_rfl) ?_
    refine wl_pure (wants0 rfl) (d := 68) (v := (.int .u8 ((((voteD ls k).h.l.getD 0 0).toNat : Int)))) rfl (e_load1 rfl (by kernel_rfl) (H44.cellR 0 rfl hcS (fun h => h))) ?_
    refine wl_pure (wants0 rfl) (d := 69) (v := (.int .u8 (((((voteD ls k).h.l.getD 0 0) % 3).toNat : Int)))) rfl (e_remU8 ((voteD ls k).h.l.getD 0 0) 3 (by kernel_rfl) (by decide)) ?_
    refine wl_pure (wants0 rfl) (d := 70) (v := (.agg ⟨(hc (hash1 (((voteD ls k).h.l.getD 0 0) % 3)))⟩)) rfl (by kernel_rfl) ?_
    refine wl_do (wants0 rfl) (fun K46 hK46 => ?_)
    refine d_call (d := 71) rfl (by kernel_rfl) (talAdd_any w43 t15 hb16 cb17 ab18 lb19 2 1 (stL ls jS k) (H44.at 2 rfl) 2 1 (k : Int) (hash1 (((voteD ls k).h.l.getD 0 0) % 3)) (by have := stL_len ls jS k; omega)) ?_
    rintro _ w47 ⟨rfl, k50, u49⟩
    have H48 : Sat w [restC w (fun _ => False), cellC b2 27 ([(.int .i64 (2)), (.int .i64 (1))] : List Value), talC t15 hb16 cb17 ab18 lb19 2 1 (addV 2 (stL ls jS k) ⟨2, 1, (k : Int), (hash1 (((voteD ls k).h.l.getD 0 0) % 3))⟩), talC t26 hb27 cb28 ab29 lb30 2 1 (stL ls (jT turn N) k)] w47 := H44.setU u49 2 rfl (fun _ hb => hb) k50 (fun _ hb => .inl hb)
    refine ⟨_, rfl, ?_⟩
    refine hK46 _ _ ?_
    clear hK46 K46
    refine w_nil ?_
    refine then_normal ?_
    refine w_lit ?_
    refine wl_pure (wants0 rfl) (d := 72) (v := (.pointer (some ⟨t26, 0, none⟩))) rfl (by kernel_rfl) ?_
    refine wl_pure (wants0 rfl) (d := 73) (v := (.int .i64 (((jT turn N k : Nat) : Int)))) rfl (by kernel_rfl) ?_
    refine wl_pure (wants0 rfl) (d := 74) (v := (.slice (some ⟨vb, vo, none⟩) ls.length vc)) rfl (by kernel_rfl) ?_
    refine wl_pure (wants0 rfl) (d := 75) (v := (.int .i64 (((jT turn N k : Nat) : Int)))) rfl (by kernel_rfl) ?_
    refine wl_pure (wants0 rfl) (d := 76) (v := (.pointer (some ⟨vb, vo + (((jT turn N k : Nat) : Int)).toNat * 36, none⟩))) rfl (e_indexAddr (E := 40) (by kernel_rfl) (by kernel_rfl) (Nat.le_of_ble_eq_true rfl) rfl rfl (by omega) (by omega)) ?_
    refine wl_pure (wants0 rfl) (d := 77) (v := (.pointer (some ⟨vb, vo + (((jT turn N k : Nat) : Int)).toNat * 36 + 3, none⟩))) rfl (by kernel_rfl) ?_
    refine wl_pure (wants0 rfl) (d := 78) (v := (.pointer (some ⟨vb, vo + (((jT turn N k : Nat) : Int)).toNat * 36 + 3 + 0, none⟩))) rfl (by kernel_rfl) ?_
    refine wl_pure (wants0 rfl) (d := 79) (v := (.int .u8 ((((voteD ls (jT turn N k)).h.l.getD 0 0).toNat : Int)))) rfl (e_load1 rfl (by kernel_rfl) (H48.cellR 0 rfl hcT (fun h => h))) ?_
    refine wl_pure (wants0 rfl) (d := 80) (v := (.int .u8 (((((voteD ls (jT turn N k)).h.l.getD 0 0) % 3).toNat : Int)))) rfl (e_remU8 ((voteD ls (jT turn N k)).h.l.getD 0 0) 3 (by kernel_rfl) (by decide)) ?_
    refine wl_pure (wants0 rfl) (d := 81) (v := (.agg ⟨(hc (hash1 (((voteD ls (jT turn N k)).h.l.getD 0 0) % 3)))⟩)) rfl (by kernel_rfl) ?_
    refine wl_do (wants0 rfl) (fun K51 hK51 => ?_)
    refine d_call (d := 82) rfl (by kernel_rfl) (talAdd_any w47 t26 hb27 cb28 ab29 lb30 2 1 (stL ls (jT turn N) k) (H48.at 3 rfl) 2 1 ((jT turn N k : Nat) : Int) (hash1 (((voteD ls (jT turn N k)).h.l.getD 0 0) % 3)) (by have := stL_len ls (jT turn N) k; omega)) ?_
    rintro _ w52 ⟨rfl, k55, u54⟩
    have H53 : Sat w [restC w (fun _ => False), cellC b2 27 ([(.int .i64 (2)), (.int .i64 (1))] : List Value), talC t15 hb16 cb17 ab18 lb19 2 1 (addV 2 (stL ls jS k) ⟨2, 1, (k : Int), (hash1 (((voteD ls k).h.l.getD 0 0) % 3))⟩), talC t26 hb27 cb28 ab29 lb30 2 1 (addV 2 (stL ls (jT turn N) k) ⟨2, 1, ((jT turn N k : Nat) : Int), (hash1 (((voteD ls (jT turn N k)).h.l.getD 0 0) % 3))⟩)] w52 := H48.setU u54 3 rfl (fun _ hb => hb) k55 (fun _ hb => .inl hb)
    refine ⟨_, rfl, ?_⟩
    refine hK51 _ _ ?_
    clear hK51 K51
    refine w_nil ?_
    refine blk_normal ?_
    refine then_normal ?_
    refine w_lit ?_
    refine wl_pure (wants0 rfl) (d := 52) (v := (.int .i64 ((k : Int)))) rfl (by kernel_rfl) ?_
    refine wl_pure (wants0 rfl) (d := 53) (v := (.int .i64 ((k : Int) + 1))) rfl (e_int (z := (k : Int) + 1) (by kernel_rfl) (IntWalk.i64_in _ (by omega))) ?_
    refine wl_pure (wants0 rfl) (d := 11) (v := (.int .i64 ((k : Int) + 1))) rfl (by kernel_rfl) ?_
    refine w_nil ?_
    have H56 : Sat w [restC w (fun _ => False), cellC b2 27 ([(.int .i64 (2)), (.int .i64 (1))] : List Value), talC t15 hb16 cb17 ab18 lb19 2 1 (stL ls jS (k + 1)), talC t26 hb27 cb28 ab29 lb30 2 1 (stL ls (jT turn N) (k + 1))] w52 := H53
    refine round_back ?_ _ ⟨(k + 1), (show ((.int .i64 ((k : Int) + 1)) : Value) = _ by first | rfl | go_num), by omega, H56, rfl⟩ (by omega)
    exact (same_upd rfl (same_upd rfl (same_upd rfl (same_upd rfl (same_upd rfl (same_upd rfl (same_upd rfl (same_upd rfl (same_upd rfl (same_upd rfl (same_upd rfl (same_upd rfl (same_upd rfl (same_upd rfl (same_upd rfl (same_upd rfl (same_upd rfl (same_upd rfl (same_upd rfl (same_upd rfl (same_upd rfl (same_upd rfl (same_upd rfl (same_upd rfl (same_upd rfl (same_upd rfl (same_upd rfl (same_upd rfl (same_upd rfl (same_upd rfl (same_upd rfl (same_upd rfl (same_upd rfl (same_upd rfl (same_upd rfl (same_upd rfl (same_upd rfl (same_upd rfl (same_upd rfl (same_ovr))))))))))))))))))))))))))))))))))))))))
  · have g57 := of_decide_eq_false b40
    refine wp_know 51 (.bool false) (congrArg Value.bool b40) ?_
    refine wp_iff rfl ?_
    refine w_exit ?_
    refine then_exit ?_
    refine back_exit ?_
    refine blk_hit ?_
    refine then_normal ?_
    refine w_seq ?_
    refine w_lit ?_
    refine wl_pure (wants0 rfl) (d := 84) (v := (.pointer (some ⟨t15, 0, none⟩))) rfl (by kernel_rfl) ?_
    refine wl_do (wants0 rfl) (fun K58 hK58 => ?_)
    refine d_call (d := 85) rfl (by kernel_rfl) (talMost_any w36 t15 hb16 cb17 ab18 lb19 2 1 (stL ls jS k) (H37.at 2 rfl) 2 1) ?_
    rintro _ w59 ⟨h62, n63, q64, rfl, u61⟩
    have H60 := H37.keepU u61
    refine ⟨_, rfl, ?_⟩
    refine hK58 _ _ ?_
    clear hK58 K58
    refine wl_pure (wants0 rfl) (d := 83) (v := (.tuple #[(.agg ⟨(hc h62)⟩), (.int .i64 (n63))])) rfl (by kernel_rfl) ?_
    refine wl_pure (wants0 rfl) (d := 86) (v := (.agg ⟨(hc h62)⟩)) rfl (by kernel_rfl) ?_
    refine wl_pure (wants0 rfl) (d := 87) (v := (.int .i64 (n63))) rfl (by kernel_rfl) ?_
    refine wl_do (wants0 rfl) (fun K65 hK65 => ?_)
    refine d_alloc (zs := (hc hash0)) (z := (.agg ⟨(hc hash0)⟩)) rfl H60 (by kernel_rfl) (by kernel_rfl) ?_
    intro b66 w67 (H68 : Sat w [restC w (fun _ => False), cellC b2 27 ([(.int .i64 (2)), (.int .i64 (1))] : List Value), talC t15 hb16 cb17 ab18 lb19 2 1 (stL ls jS k), talC t26 hb27 cb28 ab29 lb30 2 1 (stL ls (jT turn N) k), cellC b66 24 (hc hash0)] w67)
    refine hK65 _ _ ?_
    clear hK65 K65
    refine wl_do (wants0 rfl) (fun K69 hK69 => ?_)
    refine d_store (vs := (hc h62)) rfl H68 4 rfl rfl rfl rfl (by kernel_rfl) (Nat.le_of_ble_eq_true (by kernel_rfl)) (Nat.le_of_ble_eq_true (by kernel_rfl)) (by kernel_rfl) ?_
    intro w70 (H71 : Sat w [restC w (fun _ => False), cellC b2 27 ([(.int .i64 (2)), (.int .i64 (1))] : List Value), talC t15 hb16 cb17 ab18 lb19 2 1 (stL ls jS k), talC t26 hb27 cb28 ab29 lb30 2 1 (stL ls (jT turn N) k), cellC b66 24 (hc h62)] w70)
    refine hK69 _ _ ?_
    clear hK69 K69
    refine wl_pure (wants0 rfl) (d := 14) (v := (.int .i64 (n63))) rfl (by kernel_rfl) ?_
    refine w_nil ?_
    refine then_normal ?_
    refine w_seq ?_
    refine w_lit ?_
    refine wl_pure (wants0 rfl) (d := 89) (v := (.pointer (some ⟨t26, 0, none⟩))) rfl (by kernel_rfl) ?_
    refine wl_do (wants0 rfl) (fun K73 hK73 => ?_)
    refine d_call (d := 90) rfl (by kernel_rfl) (talMost_any w70 t26 hb27 cb28 ab29 lb30 2 1 (stL ls (jT turn N) k) (H71.at 3 rfl) 2 1) ?_
    rintro _ w74 ⟨h77, n78, q79, rfl, u76⟩
    have H75 := H71.keepU u76
    refine ⟨_, rfl, ?_⟩
    refine hK73 _ _ ?_
    clear hK73 K73
    refine wl_pure (wants0 rfl) (d := 88) (v := (.tuple #[(.agg ⟨(hc h77)⟩), (.int .i64 (n78))])) rfl (by kernel_rfl) ?_
    refine wl_pure (wants0 rfl) (d := 91) (v := (.agg ⟨(hc h77)⟩)) rfl (by kernel_rfl) ?_
    refine wl_pure (wants0 rfl) (d := 92) (v := (.int .i64 (n78))) rfl (by kernel_rfl) ?_
    refine wl_do (wants0 rfl) (fun K80 hK80 => ?_)
    refine d_alloc (zs := (hc hash0)) (z := (.agg ⟨(hc hash0)⟩)) rfl H75 (by kernel_rfl) (by kernel_rfl) ?_
    intro b81 w82 (H83 : Sat w [restC w (fun _ => False), cellC b2 27 ([(.int .i64 (2)), (.int .i64 (1))] : List Value), talC t15 hb16 cb17 ab18 lb19 2 1 (stL ls jS k), talC t26 hb27 cb28 ab29 lb30 2 1 (stL ls (jT turn N) k), cellC b66 24 (hc h62), cellC b81 24 (hc hash0)] w82)
    refine hK80 _ _ ?_
    clear hK80 K80
    refine wl_do (wants0 rfl) (fun K84 hK84 => ?_)
    refine d_store (vs := (hc h77)) rfl H83 5 rfl rfl rfl rfl (by kernel_rfl) (Nat.le_of_ble_eq_true (by kernel_rfl)) (Nat.le_of_ble_eq_true (by kernel_rfl)) (by kernel_rfl) ?_
    intro w85 (H86 : Sat w [restC w (fun _ => False), cellC b2 27 ([(.int .i64 (2)), (.int .i64 (1))] : List Value), talC t15 hb16 cb17 ab18 lb19 2 1 (stL ls jS k), talC t26 hb27 cb28 ab29 lb30 2 1 (stL ls (jT turn N) k), cellC b66 24 (hc h62), cellC b81 24 (hc h77)] w85)
    refine hK84 _ _ ?_
    clear hK84 K84
    refine wl_pure (wants0 rfl) (d := 16) (v := (.int .i64 (n78))) rfl (by kernel_rfl) ?_
    refine w_nil ?_
    refine then_normal ?_
    refine w_seq ?_
    refine w_seq ?_
    obtain rfl : k = N := by omega
    obtain ⟨rfl, rfl⟩ := most_uniq (st_perm ls turn k hN7) q64 q79
    refine w_lit ?_
    refine wl_pure (wants0 rfl) (d := 93) (v := (.agg ⟨(hc h62)⟩)) rfl (e_loadN (vs := (hc h62)) rfl (by kernel_rfl) (by kernel_rfl) (by exact Nat.le_of_ble_eq_true (by kernel_rfl)) (H86.at 4 rfl) (by kernel_rfl)) ?_
    refine wl_pure (wants0 rfl) (d := 94) (v := (.agg ⟨(hc h62)⟩)) rfl (e_loadN (vs := (hc h62)) rfl (by kernel_rfl) (by kernel_rfl) (by exact Nat.le_of_ble_eq_true (by kernel_rfl)) (H86.at 5 rfl) (by kernel_rfl)) ?_
    refine wl_pure (wants0 rfl) (d := 95) (v := (.bool (!(decide (h62 = h62))))) rfl (e_neHash h62 h62 rfl rfl) ?_
    refine wl_pure (wants0 rfl) (d := 96) (v := (.bool (!(decide (h62 = h62))))) rfl (by kernel_rfl) ?_
    have b88 : (!(decide (h62 = h62))) = false := by simp
    refine wl_know 96 (.bool false) (congrArg Value.bool b88) ?_
    refine wl_pure (wantsY 3 96 false rfl (by kernel_rfl) rfl (by kernel_rfl)) (d := 97) (v := (.int .i64 (n63))) rfl (by kernel_rfl) ?_
    refine wl_pure (wantsY 3 96 false rfl (by kernel_rfl) rfl (by kernel_rfl)) (d := 98) (v := (.int .i64 (n63))) rfl (by kernel_rfl) ?_
    refine wl_pure (wantsY 3 96 false rfl (by kernel_rfl) rfl (by kernel_rfl)) (d := 99) (v := (.bool (!(decide (n63 = n63))))) rfl (by kernel_rfl) ?_
    refine wl_pure (wants0 rfl) (d := 100) (v := (.bool (!(decide (n63 = n63))))) rfl (by kernel_rfl) ?_
    refine wl_pure (wants0 rfl) (d := 101) (v := (.bool (!(decide (n63 = n63))))) rfl (by kernel_rfl) ?_
    have b89 : (!(decide (n63 = n63))) = false := by simp
    refine wl_know 101 (.bool false) (congrArg Value.bool b89) ?_
    refine wl_pure (wantsY 8 101 false rfl (by kernel_rfl) rfl (by kernel_rfl)) (d := 102) (v := (.int .i64 (n63))) rfl (by kernel_rfl) ?_
    refine wl_pure (wantsY 8 101 false rfl (by kernel_rfl) rfl (by kernel_rfl)) (d := 103) (v := (.pointer (some ⟨t15, 0, none⟩))) rfl (by kernel_rfl) ?_
    refine wl_do (wantsY 8 101 false rfl (by kernel_rfl) rfl (by kernel_rfl)) (fun K90 hK90 => ?_)
    refine d_call (d := 104) rfl (by kernel_rfl) (talAll_any w85 t15 hb16 cb17 ab18 lb19 2 1 (stL ls jS k) (H86.at 2 rfl) 2 1) ?_
    rintro _ w91 ⟨rfl, u93⟩
    have H92 := H86.keepU u93
    refine ⟨_, rfl, ?_⟩
    refine hK90 _ _ ?_
    clear hK90 K90
    refine wl_pure (wantsY 8 101 false rfl (by kernel_rfl) rfl (by kernel_rfl)) (d := 105) (v := (.bool (decide (n63 > (allV (stL ls jS k) 2 1))))) rfl (by kernel_rfl) ?_
    refine wl_pure (wants0 rfl) (d := 106) (v := (.bool (decide (n63 > (allV (stL ls jS k) 2 1))))) rfl (by kernel_rfl) ?_
    refine wl_pure (wants0 rfl) (d := 107) (v := (.bool (decide (n63 > (allV (stL ls jS k) 2 1))))) rfl (by kernel_rfl) ?_
    have b94 : (decide (n63 > (allV (stL ls jS k) 2 1))) = false := by (have := most_all q64; rw [decide_eq_false_iff_not]; omega)
    refine wl_know 107 (.bool false) (congrArg Value.bool b94) ?_
    refine wl_pure (wantsY 14 107 false rfl (by kernel_rfl) rfl (by kernel_rfl)) (d := 108) (v := (.pointer (some ⟨t15, 0, none⟩))) rfl (by kernel_rfl) ?_
    refine wl_do (wantsY 14 107 false rfl (by kernel_rfl) rfl (by kernel_rfl)) (fun K95 hK95 => ?_)
    refine d_call (d := 109) rfl (by kernel_rfl) (talAll_any w91 t15 hb16 cb17 ab18 lb19 2 1 (stL ls jS k) (H92.at 2 rfl) 2 1) ?_
    rintro _ w96 ⟨rfl, u98⟩
    have H97 := H92.keepU u98
    refine ⟨_, rfl, ?_⟩
    refine hK95 _ _ ?_
    clear hK95 K95
    refine wl_pure (wantsY 14 107 false rfl (by kernel_rfl) rfl (by kernel_rfl)) (d := 110) (v := (.int .i64 ((k : Int)))) rfl (by kernel_rfl) ?_
    refine wl_pure (wantsY 14 107 false rfl (by kernel_rfl) rfl (by kernel_rfl)) (d := 111) (v := (.bool (!(decide ((allV (stL ls jS k) 2 1) = (k : Int)))))) rfl (by kernel_rfl) ?_
    refine wl_pure (wants0 rfl) (d := 112) (v := (.bool (!(decide ((allV (stL ls jS k) 2 1) = (k : Int)))))) rfl (by kernel_rfl) ?_
    refine wl_pure (wants0 rfl) (d := 113) (v := (.bool (!(decide ((allV (stL ls jS k) 2 1) = (k : Int)))))) rfl (by kernel_rfl) ?_
    have b99 : (!(decide ((allV (stL ls jS k) 2 1) = (k : Int)))) = false := by (rw [st_all ls k hN7]; simp)
    refine wl_know 113 (.bool false) (congrArg Value.bool b99) ?_
    refine wl_pure (wantsY 20 113 false rfl (by kernel_rfl) rfl (by kernel_rfl)) (d := 114) (v := (.pointer (some ⟨t15, 0, none⟩))) rfl (by kernel_rfl) ?_
    refine wl_do (wantsY 20 113 false rfl (by kernel_rfl) rfl (by kernel_rfl)) (fun K100 hK100 => ?_)
    refine d_call (d := 115) rfl (by kernel_rfl) (talHeard_any w96 t15 hb16 cb17 ab18 lb19 2 1 (stL ls jS k) (H97.at 2 rfl) 0) ?_
    rintro _ w101 ⟨rfl, u103⟩
    have H102 := H97.keepU u103
    refine ⟨_, rfl, ?_⟩
    refine hK100 _ _ ?_
    clear hK100 K100
    refine wl_pure (wantsY 20 113 false rfl (by kernel_rfl) rfl (by kernel_rfl)) (d := 116) (v := (.int .i64 ((k : Int)))) rfl (by kernel_rfl) ?_
    refine wl_pure (wantsY 20 113 false rfl (by kernel_rfl) rfl (by kernel_rfl)) (d := 117) (v := (.bool (!(decide ((heardV 2 (stL ls jS k) 0) = (k : Int)))))) rfl (by kernel_rfl) ?_
    refine wl_pure (wants0 rfl) (d := 118) (v := (.bool (!(decide ((heardV 2 (stL ls jS k) 0) = (k : Int)))))) rfl (by kernel_rfl) ?_
    refine wl_pure (wants0 rfl) (d := 119) (v := (.bool (!(decide ((heardV 2 (stL ls jS k) 0) = (k : Int)))))) rfl (by kernel_rfl) ?_
    have b104 : (!(decide ((heardV 2 (stL ls jS k) 0) = (k : Int)))) = false := by (rw [st_heard0 ls k hN7]; simp)
    refine wl_know 119 (.bool false) (congrArg Value.bool b104) ?_
    refine wl_pure (wantsY 26 119 false rfl (by kernel_rfl) rfl (by kernel_rfl)) (d := 120) (v := (.pointer (some ⟨t15, 0, none⟩))) rfl (by kernel_rfl) ?_
    refine wl_do (wantsY 26 119 false rfl (by kernel_rfl) rfl (by kernel_rfl)) (fun K105 hK105 => ?_)
    refine d_call (d := 121) rfl (by kernel_rfl) (talHeard_any w101 t15 hb16 cb17 ab18 lb19 2 1 (stL ls jS k) (H102.at 2 rfl) 2) ?_
    rintro _ w106 ⟨rfl, u108⟩
    have H107 := H102.keepU u108
    refine ⟨_, rfl, ?_⟩
    refine hK105 _ _ ?_
    clear hK105 K105
    refine wl_pure (wantsY 26 119 false rfl (by kernel_rfl) rfl (by kernel_rfl)) (d := 122) (v := (.bool (!(decide ((heardV 2 (stL ls jS k) 2) = 0))))) rfl (by kernel_rfl) ?_
    refine wl_pure (wants0 rfl) (d := 123) (v := (.bool (!(decide ((heardV 2 (stL ls jS k) 2) = 0))))) rfl (by kernel_rfl) ?_
    refine w_nil ?_
    refine then_normal ?_
    have b109 : (!(decide ((heardV 2 (stL ls jS k) 2) = 0))) = false := by (rw [st_heard2 ls k hN7]; simp)
    refine wp_know 123 (.bool false) (congrArg Value.bool b109) ?_
    refine wp_iff rfl ?_
    refine w_skip ?_
    refine then_normal ?_
    refine w_seq ?_
    refine w_seq ?_
    refine w_lit ?_
    refine wl_pure (wants0 rfl) (d := 17) (v := (.int .u8 (0))) rfl (by kernel_rfl) ?_
    refine w_nil ?_
    refine then_normal ?_
    refine w_block ?_
    refine wp_round [4, 17, 18, 124, 125, 126, 127, 128, 129, 130, 131, 132, 133, 134, 135, 136, 137, 138, 139, 140, 141, 142, 143, 144, 145, 146, 147, 148, 149] (fun F_ W_ m_ => ∃ (j : Nat), F_ 17 = (.int .u8 (((UInt8.ofNat j).toNat : Int))) ∧ (j ≤ 3) ∧ ((UInt8.ofNat j).toNat = j) ∧ Sat w [restC w (fun _ => False), cellC b2 27 ([(.int .i64 (2)), (.int .i64 (1))] : List Value), talC t15 hb16 cb17 ab18 lb19 2 1 (stL ls jS k), talC t26 hb27 cb28 ab29 lb30 2 1 (stL ls (jT turn k) k), cellC b66 24 (hc h62), cellC b81 24 (hc h62)] W_ ∧ m_ = 3 - j) _ ⟨0, (by first | rfl | go_num), by omega, rfl, H107, rfl⟩ ?_
    rintro g110 w111 _ ⟨j, v113, hj, hj8, H112, rfl⟩
    refine wp_know 17 _ v113 ?_
    refine w_seq ?_
    refine w_seq ?_
    refine w_lit ?_
    refine wl_pure (wants0 rfl) (d := 124) (v := (.int .u8 (((UInt8.ofNat j).toNat : Int)))) rfl (by kernel_rfl) ?_
    refine wl_pure (wants0 rfl) (d := 125) (v := (.bool (decide (((UInt8.ofNat j).toNat : Int) < 3)))) rfl (by kernel_rfl) ?_
    refine w_nil ?_
    refine then_normal ?_
    refine (bsplit (decide (((UInt8.ofNat j).toNat : Int) < 3))).elim (fun b115 => ?_) (fun b115 => ?_)
    · have g116 := of_decide_eq_true b115
      refine wp_know 125 (.bool true) (congrArg Value.bool b115) ?_
      refine wp_ift rfl ?_
      refine w_skip ?_
      refine then_normal ?_
      refine w_seq ?_
      refine w_block ?_
      refine w_seq ?_
      refine w_lit ?_
      refine wl_pure (wants0 rfl) (d := 128) (v := (.pointer (some ⟨t15, 0, none⟩))) rfl (by kernel_rfl) ?_
      refine wl_pure (wants0 rfl) (d := 129) (v := (.int .u8 (((UInt8.ofNat j).toNat : Int)))) rfl (by kernel_rfl) ?_
      refine wl_pure (wants0 rfl) (d := 130) (v := (.agg ⟨(hc (hash1 (UInt8.ofNat j)))⟩)) rfl (by kernel_rfl) ?_
      refine wl_do (wants0 rfl) (fun K117 hK117 => ?_)
      refine d_call (d := 131) rfl (by kernel_rfl) (talFor_any w111 t15 hb16 cb17 ab18 lb19 2 1 (stL ls jS k) (H112.at 2 rfl) 2 1 (hash1 (UInt8.ofNat j))) ?_
      rintro _ w118 ⟨rfl, u120⟩
      have H119 := H112.keepU u120
      refine ⟨_, rfl, ?_⟩
      refine hK117 _ _ ?_
      clear hK117 K117
      refine wl_pure (wants0 rfl) (d := 18) (v := (.int .i64 (forV (stL ls jS k) 2 1 (hash1 (UInt8.ofNat j))))) rfl (by kernel_rfl) ?_
      refine w_nil ?_
      refine then_normal ?_
      refine w_seq ?_
      refine w_lit ?_
      refine wl_pure (wants0 rfl) (d := 132) (v := (.int .i64 (forV (stL ls jS k) 2 1 (hash1 (UInt8.ofNat j))))) rfl (by kernel_rfl) ?_
      refine wl_pure (wants0 rfl) (d := 133) (v := (.int .i64 (n63))) rfl (by kernel_rfl) ?_
      refine wl_pure (wants0 rfl) (d := 134) (v := (.bool (decide ((forV (stL ls jS k) 2 1 (hash1 (UInt8.ofNat j))) > n63)))) rfl (by kernel_rfl) ?_
      refine wl_pure (wants0 rfl) (d := 135) (v := (.bool (decide ((forV (stL ls jS k) 2 1 (hash1 (UInt8.ofNat j))) > n63)))) rfl (by kernel_rfl) ?_
      have b121 : (decide ((forV (stL ls jS k) 2 1 (hash1 (UInt8.ofNat j))) > n63)) = false := by (have := most_bd q64 (hash1 (UInt8.ofNat j)); rw [decide_eq_false_iff_not]; omega)
      refine wl_know 135 (.bool false) (congrArg Value.bool b121) ?_
      refine wl_pure (wantsY 3 135 false rfl (by kernel_rfl) rfl (by kernel_rfl)) (d := 136) (v := (.int .i64 (forV (stL ls jS k) 2 1 (hash1 (UInt8.ofNat j))))) rfl (by kernel_rfl) ?_
      refine wl_pure (wantsY 3 135 false rfl (by kernel_rfl) rfl (by kernel_rfl)) (d := 137) (v := (.int .i64 (n63))) rfl (by kernel_rfl) ?_
      refine wl_pure (wantsY 3 135 false rfl (by kernel_rfl) rfl (by kernel_rfl)) (d := 138) (v := (.bool (decide ((forV (stL ls jS k) 2 1 (hash1 (UInt8.ofNat j))) = n63)))) rfl (by kernel_rfl) ?_
      refine wl_pure (wantsY 3 135 false rfl (by kernel_rfl) rfl (by kernel_rfl)) (d := 139) (v := (.bool (decide ((forV (stL ls jS k) 2 1 (hash1 (UInt8.ofNat j))) = n63)))) rfl (by kernel_rfl) ?_
      refine (bsplit (decide ((forV (stL ls jS k) 2 1 (hash1 (UInt8.ofNat j))) = n63))).elim (fun b122 => ?_) (fun b122 => ?_)
      · have g123 := of_decide_eq_true b122
        refine wl_know 139 (.bool true) (congrArg Value.bool b122) ?_
        refine wl_pure (wantsY 7 139 true rfl (by kernel_rfl) rfl (by kernel_rfl)) (d := 140) (v := (.int .i64 ((k : Int)))) rfl (by kernel_rfl) ?_
        refine wl_pure (wantsY 7 139 true rfl (by kernel_rfl) rfl (by kernel_rfl)) (d := 141) (v := (.bool (decide ((k : Int) > 0)))) rfl (by kernel_rfl) ?_
        refine wl_pure (wantsY 3 135 false rfl (by kernel_rfl) rfl (by kernel_rfl)) (d := 142) (v := (.bool (decide ((k : Int) > 0)))) rfl (by kernel_rfl) ?_
        refine wl_pure (wantsY 3 135 false rfl (by kernel_rfl) rfl (by kernel_rfl)) (d := 143) (v := (.bool (decide ((k : Int) > 0)))) rfl (by kernel_rfl) ?_
        refine (bsplit (decide ((k : Int) > 0))).elim (fun b124 => ?_) (fun b124 => ?_)
        · have g125 := of_decide_eq_true b124
          refine wl_know 143 (.bool true) (congrArg Value.bool b124) ?_
          refine wl_pure (wantsY 11 143 true rfl (by kernel_rfl) rfl (by kernel_rfl)) (d := 144) (v := (.int .u8 (((UInt8.ofNat j).toNat : Int)))) rfl (by kernel_rfl) ?_
          refine wl_pure (wantsY 11 143 true rfl (by kernel_rfl) rfl (by kernel_rfl)) (d := 145) (v := (.pointer (some ⟨b66, 0, none⟩))) rfl (by kernel_rfl) ?_
          refine wl_pure (wantsY 11 143 true rfl (by kernel_rfl) rfl (by kernel_rfl)) (d := 146) (v := (.int .u8 (((h62.l.getD 0 0).toNat : Int)))) rfl (e_load1 rfl (by kernel_rfl) (H119.cell 4 rfl (by kernel_rfl))) ?_
          refine wl_pure (wantsY 11 143 true rfl (by kernel_rfl) rfl (by kernel_rfl)) (d := 147) (v := (.bool (decide (((UInt8.ofNat j).toNat : Int) < ((h62.l.getD 0 0).toNat : Int))))) rfl (by kernel_rfl) ?_
          refine wl_pure (wantsY 3 135 false rfl (by kernel_rfl) rfl (by kernel_rfl)) (d := 148) (v := (.bool (decide (((UInt8.ofNat j).toNat : Int) < ((h62.l.getD 0 0).toNat : Int))))) rfl (by kernel_rfl) ?_
          refine wl_pure (wants0 rfl) (d := 149) (v := (.bool (decide (((UInt8.ofNat j).toNat : Int) < ((h62.l.getD 0 0).toNat : Int))))) rfl (by kernel_rfl) ?_
          refine w_nil ?_
          refine then_normal ?_
          have b126 : (decide (((UInt8.ofNat j).toNat : Int) < ((h62.l.getD 0 0).toNat : Int))) = false := by (rw [decide_eq_false_iff_not]; exact most_least (st_h ls k hN7) q64 (by assumption) (by rw [st_all ls k hN7]; omega))
          refine wp_know 149 (.bool false) (congrArg Value.bool b126) ?_
          refine wp_iff rfl ?_
          refine w_skip ?_
          refine blk_normal ?_
          refine then_normal ?_
          refine w_lit ?_
          refine wl_pure (wants0 rfl) (d := 126) (v := (.int .u8 (((UInt8.ofNat j).toNat : Int)))) rfl (by kernel_rfl) ?_
          refine wl_pure (wants0 rfl) (d := 127) (v := (.int .u8 (((UInt8.ofNat (j + 1)).toNat : Int)))) rfl (e_int (z := ((UInt8.ofNat j).toNat : Int) + 1) (by kernel_rfl) ((by exact u8_succ j hj8 (by omega)))) ?_
          refine wl_pure (wants0 rfl) (d := 17) (v := (.int .u8 (((UInt8.ofNat (j + 1)).toNat : Int)))) rfl (by kernel_rfl) ?_
          refine w_nil ?_
          refine round_back ?_ _ ⟨(j + 1), (show ((.int .u8 (((UInt8.ofNat (j + 1)).toNat : Int))) : Value) = _ by first | rfl | go_num), by omega, u8_small (j + 1) (by omega), H119, rfl⟩ (by omega)
          exact (same_upd rfl (same_upd rfl (same_upd rfl (same_upd rfl (same_upd rfl (same_upd rfl (same_upd rfl (same_upd rfl (same_upd rfl (same_upd rfl (same_upd rfl (same_upd rfl (same_upd rfl (same_upd rfl (same_upd rfl (same_upd rfl (same_upd rfl (same_upd rfl (same_upd rfl (same_upd rfl (same_upd rfl (same_upd rfl (same_upd rfl (same_upd rfl (same_upd rfl (same_upd rfl (same_upd rfl (same_upd rfl (same_upd rfl (same_upd rfl (same_upd rfl (same_upd rfl (same_upd rfl (same_upd rfl (same_ovr)))))))))))))))))))))))))))))))))))
        · have g127 := of_decide_eq_false b124
          refine wl_know 143 (.bool false) (congrArg Value.bool b124) ?_
          refine wl_pass (wantsN 11 143 true rfl (by kernel_rfl) rfl (by kernel_rfl)) rfl ?_
          refine wl_pass (wantsN 11 143 true rfl (by kernel_rfl) rfl (by kernel_rfl)) rfl ?_
          refine wl_pass (wantsN 11 143 true rfl (by kernel_rfl) rfl (by kernel_rfl)) rfl ?_
          refine wl_pass (wantsN 11 143 true rfl (by kernel_rfl) rfl (by kernel_rfl)) rfl ?_
          refine wl_pure (wantsY 3 135 false rfl (by kernel_rfl) rfl (by kernel_rfl)) (d := 148) (v := (.bool false)) rfl (by kernel_rfl) ?_
          refine wl_pure (wants0 rfl) (d := 149) (v := (.bool false)) rfl (by kernel_rfl) ?_
          refine w_nil ?_
          refine then_normal ?_
          refine wp_iff rfl ?_
          refine w_skip ?_
          refine blk_normal ?_
          refine then_normal ?_
          refine w_lit ?_
          refine wl_pure (wants0 rfl) (d := 126) (v := (.int .u8 (((UInt8.ofNat j).toNat : Int)))) rfl (by kernel_rfl) ?_
          refine wl_pure (wants0 rfl) (d := 127) (v := (.int .u8 (((UInt8.ofNat (j + 1)).toNat : Int)))) rfl (e_int (z := ((UInt8.ofNat j).toNat : Int) + 1) (by kernel_rfl) ((by exact u8_succ j hj8 (by omega)))) ?_
          refine wl_pure (wants0 rfl) (d := 17) (v := (.int .u8 (((UInt8.ofNat (j + 1)).toNat : Int)))) rfl (by kernel_rfl) ?_
          refine w_nil ?_
          refine round_back ?_ _ ⟨(j + 1), (show ((.int .u8 (((UInt8.ofNat (j + 1)).toNat : Int))) : Value) = _ by first | rfl | go_num), by omega, u8_small (j + 1) (by omega), H119, rfl⟩ (by omega)
          exact (same_upd rfl (same_upd rfl (same_upd rfl (same_upd rfl (same_upd rfl (same_upd rfl (same_upd rfl (same_upd rfl (same_upd rfl (same_upd rfl (same_upd rfl (same_upd rfl (same_upd rfl (same_upd rfl (same_upd rfl (same_upd rfl (same_upd rfl (same_upd rfl (same_upd rfl (same_upd rfl (same_upd rfl (same_upd rfl (same_upd rfl (same_upd rfl (same_upd rfl (same_upd rfl (same_upd rfl (same_upd rfl (same_upd rfl (same_upd rfl (same_upd rfl (same_upd rfl (same_upd rfl (same_ovr))))))))))))))))))))))))))))))))))
      · have g128 := of_decide_eq_false b122
        refine wl_know 139 (.bool false) (congrArg Value.bool b122) ?_
        refine wl_pass (wantsN 7 139 true rfl (by kernel_rfl) rfl (by kernel_rfl)) rfl ?_
        refine wl_pass (wantsN 7 139 true rfl (by kernel_rfl) rfl (by kernel_rfl)) rfl ?_
        refine wl_pure (wantsY 3 135 false rfl (by kernel_rfl) rfl (by kernel_rfl)) (d := 142) (v := (.bool false)) rfl (by kernel_rfl) ?_
        refine wl_pure (wantsY 3 135 false rfl (by kernel_rfl) rfl (by kernel_rfl)) (d := 143) (v := (.bool false)) rfl (by kernel_rfl) ?_
        refine wl_pass (wantsN 11 143 true rfl (by kernel_rfl) rfl (by kernel_rfl)) rfl ?_
        refine wl_pass (wantsN 11 143 true rfl (by kernel_rfl) rfl (by kernel_rfl)) rfl ?_
        refine wl_pass (wantsN 11 143 true rfl (by kernel_rfl) rfl (by kernel_rfl)) rfl ?_
        refine wl_pass (wantsN 11 143 true rfl (by kernel_rfl) rfl (by kernel_rfl)) rfl ?_
        refine wl_pure (wantsY 3 135 false rfl (by kernel_rfl) rfl (by kernel_rfl)) (d := 148) (v := (.bool false)) rfl (by kernel_rfl) ?_
        refine wl_pure (wants0 rfl) (d := 149) (v := (.bool false)) rfl (by kernel_rfl) ?_
        refine w_nil ?_
        refine then_normal ?_
        refine wp_iff rfl ?_
        refine w_skip ?_
        refine blk_normal ?_
        refine then_normal ?_
        refine w_lit ?_
        refine wl_pure (wants0 rfl) (d := 126) (v := (.int .u8 (((UInt8.ofNat j).toNat : Int)))) rfl (by kernel_rfl) ?_
        refine wl_pure (wants0 rfl) (d := 127) (v := (.int .u8 (((UInt8.ofNat (j + 1)).toNat : Int)))) rfl (e_int (z := ((UInt8.ofNat j).toNat : Int) + 1) (by kernel_rfl) ((by exact u8_succ j hj8 (by omega)))) ?_
        refine wl_pure (wants0 rfl) (d := 17) (v := (.int .u8 (((UInt8.ofNat (j + 1)).toNat : Int)))) rfl (by kernel_rfl) ?_
        refine w_nil ?_
        refine round_back ?_ _ ⟨(j + 1), (show ((.int .u8 (((UInt8.ofNat (j + 1)).toNat : Int))) : Value) = _ by first | rfl | go_num), by omega, u8_small (j + 1) (by omega), H119, rfl⟩ (by omega)
        exact (same_upd rfl (same_upd rfl (same_upd rfl (same_upd rfl (same_upd rfl (same_upd rfl (same_upd rfl (same_upd rfl (same_upd rfl (same_upd rfl (same_upd rfl (same_upd rfl (same_upd rfl (same_upd rfl (same_upd rfl (same_upd rfl (same_upd rfl (same_upd rfl (same_upd rfl (same_upd rfl (same_upd rfl (same_upd rfl (same_upd rfl (same_upd rfl (same_upd rfl (same_upd rfl (same_upd rfl (same_upd rfl (same_upd rfl (same_upd rfl (same_upd rfl (same_upd rfl (same_ovr)))))))))))))))))))))))))))))))))
    · have g129 := of_decide_eq_false b115
      refine wp_know 125 (.bool false) (congrArg Value.bool b115) ?_
      refine wp_iff rfl ?_
      refine w_exit ?_
      refine then_exit ?_
      refine back_exit ?_
      refine blk_hit ?_
      refine then_normal ?_
      refine w_seq ?_
      refine w_lit ?_
      refine wl_do (wants0 rfl) (fun K130 hK130 => ?_)
      refine d_call (d := 150) rfl (by kernel_rfl) (wakes_any w111) ?_
      rintro _ w131 ⟨rfl, u133⟩
      have H132 := H112.keepU u133
      refine ⟨_, rfl, ?_⟩
      refine hK130 _ _ ?_
      clear hK130 K130
      refine wl_pure (wants0 rfl) (d := 4) (v := (.bool true)) rfl (by kernel_rfl) ?_
      refine w_nil ?_
      refine then_normal ?_
      refine w_ret ?_
      refine end1 rfl (res_tmp (v := (.bool true)) rfl) ?_
      exact ⟨rfl, H132.upd 0 rfl [] (fun _ h => h.elim)⟩

end Go.Proofs.Ytfhhljgjppcdlaa
