/- WHAT IS PROVED: right commitments and stamps: contracts. Conditions: stated with each. -/
import Derived.Test.YtbpeofcoceaahaaRightD
import Derived.Test.YtbpeofcoceaahaaRt2
import Derived.Test.YtbpeofcoceaahaaWt2
import Derived.Test.YtbpeofcoceaahaaPBook
import Derived.Test.YtbpeofcoceaahaaRefB
namespace Go.Proofs.Ytbpeofcoceaahaa
open Go.RowKit

set_option maxRecDepth 100000 in
set_option maxHeartbeats 400000 in
theorem pRightQ_any (w : World) (b mb : Nat) (L : List Signed) (hb : (cellC b 107 [.map (some mb)]).ok w) (hm : MapAt w mb signedV (Value.int .i64) (marks L)) (ta : Option Addr) (tc : Nat) (tx : List UInt8) (ht : ListAt encB 1 w (.slice ta tx.length tc) tx) (p m : Int) :
    Calls Try.prog 43 #[(.pointer (some ⟨b, 0, none⟩)), (.agg ⟨([(.int .i64 (p)), (.int .i64 (m))] : List Value)⟩), (.slice ta tx.length tc)] w fun e w' => e = .returned (.bool (rightB L p m tx)) ∧ Upd [] w w' := by
  have H := Sat.start0 w
  have hmk : (lookM (marks L) (⟨p, tx⟩ : Signed)).getD 0 = markOf L (⟨p, tx⟩ : Signed) := by rw [look_marks]; rfl
  refine calls_fr Try.func43 rfl 26 rfl (Nat.le_of_ble_eq_true rfl) ?_
  refine w_seq ?_
  refine w_lit ?_
  refine wl_do (wants0 rfl) (fun K1 hK1 => ?_)
  refine d_box (vs := ([(.int .i64 (p)), (.int .i64 (m))] : List Value)) rfl H rfl rfl ?_
  intro b2 w3 (H4 : Sat w [restC w (fun _ => False), cellC b2 42 ([(.int .i64 (p)), (.int .i64 (m))] : List Value)] w3)
  refine hK1 _ _ ?_
  clear hK1 K1
  refine wl_pure (wants0 rfl) (d := 6) (v := (.bool false)) rfl (by kernel_rfl) ?_
  refine w_nil ?_
  refine then_normal ?_
  refine w_seq ?_
  refine q_start H4 (by kernel_rfl) (by kernel_rfl) ?_
  refine q_val (wants0 rfl) (d := 8) (v := (.pointer (some ⟨b, 0, none⟩))) rfl (fun _ H' => (by kernel_rfl)) ?_
  refine q_val (wants0 rfl) (d := 9) (v := (.pointer (some ⟨b, 0, none⟩))) rfl (fun _ H' => (by kernel_rfl)) ?_
  refine q_val (wants0 rfl) (d := 10) (v := (.pointer (some ⟨b, 0, none⟩))) rfl (fun _ H' => (by kernel_rfl)) ?_
  refine q_val (wants0 rfl) (d := 11) (v := (.map (some mb))) rfl (fun _ H' => (e_load1 rfl (by kernel_rfl) (H'.roCell 0 rfl hb (fun h => h) rfl))) ?_
  refine q_val (wants0 rfl) (d := 12) (v := (.pointer (some ⟨b2, 0, none⟩))) rfl (fun _ H' => (by kernel_rfl)) ?_
  refine q_val (wants0 rfl) (d := 13) (v := (.int .i64 (p))) rfl (fun _ H' => (e_load1 rfl (by kernel_rfl) (H'.cell 1 rfl rfl))) ?_
  refine q_val (wants0 rfl) (d := 14) (v := (.slice ta tx.length tc)) rfl (fun _ H' => (by kernel_rfl)) ?_
  refine q_val (wants0 rfl) (d := 15) (v := (strV tx)) rfl (fun _ H' => (e_convBytes (e := 5) (s := tx) (by kernel_rfl) (by kernel_rfl) (by kernel_rfl) rfl (list_bytes (ListAt.now H' 0 rfl ht)))) ?_
  refine q_val (wants0 rfl) (d := 16) (v := (.agg ⟨([(.int .i64 (p)), (strV tx)] : List Value)⟩)) rfl (fun _ H' => (by kernel_rfl)) ?_
  refine q_val (wants0 rfl) (d := 17) (v := (.int .i64 ((lookM (marks L) (⟨p, tx⟩ : Signed)).getD 0))) rfl (fun _ H' => (e_lookup (kt := 111) (et := 3) signedK (by kernel_rfl) (fun w => by kernel_rfl) rfl (⟨p, tx⟩ : Signed) rfl (H'.roMap 0 rfl hm (fun h => h)) (optD (Value.int .i64) _ _))) ?_
  refine q_val (wants0 rfl) (d := 7) (v := (.int .i64 ((lookM (marks L) (⟨p, tx⟩ : Signed)).getD 0))) rfl (fun _ H' => (by kernel_rfl)) ?_
  refine q_end ?_
  intro w5 H6
  refine then_normal ?_
  refine w_seq ?_
  refine w_lit ?_
  refine wl_pure (wants0 rfl) (d := 18) (v := (.int .i64 ((lookM (marks L) (⟨p, tx⟩ : Signed)).getD 0))) rfl (by kernel_rfl) ?_
  refine wl_pure (wants0 rfl) (d := 19) (v := (.bool (decide (((lookM (marks L) (⟨p, tx⟩ : Signed)).getD 0) > 0)))) rfl (by kernel_rfl) ?_
  refine wl_pure (wants0 rfl) (d := 20) (v := (.bool (decide (((lookM (marks L) (⟨p, tx⟩ : Signed)).getD 0) > 0)))) rfl (by kernel_rfl) ?_
  refine (bsplit (decide (((lookM (marks L) (⟨p, tx⟩ : Signed)).getD 0) > 0))).elim (fun b7 => ?_) (fun b7 => ?_)
  · have g8 := of_decide_eq_true b7
    refine wl_know 20 (.bool true) (congrArg Value.bool b7) ?_
    have g9 := of_decide_eq_true b7
    refine wl_pure (wantsY 2 20 true rfl (by kernel_rfl) rfl (by kernel_rfl)) (d := 21) (v := (.int .i64 ((lookM (marks L) (⟨p, tx⟩ : Signed)).getD 0))) rfl (by kernel_rfl) ?_
    refine wl_pure (wantsY 2 20 true rfl (by kernel_rfl) rfl (by kernel_rfl)) (d := 22) (v := (.pointer (some ⟨b2, 1, none⟩))) rfl (by kernel_rfl) ?_
    refine wl_pure (wantsY 2 20 true rfl (by kernel_rfl) rfl (by kernel_rfl)) (d := 23) (v := (.int .i64 (m))) rfl (e_load1 rfl (by kernel_rfl) (H6.cell 1 rfl rfl)) ?_
    refine wl_pure (wantsY 2 20 true rfl (by kernel_rfl) rfl (by kernel_rfl)) (d := 24) (v := (.bool (decide (((lookM (marks L) (⟨p, tx⟩ : Signed)).getD 0) = m)))) rfl (by kernel_rfl) ?_
    refine wl_pure (wants0 rfl) (d := 25) (v := (.bool (decide (((lookM (marks L) (⟨p, tx⟩ : Signed)).getD 0) = m)))) rfl (by kernel_rfl) ?_
    refine wl_pure (wants0 rfl) (d := 6) (v := (.bool (decide (((lookM (marks L) (⟨p, tx⟩ : Signed)).getD 0) = m)))) rfl (by kernel_rfl) ?_
    refine w_nil ?_
    refine then_normal ?_
    refine w_ret ?_
    refine end1 rfl (res_tmp (v := (.bool (decide (((lookM (marks L) (⟨p, tx⟩ : Signed)).getD 0) = m)))) rfl) ?_
    exact ⟨by unfold rightB; rw [← hmk]; simp [b7], H6.upd 0 rfl [] (fun _ h => h.elim)⟩
  · have g10 := of_decide_eq_false b7
    refine wl_know 20 (.bool false) (congrArg Value.bool b7) ?_
    have g11 := of_decide_eq_false b7
    refine wl_pass (wantsN 2 20 true rfl (by kernel_rfl) rfl (by kernel_rfl)) rfl ?_
    refine wl_pass (wantsN 2 20 true rfl (by kernel_rfl) rfl (by kernel_rfl)) rfl ?_
    refine wl_pass (wantsN 2 20 true rfl (by kernel_rfl) rfl (by kernel_rfl)) rfl ?_
    refine wl_pass (wantsN 2 20 true rfl (by kernel_rfl) rfl (by kernel_rfl)) rfl ?_
    refine wl_pure (wants0 rfl) (d := 25) (v := (.bool false)) rfl (by kernel_rfl) ?_
    refine wl_pure (wants0 rfl) (d := 6) (v := (.bool false)) rfl (by kernel_rfl) ?_
    refine w_nil ?_
    refine then_normal ?_
    refine w_ret ?_
    refine end1 rfl (res_tmp (v := (.bool false)) rfl) ?_
    exact ⟨by unfold rightB; rw [← hmk]; simp [b7], H6.upd 0 rfl [] (fun _ h => h.elim)⟩

set_option maxRecDepth 100000 in
set_option maxHeartbeats 400000 in
theorem rRightQ_any (w : World) (r : Nat) (ra : Option Addr) (rc : Nat) (L : List Signed) (hb : (cellC r 88 [.slice ra L.length rc]).ok w) (hr : (rowC 120 2 (.slice ra L.length rc) L.length (L.flatMap encS)).ok w) (hn : L.Nodup) (hL : L.length ≤ 1000000) (ta : Option Addr) (tc : Nat) (tx : List UInt8) (ht : ListAt encB 1 w (.slice ta tx.length tc) tx) (p m : Int) :
    Calls Try.prog 45 #[(.pointer (some ⟨r, 0, none⟩)), (.agg ⟨([(.int .i64 (p)), (.int .i64 (m))] : List Value)⟩), (.slice ta tx.length tc)] w fun e w' => e = .returned (.bool (rightB L p m tx)) ∧ Upd [] w w' := by
  have H := Sat.start0 w
  refine calls_fr Try.func45 rfl 50 rfl (Nat.le_of_ble_eq_true rfl) ?_
  refine w_seq ?_
  refine w_lit ?_
  refine wl_do (wants0 rfl) (fun K1 hK1 => ?_)
  refine d_box (vs := ([(.int .i64 (p)), (.int .i64 (m))] : List Value)) rfl H rfl rfl ?_
  intro b2 w3 (H4 : Sat w [restC w (fun _ => False), cellC b2 42 ([(.int .i64 (p)), (.int .i64 (m))] : List Value)] w3)
  refine hK1 _ _ ?_
  clear hK1 K1
  refine wl_pure (wants0 rfl) (d := 6) (v := (.bool false)) rfl (by kernel_rfl) ?_
  refine w_nil ?_
  refine then_normal ?_
  refine w_seq ?_
  refine q_start H4 (by kernel_rfl) (by kernel_rfl) ?_
  refine q_val (wants0 rfl) (d := 7) (v := (.pointer (some ⟨b2, 1, none⟩))) rfl (fun _ H' => (by kernel_rfl)) ?_
  refine q_val (wants0 rfl) (d := 8) (v := (.int .i64 (m))) rfl (fun _ H' => (e_load1 rfl (by kernel_rfl) (H'.cell 1 rfl rfl))) ?_
  refine q_val (wants0 rfl) (d := 9) (v := (.bool (decide (m ≥ 1)))) rfl (fun _ H' => (by kernel_rfl)) ?_
  refine q_val (wants0 rfl) (d := 10) (v := (.bool (decide (m ≥ 1)))) rfl (fun _ H' => (by kernel_rfl)) ?_
  refine (bsplit (decide (m ≥ 1))).elim (fun b5 => ?_) (fun b5 => ?_)
  · have g6 := of_decide_eq_true b5
    refine q_know 10 (.bool true) (congrArg Value.bool b5) ?_
    have g7 := of_decide_eq_true b5
    refine q_val (wantsY 3 10 true rfl (by kernel_rfl) rfl (by kernel_rfl)) (d := 11) (v := (.pointer (some ⟨b2, 1, none⟩))) rfl (fun _ H' => (by kernel_rfl)) ?_
    refine q_val (wantsY 3 10 true rfl (by kernel_rfl) rfl (by kernel_rfl)) (d := 12) (v := (.int .i64 (m))) rfl (fun _ H' => (e_load1 rfl (by kernel_rfl) (H'.cell 1 rfl rfl))) ?_
    refine q_val (wantsY 3 10 true rfl (by kernel_rfl) rfl (by kernel_rfl)) (d := 13) (v := (.pointer (some ⟨r, 0, none⟩))) rfl (fun _ H' => (by kernel_rfl)) ?_
    refine q_val (wantsY 3 10 true rfl (by kernel_rfl) rfl (by kernel_rfl)) (d := 14) (v := (.pointer (some ⟨r, 0, none⟩))) rfl (fun _ H' => (by kernel_rfl)) ?_
    refine q_val (wantsY 3 10 true rfl (by kernel_rfl) rfl (by kernel_rfl)) (d := 15) (v := (.pointer (some ⟨r, 0, none⟩))) rfl (fun _ H' => (by kernel_rfl)) ?_
    refine q_val (wantsY 3 10 true rfl (by kernel_rfl) rfl (by kernel_rfl)) (d := 16) (v := (.slice ra L.length rc)) rfl (fun _ H' => (e_load1 rfl (by kernel_rfl) (H'.roCell 0 rfl hb (fun h => h) rfl))) ?_
    refine q_val (wantsY 3 10 true rfl (by kernel_rfl) rfl (by kernel_rfl)) (d := 17) (v := (.int .i64 ((L.length : Int)))) rfl (fun _ H' => (by kernel_rfl)) ?_
    refine q_val (wantsY 3 10 true rfl (by kernel_rfl) rfl (by kernel_rfl)) (d := 18) (v := (.bool (decide (m ≤ (L.length : Int))))) rfl (fun _ H' => (by kernel_rfl)) ?_
    refine q_val (wants0 rfl) (d := 19) (v := (.bool (decide (m ≤ (L.length : Int))))) rfl (fun _ H' => (by kernel_rfl)) ?_
    refine q_val (wants0 rfl) (d := 20) (v := (.bool (decide (m ≤ (L.length : Int))))) rfl (fun _ H' => (by kernel_rfl)) ?_
    refine (bsplit (decide (m ≤ (L.length : Int)))).elim (fun b8 => ?_) (fun b8 => ?_)
    · have g9 := of_decide_eq_true b8
      refine q_know 20 (.bool true) (congrArg Value.bool b8) ?_
      have g10 := of_decide_eq_true b8
      refine q_val (wantsY 13 20 true rfl (by kernel_rfl) rfl (by kernel_rfl)) (d := 21) (v := (.pointer (some ⟨r, 0, none⟩))) rfl (fun _ H' => (by kernel_rfl)) ?_
      refine q_val (wantsY 13 20 true rfl (by kernel_rfl) rfl (by kernel_rfl)) (d := 22) (v := (.pointer (some ⟨r, 0, none⟩))) rfl (fun _ H' => (by kernel_rfl)) ?_
      refine q_val (wantsY 13 20 true rfl (by kernel_rfl) rfl (by kernel_rfl)) (d := 23) (v := (.pointer (some ⟨r, 0, none⟩))) rfl (fun _ H' => (by kernel_rfl)) ?_
      refine q_val (wantsY 13 20 true rfl (by kernel_rfl) rfl (by kernel_rfl)) (d := 24) (v := (.slice ra L.length rc)) rfl (fun _ H' => (e_load1 rfl (by kernel_rfl) (H'.roCell 0 rfl hb (fun h => h) rfl))) ?_
      refine q_val (wantsY 13 20 true rfl (by kernel_rfl) rfl (by kernel_rfl)) (d := 25) (v := (.pointer (some ⟨b2, 1, none⟩))) rfl (fun _ H' => (by kernel_rfl)) ?_
      refine q_val (wantsY 13 20 true rfl (by kernel_rfl) rfl (by kernel_rfl)) (d := 26) (v := (.int .i64 (m))) rfl (fun _ H' => (e_load1 rfl (by kernel_rfl) (H'.cell 1 rfl rfl))) ?_
      refine q_val (wantsY 13 20 true rfl (by kernel_rfl) rfl (by kernel_rfl)) (d := 27) (v := (.int .i64 (m - 1))) rfl (fun _ H' => (e_int (z := m - 1) (by kernel_rfl) (IntWalk.i64_in _ (by omega)))) ?_
      obtain ⟨g11, c12, e13⟩ := row_shape hr (by omega)
      obtain ⟨x14, h15⟩ := get_at (show (m - 1).toNat < L.length by omega)
      refine q_val (wantsY 13 20 true rfl (by kernel_rfl) rfl (by kernel_rfl)) (d := 28) (v := (.pointer (some ⟨g11, 0 + (m - 1).toNat * 2, none⟩))) rfl (fun _ H' => (e_indexAddrV (E := 120) (by kernel_rfl) (by kernel_rfl) (Nat.le_of_ble_eq_true rfl) rfl e13 rfl (by omega) (by omega))) ?_
      refine q_val (wantsY 13 20 true rfl (by kernel_rfl) rfl (by kernel_rfl)) (d := 29) (v := (.pointer (some ⟨g11, 0 + (m - 1).toNat * 2, none⟩))) rfl (fun _ H' => (by kernel_rfl)) ?_
      refine q_val (wantsY 13 20 true rfl (by kernel_rfl) rfl (by kernel_rfl)) (d := 30) (v := (.int .i64 (x14.p))) rfl (fun _ H' => (e_load1 rfl (by kernel_rfl) (rows_cell (H'.roCk 0 rfl hr (fun _ _ h => h)) e13 encS_len h15 0 rfl (show 0 + (m - 1).toNat * 2 = (m - 1).toNat * 2 + 0 by omega) (by kernel_rfl)))) ?_
      refine q_val (wantsY 13 20 true rfl (by kernel_rfl) rfl (by kernel_rfl)) (d := 31) (v := (.pointer (some ⟨b2, 0, none⟩))) rfl (fun _ H' => (by kernel_rfl)) ?_
      refine q_val (wantsY 13 20 true rfl (by kernel_rfl) rfl (by kernel_rfl)) (d := 32) (v := (.int .i64 (p))) rfl (fun _ H' => (e_load1 rfl (by kernel_rfl) (H'.cell 1 rfl rfl))) ?_
      refine q_val (wantsY 13 20 true rfl (by kernel_rfl) rfl (by kernel_rfl)) (d := 33) (v := (.bool (decide (x14.p = p)))) rfl (fun _ H' => (by kernel_rfl)) ?_
      refine q_val (wants0 rfl) (d := 34) (v := (.bool (decide (x14.p = p)))) rfl (fun _ H' => (by kernel_rfl)) ?_
      refine q_val (wants0 rfl) (d := 35) (v := (.bool (decide (x14.p = p)))) rfl (fun _ H' => (by kernel_rfl)) ?_
      refine (bsplit (decide (x14.p = p))).elim (fun b16 => ?_) (fun b16 => ?_)
      · have g17 := of_decide_eq_true b16
        refine q_know 35 (.bool true) (congrArg Value.bool b16) ?_
        have g18 := of_decide_eq_true b16
        refine q_val (wantsY 28 35 true rfl (by kernel_rfl) rfl (by kernel_rfl)) (d := 36) (v := (.pointer (some ⟨r, 0, none⟩))) rfl (fun _ H' => (by kernel_rfl)) ?_
        refine q_val (wantsY 28 35 true rfl (by kernel_rfl) rfl (by kernel_rfl)) (d := 37) (v := (.pointer (some ⟨r, 0, none⟩))) rfl (fun _ H' => (by kernel_rfl)) ?_
        refine q_val (wantsY 28 35 true rfl (by kernel_rfl) rfl (by kernel_rfl)) (d := 38) (v := (.pointer (some ⟨r, 0, none⟩))) rfl (fun _ H' => (by kernel_rfl)) ?_
        refine q_val (wantsY 28 35 true rfl (by kernel_rfl) rfl (by kernel_rfl)) (d := 39) (v := (.slice ra L.length rc)) rfl (fun _ H' => (e_load1 rfl (by kernel_rfl) (H'.roCell 0 rfl hb (fun h => h) rfl))) ?_
        refine q_val (wantsY 28 35 true rfl (by kernel_rfl) rfl (by kernel_rfl)) (d := 40) (v := (.pointer (some ⟨b2, 1, none⟩))) rfl (fun _ H' => (by kernel_rfl)) ?_
        refine q_val (wantsY 28 35 true rfl (by kernel_rfl) rfl (by kernel_rfl)) (d := 41) (v := (.int .i64 (m))) rfl (fun _ H' => (e_load1 rfl (by kernel_rfl) (H'.cell 1 rfl rfl))) ?_
        refine q_val (wantsY 28 35 true rfl (by kernel_rfl) rfl (by kernel_rfl)) (d := 42) (v := (.int .i64 (m - 1))) rfl (fun _ H' => (e_int (z := m - 1) (by kernel_rfl) (IntWalk.i64_in _ (by omega)))) ?_
        refine q_val (wantsY 28 35 true rfl (by kernel_rfl) rfl (by kernel_rfl)) (d := 43) (v := (.pointer (some ⟨g11, 0 + (m - 1).toNat * 2, none⟩))) rfl (fun _ H' => (e_indexAddrV (E := 120) (by kernel_rfl) (by kernel_rfl) (Nat.le_of_ble_eq_true rfl) rfl e13 rfl (by omega) (by omega))) ?_
        refine q_val (wantsY 28 35 true rfl (by kernel_rfl) rfl (by kernel_rfl)) (d := 44) (v := (.pointer (some ⟨g11, 0 + (m - 1).toNat * 2 + 1, none⟩))) rfl (fun _ H' => (by kernel_rfl)) ?_
        refine q_val (wantsY 28 35 true rfl (by kernel_rfl) rfl (by kernel_rfl)) (d := 45) (v := (strV x14.s)) rfl (fun _ H' => (e_load1 rfl (by kernel_rfl) (rows_cell (H'.roCk 0 rfl hr (fun _ _ h => h)) e13 encS_len h15 1 rfl (show 0 + (m - 1).toNat * 2 + 1 = (m - 1).toNat * 2 + 1 by omega) (by kernel_rfl)))) ?_
        refine q_val (wantsY 28 35 true rfl (by kernel_rfl) rfl (by kernel_rfl)) (d := 46) (v := (.slice ta tx.length tc)) rfl (fun _ H' => (by kernel_rfl)) ?_
        refine q_val (wantsY 28 35 true rfl (by kernel_rfl) rfl (by kernel_rfl)) (d := 47) (v := (strV tx)) rfl (fun _ H' => (e_convBytes (e := 5) (s := tx) (by kernel_rfl) (by kernel_rfl) (by kernel_rfl) rfl (list_bytes (ListAt.now H' 0 rfl ht)))) ?_
        refine q_val (wantsY 28 35 true rfl (by kernel_rfl) rfl (by kernel_rfl)) (d := 48) (v := (.bool (decide (x14.s = tx)))) rfl (fun _ H' => (e_eqStr x14.s tx rfl rfl)) ?_
        refine q_val (wants0 rfl) (d := 49) (v := (.bool (decide (x14.s = tx)))) rfl (fun _ H' => (by kernel_rfl)) ?_
        refine q_val (wants0 rfl) (d := 6) (v := (.bool (decide (x14.s = tx)))) rfl (fun _ H' => (by kernel_rfl)) ?_
        refine q_end ?_
        intro w19 H20
        refine then_normal ?_
        refine w_ret ?_
        refine end1 rfl (res_tmp (v := (.bool (decide (x14.s = tx)))) rfl) ?_
        have hb : rightB L p m tx = (decide (x14.s = tx)) := by
            rw [Bool.eq_iff_iff, right_iff hn, decide_eq_true_eq]
            have hp := of_decide_eq_true b16
            constructor
            · rintro ⟨i, h1, h2⟩
              have h3 := h15
              rw [show (m - 1).toNat = i by omega, h1] at h3
              cases h3; rfl
            · intro h
              exact ⟨(m - 1).toNat, by rw [h15, ← hp, ← h], by omega⟩
        exact ⟨by rw [hb], H20.upd 0 rfl [] (fun _ h => h.elim)⟩
      · have g21 := of_decide_eq_false b16
        refine q_know 35 (.bool false) (congrArg Value.bool b16) ?_
        have g22 := of_decide_eq_false b16
        refine q_pass (wantsN 28 35 true rfl (by kernel_rfl) rfl (by kernel_rfl)) rfl ?_
        refine q_pass (wantsN 28 35 true rfl (by kernel_rfl) rfl (by kernel_rfl)) rfl ?_
        refine q_pass (wantsN 28 35 true rfl (by kernel_rfl) rfl (by kernel_rfl)) rfl ?_
        refine q_pass (wantsN 28 35 true rfl (by kernel_rfl) rfl (by kernel_rfl)) rfl ?_
        refine q_pass (wantsN 28 35 true rfl (by kernel_rfl) rfl (by kernel_rfl)) rfl ?_
        refine q_pass (wantsN 28 35 true rfl (by kernel_rfl) rfl (by kernel_rfl)) rfl ?_
        refine q_pass (wantsN 28 35 true rfl (by kernel_rfl) rfl (by kernel_rfl)) rfl ?_
        refine q_pass (wantsN 28 35 true rfl (by kernel_rfl) rfl (by kernel_rfl)) rfl ?_
        refine q_pass (wantsN 28 35 true rfl (by kernel_rfl) rfl (by kernel_rfl)) rfl ?_
        refine q_pass (wantsN 28 35 true rfl (by kernel_rfl) rfl (by kernel_rfl)) rfl ?_
        refine q_pass (wantsN 28 35 true rfl (by kernel_rfl) rfl (by kernel_rfl)) rfl ?_
        refine q_pass (wantsN 28 35 true rfl (by kernel_rfl) rfl (by kernel_rfl)) rfl ?_
        refine q_pass (wantsN 28 35 true rfl (by kernel_rfl) rfl (by kernel_rfl)) rfl ?_
        refine q_val (wants0 rfl) (d := 49) (v := (.bool false)) rfl (fun _ H' => (by kernel_rfl)) ?_
        refine q_val (wants0 rfl) (d := 6) (v := (.bool false)) rfl (fun _ H' => (by kernel_rfl)) ?_
        refine q_end ?_
        intro w23 H24
        refine then_normal ?_
        refine w_ret ?_
        refine end1 rfl (res_tmp (v := (.bool false)) rfl) ?_
        have hb : rightB L p m tx = false := Bool.eq_false_iff.2 fun h => by
            obtain ⟨i, h1, h2⟩ := (right_iff hn).1 h
            have h3 := h15
            rw [show (m - 1).toNat = i by omega, h1] at h3
            cases h3
            exact absurd rfl (of_decide_eq_false b16)
        exact ⟨by rw [hb], H24.upd 0 rfl [] (fun _ h => h.elim)⟩
    · have g25 := of_decide_eq_false b8
      refine q_know 20 (.bool false) (congrArg Value.bool b8) ?_
      have g26 := of_decide_eq_false b8
      refine q_pass (wantsN 13 20 true rfl (by kernel_rfl) rfl (by kernel_rfl)) rfl ?_
      refine q_pass (wantsN 13 20 true rfl (by kernel_rfl) rfl (by kernel_rfl)) rfl ?_
      refine q_pass (wantsN 13 20 true rfl (by kernel_rfl) rfl (by kernel_rfl)) rfl ?_
      refine q_pass (wantsN 13 20 true rfl (by kernel_rfl) rfl (by kernel_rfl)) rfl ?_
      refine q_pass (wantsN 13 20 true rfl (by kernel_rfl) rfl (by kernel_rfl)) rfl ?_
      refine q_pass (wantsN 13 20 true rfl (by kernel_rfl) rfl (by kernel_rfl)) rfl ?_
      refine q_pass (wantsN 13 20 true rfl (by kernel_rfl) rfl (by kernel_rfl)) rfl ?_
      refine q_pass (wantsN 13 20 true rfl (by kernel_rfl) rfl (by kernel_rfl)) rfl ?_
      refine q_pass (wantsN 13 20 true rfl (by kernel_rfl) rfl (by kernel_rfl)) rfl ?_
      refine q_pass (wantsN 13 20 true rfl (by kernel_rfl) rfl (by kernel_rfl)) rfl ?_
      refine q_pass (wantsN 13 20 true rfl (by kernel_rfl) rfl (by kernel_rfl)) rfl ?_
      refine q_pass (wantsN 13 20 true rfl (by kernel_rfl) rfl (by kernel_rfl)) rfl ?_
      refine q_pass (wantsN 13 20 true rfl (by kernel_rfl) rfl (by kernel_rfl)) rfl ?_
      refine q_val (wants0 rfl) (d := 34) (v := (.bool false)) rfl (fun _ H' => (by kernel_rfl)) ?_
      refine q_val (wants0 rfl) (d := 35) (v := (.bool false)) rfl (fun _ H' => (by kernel_rfl)) ?_
      refine q_pass (wantsN 28 35 true rfl (by kernel_rfl) rfl (by kernel_rfl)) rfl ?_
      refine q_pass (wantsN 28 35 true rfl (by kernel_rfl) rfl (by kernel_rfl)) rfl ?_
      refine q_pass (wantsN 28 35 true rfl (by kernel_rfl) rfl (by kernel_rfl)) rfl ?_
      refine q_pass (wantsN 28 35 true rfl (by kernel_rfl) rfl (by kernel_rfl)) rfl ?_
      refine q_pass (wantsN 28 35 true rfl (by kernel_rfl) rfl (by kernel_rfl)) rfl ?_
      refine q_pass (wantsN 28 35 true rfl (by kernel_rfl) rfl (by kernel_rfl)) rfl ?_
      refine q_pass (wantsN 28 35 true rfl (by kernel_rfl) rfl (by kernel_rfl)) rfl ?_
      refine q_pass (wantsN 28 35 true rfl (by kernel_rfl) rfl (by kernel_rfl)) rfl ?_
      refine q_pass (wantsN 28 35 true rfl (by kernel_rfl) rfl (by kernel_rfl)) rfl ?_
      refine q_pass (wantsN 28 35 true rfl (by kernel_rfl) rfl (by kernel_rfl)) rfl ?_
      refine q_pass (wantsN 28 35 true rfl (by kernel_rfl) rfl (by kernel_rfl)) rfl ?_
      refine q_pass (wantsN 28 35 true rfl (by kernel_rfl) rfl (by kernel_rfl)) rfl ?_
      refine q_pass (wantsN 28 35 true rfl (by kernel_rfl) rfl (by kernel_rfl)) rfl ?_
      refine q_val (wants0 rfl) (d := 49) (v := (.bool false)) rfl (fun _ H' => (by kernel_rfl)) ?_
      refine q_val (wants0 rfl) (d := 6) (v := (.bool false)) rfl (fun _ H' => (by kernel_rfl)) ?_
      refine q_end ?_
      intro w27 H28
      refine then_normal ?_
      refine w_ret ?_
      refine end1 rfl (res_tmp (v := (.bool false)) rfl) ?_
      have hb : rightB L p m tx = false := Bool.eq_false_iff.2 fun h => by
          obtain ⟨i, h1, h2⟩ := (right_iff hn).1 h
          have h3 := (List.getElem?_eq_some_iff.1 h1).1
          omega
      exact ⟨by rw [hb], H28.upd 0 rfl [] (fun _ h => h.elim)⟩
  · have g29 := of_decide_eq_false b5
    refine q_know 10 (.bool false) (congrArg Value.bool b5) ?_
    have g30 := of_decide_eq_false b5
    refine q_pass (wantsN 3 10 true rfl (by kernel_rfl) rfl (by kernel_rfl)) rfl ?_
    refine q_pass (wantsN 3 10 true rfl (by kernel_rfl) rfl (by kernel_rfl)) rfl ?_
    refine q_pass (wantsN 3 10 true rfl (by kernel_rfl) rfl (by kernel_rfl)) rfl ?_
    refine q_pass (wantsN 3 10 true rfl (by kernel_rfl) rfl (by kernel_rfl)) rfl ?_
    refine q_pass (wantsN 3 10 true rfl (by kernel_rfl) rfl (by kernel_rfl)) rfl ?_
    refine q_pass (wantsN 3 10 true rfl (by kernel_rfl) rfl (by kernel_rfl)) rfl ?_
    refine q_pass (wantsN 3 10 true rfl (by kernel_rfl) rfl (by kernel_rfl)) rfl ?_
    refine q_pass (wantsN 3 10 true rfl (by kernel_rfl) rfl (by kernel_rfl)) rfl ?_
    refine q_val (wants0 rfl) (d := 19) (v := (.bool false)) rfl (fun _ H' => (by kernel_rfl)) ?_
    refine q_val (wants0 rfl) (d := 20) (v := (.bool false)) rfl (fun _ H' => (by kernel_rfl)) ?_
    refine q_pass (wantsN 13 20 true rfl (by kernel_rfl) rfl (by kernel_rfl)) rfl ?_
    refine q_pass (wantsN 13 20 true rfl (by kernel_rfl) rfl (by kernel_rfl)) rfl ?_
    refine q_pass (wantsN 13 20 true rfl (by kernel_rfl) rfl (by kernel_rfl)) rfl ?_
    refine q_pass (wantsN 13 20 true rfl (by kernel_rfl) rfl (by kernel_rfl)) rfl ?_
    refine q_pass (wantsN 13 20 true rfl (by kernel_rfl) rfl (by kernel_rfl)) rfl ?_
    refine q_pass (wantsN 13 20 true rfl (by kernel_rfl) rfl (by kernel_rfl)) rfl ?_
    refine q_pass (wantsN 13 20 true rfl (by kernel_rfl) rfl (by kernel_rfl)) rfl ?_
    refine q_pass (wantsN 13 20 true rfl (by kernel_rfl) rfl (by kernel_rfl)) rfl ?_
    refine q_pass (wantsN 13 20 true rfl (by kernel_rfl) rfl (by kernel_rfl)) rfl ?_
    refine q_pass (wantsN 13 20 true rfl (by kernel_rfl) rfl (by kernel_rfl)) rfl ?_
    refine q_pass (wantsN 13 20 true rfl (by kernel_rfl) rfl (by kernel_rfl)) rfl ?_
    refine q_pass (wantsN 13 20 true rfl (by kernel_rfl) rfl (by kernel_rfl)) rfl ?_
    refine q_pass (wantsN 13 20 true rfl (by kernel_rfl) rfl (by kernel_rfl)) rfl ?_
    refine q_val (wants0 rfl) (d := 34) (v := (.bool false)) rfl (fun _ H' => (by kernel_rfl)) ?_
    refine q_val (wants0 rfl) (d := 35) (v := (.bool false)) rfl (fun _ H' => (by kernel_rfl)) ?_
    refine q_pass (wantsN 28 35 true rfl (by kernel_rfl) rfl (by kernel_rfl)) rfl ?_
    refine q_pass (wantsN 28 35 true rfl (by kernel_rfl) rfl (by kernel_rfl)) rfl ?_
    refine q_pass (wantsN 28 35 true rfl (by kernel_rfl) rfl (by kernel_rfl)) rfl ?_
    refine q_pass (wantsN 28 35 true rfl (by kernel_rfl) rfl (by kernel_rfl)) rfl ?_
    refine q_pass (wantsN 28 35 true rfl (by kernel_rfl) rfl (by kernel_rfl)) rfl ?_
    refine q_pass (wantsN 28 35 true rfl (by kernel_rfl) rfl (by kernel_rfl)) rfl ?_
    refine q_pass (wantsN 28 35 true rfl (by kernel_rfl) rfl (by kernel_rfl)) rfl ?_
    refine q_pass (wantsN 28 35 true rfl (by kernel_rfl) rfl (by kernel_rfl)) rfl ?_
    refine q_pass (wantsN 28 35 true rfl (by kernel_rfl) rfl (by kernel_rfl)) rfl ?_
    refine q_pass (wantsN 28 35 true rfl (by kernel_rfl) rfl (by kernel_rfl)) rfl ?_
    refine q_pass (wantsN 28 35 true rfl (by kernel_rfl) rfl (by kernel_rfl)) rfl ?_
    refine q_pass (wantsN 28 35 true rfl (by kernel_rfl) rfl (by kernel_rfl)) rfl ?_
    refine q_pass (wantsN 28 35 true rfl (by kernel_rfl) rfl (by kernel_rfl)) rfl ?_
    refine q_val (wants0 rfl) (d := 49) (v := (.bool false)) rfl (fun _ H' => (by kernel_rfl)) ?_
    refine q_val (wants0 rfl) (d := 6) (v := (.bool false)) rfl (fun _ H' => (by kernel_rfl)) ?_
    refine q_end ?_
    intro w31 H32
    refine then_normal ?_
    refine w_ret ?_
    refine end1 rfl (res_tmp (v := (.bool false)) rfl) ?_
    have hb : rightB L p m tx = false := Bool.eq_false_iff.2 fun h => by
        obtain ⟨i, h1, h2⟩ := (right_iff hn).1 h
        have h3 := (List.getElem?_eq_some_iff.1 h1).1
        omega
    exact ⟨by rw [hb], H32.upd 0 rfl [] (fun _ h => h.elim)⟩

set_option maxRecDepth 100000 in
set_option maxHeartbeats 400000 in
theorem wN_any (w : World) (f cn : Int) (hf : -1099511627776 ≤ f ∧ f ≤ 1099511627776) :
    Calls Try.prog 64 #[(.agg ⟨([(.int .i64 (f)), (.int .i64 (cn))] : List Value)⟩)] w fun e w' => e = .returned (.int .i64 (3 * f + 1)) ∧ Upd [] w w' := by
  have H := Sat.start0 w
  refine calls_fr Try.func64 rfl 7 rfl (Nat.le_of_ble_eq_true rfl) ?_
  refine w_seq ?_
  refine w_lit ?_
  refine wl_do (wants0 rfl) (fun K1 hK1 => ?_)
  refine d_box (vs := ([(.int .i64 (f)), (.int .i64 (cn))] : List Value)) rfl H rfl rfl ?_
  intro b2 w3 (H4 : Sat w [restC w (fun _ => False), cellC b2 36 ([(.int .i64 (f)), (.int .i64 (cn))] : List Value)] w3)
  refine hK1 _ _ ?_
  clear hK1 K1
  refine wl_pure (wants0 rfl) (d := 2) (v := (.int .i64 (0))) rfl (by kernel_rfl) ?_
  refine w_nil ?_
  refine then_normal ?_
  refine w_seq ?_
  refine w_lit ?_
  refine wl_pure (wants0 rfl) (d := 3) (v := (.pointer (some ⟨b2, 0, none⟩))) rfl (by kernel_rfl) ?_
  refine wl_pure (wants0 rfl) (d := 4) (v := (.int .i64 (f))) rfl (e_load1 rfl (by kernel_rfl) (H4.cell 1 rfl rfl)) ?_
  refine wl_pure (wants0 rfl) (d := 5) (v := (.int .i64 (3 * f))) rfl (e_int (z := 3 * f) (by kernel_rfl) (IntWalk.i64_in _ (by omega))) ?_
  refine wl_pure (wants0 rfl) (d := 6) (v := (.int .i64 ((3 * f) + 1))) rfl (e_int (z := (3 * f) + 1) (by kernel_rfl) (IntWalk.i64_in _ (by omega))) ?_
  refine wl_pure (wants0 rfl) (d := 2) (v := (.int .i64 ((3 * f) + 1))) rfl (by kernel_rfl) ?_
  refine w_nil ?_
  refine then_normal ?_
  refine w_ret ?_
  refine end1 rfl (res_tmp (v := (.int .i64 ((3 * f) + 1))) rfl) ?_
  exact ⟨rfl, H4.upd 0 rfl [] (fun _ h => h.elim)⟩

set_option maxRecDepth 100000 in
set_option maxHeartbeats 400000 in
theorem wQ_any (w : World) (f cn : Int) (hf : -1099511627776 ≤ f ∧ f ≤ 1099511627776) :
    Calls Try.prog 39 #[(.agg ⟨([(.int .i64 (f)), (.int .i64 (cn))] : List Value)⟩)] w fun e w' => e = .returned (.int .i64 (2 * f + 1)) ∧ Upd [] w w' := by
  have H := Sat.start0 w
  refine calls_fr Try.func39 rfl 7 rfl (Nat.le_of_ble_eq_true rfl) ?_
  refine w_seq ?_
  refine w_lit ?_
  refine wl_do (wants0 rfl) (fun K1 hK1 => ?_)
  refine d_box (vs := ([(.int .i64 (f)), (.int .i64 (cn))] : List Value)) rfl H rfl rfl ?_
  intro b2 w3 (H4 : Sat w [restC w (fun _ => False), cellC b2 36 ([(.int .i64 (f)), (.int .i64 (cn))] : List Value)] w3)
  refine hK1 _ _ ?_
  clear hK1 K1
  refine wl_pure (wants0 rfl) (d := 2) (v := (.int .i64 (0))) rfl (by kernel_rfl) ?_
  refine w_nil ?_
  refine then_normal ?_
  refine w_seq ?_
  refine w_lit ?_
  refine wl_pure (wants0 rfl) (d := 3) (v := (.pointer (some ⟨b2, 0, none⟩))) rfl (by kernel_rfl) ?_
  refine wl_pure (wants0 rfl) (d := 4) (v := (.int .i64 (f))) rfl (e_load1 rfl (by kernel_rfl) (H4.cell 1 rfl rfl)) ?_
  refine wl_pure (wants0 rfl) (d := 5) (v := (.int .i64 (2 * f))) rfl (e_int (z := 2 * f) (by kernel_rfl) (IntWalk.i64_in _ (by omega))) ?_
  refine wl_pure (wants0 rfl) (d := 6) (v := (.int .i64 ((2 * f) + 1))) rfl (e_int (z := (2 * f) + 1) (by kernel_rfl) (IntWalk.i64_in _ (by omega))) ?_
  refine wl_pure (wants0 rfl) (d := 2) (v := (.int .i64 ((2 * f) + 1))) rfl (by kernel_rfl) ?_
  refine w_nil ?_
  refine then_normal ?_
  refine w_ret ?_
  refine end1 rfl (res_tmp (v := (.int .i64 ((2 * f) + 1))) rfl) ?_
  exact ⟨rfl, H4.upd 0 rfl [] (fun _ h => h.elim)⟩

set_option maxRecDepth 100000 in
set_option maxHeartbeats 400000 in
theorem rN_any (w : World) (f cn : Int) (hf : -1099511627776 ≤ f ∧ f ≤ 1099511627776) :
    Calls Try.prog 30 #[(.agg ⟨([(.int .i64 (f)), (.int .i64 (cn))] : List Value)⟩)] w fun e w' => e = .returned (.int .i64 (3 * f + 1)) ∧ Upd [] w w' := by
  have H := Sat.start0 w
  refine calls_fr Try.func30 rfl 7 rfl (Nat.le_of_ble_eq_true rfl) ?_
  refine w_seq ?_
  refine w_lit ?_
  refine wl_do (wants0 rfl) (fun K1 hK1 => ?_)
  refine d_box (vs := ([(.int .i64 (f)), (.int .i64 (cn))] : List Value)) rfl H rfl rfl ?_
  intro b2 w3 (H4 : Sat w [restC w (fun _ => False), cellC b2 36 ([(.int .i64 (f)), (.int .i64 (cn))] : List Value)] w3)
  refine hK1 _ _ ?_
  clear hK1 K1
  refine wl_pure (wants0 rfl) (d := 2) (v := (.int .i64 (0))) rfl (by kernel_rfl) ?_
  refine w_nil ?_
  refine then_normal ?_
  refine w_seq ?_
  refine w_lit ?_
  refine wl_pure (wants0 rfl) (d := 3) (v := (.pointer (some ⟨b2, 0, none⟩))) rfl (by kernel_rfl) ?_
  refine wl_pure (wants0 rfl) (d := 4) (v := (.int .i64 (f))) rfl (e_load1 rfl (by kernel_rfl) (H4.cell 1 rfl rfl)) ?_
  refine wl_pure (wants0 rfl) (d := 5) (v := (.int .i64 (3 * f))) rfl (e_int (z := 3 * f) (by kernel_rfl) (IntWalk.i64_in _ (by omega))) ?_
  refine wl_pure (wants0 rfl) (d := 6) (v := (.int .i64 ((3 * f) + 1))) rfl (e_int (z := (3 * f) + 1) (by kernel_rfl) (IntWalk.i64_in _ (by omega))) ?_
  refine wl_pure (wants0 rfl) (d := 2) (v := (.int .i64 ((3 * f) + 1))) rfl (by kernel_rfl) ?_
  refine w_nil ?_
  refine then_normal ?_
  refine w_ret ?_
  refine end1 rfl (res_tmp (v := (.int .i64 ((3 * f) + 1))) rfl) ?_
  exact ⟨rfl, H4.upd 0 rfl [] (fun _ h => h.elim)⟩

set_option maxRecDepth 100000 in
set_option maxHeartbeats 400000 in
theorem rQ_any (w : World) (f cn : Int) (hf : -1099511627776 ≤ f ∧ f ≤ 1099511627776) :
    Calls Try.prog 41 #[(.agg ⟨([(.int .i64 (f)), (.int .i64 (cn))] : List Value)⟩)] w fun e w' => e = .returned (.int .i64 (2 * f + 1)) ∧ Upd [] w w' := by
  have H := Sat.start0 w
  refine calls_fr Try.func41 rfl 7 rfl (Nat.le_of_ble_eq_true rfl) ?_
  refine w_seq ?_
  refine w_lit ?_
  refine wl_do (wants0 rfl) (fun K1 hK1 => ?_)
  refine d_box (vs := ([(.int .i64 (f)), (.int .i64 (cn))] : List Value)) rfl H rfl rfl ?_
  intro b2 w3 (H4 : Sat w [restC w (fun _ => False), cellC b2 36 ([(.int .i64 (f)), (.int .i64 (cn))] : List Value)] w3)
  refine hK1 _ _ ?_
  clear hK1 K1
  refine wl_pure (wants0 rfl) (d := 2) (v := (.int .i64 (0))) rfl (by kernel_rfl) ?_
  refine w_nil ?_
  refine then_normal ?_
  refine w_seq ?_
  refine w_lit ?_
  refine wl_pure (wants0 rfl) (d := 3) (v := (.pointer (some ⟨b2, 0, none⟩))) rfl (by kernel_rfl) ?_
  refine wl_pure (wants0 rfl) (d := 4) (v := (.int .i64 (f))) rfl (e_load1 rfl (by kernel_rfl) (H4.cell 1 rfl rfl)) ?_
  refine wl_pure (wants0 rfl) (d := 5) (v := (.int .i64 (2 * f))) rfl (e_int (z := 2 * f) (by kernel_rfl) (IntWalk.i64_in _ (by omega))) ?_
  refine wl_pure (wants0 rfl) (d := 6) (v := (.int .i64 ((2 * f) + 1))) rfl (e_int (z := (2 * f) + 1) (by kernel_rfl) (IntWalk.i64_in _ (by omega))) ?_
  refine wl_pure (wants0 rfl) (d := 2) (v := (.int .i64 ((2 * f) + 1))) rfl (by kernel_rfl) ?_
  refine w_nil ?_
  refine then_normal ?_
  refine w_ret ?_
  refine end1 rfl (res_tmp (v := (.int .i64 ((2 * f) + 1))) rfl) ?_
  exact ⟨rfl, H4.upd 0 rfl [] (fun _ h => h.elim)⟩

set_option maxRecDepth 100000 in
set_option maxHeartbeats 400000 in
theorem wIn_any (w : World) (f cn r : Int) (hf : -1099511627776 ≤ f ∧ f ≤ 1099511627776) :
    Calls Try.prog 42 #[(.agg ⟨([(.int .i64 (f)), (.int .i64 (cn))] : List Value)⟩), (.int .i64 (r))] w fun e w' => e = .returned (.bool (inB f r)) ∧ Upd [] w w' := by
  have H := Sat.start0 w
  refine calls_fr Try.func42 rfl 13 rfl (Nat.le_of_ble_eq_true rfl) ?_
  refine w_seq ?_
  refine w_lit ?_
  refine wl_do (wants0 rfl) (fun K1 hK1 => ?_)
  refine d_box (vs := ([(.int .i64 (f)), (.int .i64 (cn))] : List Value)) rfl H rfl rfl ?_
  intro b2 w3 (H4 : Sat w [restC w (fun _ => False), cellC b2 36 ([(.int .i64 (f)), (.int .i64 (cn))] : List Value)] w3)
  refine hK1 _ _ ?_
  clear hK1 K1
  refine wl_pure (wants0 rfl) (d := 4) (v := (.bool false)) rfl (by kernel_rfl) ?_
  refine w_nil ?_
  refine then_normal ?_
  refine wp_meetR [4, 5, 6, 7, 8, 9, 10, 11, 12] (fun G_ W_ => G_ 4 = (.bool (inB f r)) ∧ Sat w [restC w (fun _ => False), cellC b2 36 ([(.int .i64 (f)), (.int .i64 (cn))] : List Value)] W_) ?_ ?_
  · refine w_lit ?_
    refine wl_pure (wants0 rfl) (d := 5) (v := (.int .i64 (r))) rfl (by kernel_rfl) ?_
    refine wl_pure (wants0 rfl) (d := 6) (v := (.bool (decide (r ≥ 0)))) rfl (by kernel_rfl) ?_
    refine wl_pure (wants0 rfl) (d := 7) (v := (.bool (decide (r ≥ 0)))) rfl (by kernel_rfl) ?_
    refine (bsplit (decide (r ≥ 0))).elim (fun b6 => ?_) (fun b6 => ?_)
    · have g7 := of_decide_eq_true b6
      refine wl_know 7 (.bool true) (congrArg Value.bool b6) ?_
      refine wl_pure (wantsY 2 7 true rfl (by kernel_rfl) rfl (by kernel_rfl)) (d := 8) (v := (.int .i64 (r))) rfl (by kernel_rfl) ?_
      refine wl_pure (wantsY 2 7 true rfl (by kernel_rfl) rfl (by kernel_rfl)) (d := 9) (v := (.agg ⟨([(.int .i64 (f)), (.int .i64 (cn))] : List Value)⟩)) rfl (e_loadN (vs := ([(.int .i64 (f)), (.int .i64 (cn))] : List Value)) rfl (by kernel_rfl) (by kernel_rfl) (by exact Nat.le_of_ble_eq_true (by kernel_rfl)) (H4.at 1 rfl) (by kernel_rfl)) ?_
      refine wl_do (wantsY 2 7 true rfl (by kernel_rfl) rfl (by kernel_rfl)) (fun K8 hK8 => ?_)
      refine d_call (d := 10) rfl (by kernel_rfl) (wN_any w3 f cn (by omega)) ?_
      rintro _ w9 ⟨rfl, u11⟩
      have H10 := H4.keepU u11
      refine ⟨_, rfl, ?_⟩
      refine hK8 _ _ ?_
      clear hK8 K8
      refine wl_pure (wantsY 2 7 true rfl (by kernel_rfl) rfl (by kernel_rfl)) (d := 11) (v := (.bool (decide (r < (3 * f + 1))))) rfl (by kernel_rfl) ?_
      refine wl_pure (wants0 rfl) (d := 12) (v := (.bool (decide (r < (3 * f + 1))))) rfl (by kernel_rfl) ?_
      refine wl_pure (wants0 rfl) (d := 4) (v := (.bool (decide (r < (3 * f + 1))))) rfl (by kernel_rfl) ?_
      refine w_nil ?_
      refine meetR_at ?_ ⟨(congrArg Value.bool (show (decide (r < (3 * f + 1))) = (inB f r) by simp [inB, b6])), H10⟩
      exact (same_upd rfl (same_upd rfl (same_upd rfl (same_upd rfl (same_upd rfl (same_upd rfl (same_upd rfl (same_upd rfl (same_upd rfl (same_upd rfl (same_refl)))))))))))
    · have g12 := of_decide_eq_false b6
      refine wl_know 7 (.bool false) (congrArg Value.bool b6) ?_
      refine wl_pass (wantsN 2 7 true rfl (by kernel_rfl) rfl (by kernel_rfl)) rfl ?_
      refine wl_pass (wantsN 2 7 true rfl (by kernel_rfl) rfl (by kernel_rfl)) rfl ?_
      refine wl_pass (wantsN 2 7 true rfl (by kernel_rfl) rfl (by kernel_rfl)) rfl ?_
      refine wl_pass (wantsN 2 7 true rfl (by kernel_rfl) rfl (by kernel_rfl)) rfl ?_
      refine wl_pure (wants0 rfl) (d := 12) (v := (.bool false)) rfl (by kernel_rfl) ?_
      refine wl_pure (wants0 rfl) (d := 4) (v := (.bool false)) rfl (by kernel_rfl) ?_
      refine w_nil ?_
      refine meetR_at ?_ ⟨(congrArg Value.bool (show false = (inB f r) by simp [inB, b6])), H4⟩
      exact (same_upd rfl (same_upd rfl (same_upd rfl (same_upd rfl (same_upd rfl (same_upd rfl (same_upd rfl (same_upd rfl (same_upd rfl (same_upd rfl (same_refl)))))))))))
  · rintro f13 w14 ⟨v16, H15⟩
    refine wp_know 4 _ v16 ?_
    refine w_ret ?_
    refine end1 rfl (res_tmp (v := (.bool (inB f r))) rfl) ?_
    exact ⟨rfl, H15.upd 0 rfl [] (fun _ h => h.elim)⟩

set_option maxRecDepth 100000 in
set_option maxHeartbeats 1000000 in
theorem wValid_any (w : World) (f cn : Int) (x : CommitD) :
    Calls Try.prog 60 #[(.agg ⟨([(.int .i64 (f)), (.int .i64 (cn))] : List Value)⟩), (.agg ⟨(([(.int .i64 (x.cl)), (.int .i64 (x.seq))] : List Value) ++ hc x.h ++ ([(.int .i64 (x.len)), (.int .i64 (x.sb)), (.int .i64 (x.sm))] : List Value))⟩)] w fun e w' => e = .returned (.bool (validC cn x)) ∧ Upd [] w w' := by
  have H := Sat.start0 w
  refine calls_fr Try.func60 rfl 38 rfl (Nat.le_of_ble_eq_true rfl) ?_
  refine w_seq ?_
  refine w_lit ?_
  refine wl_do (wants0 rfl) (fun K1 hK1 => ?_)
  refine d_box (vs := ([(.int .i64 (f)), (.int .i64 (cn))] : List Value)) rfl H rfl rfl ?_
  intro b2 w3 (H4 : Sat w [restC w (fun _ => False), cellC b2 36 ([(.int .i64 (f)), (.int .i64 (cn))] : List Value)] w3)
  refine hK1 _ _ ?_
  clear hK1 K1
  refine wl_do (wants0 rfl) (fun K5 hK5 => ?_)
  refine d_box (vs := (([(.int .i64 (x.cl)), (.int .i64 (x.seq))] : List Value) ++ hc x.h ++ ([(.int .i64 (x.len)), (.int .i64 (x.sb)), (.int .i64 (x.sm))] : List Value))) rfl H4 rfl rfl ?_
  intro b6 w7 (H8 : Sat w [restC w (fun _ => False), cellC b2 36 ([(.int .i64 (f)), (.int .i64 (cn))] : List Value), cellC b6 44 (([(.int .i64 (x.cl)), (.int .i64 (x.seq))] : List Value) ++ hc x.h ++ ([(.int .i64 (x.len)), (.int .i64 (x.sb)), (.int .i64 (x.sm))] : List Value))] w7)
  refine hK5 _ _ ?_
  clear hK5 K5
  refine wl_pure (wants0 rfl) (d := 4) (v := (.bool false)) rfl (by kernel_rfl) ?_
  refine w_nil ?_
  refine then_normal ?_
  refine w_seq ?_
  refine w_lit ?_
  refine wl_pure (wants0 rfl) (d := 6) (v := (.pointer (some ⟨b6, 0, none⟩))) rfl (by kernel_rfl) ?_
  refine wl_pure (wants0 rfl) (d := 7) (v := (.agg ⟨([(.int .i64 (x.cl)), (.int .i64 (x.seq))] : List Value)⟩)) rfl (e_loadN (vs := ([(.int .i64 (x.cl)), (.int .i64 (x.seq))] : List Value)) rfl (by kernel_rfl) (by kernel_rfl) (by exact Nat.le_of_ble_eq_true (by kernel_rfl)) (H8.at 2 rfl) (by kernel_rfl)) ?_
  refine wl_do (wants0 rfl) (fun K9 hK9 => ?_)
  refine d_alloc (zs := ([(.int .i64 (0)), (.int .i64 (0))] : List Value)) (z := (.agg ⟨([(.int .i64 (0)), (.int .i64 (0))] : List Value)⟩)) rfl H8 (by kernel_rfl) (by kernel_rfl) ?_
  intro b10 w11 (H12 : Sat w [restC w (fun _ => False), cellC b2 36 ([(.int .i64 (f)), (.int .i64 (cn))] : List Value), cellC b6 44 (([(.int .i64 (x.cl)), (.int .i64 (x.seq))] : List Value) ++ hc x.h ++ ([(.int .i64 (x.len)), (.int .i64 (x.sb)), (.int .i64 (x.sm))] : List Value)), cellC b10 38 ([(.int .i64 (0)), (.int .i64 (0))] : List Value)] w11)
  refine hK9 _ _ ?_
  clear hK9 K9
  refine wl_do (wants0 rfl) (fun K13 hK13 => ?_)
  refine d_storeX (vs := ([(.int .i64 (x.cl)), (.int .i64 (x.seq))] : List Value)) (cs' := ([(.int .i64 (x.cl)), (.int .i64 (x.seq))] : List Value)) rfl H12 3 rfl rfl rfl rfl (by kernel_rfl) (Nat.le_of_ble_eq_true (by kernel_rfl)) (Nat.le_of_ble_eq_true (by kernel_rfl)) (by kernel_rfl) (by kernel_rfl) ?_
  intro w14 (H15 : Sat w [restC w (fun _ => False), cellC b2 36 ([(.int .i64 (f)), (.int .i64 (cn))] : List Value), cellC b6 44 (([(.int .i64 (x.cl)), (.int .i64 (x.seq))] : List Value) ++ hc x.h ++ ([(.int .i64 (x.len)), (.int .i64 (x.sb)), (.int .i64 (x.sm))] : List Value)), cellC b10 38 ([(.int .i64 (x.cl)), (.int .i64 (x.seq))] : List Value)] w14)
  refine hK13 _ _ ?_
  clear hK13 K13
  refine w_nil ?_
  refine then_normal ?_
  refine wp_meetR [4, 8, 9, 10, 11, 12, 13, 14, 15, 16, 17, 18, 19, 20, 21, 22, 23, 24, 25, 26, 27, 28, 29, 30, 31, 32, 33, 34, 35, 36, 37] (fun G_ W_ => G_ 4 = (.bool (validC cn x)) ∧ Sat w [restC w (fun _ => False), cellC b2 36 ([(.int .i64 (f)), (.int .i64 (cn))] : List Value), cellC b6 44 (([(.int .i64 (x.cl)), (.int .i64 (x.seq))] : List Value) ++ hc x.h ++ ([(.int .i64 (x.len)), (.int .i64 (x.sb)), (.int .i64 (x.sm))] : List Value)), cellC b10 38 ([(.int .i64 (x.cl)), (.int .i64 (x.seq))] : List Value)] W_) ?_ ?_
  · refine w_lit ?_
    refine wl_pure (wants0 rfl) (d := 8) (v := (.pointer (some ⟨b10, 0, none⟩))) rfl (by kernel_rfl) ?_
    refine wl_pure (wants0 rfl) (d := 9) (v := (.int .i64 (x.cl))) rfl (e_load1 rfl (by kernel_rfl) (H15.cell 3 rfl rfl)) ?_
    refine wl_pure (wants0 rfl) (d := 10) (v := (.bool (decide (x.cl ≥ 0)))) rfl (by kernel_rfl) ?_
    refine wl_pure (wants0 rfl) (d := 11) (v := (.bool (decide (x.cl ≥ 0)))) rfl (by kernel_rfl) ?_
    refine (bsplit (decide (x.cl ≥ 0))).elim (fun b18 => ?_) (fun b18 => ?_)
    · have g19 := of_decide_eq_true b18
      refine wl_know 11 (.bool true) (congrArg Value.bool b18) ?_
      refine wl_pure (wantsY 3 11 true rfl (by kernel_rfl) rfl (by kernel_rfl)) (d := 12) (v := (.pointer (some ⟨b10, 0, none⟩))) rfl (by kernel_rfl) ?_
      refine wl_pure (wantsY 3 11 true rfl (by kernel_rfl) rfl (by kernel_rfl)) (d := 13) (v := (.int .i64 (x.cl))) rfl (e_load1 rfl (by kernel_rfl) (H15.cell 3 rfl rfl)) ?_
      refine wl_pure (wantsY 3 11 true rfl (by kernel_rfl) rfl (by kernel_rfl)) (d := 14) (v := (.pointer (some ⟨b2, 1, none⟩))) rfl (by kernel_rfl) ?_
      refine wl_pure (wantsY 3 11 true rfl (by kernel_rfl) rfl (by kernel_rfl)) (d := 15) (v := (.int .i64 (cn))) rfl (e_load1 rfl (by kernel_rfl) (H15.cell 1 rfl rfl)) ?_
      refine wl_pure (wantsY 3 11 true rfl (by kernel_rfl) rfl (by kernel_rfl)) (d := 16) (v := (.bool (decide (x.cl < cn)))) rfl (by kernel_rfl) ?_
      refine wl_pure (wants0 rfl) (d := 17) (v := (.bool (decide (x.cl < cn)))) rfl (by kernel_rfl) ?_
      refine wl_pure (wants0 rfl) (d := 18) (v := (.bool (decide (x.cl < cn)))) rfl (by kernel_rfl) ?_
      refine (bsplit (decide (x.cl < cn))).elim (fun b20 => ?_) (fun b20 => ?_)
      · have g21 := of_decide_eq_true b20
        refine wl_know 18 (.bool true) (congrArg Value.bool b20) ?_
        refine wl_pure (wantsY 10 18 true rfl (by kernel_rfl) rfl (by kernel_rfl)) (d := 19) (v := (.pointer (some ⟨b10, 1, none⟩))) rfl (by kernel_rfl) ?_
        refine wl_pure (wantsY 10 18 true rfl (by kernel_rfl) rfl (by kernel_rfl)) (d := 20) (v := (.int .i64 (x.seq))) rfl (e_load1 rfl (by kernel_rfl) (H15.cell 3 rfl rfl)) ?_
        refine wl_pure (wantsY 10 18 true rfl (by kernel_rfl) rfl (by kernel_rfl)) (d := 21) (v := (.bool (decide (x.seq ≥ 1)))) rfl (by kernel_rfl) ?_
        refine wl_pure (wants0 rfl) (d := 22) (v := (.bool (decide (x.seq ≥ 1)))) rfl (by kernel_rfl) ?_
        refine wl_pure (wants0 rfl) (d := 23) (v := (.bool (decide (x.seq ≥ 1)))) rfl (by kernel_rfl) ?_
        refine (bsplit (decide (x.seq ≥ 1))).elim (fun b22 => ?_) (fun b22 => ?_)
        · have g23 := of_decide_eq_true b22
          refine wl_know 23 (.bool true) (congrArg Value.bool b22) ?_
          refine wl_pure (wantsY 15 23 true rfl (by kernel_rfl) rfl (by kernel_rfl)) (d := 24) (v := (.pointer (some ⟨b10, 1, none⟩))) rfl (by kernel_rfl) ?_
          refine wl_pure (wantsY 15 23 true rfl (by kernel_rfl) rfl (by kernel_rfl)) (d := 25) (v := (.int .i64 (x.seq))) rfl (e_load1 rfl (by kernel_rfl) (H15.cell 3 rfl rfl)) ?_
          refine wl_pure (wantsY 15 23 true rfl (by kernel_rfl) rfl (by kernel_rfl)) (d := 26) (v := (.bool (decide (x.seq ≤ 1048576)))) rfl (by kernel_rfl) ?_
          refine wl_pure (wants0 rfl) (d := 27) (v := (.bool (decide (x.seq ≤ 1048576)))) rfl (by kernel_rfl) ?_
          refine wl_pure (wants0 rfl) (d := 28) (v := (.bool (decide (x.seq ≤ 1048576)))) rfl (by kernel_rfl) ?_
          refine (bsplit (decide (x.seq ≤ 1048576))).elim (fun b24 => ?_) (fun b24 => ?_)
          · have g25 := of_decide_eq_true b24
            refine wl_know 28 (.bool true) (congrArg Value.bool b24) ?_
            refine wl_pure (wantsY 20 28 true rfl (by kernel_rfl) rfl (by kernel_rfl)) (d := 29) (v := (.pointer (some ⟨b6, 34, none⟩))) rfl (by kernel_rfl) ?_
            refine wl_pure (wantsY 20 28 true rfl (by kernel_rfl) rfl (by kernel_rfl)) (d := 30) (v := (.int .i64 (x.len))) rfl (e_load1 rfl (by kernel_rfl) (H15.cell 2 rfl (by kernel_rfl))) ?_
            refine wl_pure (wantsY 20 28 true rfl (by kernel_rfl) rfl (by kernel_rfl)) (d := 31) (v := (.bool (decide (x.len ≥ 0)))) rfl (by kernel_rfl) ?_
            refine wl_pure (wants0 rfl) (d := 32) (v := (.bool (decide (x.len ≥ 0)))) rfl (by kernel_rfl) ?_
            refine wl_pure (wants0 rfl) (d := 33) (v := (.bool (decide (x.len ≥ 0)))) rfl (by kernel_rfl) ?_
            refine (bsplit (decide (x.len ≥ 0))).elim (fun b26 => ?_) (fun b26 => ?_)
            · have g27 := of_decide_eq_true b26
              refine wl_know 33 (.bool true) (congrArg Value.bool b26) ?_
              refine wl_pure (wantsY 25 33 true rfl (by kernel_rfl) rfl (by kernel_rfl)) (d := 34) (v := (.pointer (some ⟨b6, 34, none⟩))) rfl (by kernel_rfl) ?_
              refine wl_pure (wantsY 25 33 true rfl (by kernel_rfl) rfl (by kernel_rfl)) (d := 35) (v := (.int .i64 (x.len))) rfl (e_load1 rfl (by kernel_rfl) (H15.cell 2 rfl (by kernel_rfl))) ?_
              refine wl_pure (wantsY 25 33 true rfl (by kernel_rfl) rfl (by kernel_rfl)) (d := 36) (v := (.bool (decide (x.len ≤ 256)))) rfl (by kernel_rfl) ?_
              refine wl_pure (wants0 rfl) (d := 37) (v := (.bool (decide (x.len ≤ 256)))) rfl (by kernel_rfl) ?_
              refine wl_pure (wants0 rfl) (d := 4) (v := (.bool (decide (x.len ≤ 256)))) rfl (by kernel_rfl) ?_
              refine w_nil ?_
              refine meetR_at ?_ ⟨(congrArg Value.bool (show (decide (x.len ≤ 256)) = (validC cn x) by simp [validC, b18, b20, b22, b24, b26])), H15⟩
              exact (same_upd rfl (same_upd rfl (same_upd rfl (same_upd rfl (same_upd rfl (same_upd rfl (same_upd rfl (same_upd rfl (same_upd rfl (same_upd rfl (same_upd rfl (same_upd rfl (same_upd rfl (same_upd rfl (same_upd rfl (same_upd rfl (same_upd rfl (same_upd rfl (same_upd rfl (same_upd rfl (same_upd rfl (same_upd rfl (same_upd rfl (same_upd rfl (same_upd rfl (same_upd rfl (same_upd rfl (same_upd rfl (same_upd rfl (same_upd rfl (same_upd rfl (same_upd rfl (same_upd rfl (same_upd rfl (same_upd rfl (same_upd rfl (same_refl)))))))))))))))))))))))))))))))))))))
            · have g28 := of_decide_eq_false b26
              refine wl_know 33 (.bool false) (congrArg Value.bool b26) ?_
              refine wl_pass (wantsN 25 33 true rfl (by kernel_rfl) rfl (by kernel_rfl)) rfl ?_
              refine wl_pass (wantsN 25 33 true rfl (by kernel_rfl) rfl (by kernel_rfl)) rfl ?_
              refine wl_pass (wantsN 25 33 true rfl (by kernel_rfl) rfl (by kernel_rfl)) rfl ?_
              refine wl_pure (wants0 rfl) (d := 37) (v := (.bool false)) rfl (by kernel_rfl) ?_
              refine wl_pure (wants0 rfl) (d := 4) (v := (.bool false)) rfl (by kernel_rfl) ?_
              refine w_nil ?_
              refine meetR_at ?_ ⟨(congrArg Value.bool (show false = (validC cn x) by simp [validC, b18, b20, b22, b24, b26])), H15⟩
              exact (same_upd rfl (same_upd rfl (same_upd rfl (same_upd rfl (same_upd rfl (same_upd rfl (same_upd rfl (same_upd rfl (same_upd rfl (same_upd rfl (same_upd rfl (same_upd rfl (same_upd rfl (same_upd rfl (same_upd rfl (same_upd rfl (same_upd rfl (same_upd rfl (same_upd rfl (same_upd rfl (same_upd rfl (same_upd rfl (same_upd rfl (same_upd rfl (same_upd rfl (same_upd rfl (same_upd rfl (same_upd rfl (same_upd rfl (same_upd rfl (same_upd rfl (same_upd rfl (same_upd rfl (same_upd rfl (same_upd rfl (same_upd rfl (same_refl)))))))))))))))))))))))))))))))))))))
          · have g29 := of_decide_eq_false b24
            refine wl_know 28 (.bool false) (congrArg Value.bool b24) ?_
            refine wl_pass (wantsN 20 28 true rfl (by kernel_rfl) rfl (by kernel_rfl)) rfl ?_
            refine wl_pass (wantsN 20 28 true rfl (by kernel_rfl) rfl (by kernel_rfl)) rfl ?_
            refine wl_pass (wantsN 20 28 true rfl (by kernel_rfl) rfl (by kernel_rfl)) rfl ?_
            refine wl_pure (wants0 rfl) (d := 32) (v := (.bool false)) rfl (by kernel_rfl) ?_
            refine wl_pure (wants0 rfl) (d := 33) (v := (.bool false)) rfl (by kernel_rfl) ?_
            refine wl_pass (wantsN 25 33 true rfl (by kernel_rfl) rfl (by kernel_rfl)) rfl ?_
            refine wl_pass (wantsN 25 33 true rfl (by kernel_rfl) rfl (by kernel_rfl)) rfl ?_
            refine wl_pass (wantsN 25 33 true rfl (by kernel_rfl) rfl (by kernel_rfl)) rfl ?_
            refine wl_pure (wants0 rfl) (d := 37) (v := (.bool false)) rfl (by kernel_rfl) ?_
            refine wl_pure (wants0 rfl) (d := 4) (v := (.bool false)) rfl (by kernel_rfl) ?_
            refine w_nil ?_
            refine meetR_at ?_ ⟨(congrArg Value.bool (show false = (validC cn x) by simp [validC, b18, b20, b22, b24])), H15⟩
            exact (same_upd rfl (same_upd rfl (same_upd rfl (same_upd rfl (same_upd rfl (same_upd rfl (same_upd rfl (same_upd rfl (same_upd rfl (same_upd rfl (same_upd rfl (same_upd rfl (same_upd rfl (same_upd rfl (same_upd rfl (same_upd rfl (same_upd rfl (same_upd rfl (same_upd rfl (same_upd rfl (same_upd rfl (same_upd rfl (same_upd rfl (same_upd rfl (same_upd rfl (same_upd rfl (same_upd rfl (same_upd rfl (same_upd rfl (same_upd rfl (same_upd rfl (same_upd rfl (same_upd rfl (same_upd rfl (same_upd rfl (same_refl))))))))))))))))))))))))))))))))))))
        · have g30 := of_decide_eq_false b22
          refine wl_know 23 (.bool false) (congrArg Value.bool b22) ?_
          refine wl_pass (wantsN 15 23 true rfl (by kernel_rfl) rfl (by kernel_rfl)) rfl ?_
          refine wl_pass (wantsN 15 23 true rfl (by kernel_rfl) rfl (by kernel_rfl)) rfl ?_
          refine wl_pass (wantsN 15 23 true rfl (by kernel_rfl) rfl (by kernel_rfl)) rfl ?_
          refine wl_pure (wants0 rfl) (d := 27) (v := (.bool false)) rfl (by kernel_rfl) ?_
          refine wl_pure (wants0 rfl) (d := 28) (v := (.bool false)) rfl (by kernel_rfl) ?_
          refine wl_pass (wantsN 20 28 true rfl (by kernel_rfl) rfl (by kernel_rfl)) rfl ?_
          refine wl_pass (wantsN 20 28 true rfl (by kernel_rfl) rfl (by kernel_rfl)) rfl ?_
          refine wl_pass (wantsN 20 28 true rfl (by kernel_rfl) rfl (by kernel_rfl)) rfl ?_
          refine wl_pure (wants0 rfl) (d := 32) (v := (.bool false)) rfl (by kernel_rfl) ?_
          refine wl_pure (wants0 rfl) (d := 33) (v := (.bool false)) rfl (by kernel_rfl) ?_
          refine wl_pass (wantsN 25 33 true rfl (by kernel_rfl) rfl (by kernel_rfl)) rfl ?_
          refine wl_pass (wantsN 25 33 true rfl (by kernel_rfl) rfl (by kernel_rfl)) rfl ?_
          refine wl_pass (wantsN 25 33 true rfl (by kernel_rfl) rfl (by kernel_rfl)) rfl ?_
          refine wl_pure (wants0 rfl) (d := 37) (v := (.bool false)) rfl (by kernel_rfl) ?_
          refine wl_pure (wants0 rfl) (d := 4) (v := (.bool false)) rfl (by kernel_rfl) ?_
          refine w_nil ?_
          refine meetR_at ?_ ⟨(congrArg Value.bool (show false = (validC cn x) by simp [validC, b18, b20, b22])), H15⟩
          exact (same_upd rfl (same_upd rfl (same_upd rfl (same_upd rfl (same_upd rfl (same_upd rfl (same_upd rfl (same_upd rfl (same_upd rfl (same_upd rfl (same_upd rfl (same_upd rfl (same_upd rfl (same_upd rfl (same_upd rfl (same_upd rfl (same_upd rfl (same_upd rfl (same_upd rfl (same_upd rfl (same_upd rfl (same_upd rfl (same_upd rfl (same_upd rfl (same_upd rfl (same_upd rfl (same_upd rfl (same_upd rfl (same_upd rfl (same_upd rfl (same_upd rfl (same_upd rfl (same_upd rfl (same_upd rfl (same_refl)))))))))))))))))))))))))))))))))))
      · have g31 := of_decide_eq_false b20
        refine wl_know 18 (.bool false) (congrArg Value.bool b20) ?_
        refine wl_pass (wantsN 10 18 true rfl (by kernel_rfl) rfl (by kernel_rfl)) rfl ?_
        refine wl_pass (wantsN 10 18 true rfl (by kernel_rfl) rfl (by kernel_rfl)) rfl ?_
        refine wl_pass (wantsN 10 18 true rfl (by kernel_rfl) rfl (by kernel_rfl)) rfl ?_
        refine wl_pure (wants0 rfl) (d := 22) (v := (.bool false)) rfl (by kernel_rfl) ?_
        refine wl_pure (wants0 rfl) (d := 23) (v := (.bool false)) rfl (by kernel_rfl) ?_
        refine wl_pass (wantsN 15 23 true rfl (by kernel_rfl) rfl (by kernel_rfl)) rfl ?_
        refine wl_pass (wantsN 15 23 true rfl (by kernel_rfl) rfl (by kernel_rfl)) rfl ?_
        refine wl_pass (wantsN 15 23 true rfl (by kernel_rfl) rfl (by kernel_rfl)) rfl ?_
        refine wl_pure (wants0 rfl) (d := 27) (v := (.bool false)) rfl (by kernel_rfl) ?_
        refine wl_pure (wants0 rfl) (d := 28) (v := (.bool false)) rfl (by kernel_rfl) ?_
        refine wl_pass (wantsN 20 28 true rfl (by kernel_rfl) rfl (by kernel_rfl)) rfl ?_
        refine wl_pass (wantsN 20 28 true rfl (by kernel_rfl) rfl (by kernel_rfl)) rfl ?_
        refine wl_pass (wantsN 20 28 true rfl (by kernel_rfl) rfl (by kernel_rfl)) rfl ?_
        refine wl_pure (wants0 rfl) (d := 32) (v := (.bool false)) rfl (by kernel_rfl) ?_
        refine wl_pure (wants0 rfl) (d := 33) (v := (.bool false)) rfl (by kernel_rfl) ?_
        refine wl_pass (wantsN 25 33 true rfl (by kernel_rfl) rfl (by kernel_rfl)) rfl ?_
        refine wl_pass (wantsN 25 33 true rfl (by kernel_rfl) rfl (by kernel_rfl)) rfl ?_
        refine wl_pass (wantsN 25 33 true rfl (by kernel_rfl) rfl (by kernel_rfl)) rfl ?_
        refine wl_pure (wants0 rfl) (d := 37) (v := (.bool false)) rfl (by kernel_rfl) ?_
        refine wl_pure (wants0 rfl) (d := 4) (v := (.bool false)) rfl (by kernel_rfl) ?_
        refine w_nil ?_
        refine meetR_at ?_ ⟨(congrArg Value.bool (show false = (validC cn x) by simp [validC, b18, b20])), H15⟩
        exact (same_upd rfl (same_upd rfl (same_upd rfl (same_upd rfl (same_upd rfl (same_upd rfl (same_upd rfl (same_upd rfl (same_upd rfl (same_upd rfl (same_upd rfl (same_upd rfl (same_upd rfl (same_upd rfl (same_upd rfl (same_upd rfl (same_upd rfl (same_upd rfl (same_upd rfl (same_upd rfl (same_upd rfl (same_upd rfl (same_upd rfl (same_upd rfl (same_upd rfl (same_upd rfl (same_upd rfl (same_upd rfl (same_upd rfl (same_upd rfl (same_upd rfl (same_upd rfl (same_upd rfl (same_refl))))))))))))))))))))))))))))))))))
    · have g32 := of_decide_eq_false b18
      refine wl_know 11 (.bool false) (congrArg Value.bool b18) ?_
      refine wl_pass (wantsN 3 11 true rfl (by kernel_rfl) rfl (by kernel_rfl)) rfl ?_
      refine wl_pass (wantsN 3 11 true rfl (by kernel_rfl) rfl (by kernel_rfl)) rfl ?_
      refine wl_pass (wantsN 3 11 true rfl (by kernel_rfl) rfl (by kernel_rfl)) rfl ?_
      refine wl_pass (wantsN 3 11 true rfl (by kernel_rfl) rfl (by kernel_rfl)) rfl ?_
      refine wl_pass (wantsN 3 11 true rfl (by kernel_rfl) rfl (by kernel_rfl)) rfl ?_
      refine wl_pure (wants0 rfl) (d := 17) (v := (.bool false)) rfl (by kernel_rfl) ?_
      refine wl_pure (wants0 rfl) (d := 18) (v := (.bool false)) rfl (by kernel_rfl) ?_
      refine wl_pass (wantsN 10 18 true rfl (by kernel_rfl) rfl (by kernel_rfl)) rfl ?_
      refine wl_pass (wantsN 10 18 true rfl (by kernel_rfl) rfl (by kernel_rfl)) rfl ?_
      refine wl_pass (wantsN 10 18 true rfl (by kernel_rfl) rfl (by kernel_rfl)) rfl ?_
      refine wl_pure (wants0 rfl) (d := 22) (v := (.bool false)) rfl (by kernel_rfl) ?_
      refine wl_pure (wants0 rfl) (d := 23) (v := (.bool false)) rfl (by kernel_rfl) ?_
      refine wl_pass (wantsN 15 23 true rfl (by kernel_rfl) rfl (by kernel_rfl)) rfl ?_
      refine wl_pass (wantsN 15 23 true rfl (by kernel_rfl) rfl (by kernel_rfl)) rfl ?_
      refine wl_pass (wantsN 15 23 true rfl (by kernel_rfl) rfl (by kernel_rfl)) rfl ?_
      refine wl_pure (wants0 rfl) (d := 27) (v := (.bool false)) rfl (by kernel_rfl) ?_
      refine wl_pure (wants0 rfl) (d := 28) (v := (.bool false)) rfl (by kernel_rfl) ?_
      refine wl_pass (wantsN 20 28 true rfl (by kernel_rfl) rfl (by kernel_rfl)) rfl ?_
      refine wl_pass (wantsN 20 28 true rfl (by kernel_rfl) rfl (by kernel_rfl)) rfl ?_
      refine wl_pass (wantsN 20 28 true rfl (by kernel_rfl) rfl (by kernel_rfl)) rfl ?_
      refine wl_pure (wants0 rfl) (d := 32) (v := (.bool false)) rfl (by kernel_rfl) ?_
      refine wl_pure (wants0 rfl) (d := 33) (v := (.bool false)) rfl (by kernel_rfl) ?_
      refine wl_pass (wantsN 25 33 true rfl (by kernel_rfl) rfl (by kernel_rfl)) rfl ?_
      refine wl_pass (wantsN 25 33 true rfl (by kernel_rfl) rfl (by kernel_rfl)) rfl ?_
      refine wl_pass (wantsN 25 33 true rfl (by kernel_rfl) rfl (by kernel_rfl)) rfl ?_
      refine wl_pure (wants0 rfl) (d := 37) (v := (.bool false)) rfl (by kernel_rfl) ?_
      refine wl_pure (wants0 rfl) (d := 4) (v := (.bool false)) rfl (by kernel_rfl) ?_
      refine w_nil ?_
      refine meetR_at ?_ ⟨(congrArg Value.bool (show false = (validC cn x) by simp [validC, b18])), H15⟩
      exact (same_upd rfl (same_upd rfl (same_upd rfl (same_upd rfl (same_upd rfl (same_upd rfl (same_upd rfl (same_upd rfl (same_upd rfl (same_upd rfl (same_upd rfl (same_upd rfl (same_upd rfl (same_upd rfl (same_upd rfl (same_upd rfl (same_upd rfl (same_upd rfl (same_upd rfl (same_upd rfl (same_upd rfl (same_upd rfl (same_upd rfl (same_upd rfl (same_upd rfl (same_upd rfl (same_upd rfl (same_upd rfl (same_upd rfl (same_upd rfl (same_upd rfl (same_upd rfl (same_refl)))))))))))))))))))))))))))))))))
  · rintro f33 w34 ⟨v36, H35⟩
    refine wp_know 4 _ v36 ?_
    refine w_ret ?_
    refine end1 rfl (res_tmp (v := (.bool (validC cn x))) rfl) ?_
    exact ⟨rfl, H35.upd 0 rfl [] (fun _ h => h.elim)⟩

set_option maxRecDepth 100000 in
set_option maxHeartbeats 1000000 in
theorem rValid_any (w : World) (f cn : Int) (x : CommitD) :
    Calls Try.prog 63 #[(.agg ⟨([(.int .i64 (f)), (.int .i64 (cn))] : List Value)⟩), (.agg ⟨(([(.int .i64 (x.cl)), (.int .i64 (x.seq))] : List Value) ++ hc x.h ++ ([(.int .i64 (x.len)), (.int .i64 (x.sb)), (.int .i64 (x.sm))] : List Value))⟩)] w fun e w' => e = .returned (.bool (validC cn x)) ∧ Upd [] w w' := by
  have H := Sat.start0 w
  refine calls_fr Try.func63 rfl 39 rfl (Nat.le_of_ble_eq_true rfl) ?_
  refine w_seq ?_
  refine w_lit ?_
  refine wl_do (wants0 rfl) (fun K1 hK1 => ?_)
  refine d_box (vs := ([(.int .i64 (f)), (.int .i64 (cn))] : List Value)) rfl H rfl rfl ?_
  intro b2 w3 (H4 : Sat w [restC w (fun _ => False), cellC b2 36 ([(.int .i64 (f)), (.int .i64 (cn))] : List Value)] w3)
  refine hK1 _ _ ?_
  clear hK1 K1
  refine wl_do (wants0 rfl) (fun K5 hK5 => ?_)
  refine d_box (vs := (([(.int .i64 (x.cl)), (.int .i64 (x.seq))] : List Value) ++ hc x.h ++ ([(.int .i64 (x.len)), (.int .i64 (x.sb)), (.int .i64 (x.sm))] : List Value))) rfl H4 rfl rfl ?_
  intro b6 w7 (H8 : Sat w [restC w (fun _ => False), cellC b2 36 ([(.int .i64 (f)), (.int .i64 (cn))] : List Value), cellC b6 44 (([(.int .i64 (x.cl)), (.int .i64 (x.seq))] : List Value) ++ hc x.h ++ ([(.int .i64 (x.len)), (.int .i64 (x.sb)), (.int .i64 (x.sm))] : List Value))] w7)
  refine hK5 _ _ ?_
  clear hK5 K5
  refine wl_pure (wants0 rfl) (d := 4) (v := (.bool false)) rfl (by kernel_rfl) ?_
  refine w_nil ?_
  refine then_normal ?_
  refine wp_meetR [4, 5, 6, 7, 8, 9, 10, 11, 12, 13, 14, 15, 16, 17, 18, 19, 20, 21, 22, 23, 24, 25, 26, 27, 28, 29, 30, 31, 32, 33, 34, 35, 36, 37, 38] (fun G_ W_ => G_ 4 = (.bool (validC cn x)) ∧ Sat w [restC w (fun _ => False), cellC b2 36 ([(.int .i64 (f)), (.int .i64 (cn))] : List Value), cellC b6 44 (([(.int .i64 (x.cl)), (.int .i64 (x.seq))] : List Value) ++ hc x.h ++ ([(.int .i64 (x.len)), (.int .i64 (x.sb)), (.int .i64 (x.sm))] : List Value))] W_) ?_ ?_
  · refine w_lit ?_
    refine wl_pure (wants0 rfl) (d := 5) (v := (.pointer (some ⟨b6, 0, none⟩))) rfl (by kernel_rfl) ?_
    refine wl_pure (wants0 rfl) (d := 6) (v := (.pointer (some ⟨b6, 0, none⟩))) rfl (by kernel_rfl) ?_
    refine wl_pure (wants0 rfl) (d := 7) (v := (.int .i64 (x.cl))) rfl (e_load1 rfl (by kernel_rfl) (H8.cell 2 rfl (by kernel_rfl))) ?_
    refine wl_pure (wants0 rfl) (d := 8) (v := (.bool (decide (x.cl ≥ 0)))) rfl (by kernel_rfl) ?_
    refine wl_pure (wants0 rfl) (d := 9) (v := (.bool (decide (x.cl ≥ 0)))) rfl (by kernel_rfl) ?_
    refine (bsplit (decide (x.cl ≥ 0))).elim (fun b10 => ?_) (fun b10 => ?_)
    · have g11 := of_decide_eq_true b10
      refine wl_know 9 (.bool true) (congrArg Value.bool b10) ?_
      refine wl_pure (wantsY 4 9 true rfl (by kernel_rfl) rfl (by kernel_rfl)) (d := 10) (v := (.pointer (some ⟨b6, 0, none⟩))) rfl (by kernel_rfl) ?_
      refine wl_pure (wantsY 4 9 true rfl (by kernel_rfl) rfl (by kernel_rfl)) (d := 11) (v := (.pointer (some ⟨b6, 0, none⟩))) rfl (by kernel_rfl) ?_
      refine wl_pure (wantsY 4 9 true rfl (by kernel_rfl) rfl (by kernel_rfl)) (d := 12) (v := (.int .i64 (x.cl))) rfl (e_load1 rfl (by kernel_rfl) (H8.cell 2 rfl (by kernel_rfl))) ?_
      refine wl_pure (wantsY 4 9 true rfl (by kernel_rfl) rfl (by kernel_rfl)) (d := 13) (v := (.pointer (some ⟨b2, 1, none⟩))) rfl (by kernel_rfl) ?_
      refine wl_pure (wantsY 4 9 true rfl (by kernel_rfl) rfl (by kernel_rfl)) (d := 14) (v := (.int .i64 (cn))) rfl (e_load1 rfl (by kernel_rfl) (H8.cell 1 rfl rfl)) ?_
      refine wl_pure (wantsY 4 9 true rfl (by kernel_rfl) rfl (by kernel_rfl)) (d := 15) (v := (.bool (decide (x.cl < cn)))) rfl (by kernel_rfl) ?_
      refine wl_pure (wants0 rfl) (d := 16) (v := (.bool (decide (x.cl < cn)))) rfl (by kernel_rfl) ?_
      refine wl_pure (wants0 rfl) (d := 17) (v := (.bool (decide (x.cl < cn)))) rfl (by kernel_rfl) ?_
      refine (bsplit (decide (x.cl < cn))).elim (fun b12 => ?_) (fun b12 => ?_)
      · have g13 := of_decide_eq_true b12
        refine wl_know 17 (.bool true) (congrArg Value.bool b12) ?_
        refine wl_pure (wantsY 12 17 true rfl (by kernel_rfl) rfl (by kernel_rfl)) (d := 18) (v := (.pointer (some ⟨b6, 0, none⟩))) rfl (by kernel_rfl) ?_
        refine wl_pure (wantsY 12 17 true rfl (by kernel_rfl) rfl (by kernel_rfl)) (d := 19) (v := (.pointer (some ⟨b6, 1, none⟩))) rfl (by kernel_rfl) ?_
        refine wl_pure (wantsY 12 17 true rfl (by kernel_rfl) rfl (by kernel_rfl)) (d := 20) (v := (.int .i64 (x.seq))) rfl (e_load1 rfl (by kernel_rfl) (H8.cell 2 rfl (by kernel_rfl))) ?_
        refine wl_pure (wantsY 12 17 true rfl (by kernel_rfl) rfl (by kernel_rfl)) (d := 21) (v := (.bool (decide (x.seq ≥ 1)))) rfl (by kernel_rfl) ?_
        refine wl_pure (wants0 rfl) (d := 22) (v := (.bool (decide (x.seq ≥ 1)))) rfl (by kernel_rfl) ?_
        refine wl_pure (wants0 rfl) (d := 23) (v := (.bool (decide (x.seq ≥ 1)))) rfl (by kernel_rfl) ?_
        refine (bsplit (decide (x.seq ≥ 1))).elim (fun b14 => ?_) (fun b14 => ?_)
        · have g15 := of_decide_eq_true b14
          refine wl_know 23 (.bool true) (congrArg Value.bool b14) ?_
          refine wl_pure (wantsY 18 23 true rfl (by kernel_rfl) rfl (by kernel_rfl)) (d := 24) (v := (.pointer (some ⟨b6, 0, none⟩))) rfl (by kernel_rfl) ?_
          refine wl_pure (wantsY 18 23 true rfl (by kernel_rfl) rfl (by kernel_rfl)) (d := 25) (v := (.pointer (some ⟨b6, 1, none⟩))) rfl (by kernel_rfl) ?_
          refine wl_pure (wantsY 18 23 true rfl (by kernel_rfl) rfl (by kernel_rfl)) (d := 26) (v := (.int .i64 (x.seq))) rfl (e_load1 rfl (by kernel_rfl) (H8.cell 2 rfl (by kernel_rfl))) ?_
          refine wl_pure (wantsY 18 23 true rfl (by kernel_rfl) rfl (by kernel_rfl)) (d := 27) (v := (.bool (decide (x.seq ≤ 1048576)))) rfl (by kernel_rfl) ?_
          refine wl_pure (wants0 rfl) (d := 28) (v := (.bool (decide (x.seq ≤ 1048576)))) rfl (by kernel_rfl) ?_
          refine wl_pure (wants0 rfl) (d := 29) (v := (.bool (decide (x.seq ≤ 1048576)))) rfl (by kernel_rfl) ?_
          refine (bsplit (decide (x.seq ≤ 1048576))).elim (fun b16 => ?_) (fun b16 => ?_)
          · have g17 := of_decide_eq_true b16
            refine wl_know 29 (.bool true) (congrArg Value.bool b16) ?_
            refine wl_pure (wantsY 24 29 true rfl (by kernel_rfl) rfl (by kernel_rfl)) (d := 30) (v := (.pointer (some ⟨b6, 34, none⟩))) rfl (by kernel_rfl) ?_
            refine wl_pure (wantsY 24 29 true rfl (by kernel_rfl) rfl (by kernel_rfl)) (d := 31) (v := (.int .i64 (x.len))) rfl (e_load1 rfl (by kernel_rfl) (H8.cell 2 rfl (by kernel_rfl))) ?_
            refine wl_pure (wantsY 24 29 true rfl (by kernel_rfl) rfl (by kernel_rfl)) (d := 32) (v := (.bool (decide (x.len ≥ 0)))) rfl (by kernel_rfl) ?_
            refine wl_pure (wants0 rfl) (d := 33) (v := (.bool (decide (x.len ≥ 0)))) rfl (by kernel_rfl) ?_
            refine wl_pure (wants0 rfl) (d := 34) (v := (.bool (decide (x.len ≥ 0)))) rfl (by kernel_rfl) ?_
            refine (bsplit (decide (x.len ≥ 0))).elim (fun b18 => ?_) (fun b18 => ?_)
            · have g19 := of_decide_eq_true b18
              refine wl_know 34 (.bool true) (congrArg Value.bool b18) ?_
              refine wl_pure (wantsY 29 34 true rfl (by kernel_rfl) rfl (by kernel_rfl)) (d := 35) (v := (.pointer (some ⟨b6, 34, none⟩))) rfl (by kernel_rfl) ?_
              refine wl_pure (wantsY 29 34 true rfl (by kernel_rfl) rfl (by kernel_rfl)) (d := 36) (v := (.int .i64 (x.len))) rfl (e_load1 rfl (by kernel_rfl) (H8.cell 2 rfl (by kernel_rfl))) ?_
              refine wl_pure (wantsY 29 34 true rfl (by kernel_rfl) rfl (by kernel_rfl)) (d := 37) (v := (.bool (decide (x.len ≤ 256)))) rfl (by kernel_rfl) ?_
              refine wl_pure (wants0 rfl) (d := 38) (v := (.bool (decide (x.len ≤ 256)))) rfl (by kernel_rfl) ?_
              refine wl_pure (wants0 rfl) (d := 4) (v := (.bool (decide (x.len ≤ 256)))) rfl (by kernel_rfl) ?_
              refine w_nil ?_
              refine meetR_at ?_ ⟨(congrArg Value.bool (show (decide (x.len ≤ 256)) = (validC cn x) by simp [validC, b10, b12, b14, b16, b18])), H8⟩
              exact (same_upd rfl (same_upd rfl (same_upd rfl (same_upd rfl (same_upd rfl (same_upd rfl (same_upd rfl (same_upd rfl (same_upd rfl (same_upd rfl (same_upd rfl (same_upd rfl (same_upd rfl (same_upd rfl (same_upd rfl (same_upd rfl (same_upd rfl (same_upd rfl (same_upd rfl (same_upd rfl (same_upd rfl (same_upd rfl (same_upd rfl (same_upd rfl (same_upd rfl (same_upd rfl (same_upd rfl (same_upd rfl (same_upd rfl (same_upd rfl (same_upd rfl (same_upd rfl (same_upd rfl (same_upd rfl (same_upd rfl (same_upd rfl (same_upd rfl (same_upd rfl (same_upd rfl (same_upd rfl (same_refl)))))))))))))))))))))))))))))))))))))))))
            · have g20 := of_decide_eq_false b18
              refine wl_know 34 (.bool false) (congrArg Value.bool b18) ?_
              refine wl_pass (wantsN 29 34 true rfl (by kernel_rfl) rfl (by kernel_rfl)) rfl ?_
              refine wl_pass (wantsN 29 34 true rfl (by kernel_rfl) rfl (by kernel_rfl)) rfl ?_
              refine wl_pass (wantsN 29 34 true rfl (by kernel_rfl) rfl (by kernel_rfl)) rfl ?_
              refine wl_pure (wants0 rfl) (d := 38) (v := (.bool false)) rfl (by kernel_rfl) ?_
              refine wl_pure (wants0 rfl) (d := 4) (v := (.bool false)) rfl (by kernel_rfl) ?_
              refine w_nil ?_
              refine meetR_at ?_ ⟨(congrArg Value.bool (show false = (validC cn x) by simp [validC, b10, b12, b14, b16, b18])), H8⟩
              exact (same_upd rfl (same_upd rfl (same_upd rfl (same_upd rfl (same_upd rfl (same_upd rfl (same_upd rfl (same_upd rfl (same_upd rfl (same_upd rfl (same_upd rfl (same_upd rfl (same_upd rfl (same_upd rfl (same_upd rfl (same_upd rfl (same_upd rfl (same_upd rfl (same_upd rfl (same_upd rfl (same_upd rfl (same_upd rfl (same_upd rfl (same_upd rfl (same_upd rfl (same_upd rfl (same_upd rfl (same_upd rfl (same_upd rfl (same_upd rfl (same_upd rfl (same_upd rfl (same_upd rfl (same_upd rfl (same_upd rfl (same_upd rfl (same_upd rfl (same_upd rfl (same_upd rfl (same_upd rfl (same_refl)))))))))))))))))))))))))))))))))))))))))
          · have g21 := of_decide_eq_false b16
            refine wl_know 29 (.bool false) (congrArg Value.bool b16) ?_
            refine wl_pass (wantsN 24 29 true rfl (by kernel_rfl) rfl (by kernel_rfl)) rfl ?_
            refine wl_pass (wantsN 24 29 true rfl (by kernel_rfl) rfl (by kernel_rfl)) rfl ?_
            refine wl_pass (wantsN 24 29 true rfl (by kernel_rfl) rfl (by kernel_rfl)) rfl ?_
            refine wl_pure (wants0 rfl) (d := 33) (v := (.bool false)) rfl (by kernel_rfl) ?_
            refine wl_pure (wants0 rfl) (d := 34) (v := (.bool false)) rfl (by kernel_rfl) ?_
            refine wl_pass (wantsN 29 34 true rfl (by kernel_rfl) rfl (by kernel_rfl)) rfl ?_
            refine wl_pass (wantsN 29 34 true rfl (by kernel_rfl) rfl (by kernel_rfl)) rfl ?_
            refine wl_pass (wantsN 29 34 true rfl (by kernel_rfl) rfl (by kernel_rfl)) rfl ?_
            refine wl_pure (wants0 rfl) (d := 38) (v := (.bool false)) rfl (by kernel_rfl) ?_
            refine wl_pure (wants0 rfl) (d := 4) (v := (.bool false)) rfl (by kernel_rfl) ?_
            refine w_nil ?_
            refine meetR_at ?_ ⟨(congrArg Value.bool (show false = (validC cn x) by simp [validC, b10, b12, b14, b16])), H8⟩
            exact (same_upd rfl (same_upd rfl (same_upd rfl (same_upd rfl (same_upd rfl (same_upd rfl (same_upd rfl (same_upd rfl (same_upd rfl (same_upd rfl (same_upd rfl (same_upd rfl (same_upd rfl (same_upd rfl (same_upd rfl (same_upd rfl (same_upd rfl (same_upd rfl (same_upd rfl (same_upd rfl (same_upd rfl (same_upd rfl (same_upd rfl (same_upd rfl (same_upd rfl (same_upd rfl (same_upd rfl (same_upd rfl (same_upd rfl (same_upd rfl (same_upd rfl (same_upd rfl (same_upd rfl (same_upd rfl (same_upd rfl (same_upd rfl (same_upd rfl (same_upd rfl (same_upd rfl (same_refl))))))))))))))))))))))))))))))))))))))))
        · have g22 := of_decide_eq_false b14
          refine wl_know 23 (.bool false) (congrArg Value.bool b14) ?_
          refine wl_pass (wantsN 18 23 true rfl (by kernel_rfl) rfl (by kernel_rfl)) rfl ?_
          refine wl_pass (wantsN 18 23 true rfl (by kernel_rfl) rfl (by kernel_rfl)) rfl ?_
          refine wl_pass (wantsN 18 23 true rfl (by kernel_rfl) rfl (by kernel_rfl)) rfl ?_
          refine wl_pass (wantsN 18 23 true rfl (by kernel_rfl) rfl (by kernel_rfl)) rfl ?_
          refine wl_pure (wants0 rfl) (d := 28) (v := (.bool false)) rfl (by kernel_rfl) ?_
          refine wl_pure (wants0 rfl) (d := 29) (v := (.bool false)) rfl (by kernel_rfl) ?_
          refine wl_pass (wantsN 24 29 true rfl (by kernel_rfl) rfl (by kernel_rfl)) rfl ?_
          refine wl_pass (wantsN 24 29 true rfl (by kernel_rfl) rfl (by kernel_rfl)) rfl ?_
          refine wl_pass (wantsN 24 29 true rfl (by kernel_rfl) rfl (by kernel_rfl)) rfl ?_
          refine wl_pure (wants0 rfl) (d := 33) (v := (.bool false)) rfl (by kernel_rfl) ?_
          refine wl_pure (wants0 rfl) (d := 34) (v := (.bool false)) rfl (by kernel_rfl) ?_
          refine wl_pass (wantsN 29 34 true rfl (by kernel_rfl) rfl (by kernel_rfl)) rfl ?_
          refine wl_pass (wantsN 29 34 true rfl (by kernel_rfl) rfl (by kernel_rfl)) rfl ?_
          refine wl_pass (wantsN 29 34 true rfl (by kernel_rfl) rfl (by kernel_rfl)) rfl ?_
          refine wl_pure (wants0 rfl) (d := 38) (v := (.bool false)) rfl (by kernel_rfl) ?_
          refine wl_pure (wants0 rfl) (d := 4) (v := (.bool false)) rfl (by kernel_rfl) ?_
          refine w_nil ?_
          refine meetR_at ?_ ⟨(congrArg Value.bool (show false = (validC cn x) by simp [validC, b10, b12, b14])), H8⟩
          exact (same_upd rfl (same_upd rfl (same_upd rfl (same_upd rfl (same_upd rfl (same_upd rfl (same_upd rfl (same_upd rfl (same_upd rfl (same_upd rfl (same_upd rfl (same_upd rfl (same_upd rfl (same_upd rfl (same_upd rfl (same_upd rfl (same_upd rfl (same_upd rfl (same_upd rfl (same_upd rfl (same_upd rfl (same_upd rfl (same_upd rfl (same_upd rfl (same_upd rfl (same_upd rfl (same_upd rfl (same_upd rfl (same_upd rfl (same_upd rfl (same_upd rfl (same_upd rfl (same_upd rfl (same_upd rfl (same_upd rfl (same_upd rfl (same_upd rfl (same_upd rfl (same_refl)))))))))))))))))))))))))))))))))))))))
      · have g23 := of_decide_eq_false b12
        refine wl_know 17 (.bool false) (congrArg Value.bool b12) ?_
        refine wl_pass (wantsN 12 17 true rfl (by kernel_rfl) rfl (by kernel_rfl)) rfl ?_
        refine wl_pass (wantsN 12 17 true rfl (by kernel_rfl) rfl (by kernel_rfl)) rfl ?_
        refine wl_pass (wantsN 12 17 true rfl (by kernel_rfl) rfl (by kernel_rfl)) rfl ?_
        refine wl_pass (wantsN 12 17 true rfl (by kernel_rfl) rfl (by kernel_rfl)) rfl ?_
        refine wl_pure (wants0 rfl) (d := 22) (v := (.bool false)) rfl (by kernel_rfl) ?_
        refine wl_pure (wants0 rfl) (d := 23) (v := (.bool false)) rfl (by kernel_rfl) ?_
        refine wl_pass (wantsN 18 23 true rfl (by kernel_rfl) rfl (by kernel_rfl)) rfl ?_
        refine wl_pass (wantsN 18 23 true rfl (by kernel_rfl) rfl (by kernel_rfl)) rfl ?_
        refine wl_pass (wantsN 18 23 true rfl (by kernel_rfl) rfl (by kernel_rfl)) rfl ?_
        refine wl_pass (wantsN 18 23 true rfl (by kernel_rfl) rfl (by kernel_rfl)) rfl ?_
        refine wl_pure (wants0 rfl) (d := 28) (v := (.bool false)) rfl (by kernel_rfl) ?_
        refine wl_pure (wants0 rfl) (d := 29) (v := (.bool false)) rfl (by kernel_rfl) ?_
        refine wl_pass (wantsN 24 29 true rfl (by kernel_rfl) rfl (by kernel_rfl)) rfl ?_
        refine wl_pass (wantsN 24 29 true rfl (by kernel_rfl) rfl (by kernel_rfl)) rfl ?_
        refine wl_pass (wantsN 24 29 true rfl (by kernel_rfl) rfl (by kernel_rfl)) rfl ?_
        refine wl_pure (wants0 rfl) (d := 33) (v := (.bool false)) rfl (by kernel_rfl) ?_
        refine wl_pure (wants0 rfl) (d := 34) (v := (.bool false)) rfl (by kernel_rfl) ?_
        refine wl_pass (wantsN 29 34 true rfl (by kernel_rfl) rfl (by kernel_rfl)) rfl ?_
        refine wl_pass (wantsN 29 34 true rfl (by kernel_rfl) rfl (by kernel_rfl)) rfl ?_
        refine wl_pass (wantsN 29 34 true rfl (by kernel_rfl) rfl (by kernel_rfl)) rfl ?_
        refine wl_pure (wants0 rfl) (d := 38) (v := (.bool false)) rfl (by kernel_rfl) ?_
        refine wl_pure (wants0 rfl) (d := 4) (v := (.bool false)) rfl (by kernel_rfl) ?_
        refine w_nil ?_
        refine meetR_at ?_ ⟨(congrArg Value.bool (show false = (validC cn x) by simp [validC, b10, b12])), H8⟩
        exact (same_upd rfl (same_upd rfl (same_upd rfl (same_upd rfl (same_upd rfl (same_upd rfl (same_upd rfl (same_upd rfl (same_upd rfl (same_upd rfl (same_upd rfl (same_upd rfl (same_upd rfl (same_upd rfl (same_upd rfl (same_upd rfl (same_upd rfl (same_upd rfl (same_upd rfl (same_upd rfl (same_upd rfl (same_upd rfl (same_upd rfl (same_upd rfl (same_upd rfl (same_upd rfl (same_upd rfl (same_upd rfl (same_upd rfl (same_upd rfl (same_upd rfl (same_upd rfl (same_upd rfl (same_upd rfl (same_upd rfl (same_upd rfl (same_upd rfl (same_refl))))))))))))))))))))))))))))))))))))))
    · have g24 := of_decide_eq_false b10
      refine wl_know 9 (.bool false) (congrArg Value.bool b10) ?_
      refine wl_pass (wantsN 4 9 true rfl (by kernel_rfl) rfl (by kernel_rfl)) rfl ?_
      refine wl_pass (wantsN 4 9 true rfl (by kernel_rfl) rfl (by kernel_rfl)) rfl ?_
      refine wl_pass (wantsN 4 9 true rfl (by kernel_rfl) rfl (by kernel_rfl)) rfl ?_
      refine wl_pass (wantsN 4 9 true rfl (by kernel_rfl) rfl (by kernel_rfl)) rfl ?_
      refine wl_pass (wantsN 4 9 true rfl (by kernel_rfl) rfl (by kernel_rfl)) rfl ?_
      refine wl_pass (wantsN 4 9 true rfl (by kernel_rfl) rfl (by kernel_rfl)) rfl ?_
      refine wl_pure (wants0 rfl) (d := 16) (v := (.bool false)) rfl (by kernel_rfl) ?_
      refine wl_pure (wants0 rfl) (d := 17) (v := (.bool false)) rfl (by kernel_rfl) ?_
      refine wl_pass (wantsN 12 17 true rfl (by kernel_rfl) rfl (by kernel_rfl)) rfl ?_
      refine wl_pass (wantsN 12 17 true rfl (by kernel_rfl) rfl (by kernel_rfl)) rfl ?_
      refine wl_pass (wantsN 12 17 true rfl (by kernel_rfl) rfl (by kernel_rfl)) rfl ?_
      refine wl_pass (wantsN 12 17 true rfl (by kernel_rfl) rfl (by kernel_rfl)) rfl ?_
      refine wl_pure (wants0 rfl) (d := 22) (v := (.bool false)) rfl (by kernel_rfl) ?_
      refine wl_pure (wants0 rfl) (d := 23) (v := (.bool false)) rfl (by kernel_rfl) ?_
      refine wl_pass (wantsN 18 23 true rfl (by kernel_rfl) rfl (by kernel_rfl)) rfl ?_
      refine wl_pass (wantsN 18 23 true rfl (by kernel_rfl) rfl (by kernel_rfl)) rfl ?_
      refine wl_pass (wantsN 18 23 true rfl (by kernel_rfl) rfl (by kernel_rfl)) rfl ?_
      refine wl_pass (wantsN 18 23 true rfl (by kernel_rfl) rfl (by kernel_rfl)) rfl ?_
      refine wl_pure (wants0 rfl) (d := 28) (v := (.bool false)) rfl (by kernel_rfl) ?_
      refine wl_pure (wants0 rfl) (d := 29) (v := (.bool false)) rfl (by kernel_rfl) ?_
      refine wl_pass (wantsN 24 29 true rfl (by kernel_rfl) rfl (by kernel_rfl)) rfl ?_
      refine wl_pass (wantsN 24 29 true rfl (by kernel_rfl) rfl (by kernel_rfl)) rfl ?_
      refine wl_pass (wantsN 24 29 true rfl (by kernel_rfl) rfl (by kernel_rfl)) rfl ?_
      refine wl_pure (wants0 rfl) (d := 33) (v := (.bool false)) rfl (by kernel_rfl) ?_
      refine wl_pure (wants0 rfl) (d := 34) (v := (.bool false)) rfl (by kernel_rfl) ?_
      refine wl_pass (wantsN 29 34 true rfl (by kernel_rfl) rfl (by kernel_rfl)) rfl ?_
      refine wl_pass (wantsN 29 34 true rfl (by kernel_rfl) rfl (by kernel_rfl)) rfl ?_
      refine wl_pass (wantsN 29 34 true rfl (by kernel_rfl) rfl (by kernel_rfl)) rfl ?_
      refine wl_pure (wants0 rfl) (d := 38) (v := (.bool false)) rfl (by kernel_rfl) ?_
      refine wl_pure (wants0 rfl) (d := 4) (v := (.bool false)) rfl (by kernel_rfl) ?_
      refine w_nil ?_
      refine meetR_at ?_ ⟨(congrArg Value.bool (show false = (validC cn x) by simp [validC, b10])), H8⟩
      exact (same_upd rfl (same_upd rfl (same_upd rfl (same_upd rfl (same_upd rfl (same_upd rfl (same_upd rfl (same_upd rfl (same_upd rfl (same_upd rfl (same_upd rfl (same_upd rfl (same_upd rfl (same_upd rfl (same_upd rfl (same_upd rfl (same_upd rfl (same_upd rfl (same_upd rfl (same_upd rfl (same_upd rfl (same_upd rfl (same_upd rfl (same_upd rfl (same_upd rfl (same_upd rfl (same_upd rfl (same_upd rfl (same_upd rfl (same_upd rfl (same_upd rfl (same_upd rfl (same_upd rfl (same_upd rfl (same_upd rfl (same_upd rfl (same_refl)))))))))))))))))))))))))))))))))))))
  · rintro f25 w26 ⟨v28, H27⟩
    refine wp_know 4 _ v28 ?_
    refine w_ret ?_
    refine end1 rfl (res_tmp (v := (.bool (validC cn x))) rfl) ?_
    exact ⟨rfl, H27.upd 0 rfl [] (fun _ h => h.elim)⟩

set_option maxRecDepth 100000 in
set_option maxHeartbeats 400000 in
theorem wSigner_any (w : World) (c : Int) :
    Calls Try.prog 61 #[(.int .i64 (c))] w fun e w' => e = .returned (.int .i64 (IntKind.i64.wrap (1000 + c))) ∧ Upd [] w w' := by
  have H := Sat.start0 w
  refine calls_fr Try.func61 rfl 5 rfl (Nat.le_of_ble_eq_true rfl) ?_
  refine w_seq ?_
  refine w_lit ?_
  refine wl_pure (wants0 rfl) (d := 2) (v := (.int .i64 (0))) rfl (by kernel_rfl) ?_
  refine w_nil ?_
  refine then_normal ?_
  refine w_seq ?_
  refine w_lit ?_
  refine wl_pure (wants0 rfl) (d := 3) (v := (.int .i64 (c))) rfl (by kernel_rfl) ?_
  refine wl_pure (wants0 rfl) (d := 4) (v := (.int .i64 (IntKind.i64.wrap (1000 + c)))) rfl (by kernel_rfl) ?_
  refine wl_pure (wants0 rfl) (d := 2) (v := (.int .i64 (IntKind.i64.wrap (1000 + c)))) rfl (by kernel_rfl) ?_
  refine w_nil ?_
  refine then_normal ?_
  refine w_ret ?_
  refine end1 rfl (res_tmp (v := (.int .i64 (IntKind.i64.wrap (1000 + c)))) rfl) ?_
  exact ⟨rfl, H.upd 0 rfl [] (fun _ h => h.elim)⟩

set_option maxRecDepth 100000 in
set_option maxHeartbeats 1000000 in
theorem wRightC_any (w : World) (f cn : Int) (_hf : -1099511627776 ≤ f ∧ f ≤ 1099511627776) (b mb : Nat) (L : List Signed) (hb : (cellC b 107 [.map (some mb)]).ok w) (hm : MapAt w mb signedV (Value.int .i64) (marks L)) (s : CommitD) (hs : CoOk s) :
    Calls Try.prog 38 #[(.agg ⟨([(.int .i64 (f)), (.int .i64 (cn))] : List Value)⟩), (.pointer (some ⟨b, 0, none⟩)), (.agg ⟨(([(.int .i64 (s.cl)), (.int .i64 (s.seq))] : List Value) ++ hc s.h ++ ([(.int .i64 (s.len)), (.int .i64 (s.sb)), (.int .i64 (s.sm))] : List Value))⟩)] w fun e w' => e = .returned (.bool (rightC cn L s)) ∧ Upd [] w w' := by
  have H := Sat.start0 w
  have hs2 := hs
  unfold CoOk at hs2
  refine calls_fr Try.func38 rfl 28 rfl (Nat.le_of_ble_eq_true rfl) ?_
  refine w_seq ?_
  refine w_lit ?_
  refine wl_do (wants0 rfl) (fun K1 hK1 => ?_)
  refine d_box (vs := ([(.int .i64 (f)), (.int .i64 (cn))] : List Value)) rfl H rfl rfl ?_
  intro b2 w3 (H4 : Sat w [restC w (fun _ => False), cellC b2 36 ([(.int .i64 (f)), (.int .i64 (cn))] : List Value)] w3)
  refine hK1 _ _ ?_
  clear hK1 K1
  refine wl_do (wants0 rfl) (fun K5 hK5 => ?_)
  refine d_box (vs := (([(.int .i64 (s.cl)), (.int .i64 (s.seq))] : List Value) ++ hc s.h ++ ([(.int .i64 (s.len)), (.int .i64 (s.sb)), (.int .i64 (s.sm))] : List Value))) rfl H4 rfl rfl ?_
  intro b6 w7 (H8 : Sat w [restC w (fun _ => False), cellC b2 36 ([(.int .i64 (f)), (.int .i64 (cn))] : List Value), cellC b6 44 (([(.int .i64 (s.cl)), (.int .i64 (s.seq))] : List Value) ++ hc s.h ++ ([(.int .i64 (s.len)), (.int .i64 (s.sb)), (.int .i64 (s.sm))] : List Value))] w7)
  refine hK5 _ _ ?_
  clear hK5 K5
  refine wl_pure (wants0 rfl) (d := 6) (v := (.bool false)) rfl (by kernel_rfl) ?_
  refine w_nil ?_
  refine then_normal ?_
  refine w_seq ?_
  refine h_start H8 [restC w (fun _ => False), cellC b2 36 ([(.int .i64 (f)), (.int .i64 (cn))] : List Value), cellC b6 44 (([(.int .i64 (s.cl)), (.int .i64 (s.seq))] : List Value) ++ hc s.h ++ ([(.int .i64 (s.len)), (.int .i64 (s.sb)), (.int .i64 (s.sm))] : List Value))] 22 rfl (by kernel_rfl) (fun Hx => (Hx.pick [0, 1, 2] (by decide))) ?_
  intro w9 H10 S11
  refine h_val 0 rfl (by kernel_rfl) (by kernel_rfl) (by kernel_rfl) (fun _ _ _ h => h) S11 (wants0 rfl) (d := 7) (v := (.agg ⟨([(.int .i64 (f)), (.int .i64 (cn))] : List Value)⟩)) rfl (fun _ H' => (e_loadN (vs := ([(.int .i64 (f)), (.int .i64 (cn))] : List Value)) rfl (by kernel_rfl) (by kernel_rfl) (by exact Nat.le_of_ble_eq_true (by kernel_rfl)) (H'.at 1 rfl) (by kernel_rfl))) ?_
  refine h_val 1 rfl (by kernel_rfl) (by kernel_rfl) (by kernel_rfl) (fun _ _ _ h => h) S11 (wants0 rfl) (d := 8) (v := (.agg ⟨(([(.int .i64 (s.cl)), (.int .i64 (s.seq))] : List Value) ++ hc s.h ++ ([(.int .i64 (s.len)), (.int .i64 (s.sb)), (.int .i64 (s.sm))] : List Value))⟩)) rfl (fun _ H' => (e_loadN (vs := (([(.int .i64 (s.cl)), (.int .i64 (s.seq))] : List Value) ++ hc s.h ++ ([(.int .i64 (s.len)), (.int .i64 (s.sb)), (.int .i64 (s.sm))] : List Value))) rfl (by kernel_rfl) (by kernel_rfl) (by exact Nat.le_of_ble_eq_true (by kernel_rfl)) (H'.at 2 rfl) (by kernel_rfl))) ?_
  refine h_do 2 rfl (by kernel_rfl) (wants0 rfl) (fun K12 hK12 => ?_)
  refine d_call (d := 9) rfl (by kernel_rfl) (wValid_any w9 f cn s) ?_
  rintro _ w13 ⟨rfl, u15⟩
  have H14 := H10.keepU u15
  refine ⟨_, rfl, ?_⟩
  have S16 := H14.pick [0, 1, 2] (by decide)
  refine hK12 _ _ S16 ?_
  clear hK12 K12
  refine h_val 3 rfl (by kernel_rfl) (by kernel_rfl) (by kernel_rfl) (fun _ _ _ h => h) S16 (wants0 rfl) (d := 10) (v := (.bool (validC cn s))) rfl (fun _ H' => (by kernel_rfl)) ?_
  refine (bsplit (validC cn s)).elim (fun b17 => ?_) (fun b17 => ?_)
  · refine h_know 10 (.bool true) (congrArg Value.bool b17) ?_
    refine h_val 4 rfl (by kernel_rfl) (by kernel_rfl) (by kernel_rfl) (fun _ _ _ h => h) S16 (wantsY 3 10 true rfl (by kernel_rfl) rfl (by kernel_rfl)) (d := 11) (v := (.pointer (some ⟨b6, 35, none⟩))) rfl (fun _ H' => (by kernel_rfl)) ?_
    refine h_val 5 rfl (by kernel_rfl) (by kernel_rfl) (by kernel_rfl) (fun _ _ _ h => h) S16 (wantsY 3 10 true rfl (by kernel_rfl) rfl (by kernel_rfl)) (d := 12) (v := (.pointer (some ⟨b6, 35, none⟩))) rfl (fun _ H' => (by kernel_rfl)) ?_
    refine h_val 6 rfl (by kernel_rfl) (by kernel_rfl) (by kernel_rfl) (fun _ _ _ h => h) S16 (wantsY 3 10 true rfl (by kernel_rfl) rfl (by kernel_rfl)) (d := 13) (v := (.int .i64 (s.sb))) rfl (fun _ H' => (e_load1 rfl (by kernel_rfl) (H'.cell 2 rfl (by kernel_rfl)))) ?_
    refine h_val 7 rfl (by kernel_rfl) (by kernel_rfl) (by kernel_rfl) (fun _ _ _ h => h) S16 (wantsY 3 10 true rfl (by kernel_rfl) rfl (by kernel_rfl)) (d := 14) (v := (.pointer (some ⟨b6, 0, none⟩))) rfl (fun _ H' => (by kernel_rfl)) ?_
    refine h_val 8 rfl (by kernel_rfl) (by kernel_rfl) (by kernel_rfl) (fun _ _ _ h => h) S16 (wantsY 3 10 true rfl (by kernel_rfl) rfl (by kernel_rfl)) (d := 15) (v := (.pointer (some ⟨b6, 0, none⟩))) rfl (fun _ H' => (by kernel_rfl)) ?_
    refine h_val 9 rfl (by kernel_rfl) (by kernel_rfl) (by kernel_rfl) (fun _ _ _ h => h) S16 (wantsY 3 10 true rfl (by kernel_rfl) rfl (by kernel_rfl)) (d := 16) (v := (.int .i64 (s.cl))) rfl (fun _ H' => (e_load1 rfl (by kernel_rfl) (H'.cell 2 rfl (by kernel_rfl)))) ?_
    refine h_do 10 rfl (by kernel_rfl) (wantsY 3 10 true rfl (by kernel_rfl) rfl (by kernel_rfl)) (fun K18 hK18 => ?_)
    refine d_call (d := 17) rfl (by kernel_rfl) (wSigner_any w13 s.cl) ?_
    rintro _ w19 ⟨rfl, u21⟩
    have H20 := H14.keepU u21
    refine ⟨_, rfl, ?_⟩
    have S22 := H20.pick [0, 1, 2] (by decide)
    refine hK18 _ _ S22 ?_
    clear hK18 K18
    refine h_val 11 rfl (by kernel_rfl) (by kernel_rfl) (by kernel_rfl) (fun _ _ _ h => h) S22 (wantsY 3 10 true rfl (by kernel_rfl) rfl (by kernel_rfl)) (d := 18) (v := (.bool (decide (s.sb = (IntKind.i64.wrap (1000 + s.cl)))))) rfl (fun _ H' => (by kernel_rfl)) ?_
    refine h_val 12 rfl (by kernel_rfl) (by kernel_rfl) (by kernel_rfl) (fun _ _ _ h => h) S22 (wants0 rfl) (d := 19) (v := (.bool (decide (s.sb = (IntKind.i64.wrap (1000 + s.cl)))))) rfl (fun _ H' => (by kernel_rfl)) ?_
    refine h_val 13 rfl (by kernel_rfl) (by kernel_rfl) (by kernel_rfl) (fun _ _ _ h => h) S22 (wants0 rfl) (d := 20) (v := (.bool (decide (s.sb = (IntKind.i64.wrap (1000 + s.cl)))))) rfl (fun _ H' => (by kernel_rfl)) ?_
    refine (bsplit (decide (s.sb = (IntKind.i64.wrap (1000 + s.cl))))).elim (fun b23 => ?_) (fun b23 => ?_)
    · have g24 := of_decide_eq_true b23
      refine h_know 20 (.bool true) (congrArg Value.bool b23) ?_
      have g25 := of_decide_eq_true b23
      refine h_val 14 rfl (by kernel_rfl) (by kernel_rfl) (by kernel_rfl) (fun _ _ _ h => h) S22 (wantsY 13 20 true rfl (by kernel_rfl) rfl (by kernel_rfl)) (d := 21) (v := (.pointer (some ⟨b, 0, none⟩))) rfl (fun _ H' => (by kernel_rfl)) ?_
      refine h_val 15 rfl (by kernel_rfl) (by kernel_rfl) (by kernel_rfl) (fun _ _ _ h => h) S22 (wantsY 13 20 true rfl (by kernel_rfl) rfl (by kernel_rfl)) (d := 22) (v := (.pointer (some ⟨b6, 35, none⟩))) rfl (fun _ H' => (by kernel_rfl)) ?_
      refine h_val 16 rfl (by kernel_rfl) (by kernel_rfl) (by kernel_rfl) (fun _ _ _ h => h) S22 (wantsY 13 20 true rfl (by kernel_rfl) rfl (by kernel_rfl)) (d := 23) (v := (.agg ⟨([(.int .i64 (s.sb)), (.int .i64 (s.sm))] : List Value)⟩)) rfl (fun _ H' => (e_loadN (vs := ([(.int .i64 (s.sb)), (.int .i64 (s.sm))] : List Value)) rfl (by kernel_rfl) (by kernel_rfl) (by exact Nat.le_of_ble_eq_true (by kernel_rfl)) (H'.at 2 rfl) (by kernel_rfl))) ?_
      refine h_val 17 rfl (by kernel_rfl) (by kernel_rfl) (by kernel_rfl) (fun _ _ _ h => h) S22 (wantsY 13 20 true rfl (by kernel_rfl) rfl (by kernel_rfl)) (d := 24) (v := (.agg ⟨(([(.int .i64 (s.cl)), (.int .i64 (s.seq))] : List Value) ++ hc s.h ++ ([(.int .i64 (s.len)), (.int .i64 (s.sb)), (.int .i64 (s.sm))] : List Value))⟩)) rfl (fun _ H' => (e_loadN (vs := (([(.int .i64 (s.cl)), (.int .i64 (s.seq))] : List Value) ++ hc s.h ++ ([(.int .i64 (s.len)), (.int .i64 (s.sb)), (.int .i64 (s.sm))] : List Value))) rfl (by kernel_rfl) (by kernel_rfl) (by exact Nat.le_of_ble_eq_true (by kernel_rfl)) (H'.at 2 rfl) (by kernel_rfl))) ?_
      refine h_do 18 rfl (by kernel_rfl) (wantsY 13 20 true rfl (by kernel_rfl) rfl (by kernel_rfl)) (fun K26 hK26 => ?_)
      refine d_call (d := 25) rfl (by kernel_rfl) (wCommitText_any w19 s hs) ?_
      rintro _ w27 ⟨u28, rfl, k29, p30, q31⟩
      have H32 : Sat w [restC w (fun _ => False), cellC b2 36 ([(.int .i64 (f)), (.int .i64 (cn))] : List Value), cellC b6 44 (([(.int .i64 (s.cl)), (.int .i64 (s.seq))] : List Value) ++ hc s.h ++ ([(.int .i64 (s.len)), (.int .i64 (s.sb)), (.int .i64 (s.sm))] : List Value)), rowC 5 1 u28 ((commitB s).length) ((commitB s).flatMap encB)] w27 := H20.addU p30 k29 q31
      obtain ⟨a33, c34, rfl⟩ := ownsRow_shape (H32.at 3 rfl)
      refine ⟨_, rfl, ?_⟩
      have S35 := H32.pick [0, 1, 2] (by decide)
      refine hK26 _ _ S35 ?_
      clear hK26 K26
      refine h_do 19 rfl (by kernel_rfl) (wantsY 13 20 true rfl (by kernel_rfl) rfl (by kernel_rfl)) (fun K36 hK36 => ?_)
      refine d_call (d := 26) rfl (by kernel_rfl) (pRightQ_any w27 b mb L (H32.roCk 0 rfl hb (fun _ _ h => h)) (H32.roMap 0 rfl hm (fun h => h)) a33 c34 (commitB s) (ListAt.row (enc := encB) (sz := 1) encB_len (by decide) (H32.at 3 rfl)) s.sb s.sm) ?_
      rintro _ w37 ⟨rfl, u39⟩
      have H38 := H32.keepU u39
      refine ⟨_, rfl, ?_⟩
      have S40 := H38.pick [0, 1, 2] (by decide)
      refine hK36 _ _ S40 ?_
      clear hK36 K36
      refine h_val 20 rfl (by kernel_rfl) (by kernel_rfl) (by kernel_rfl) (fun _ _ _ h => h) S40 (wants0 rfl) (d := 27) (v := (.bool (rightB L s.sb s.sm (commitB s)))) rfl (fun _ H' => (by kernel_rfl)) ?_
      refine h_val 21 rfl (by kernel_rfl) (by kernel_rfl) (by kernel_rfl) (fun _ _ _ h => h) S40 (wants0 rfl) (d := 6) (v := (.bool (rightB L s.sb s.sm (commitB s)))) rfl (fun _ H' => (by kernel_rfl)) ?_
      refine h_fin (by kernel_rfl) ?_
      refine then_normal ?_
      refine w_ret ?_
      refine end1 rfl (res_tmp (v := (.bool (rightB L s.sb s.sm (commitB s)))) rfl) ?_
      exact ⟨by simp [rightC, b17, b23], H38.upd 0 rfl [] (fun _ h => h.elim)⟩
    · have g41 := of_decide_eq_false b23
      refine h_know 20 (.bool false) (congrArg Value.bool b23) ?_
      have g42 := of_decide_eq_false b23
      refine h_pass 14 rfl (by kernel_rfl) (by kernel_rfl) (by kernel_rfl) (fun _ _ _ h => h) S22 (wantsN 13 20 true rfl (by kernel_rfl) rfl (by kernel_rfl)) rfl ?_
      refine h_pass 15 rfl (by kernel_rfl) (by kernel_rfl) (by kernel_rfl) (fun _ _ _ h => h) S22 (wantsN 13 20 true rfl (by kernel_rfl) rfl (by kernel_rfl)) rfl ?_
      refine h_pass 16 rfl (by kernel_rfl) (by kernel_rfl) (by kernel_rfl) (fun _ _ _ h => h) S22 (wantsN 13 20 true rfl (by kernel_rfl) rfl (by kernel_rfl)) rfl ?_
      refine h_pass 17 rfl (by kernel_rfl) (by kernel_rfl) (by kernel_rfl) (fun _ _ _ h => h) S22 (wantsN 13 20 true rfl (by kernel_rfl) rfl (by kernel_rfl)) rfl ?_
      refine h_pass 18 rfl (by kernel_rfl) (by kernel_rfl) (by kernel_rfl) (fun _ _ _ h => h) S22 (wantsN 13 20 true rfl (by kernel_rfl) rfl (by kernel_rfl)) rfl ?_
      refine h_pass 19 rfl (by kernel_rfl) (by kernel_rfl) (by kernel_rfl) (fun _ _ _ h => h) S22 (wantsN 13 20 true rfl (by kernel_rfl) rfl (by kernel_rfl)) rfl ?_
      refine h_val 20 rfl (by kernel_rfl) (by kernel_rfl) (by kernel_rfl) (fun _ _ _ h => h) S22 (wants0 rfl) (d := 27) (v := (.bool false)) rfl (fun _ H' => (by kernel_rfl)) ?_
      refine h_val 21 rfl (by kernel_rfl) (by kernel_rfl) (by kernel_rfl) (fun _ _ _ h => h) S22 (wants0 rfl) (d := 6) (v := (.bool false)) rfl (fun _ H' => (by kernel_rfl)) ?_
      refine h_fin (by kernel_rfl) ?_
      refine then_normal ?_
      refine w_ret ?_
      refine end1 rfl (res_tmp (v := (.bool false)) rfl) ?_
      exact ⟨by simp [rightC, b17, b23], H20.upd 0 rfl [] (fun _ h => h.elim)⟩
  · refine h_know 10 (.bool false) (congrArg Value.bool b17) ?_
    refine h_pass 4 rfl (by kernel_rfl) (by kernel_rfl) (by kernel_rfl) (fun _ _ _ h => h) S16 (wantsN 3 10 true rfl (by kernel_rfl) rfl (by kernel_rfl)) rfl ?_
    refine h_pass 5 rfl (by kernel_rfl) (by kernel_rfl) (by kernel_rfl) (fun _ _ _ h => h) S16 (wantsN 3 10 true rfl (by kernel_rfl) rfl (by kernel_rfl)) rfl ?_
    refine h_pass 6 rfl (by kernel_rfl) (by kernel_rfl) (by kernel_rfl) (fun _ _ _ h => h) S16 (wantsN 3 10 true rfl (by kernel_rfl) rfl (by kernel_rfl)) rfl ?_
    refine h_pass 7 rfl (by kernel_rfl) (by kernel_rfl) (by kernel_rfl) (fun _ _ _ h => h) S16 (wantsN 3 10 true rfl (by kernel_rfl) rfl (by kernel_rfl)) rfl ?_
    refine h_pass 8 rfl (by kernel_rfl) (by kernel_rfl) (by kernel_rfl) (fun _ _ _ h => h) S16 (wantsN 3 10 true rfl (by kernel_rfl) rfl (by kernel_rfl)) rfl ?_
    refine h_pass 9 rfl (by kernel_rfl) (by kernel_rfl) (by kernel_rfl) (fun _ _ _ h => h) S16 (wantsN 3 10 true rfl (by kernel_rfl) rfl (by kernel_rfl)) rfl ?_
    refine h_pass 10 rfl (by kernel_rfl) (by kernel_rfl) (by kernel_rfl) (fun _ _ _ h => h) S16 (wantsN 3 10 true rfl (by kernel_rfl) rfl (by kernel_rfl)) rfl ?_
    refine h_pass 11 rfl (by kernel_rfl) (by kernel_rfl) (by kernel_rfl) (fun _ _ _ h => h) S16 (wantsN 3 10 true rfl (by kernel_rfl) rfl (by kernel_rfl)) rfl ?_
    refine h_val 12 rfl (by kernel_rfl) (by kernel_rfl) (by kernel_rfl) (fun _ _ _ h => h) S16 (wants0 rfl) (d := 19) (v := (.bool false)) rfl (fun _ H' => (by kernel_rfl)) ?_
    refine h_val 13 rfl (by kernel_rfl) (by kernel_rfl) (by kernel_rfl) (fun _ _ _ h => h) S16 (wants0 rfl) (d := 20) (v := (.bool false)) rfl (fun _ H' => (by kernel_rfl)) ?_
    refine h_pass 14 rfl (by kernel_rfl) (by kernel_rfl) (by kernel_rfl) (fun _ _ _ h => h) S16 (wantsN 13 20 true rfl (by kernel_rfl) rfl (by kernel_rfl)) rfl ?_
    refine h_pass 15 rfl (by kernel_rfl) (by kernel_rfl) (by kernel_rfl) (fun _ _ _ h => h) S16 (wantsN 13 20 true rfl (by kernel_rfl) rfl (by kernel_rfl)) rfl ?_
    refine h_pass 16 rfl (by kernel_rfl) (by kernel_rfl) (by kernel_rfl) (fun _ _ _ h => h) S16 (wantsN 13 20 true rfl (by kernel_rfl) rfl (by kernel_rfl)) rfl ?_
    refine h_pass 17 rfl (by kernel_rfl) (by kernel_rfl) (by kernel_rfl) (fun _ _ _ h => h) S16 (wantsN 13 20 true rfl (by kernel_rfl) rfl (by kernel_rfl)) rfl ?_
    refine h_pass 18 rfl (by kernel_rfl) (by kernel_rfl) (by kernel_rfl) (fun _ _ _ h => h) S16 (wantsN 13 20 true rfl (by kernel_rfl) rfl (by kernel_rfl)) rfl ?_
    refine h_pass 19 rfl (by kernel_rfl) (by kernel_rfl) (by kernel_rfl) (fun _ _ _ h => h) S16 (wantsN 13 20 true rfl (by kernel_rfl) rfl (by kernel_rfl)) rfl ?_
    refine h_val 20 rfl (by kernel_rfl) (by kernel_rfl) (by kernel_rfl) (fun _ _ _ h => h) S16 (wants0 rfl) (d := 27) (v := (.bool false)) rfl (fun _ H' => (by kernel_rfl)) ?_
    refine h_val 21 rfl (by kernel_rfl) (by kernel_rfl) (by kernel_rfl) (fun _ _ _ h => h) S16 (wants0 rfl) (d := 6) (v := (.bool false)) rfl (fun _ H' => (by kernel_rfl)) ?_
    refine h_fin (by kernel_rfl) ?_
    refine then_normal ?_
    refine w_ret ?_
    refine end1 rfl (res_tmp (v := (.bool false)) rfl) ?_
    exact ⟨by simp [rightC, b17], H14.upd 0 rfl [] (fun _ h => h.elim)⟩

set_option maxRecDepth 100000 in
set_option maxHeartbeats 1000000 in
theorem rRightC_any (w : World) (f cn : Int) (_hf : -1099511627776 ≤ f ∧ f ≤ 1099511627776) (r : Nat) (ra : Option Addr) (rc : Nat) (L : List Signed) (hb : (cellC r 88 [.slice ra L.length rc]).ok w) (hr : (rowC 120 2 (.slice ra L.length rc) L.length (L.flatMap encS)).ok w) (hn : L.Nodup) (hL : L.length ≤ 1000000) (s : CommitD) (hs : CoOk s) :
    Calls Try.prog 40 #[(.agg ⟨([(.int .i64 (f)), (.int .i64 (cn))] : List Value)⟩), (.pointer (some ⟨r, 0, none⟩)), (.agg ⟨(([(.int .i64 (s.cl)), (.int .i64 (s.seq))] : List Value) ++ hc s.h ++ ([(.int .i64 (s.len)), (.int .i64 (s.sb)), (.int .i64 (s.sm))] : List Value))⟩)] w fun e w' => e = .returned (.bool (rightC cn L s)) ∧ Upd [] w w' := by
  have H := Sat.start0 w
  have hs2 := hs
  unfold CoOk at hs2
  refine calls_fr Try.func40 rfl 28 rfl (Nat.le_of_ble_eq_true rfl) ?_
  refine w_seq ?_
  refine w_lit ?_
  refine wl_do (wants0 rfl) (fun K1 hK1 => ?_)
  refine d_box (vs := ([(.int .i64 (f)), (.int .i64 (cn))] : List Value)) rfl H rfl rfl ?_
  intro b2 w3 (H4 : Sat w [restC w (fun _ => False), cellC b2 36 ([(.int .i64 (f)), (.int .i64 (cn))] : List Value)] w3)
  refine hK1 _ _ ?_
  clear hK1 K1
  refine wl_do (wants0 rfl) (fun K5 hK5 => ?_)
  refine d_box (vs := (([(.int .i64 (s.cl)), (.int .i64 (s.seq))] : List Value) ++ hc s.h ++ ([(.int .i64 (s.len)), (.int .i64 (s.sb)), (.int .i64 (s.sm))] : List Value))) rfl H4 rfl rfl ?_
  intro b6 w7 (H8 : Sat w [restC w (fun _ => False), cellC b2 36 ([(.int .i64 (f)), (.int .i64 (cn))] : List Value), cellC b6 44 (([(.int .i64 (s.cl)), (.int .i64 (s.seq))] : List Value) ++ hc s.h ++ ([(.int .i64 (s.len)), (.int .i64 (s.sb)), (.int .i64 (s.sm))] : List Value))] w7)
  refine hK5 _ _ ?_
  clear hK5 K5
  refine wl_pure (wants0 rfl) (d := 6) (v := (.bool false)) rfl (by kernel_rfl) ?_
  refine w_nil ?_
  refine then_normal ?_
  refine w_seq ?_
  refine h_start H8 [restC w (fun _ => False), cellC b2 36 ([(.int .i64 (f)), (.int .i64 (cn))] : List Value), cellC b6 44 (([(.int .i64 (s.cl)), (.int .i64 (s.seq))] : List Value) ++ hc s.h ++ ([(.int .i64 (s.len)), (.int .i64 (s.sb)), (.int .i64 (s.sm))] : List Value))] 22 rfl (by kernel_rfl) (fun Hx => (Hx.pick [0, 1, 2] (by decide))) ?_
  intro w9 H10 S11
  refine h_val 0 rfl (by kernel_rfl) (by kernel_rfl) (by kernel_rfl) (fun _ _ _ h => h) S11 (wants0 rfl) (d := 7) (v := (.agg ⟨([(.int .i64 (f)), (.int .i64 (cn))] : List Value)⟩)) rfl (fun _ H' => (e_loadN (vs := ([(.int .i64 (f)), (.int .i64 (cn))] : List Value)) rfl (by kernel_rfl) (by kernel_rfl) (by exact Nat.le_of_ble_eq_true (by kernel_rfl)) (H'.at 1 rfl) (by kernel_rfl))) ?_
  refine h_val 1 rfl (by kernel_rfl) (by kernel_rfl) (by kernel_rfl) (fun _ _ _ h => h) S11 (wants0 rfl) (d := 8) (v := (.agg ⟨(([(.int .i64 (s.cl)), (.int .i64 (s.seq))] : List Value) ++ hc s.h ++ ([(.int .i64 (s.len)), (.int .i64 (s.sb)), (.int .i64 (s.sm))] : List Value))⟩)) rfl (fun _ H' => (e_loadN (vs := (([(.int .i64 (s.cl)), (.int .i64 (s.seq))] : List Value) ++ hc s.h ++ ([(.int .i64 (s.len)), (.int .i64 (s.sb)), (.int .i64 (s.sm))] : List Value))) rfl (by kernel_rfl) (by kernel_rfl) (by exact Nat.le_of_ble_eq_true (by kernel_rfl)) (H'.at 2 rfl) (by kernel_rfl))) ?_
  refine h_do 2 rfl (by kernel_rfl) (wants0 rfl) (fun K12 hK12 => ?_)
  refine d_call (d := 9) rfl (by kernel_rfl) (rValid_any w9 f cn s) ?_
  rintro _ w13 ⟨rfl, u15⟩
  have H14 := H10.keepU u15
  refine ⟨_, rfl, ?_⟩
  have S16 := H14.pick [0, 1, 2] (by decide)
  refine hK12 _ _ S16 ?_
  clear hK12 K12
  refine h_val 3 rfl (by kernel_rfl) (by kernel_rfl) (by kernel_rfl) (fun _ _ _ h => h) S16 (wants0 rfl) (d := 10) (v := (.bool (validC cn s))) rfl (fun _ H' => (by kernel_rfl)) ?_
  refine (bsplit (validC cn s)).elim (fun b17 => ?_) (fun b17 => ?_)
  · refine h_know 10 (.bool true) (congrArg Value.bool b17) ?_
    refine h_val 4 rfl (by kernel_rfl) (by kernel_rfl) (by kernel_rfl) (fun _ _ _ h => h) S16 (wantsY 3 10 true rfl (by kernel_rfl) rfl (by kernel_rfl)) (d := 11) (v := (.pointer (some ⟨b6, 35, none⟩))) rfl (fun _ H' => (by kernel_rfl)) ?_
    refine h_val 5 rfl (by kernel_rfl) (by kernel_rfl) (by kernel_rfl) (fun _ _ _ h => h) S16 (wantsY 3 10 true rfl (by kernel_rfl) rfl (by kernel_rfl)) (d := 12) (v := (.pointer (some ⟨b6, 35, none⟩))) rfl (fun _ H' => (by kernel_rfl)) ?_
    refine h_val 6 rfl (by kernel_rfl) (by kernel_rfl) (by kernel_rfl) (fun _ _ _ h => h) S16 (wantsY 3 10 true rfl (by kernel_rfl) rfl (by kernel_rfl)) (d := 13) (v := (.int .i64 (s.sb))) rfl (fun _ H' => (e_load1 rfl (by kernel_rfl) (H'.cell 2 rfl (by kernel_rfl)))) ?_
    refine h_val 7 rfl (by kernel_rfl) (by kernel_rfl) (by kernel_rfl) (fun _ _ _ h => h) S16 (wantsY 3 10 true rfl (by kernel_rfl) rfl (by kernel_rfl)) (d := 14) (v := (.pointer (some ⟨b6, 0, none⟩))) rfl (fun _ H' => (by kernel_rfl)) ?_
    refine h_val 8 rfl (by kernel_rfl) (by kernel_rfl) (by kernel_rfl) (fun _ _ _ h => h) S16 (wantsY 3 10 true rfl (by kernel_rfl) rfl (by kernel_rfl)) (d := 15) (v := (.pointer (some ⟨b6, 0, none⟩))) rfl (fun _ H' => (by kernel_rfl)) ?_
    refine h_val 9 rfl (by kernel_rfl) (by kernel_rfl) (by kernel_rfl) (fun _ _ _ h => h) S16 (wantsY 3 10 true rfl (by kernel_rfl) rfl (by kernel_rfl)) (d := 16) (v := (.int .i64 (s.cl))) rfl (fun _ H' => (e_load1 rfl (by kernel_rfl) (H'.cell 2 rfl (by kernel_rfl)))) ?_
    refine h_val 10 rfl (by kernel_rfl) (by kernel_rfl) (by kernel_rfl) (fun _ _ _ h => h) S16 (wantsY 3 10 true rfl (by kernel_rfl) rfl (by kernel_rfl)) (d := 17) (v := (.int .i64 (IntKind.i64.wrap (1000 + s.cl)))) rfl (fun _ H' => (by kernel_rfl)) ?_
    refine h_val 11 rfl (by kernel_rfl) (by kernel_rfl) (by kernel_rfl) (fun _ _ _ h => h) S16 (wantsY 3 10 true rfl (by kernel_rfl) rfl (by kernel_rfl)) (d := 18) (v := (.bool (decide (s.sb = (IntKind.i64.wrap (1000 + s.cl)))))) rfl (fun _ H' => (by kernel_rfl)) ?_
    refine h_val 12 rfl (by kernel_rfl) (by kernel_rfl) (by kernel_rfl) (fun _ _ _ h => h) S16 (wants0 rfl) (d := 19) (v := (.bool (decide (s.sb = (IntKind.i64.wrap (1000 + s.cl)))))) rfl (fun _ H' => (by kernel_rfl)) ?_
    refine h_val 13 rfl (by kernel_rfl) (by kernel_rfl) (by kernel_rfl) (fun _ _ _ h => h) S16 (wants0 rfl) (d := 20) (v := (.bool (decide (s.sb = (IntKind.i64.wrap (1000 + s.cl)))))) rfl (fun _ H' => (by kernel_rfl)) ?_
    refine (bsplit (decide (s.sb = (IntKind.i64.wrap (1000 + s.cl))))).elim (fun b18 => ?_) (fun b18 => ?_)
    · have g19 := of_decide_eq_true b18
      refine h_know 20 (.bool true) (congrArg Value.bool b18) ?_
      have g20 := of_decide_eq_true b18
      refine h_val 14 rfl (by kernel_rfl) (by kernel_rfl) (by kernel_rfl) (fun _ _ _ h => h) S16 (wantsY 13 20 true rfl (by kernel_rfl) rfl (by kernel_rfl)) (d := 21) (v := (.pointer (some ⟨r, 0, none⟩))) rfl (fun _ H' => (by kernel_rfl)) ?_
      refine h_val 15 rfl (by kernel_rfl) (by kernel_rfl) (by kernel_rfl) (fun _ _ _ h => h) S16 (wantsY 13 20 true rfl (by kernel_rfl) rfl (by kernel_rfl)) (d := 22) (v := (.pointer (some ⟨b6, 35, none⟩))) rfl (fun _ H' => (by kernel_rfl)) ?_
      refine h_val 16 rfl (by kernel_rfl) (by kernel_rfl) (by kernel_rfl) (fun _ _ _ h => h) S16 (wantsY 13 20 true rfl (by kernel_rfl) rfl (by kernel_rfl)) (d := 23) (v := (.agg ⟨([(.int .i64 (s.sb)), (.int .i64 (s.sm))] : List Value)⟩)) rfl (fun _ H' => (e_loadN (vs := ([(.int .i64 (s.sb)), (.int .i64 (s.sm))] : List Value)) rfl (by kernel_rfl) (by kernel_rfl) (by exact Nat.le_of_ble_eq_true (by kernel_rfl)) (H'.at 2 rfl) (by kernel_rfl))) ?_
      refine h_val 17 rfl (by kernel_rfl) (by kernel_rfl) (by kernel_rfl) (fun _ _ _ h => h) S16 (wantsY 13 20 true rfl (by kernel_rfl) rfl (by kernel_rfl)) (d := 24) (v := (.agg ⟨(([(.int .i64 (s.cl)), (.int .i64 (s.seq))] : List Value) ++ hc s.h ++ ([(.int .i64 (s.len)), (.int .i64 (s.sb)), (.int .i64 (s.sm))] : List Value))⟩)) rfl (fun _ H' => (e_loadN (vs := (([(.int .i64 (s.cl)), (.int .i64 (s.seq))] : List Value) ++ hc s.h ++ ([(.int .i64 (s.len)), (.int .i64 (s.sb)), (.int .i64 (s.sm))] : List Value))) rfl (by kernel_rfl) (by kernel_rfl) (by exact Nat.le_of_ble_eq_true (by kernel_rfl)) (H'.at 2 rfl) (by kernel_rfl))) ?_
      refine h_do 18 rfl (by kernel_rfl) (wantsY 13 20 true rfl (by kernel_rfl) rfl (by kernel_rfl)) (fun K21 hK21 => ?_)
      refine d_call (d := 25) rfl (by kernel_rfl) (rCommitText_any w13 s hs) ?_
      rintro _ w22 ⟨u23, rfl, k24, p25, q26⟩
      have H27 : Sat w [restC w (fun _ => False), cellC b2 36 ([(.int .i64 (f)), (.int .i64 (cn))] : List Value), cellC b6 44 (([(.int .i64 (s.cl)), (.int .i64 (s.seq))] : List Value) ++ hc s.h ++ ([(.int .i64 (s.len)), (.int .i64 (s.sb)), (.int .i64 (s.sm))] : List Value)), rowC 5 1 u23 ((commitB s).length) ((commitB s).flatMap encB)] w22 := H14.addU p25 k24 q26
      obtain ⟨a28, c29, rfl⟩ := ownsRow_shape (H27.at 3 rfl)
      refine ⟨_, rfl, ?_⟩
      have S30 := H27.pick [0, 1, 2] (by decide)
      refine hK21 _ _ S30 ?_
      clear hK21 K21
      refine h_do 19 rfl (by kernel_rfl) (wantsY 13 20 true rfl (by kernel_rfl) rfl (by kernel_rfl)) (fun K31 hK31 => ?_)
      refine d_call (d := 26) rfl (by kernel_rfl) (rRightQ_any w22 r ra rc L (H27.roCk 0 rfl hb (fun _ _ h => h)) (H27.roCk 0 rfl hr (fun _ _ h => h)) hn hL a28 c29 (commitB s) (ListAt.row (enc := encB) (sz := 1) encB_len (by decide) (H27.at 3 rfl)) s.sb s.sm) ?_
      rintro _ w32 ⟨rfl, u34⟩
      have H33 := H27.keepU u34
      refine ⟨_, rfl, ?_⟩
      have S35 := H33.pick [0, 1, 2] (by decide)
      refine hK31 _ _ S35 ?_
      clear hK31 K31
      refine h_val 20 rfl (by kernel_rfl) (by kernel_rfl) (by kernel_rfl) (fun _ _ _ h => h) S35 (wants0 rfl) (d := 27) (v := (.bool (rightB L s.sb s.sm (commitB s)))) rfl (fun _ H' => (by kernel_rfl)) ?_
      refine h_val 21 rfl (by kernel_rfl) (by kernel_rfl) (by kernel_rfl) (fun _ _ _ h => h) S35 (wants0 rfl) (d := 6) (v := (.bool (rightB L s.sb s.sm (commitB s)))) rfl (fun _ H' => (by kernel_rfl)) ?_
      refine h_fin (by kernel_rfl) ?_
      refine then_normal ?_
      refine w_ret ?_
      refine end1 rfl (res_tmp (v := (.bool (rightB L s.sb s.sm (commitB s)))) rfl) ?_
      exact ⟨by simp [rightC, b17, b18], H33.upd 0 rfl [] (fun _ h => h.elim)⟩
    · have g36 := of_decide_eq_false b18
      refine h_know 20 (.bool false) (congrArg Value.bool b18) ?_
      have g37 := of_decide_eq_false b18
      refine h_pass 14 rfl (by kernel_rfl) (by kernel_rfl) (by kernel_rfl) (fun _ _ _ h => h) S16 (wantsN 13 20 true rfl (by kernel_rfl) rfl (by kernel_rfl)) rfl ?_
      refine h_pass 15 rfl (by kernel_rfl) (by kernel_rfl) (by kernel_rfl) (fun _ _ _ h => h) S16 (wantsN 13 20 true rfl (by kernel_rfl) rfl (by kernel_rfl)) rfl ?_
      refine h_pass 16 rfl (by kernel_rfl) (by kernel_rfl) (by kernel_rfl) (fun _ _ _ h => h) S16 (wantsN 13 20 true rfl (by kernel_rfl) rfl (by kernel_rfl)) rfl ?_
      refine h_pass 17 rfl (by kernel_rfl) (by kernel_rfl) (by kernel_rfl) (fun _ _ _ h => h) S16 (wantsN 13 20 true rfl (by kernel_rfl) rfl (by kernel_rfl)) rfl ?_
      refine h_pass 18 rfl (by kernel_rfl) (by kernel_rfl) (by kernel_rfl) (fun _ _ _ h => h) S16 (wantsN 13 20 true rfl (by kernel_rfl) rfl (by kernel_rfl)) rfl ?_
      refine h_pass 19 rfl (by kernel_rfl) (by kernel_rfl) (by kernel_rfl) (fun _ _ _ h => h) S16 (wantsN 13 20 true rfl (by kernel_rfl) rfl (by kernel_rfl)) rfl ?_
      refine h_val 20 rfl (by kernel_rfl) (by kernel_rfl) (by kernel_rfl) (fun _ _ _ h => h) S16 (wants0 rfl) (d := 27) (v := (.bool false)) rfl (fun _ H' => (by kernel_rfl)) ?_
      refine h_val 21 rfl (by kernel_rfl) (by kernel_rfl) (by kernel_rfl) (fun _ _ _ h => h) S16 (wants0 rfl) (d := 6) (v := (.bool false)) rfl (fun _ H' => (by kernel_rfl)) ?_
      refine h_fin (by kernel_rfl) ?_
      refine then_normal ?_
      refine w_ret ?_
      refine end1 rfl (res_tmp (v := (.bool false)) rfl) ?_
      exact ⟨by simp [rightC, b17, b18], H14.upd 0 rfl [] (fun _ h => h.elim)⟩
  · refine h_know 10 (.bool false) (congrArg Value.bool b17) ?_
    refine h_pass 4 rfl (by kernel_rfl) (by kernel_rfl) (by kernel_rfl) (fun _ _ _ h => h) S16 (wantsN 3 10 true rfl (by kernel_rfl) rfl (by kernel_rfl)) rfl ?_
    refine h_pass 5 rfl (by kernel_rfl) (by kernel_rfl) (by kernel_rfl) (fun _ _ _ h => h) S16 (wantsN 3 10 true rfl (by kernel_rfl) rfl (by kernel_rfl)) rfl ?_
    refine h_pass 6 rfl (by kernel_rfl) (by kernel_rfl) (by kernel_rfl) (fun _ _ _ h => h) S16 (wantsN 3 10 true rfl (by kernel_rfl) rfl (by kernel_rfl)) rfl ?_
    refine h_pass 7 rfl (by kernel_rfl) (by kernel_rfl) (by kernel_rfl) (fun _ _ _ h => h) S16 (wantsN 3 10 true rfl (by kernel_rfl) rfl (by kernel_rfl)) rfl ?_
    refine h_pass 8 rfl (by kernel_rfl) (by kernel_rfl) (by kernel_rfl) (fun _ _ _ h => h) S16 (wantsN 3 10 true rfl (by kernel_rfl) rfl (by kernel_rfl)) rfl ?_
    refine h_pass 9 rfl (by kernel_rfl) (by kernel_rfl) (by kernel_rfl) (fun _ _ _ h => h) S16 (wantsN 3 10 true rfl (by kernel_rfl) rfl (by kernel_rfl)) rfl ?_
    refine h_pass 10 rfl (by kernel_rfl) (by kernel_rfl) (by kernel_rfl) (fun _ _ _ h => h) S16 (wantsN 3 10 true rfl (by kernel_rfl) rfl (by kernel_rfl)) rfl ?_
    refine h_pass 11 rfl (by kernel_rfl) (by kernel_rfl) (by kernel_rfl) (fun _ _ _ h => h) S16 (wantsN 3 10 true rfl (by kernel_rfl) rfl (by kernel_rfl)) rfl ?_
    refine h_val 12 rfl (by kernel_rfl) (by kernel_rfl) (by kernel_rfl) (fun _ _ _ h => h) S16 (wants0 rfl) (d := 19) (v := (.bool false)) rfl (fun _ H' => (by kernel_rfl)) ?_
    refine h_val 13 rfl (by kernel_rfl) (by kernel_rfl) (by kernel_rfl) (fun _ _ _ h => h) S16 (wants0 rfl) (d := 20) (v := (.bool false)) rfl (fun _ H' => (by kernel_rfl)) ?_
    refine h_pass 14 rfl (by kernel_rfl) (by kernel_rfl) (by kernel_rfl) (fun _ _ _ h => h) S16 (wantsN 13 20 true rfl (by kernel_rfl) rfl (by kernel_rfl)) rfl ?_
    refine h_pass 15 rfl (by kernel_rfl) (by kernel_rfl) (by kernel_rfl) (fun _ _ _ h => h) S16 (wantsN 13 20 true rfl (by kernel_rfl) rfl (by kernel_rfl)) rfl ?_
    refine h_pass 16 rfl (by kernel_rfl) (by kernel_rfl) (by kernel_rfl) (fun _ _ _ h => h) S16 (wantsN 13 20 true rfl (by kernel_rfl) rfl (by kernel_rfl)) rfl ?_
    refine h_pass 17 rfl (by kernel_rfl) (by kernel_rfl) (by kernel_rfl) (fun _ _ _ h => h) S16 (wantsN 13 20 true rfl (by kernel_rfl) rfl (by kernel_rfl)) rfl ?_
    refine h_pass 18 rfl (by kernel_rfl) (by kernel_rfl) (by kernel_rfl) (fun _ _ _ h => h) S16 (wantsN 13 20 true rfl (by kernel_rfl) rfl (by kernel_rfl)) rfl ?_
    refine h_pass 19 rfl (by kernel_rfl) (by kernel_rfl) (by kernel_rfl) (fun _ _ _ h => h) S16 (wantsN 13 20 true rfl (by kernel_rfl) rfl (by kernel_rfl)) rfl ?_
    refine h_val 20 rfl (by kernel_rfl) (by kernel_rfl) (by kernel_rfl) (fun _ _ _ h => h) S16 (wants0 rfl) (d := 27) (v := (.bool false)) rfl (fun _ H' => (by kernel_rfl)) ?_
    refine h_val 21 rfl (by kernel_rfl) (by kernel_rfl) (by kernel_rfl) (fun _ _ _ h => h) S16 (wants0 rfl) (d := 6) (v := (.bool false)) rfl (fun _ H' => (by kernel_rfl)) ?_
    refine h_fin (by kernel_rfl) ?_
    refine then_normal ?_
    refine w_ret ?_
    refine end1 rfl (res_tmp (v := (.bool false)) rfl) ?_
    exact ⟨by simp [rightC, b17], H14.upd 0 rfl [] (fun _ h => h.elim)⟩

set_option maxRecDepth 100000 in
set_option maxHeartbeats 1000000 in
theorem wRightS_any (w : World) (f cn : Int) (hf : -1099511627776 ≤ f ∧ f ≤ 1099511627776) (b mb : Nat) (L : List Signed) (hb : (cellC b 107 [.map (some mb)]).ok w) (hm : MapAt w mb signedV (Value.int .i64) (marks L)) (s : StampD) (hs : StOk s) :
    Calls Try.prog 24 #[(.agg ⟨([(.int .i64 (f)), (.int .i64 (cn))] : List Value)⟩), (.pointer (some ⟨b, 0, none⟩)), (.agg ⟨(([(.int .i64 (s.r)), (.int .i64 (s.cl)), (.int .i64 (s.seq))] : List Value) ++ hc s.h ++ ([(.int .u64 (s.t)), (.int .i64 (s.sb)), (.int .i64 (s.sm))] : List Value))⟩)] w fun e w' => e = .returned (.bool (rightS f L s)) ∧ Upd [] w w' := by
  have H := Sat.start0 w
  have hs2 := hs
  unfold StOk at hs2
  refine calls_fr Try.func24 rfl 37 rfl (Nat.le_of_ble_eq_true rfl) ?_
  refine w_seq ?_
  refine w_lit ?_
  refine wl_do (wants0 rfl) (fun K1 hK1 => ?_)
  refine d_box (vs := ([(.int .i64 (f)), (.int .i64 (cn))] : List Value)) rfl H rfl rfl ?_
  intro b2 w3 (H4 : Sat w [restC w (fun _ => False), cellC b2 36 ([(.int .i64 (f)), (.int .i64 (cn))] : List Value)] w3)
  refine hK1 _ _ ?_
  clear hK1 K1
  refine wl_do (wants0 rfl) (fun K5 hK5 => ?_)
  refine d_box (vs := (([(.int .i64 (s.r)), (.int .i64 (s.cl)), (.int .i64 (s.seq))] : List Value) ++ hc s.h ++ ([(.int .u64 (s.t)), (.int .i64 (s.sb)), (.int .i64 (s.sm))] : List Value))) rfl H4 rfl rfl ?_
  intro b6 w7 (H8 : Sat w [restC w (fun _ => False), cellC b2 36 ([(.int .i64 (f)), (.int .i64 (cn))] : List Value), cellC b6 49 (([(.int .i64 (s.r)), (.int .i64 (s.cl)), (.int .i64 (s.seq))] : List Value) ++ hc s.h ++ ([(.int .u64 (s.t)), (.int .i64 (s.sb)), (.int .i64 (s.sm))] : List Value))] w7)
  refine hK5 _ _ ?_
  clear hK5 K5
  refine wl_pure (wants0 rfl) (d := 6) (v := (.bool false)) rfl (by kernel_rfl) ?_
  refine w_nil ?_
  refine then_normal ?_
  refine w_seq ?_
  refine h_start H8 [restC w (fun _ => False), cellC b2 36 ([(.int .i64 (f)), (.int .i64 (cn))] : List Value), cellC b6 49 (([(.int .i64 (s.r)), (.int .i64 (s.cl)), (.int .i64 (s.seq))] : List Value) ++ hc s.h ++ ([(.int .u64 (s.t)), (.int .i64 (s.sb)), (.int .i64 (s.sm))] : List Value))] 31 rfl (by kernel_rfl) (fun Hx => (Hx.pick [0, 1, 2] (by decide))) ?_
  intro w9 H10 S11
  refine h_val 0 rfl (by kernel_rfl) (by kernel_rfl) (by kernel_rfl) (fun _ _ _ h => h) S11 (wants0 rfl) (d := 7) (v := (.agg ⟨([(.int .i64 (f)), (.int .i64 (cn))] : List Value)⟩)) rfl (fun _ H' => (e_loadN (vs := ([(.int .i64 (f)), (.int .i64 (cn))] : List Value)) rfl (by kernel_rfl) (by kernel_rfl) (by exact Nat.le_of_ble_eq_true (by kernel_rfl)) (H'.at 1 rfl) (by kernel_rfl))) ?_
  refine h_val 1 rfl (by kernel_rfl) (by kernel_rfl) (by kernel_rfl) (fun _ _ _ h => h) S11 (wants0 rfl) (d := 8) (v := (.pointer (some ⟨b6, 0, none⟩))) rfl (fun _ H' => (by kernel_rfl)) ?_
  refine h_val 2 rfl (by kernel_rfl) (by kernel_rfl) (by kernel_rfl) (fun _ _ _ h => h) S11 (wants0 rfl) (d := 9) (v := (.int .i64 (s.r))) rfl (fun _ H' => (e_load1 rfl (by kernel_rfl) (H'.cell 2 rfl (by kernel_rfl)))) ?_
  refine h_do 3 rfl (by kernel_rfl) (wants0 rfl) (fun K12 hK12 => ?_)
  refine d_call (d := 10) rfl (by kernel_rfl) (wIn_any w9 f cn s.r (by omega)) ?_
  rintro _ w13 ⟨rfl, u15⟩
  have H14 := H10.keepU u15
  refine ⟨_, rfl, ?_⟩
  have S16 := H14.pick [0, 1, 2] (by decide)
  refine hK12 _ _ S16 ?_
  clear hK12 K12
  refine h_val 4 rfl (by kernel_rfl) (by kernel_rfl) (by kernel_rfl) (fun _ _ _ h => h) S16 (wants0 rfl) (d := 11) (v := (.bool (inB f s.r))) rfl (fun _ H' => (by kernel_rfl)) ?_
  refine (bsplit (inB f s.r)).elim (fun b17 => ?_) (fun b17 => ?_)
  · refine h_know 11 (.bool true) (congrArg Value.bool b17) ?_
    refine h_val 5 rfl (by kernel_rfl) (by kernel_rfl) (by kernel_rfl) (fun _ _ _ h => h) S16 (wantsY 4 11 true rfl (by kernel_rfl) rfl (by kernel_rfl)) (d := 12) (v := (.pointer (some ⟨b6, 35, none⟩))) rfl (fun _ H' => (by kernel_rfl)) ?_
    refine h_val 6 rfl (by kernel_rfl) (by kernel_rfl) (by kernel_rfl) (fun _ _ _ h => h) S16 (wantsY 4 11 true rfl (by kernel_rfl) rfl (by kernel_rfl)) (d := 13) (v := (.int .u64 (s.t))) rfl (fun _ H' => (e_load1 rfl (by kernel_rfl) (H'.cell 2 rfl (by kernel_rfl)))) ?_
    refine h_val 7 rfl (by kernel_rfl) (by kernel_rfl) (by kernel_rfl) (fun _ _ _ h => h) S16 (wantsY 4 11 true rfl (by kernel_rfl) rfl (by kernel_rfl)) (d := 14) (v := (.bool (decide (s.t ≥ 1)))) rfl (fun _ H' => (by kernel_rfl)) ?_
    refine h_val 8 rfl (by kernel_rfl) (by kernel_rfl) (by kernel_rfl) (fun _ _ _ h => h) S16 (wants0 rfl) (d := 15) (v := (.bool (decide (s.t ≥ 1)))) rfl (fun _ H' => (by kernel_rfl)) ?_
    refine h_val 9 rfl (by kernel_rfl) (by kernel_rfl) (by kernel_rfl) (fun _ _ _ h => h) S16 (wants0 rfl) (d := 16) (v := (.bool (decide (s.t ≥ 1)))) rfl (fun _ H' => (by kernel_rfl)) ?_
    refine (bsplit (decide (s.t ≥ 1))).elim (fun b18 => ?_) (fun b18 => ?_)
    · have g19 := of_decide_eq_true b18
      refine h_know 16 (.bool true) (congrArg Value.bool b18) ?_
      have g20 := of_decide_eq_true b18
      refine h_val 10 rfl (by kernel_rfl) (by kernel_rfl) (by kernel_rfl) (fun _ _ _ h => h) S16 (wantsY 9 16 true rfl (by kernel_rfl) rfl (by kernel_rfl)) (d := 17) (v := (.pointer (some ⟨b6, 35, none⟩))) rfl (fun _ H' => (by kernel_rfl)) ?_
      refine h_val 11 rfl (by kernel_rfl) (by kernel_rfl) (by kernel_rfl) (fun _ _ _ h => h) S16 (wantsY 9 16 true rfl (by kernel_rfl) rfl (by kernel_rfl)) (d := 18) (v := (.int .u64 (s.t))) rfl (fun _ H' => (e_load1 rfl (by kernel_rfl) (H'.cell 2 rfl (by kernel_rfl)))) ?_
      refine h_val 12 rfl (by kernel_rfl) (by kernel_rfl) (by kernel_rfl) (fun _ _ _ h => h) S16 (wantsY 9 16 true rfl (by kernel_rfl) rfl (by kernel_rfl)) (d := 19) (v := (.bool (decide (s.t < 18446744073709551615)))) rfl (fun _ H' => (by kernel_rfl)) ?_
      refine h_val 13 rfl (by kernel_rfl) (by kernel_rfl) (by kernel_rfl) (fun _ _ _ h => h) S16 (wants0 rfl) (d := 20) (v := (.bool (decide (s.t < 18446744073709551615)))) rfl (fun _ H' => (by kernel_rfl)) ?_
      refine h_val 14 rfl (by kernel_rfl) (by kernel_rfl) (by kernel_rfl) (fun _ _ _ h => h) S16 (wants0 rfl) (d := 21) (v := (.bool (decide (s.t < 18446744073709551615)))) rfl (fun _ H' => (by kernel_rfl)) ?_
      refine (bsplit (decide (s.t < 18446744073709551615))).elim (fun b21 => ?_) (fun b21 => ?_)
      · have g22 := of_decide_eq_true b21
        refine h_know 21 (.bool true) (congrArg Value.bool b21) ?_
        have g23 := of_decide_eq_true b21
        refine h_val 15 rfl (by kernel_rfl) (by kernel_rfl) (by kernel_rfl) (fun _ _ _ h => h) S16 (wantsY 14 21 true rfl (by kernel_rfl) rfl (by kernel_rfl)) (d := 22) (v := (.pointer (some ⟨b6, 36, none⟩))) rfl (fun _ H' => (by kernel_rfl)) ?_
        refine h_val 16 rfl (by kernel_rfl) (by kernel_rfl) (by kernel_rfl) (fun _ _ _ h => h) S16 (wantsY 14 21 true rfl (by kernel_rfl) rfl (by kernel_rfl)) (d := 23) (v := (.pointer (some ⟨b6, 36, none⟩))) rfl (fun _ H' => (by kernel_rfl)) ?_
        refine h_val 17 rfl (by kernel_rfl) (by kernel_rfl) (by kernel_rfl) (fun _ _ _ h => h) S16 (wantsY 14 21 true rfl (by kernel_rfl) rfl (by kernel_rfl)) (d := 24) (v := (.int .i64 (s.sb))) rfl (fun _ H' => (e_load1 rfl (by kernel_rfl) (H'.cell 2 rfl (by kernel_rfl)))) ?_
        refine h_val 18 rfl (by kernel_rfl) (by kernel_rfl) (by kernel_rfl) (fun _ _ _ h => h) S16 (wantsY 14 21 true rfl (by kernel_rfl) rfl (by kernel_rfl)) (d := 25) (v := (.pointer (some ⟨b6, 0, none⟩))) rfl (fun _ H' => (by kernel_rfl)) ?_
        refine h_val 19 rfl (by kernel_rfl) (by kernel_rfl) (by kernel_rfl) (fun _ _ _ h => h) S16 (wantsY 14 21 true rfl (by kernel_rfl) rfl (by kernel_rfl)) (d := 26) (v := (.int .i64 (s.r))) rfl (fun _ H' => (e_load1 rfl (by kernel_rfl) (H'.cell 2 rfl (by kernel_rfl)))) ?_
        refine h_val 20 rfl (by kernel_rfl) (by kernel_rfl) (by kernel_rfl) (fun _ _ _ h => h) S16 (wantsY 14 21 true rfl (by kernel_rfl) rfl (by kernel_rfl)) (d := 27) (v := (.bool (decide (s.sb = s.r)))) rfl (fun _ H' => (by kernel_rfl)) ?_
        refine h_val 21 rfl (by kernel_rfl) (by kernel_rfl) (by kernel_rfl) (fun _ _ _ h => h) S16 (wants0 rfl) (d := 28) (v := (.bool (decide (s.sb = s.r)))) rfl (fun _ H' => (by kernel_rfl)) ?_
        refine h_val 22 rfl (by kernel_rfl) (by kernel_rfl) (by kernel_rfl) (fun _ _ _ h => h) S16 (wants0 rfl) (d := 29) (v := (.bool (decide (s.sb = s.r)))) rfl (fun _ H' => (by kernel_rfl)) ?_
        refine (bsplit (decide (s.sb = s.r))).elim (fun b24 => ?_) (fun b24 => ?_)
        · have g25 := of_decide_eq_true b24
          refine h_know 29 (.bool true) (congrArg Value.bool b24) ?_
          have g26 := of_decide_eq_true b24
          refine h_val 23 rfl (by kernel_rfl) (by kernel_rfl) (by kernel_rfl) (fun _ _ _ h => h) S16 (wantsY 22 29 true rfl (by kernel_rfl) rfl (by kernel_rfl)) (d := 30) (v := (.pointer (some ⟨b, 0, none⟩))) rfl (fun _ H' => (by kernel_rfl)) ?_
          refine h_val 24 rfl (by kernel_rfl) (by kernel_rfl) (by kernel_rfl) (fun _ _ _ h => h) S16 (wantsY 22 29 true rfl (by kernel_rfl) rfl (by kernel_rfl)) (d := 31) (v := (.pointer (some ⟨b6, 36, none⟩))) rfl (fun _ H' => (by kernel_rfl)) ?_
          refine h_val 25 rfl (by kernel_rfl) (by kernel_rfl) (by kernel_rfl) (fun _ _ _ h => h) S16 (wantsY 22 29 true rfl (by kernel_rfl) rfl (by kernel_rfl)) (d := 32) (v := (.agg ⟨([(.int .i64 (s.sb)), (.int .i64 (s.sm))] : List Value)⟩)) rfl (fun _ H' => (e_loadN (vs := ([(.int .i64 (s.sb)), (.int .i64 (s.sm))] : List Value)) rfl (by kernel_rfl) (by kernel_rfl) (by exact Nat.le_of_ble_eq_true (by kernel_rfl)) (H'.at 2 rfl) (by kernel_rfl))) ?_
          refine h_val 26 rfl (by kernel_rfl) (by kernel_rfl) (by kernel_rfl) (fun _ _ _ h => h) S16 (wantsY 22 29 true rfl (by kernel_rfl) rfl (by kernel_rfl)) (d := 33) (v := (.agg ⟨(([(.int .i64 (s.r)), (.int .i64 (s.cl)), (.int .i64 (s.seq))] : List Value) ++ hc s.h ++ ([(.int .u64 (s.t)), (.int .i64 (s.sb)), (.int .i64 (s.sm))] : List Value))⟩)) rfl (fun _ H' => (e_loadN (vs := (([(.int .i64 (s.r)), (.int .i64 (s.cl)), (.int .i64 (s.seq))] : List Value) ++ hc s.h ++ ([(.int .u64 (s.t)), (.int .i64 (s.sb)), (.int .i64 (s.sm))] : List Value))) rfl (by kernel_rfl) (by kernel_rfl) (by exact Nat.le_of_ble_eq_true (by kernel_rfl)) (H'.at 2 rfl) (by kernel_rfl))) ?_
          refine h_do 27 rfl (by kernel_rfl) (wantsY 22 29 true rfl (by kernel_rfl) rfl (by kernel_rfl)) (fun K27 hK27 => ?_)
          refine d_call (d := 34) rfl (by kernel_rfl) (wStampText_any w13 s hs) ?_
          rintro _ w28 ⟨u29, rfl, k30, p31, q32⟩
          have H33 : Sat w [restC w (fun _ => False), cellC b2 36 ([(.int .i64 (f)), (.int .i64 (cn))] : List Value), cellC b6 49 (([(.int .i64 (s.r)), (.int .i64 (s.cl)), (.int .i64 (s.seq))] : List Value) ++ hc s.h ++ ([(.int .u64 (s.t)), (.int .i64 (s.sb)), (.int .i64 (s.sm))] : List Value)), rowC 5 1 u29 ((stampB s).length) ((stampB s).flatMap encB)] w28 := H14.addU p31 k30 q32
          obtain ⟨a34, c35, rfl⟩ := ownsRow_shape (H33.at 3 rfl)
          refine ⟨_, rfl, ?_⟩
          have S36 := H33.pick [0, 1, 2] (by decide)
          refine hK27 _ _ S36 ?_
          clear hK27 K27
          refine h_do 28 rfl (by kernel_rfl) (wantsY 22 29 true rfl (by kernel_rfl) rfl (by kernel_rfl)) (fun K37 hK37 => ?_)
          refine d_call (d := 35) rfl (by kernel_rfl) (pRightQ_any w28 b mb L (H33.roCk 0 rfl hb (fun _ _ h => h)) (H33.roMap 0 rfl hm (fun h => h)) a34 c35 (stampB s) (ListAt.row (enc := encB) (sz := 1) encB_len (by decide) (H33.at 3 rfl)) s.sb s.sm) ?_
          rintro _ w38 ⟨rfl, u40⟩
          have H39 := H33.keepU u40
          refine ⟨_, rfl, ?_⟩
          have S41 := H39.pick [0, 1, 2] (by decide)
          refine hK37 _ _ S41 ?_
          clear hK37 K37
          refine h_val 29 rfl (by kernel_rfl) (by kernel_rfl) (by kernel_rfl) (fun _ _ _ h => h) S41 (wants0 rfl) (d := 36) (v := (.bool (rightB L s.sb s.sm (stampB s)))) rfl (fun _ H' => (by kernel_rfl)) ?_
          refine h_val 30 rfl (by kernel_rfl) (by kernel_rfl) (by kernel_rfl) (fun _ _ _ h => h) S41 (wants0 rfl) (d := 6) (v := (.bool (rightB L s.sb s.sm (stampB s)))) rfl (fun _ H' => (by kernel_rfl)) ?_
          refine h_fin (by kernel_rfl) ?_
          refine then_normal ?_
          refine w_ret ?_
          refine end1 rfl (res_tmp (v := (.bool (rightB L s.sb s.sm (stampB s)))) rfl) ?_
          exact ⟨by simp [rightS, b17, b18, b21, b24], H39.upd 0 rfl [] (fun _ h => h.elim)⟩
        · have g42 := of_decide_eq_false b24
          refine h_know 29 (.bool false) (congrArg Value.bool b24) ?_
          have g43 := of_decide_eq_false b24
          refine h_pass 23 rfl (by kernel_rfl) (by kernel_rfl) (by kernel_rfl) (fun _ _ _ h => h) S16 (wantsN 22 29 true rfl (by kernel_rfl) rfl (by kernel_rfl)) rfl ?_
          refine h_pass 24 rfl (by kernel_rfl) (by kernel_rfl) (by kernel_rfl) (fun _ _ _ h => h) S16 (wantsN 22 29 true rfl (by kernel_rfl) rfl (by kernel_rfl)) rfl ?_
          refine h_pass 25 rfl (by kernel_rfl) (by kernel_rfl) (by kernel_rfl) (fun _ _ _ h => h) S16 (wantsN 22 29 true rfl (by kernel_rfl) rfl (by kernel_rfl)) rfl ?_
          refine h_pass 26 rfl (by kernel_rfl) (by kernel_rfl) (by kernel_rfl) (fun _ _ _ h => h) S16 (wantsN 22 29 true rfl (by kernel_rfl) rfl (by kernel_rfl)) rfl ?_
          refine h_pass 27 rfl (by kernel_rfl) (by kernel_rfl) (by kernel_rfl) (fun _ _ _ h => h) S16 (wantsN 22 29 true rfl (by kernel_rfl) rfl (by kernel_rfl)) rfl ?_
          refine h_pass 28 rfl (by kernel_rfl) (by kernel_rfl) (by kernel_rfl) (fun _ _ _ h => h) S16 (wantsN 22 29 true rfl (by kernel_rfl) rfl (by kernel_rfl)) rfl ?_
          refine h_val 29 rfl (by kernel_rfl) (by kernel_rfl) (by kernel_rfl) (fun _ _ _ h => h) S16 (wants0 rfl) (d := 36) (v := (.bool false)) rfl (fun _ H' => (by kernel_rfl)) ?_
          refine h_val 30 rfl (by kernel_rfl) (by kernel_rfl) (by kernel_rfl) (fun _ _ _ h => h) S16 (wants0 rfl) (d := 6) (v := (.bool false)) rfl (fun _ H' => (by kernel_rfl)) ?_
          refine h_fin (by kernel_rfl) ?_
          refine then_normal ?_
          refine w_ret ?_
          refine end1 rfl (res_tmp (v := (.bool false)) rfl) ?_
          exact ⟨by simp [rightS, b17, b18, b21, b24], H14.upd 0 rfl [] (fun _ h => h.elim)⟩
      · have g44 := of_decide_eq_false b21
        refine h_know 21 (.bool false) (congrArg Value.bool b21) ?_
        have g45 := of_decide_eq_false b21
        refine h_pass 15 rfl (by kernel_rfl) (by kernel_rfl) (by kernel_rfl) (fun _ _ _ h => h) S16 (wantsN 14 21 true rfl (by kernel_rfl) rfl (by kernel_rfl)) rfl ?_
        refine h_pass 16 rfl (by kernel_rfl) (by kernel_rfl) (by kernel_rfl) (fun _ _ _ h => h) S16 (wantsN 14 21 true rfl (by kernel_rfl) rfl (by kernel_rfl)) rfl ?_
        refine h_pass 17 rfl (by kernel_rfl) (by kernel_rfl) (by kernel_rfl) (fun _ _ _ h => h) S16 (wantsN 14 21 true rfl (by kernel_rfl) rfl (by kernel_rfl)) rfl ?_
        refine h_pass 18 rfl (by kernel_rfl) (by kernel_rfl) (by kernel_rfl) (fun _ _ _ h => h) S16 (wantsN 14 21 true rfl (by kernel_rfl) rfl (by kernel_rfl)) rfl ?_
        refine h_pass 19 rfl (by kernel_rfl) (by kernel_rfl) (by kernel_rfl) (fun _ _ _ h => h) S16 (wantsN 14 21 true rfl (by kernel_rfl) rfl (by kernel_rfl)) rfl ?_
        refine h_pass 20 rfl (by kernel_rfl) (by kernel_rfl) (by kernel_rfl) (fun _ _ _ h => h) S16 (wantsN 14 21 true rfl (by kernel_rfl) rfl (by kernel_rfl)) rfl ?_
        refine h_val 21 rfl (by kernel_rfl) (by kernel_rfl) (by kernel_rfl) (fun _ _ _ h => h) S16 (wants0 rfl) (d := 28) (v := (.bool false)) rfl (fun _ H' => (by kernel_rfl)) ?_
        refine h_val 22 rfl (by kernel_rfl) (by kernel_rfl) (by kernel_rfl) (fun _ _ _ h => h) S16 (wants0 rfl) (d := 29) (v := (.bool false)) rfl (fun _ H' => (by kernel_rfl)) ?_
        refine h_pass 23 rfl (by kernel_rfl) (by kernel_rfl) (by kernel_rfl) (fun _ _ _ h => h) S16 (wantsN 22 29 true rfl (by kernel_rfl) rfl (by kernel_rfl)) rfl ?_
        refine h_pass 24 rfl (by kernel_rfl) (by kernel_rfl) (by kernel_rfl) (fun _ _ _ h => h) S16 (wantsN 22 29 true rfl (by kernel_rfl) rfl (by kernel_rfl)) rfl ?_
        refine h_pass 25 rfl (by kernel_rfl) (by kernel_rfl) (by kernel_rfl) (fun _ _ _ h => h) S16 (wantsN 22 29 true rfl (by kernel_rfl) rfl (by kernel_rfl)) rfl ?_
        refine h_pass 26 rfl (by kernel_rfl) (by kernel_rfl) (by kernel_rfl) (fun _ _ _ h => h) S16 (wantsN 22 29 true rfl (by kernel_rfl) rfl (by kernel_rfl)) rfl ?_
        refine h_pass 27 rfl (by kernel_rfl) (by kernel_rfl) (by kernel_rfl) (fun _ _ _ h => h) S16 (wantsN 22 29 true rfl (by kernel_rfl) rfl (by kernel_rfl)) rfl ?_
        refine h_pass 28 rfl (by kernel_rfl) (by kernel_rfl) (by kernel_rfl) (fun _ _ _ h => h) S16 (wantsN 22 29 true rfl (by kernel_rfl) rfl (by kernel_rfl)) rfl ?_
        refine h_val 29 rfl (by kernel_rfl) (by kernel_rfl) (by kernel_rfl) (fun _ _ _ h => h) S16 (wants0 rfl) (d := 36) (v := (.bool false)) rfl (fun _ H' => (by kernel_rfl)) ?_
        refine h_val 30 rfl (by kernel_rfl) (by kernel_rfl) (by kernel_rfl) (fun _ _ _ h => h) S16 (wants0 rfl) (d := 6) (v := (.bool false)) rfl (fun _ H' => (by kernel_rfl)) ?_
        refine h_fin (by kernel_rfl) ?_
        refine then_normal ?_
        refine w_ret ?_
        refine end1 rfl (res_tmp (v := (.bool false)) rfl) ?_
        exact ⟨by simp [rightS, b17, b18, b21], H14.upd 0 rfl [] (fun _ h => h.elim)⟩
    · have g46 := of_decide_eq_false b18
      refine h_know 16 (.bool false) (congrArg Value.bool b18) ?_
      have g47 := of_decide_eq_false b18
      refine h_pass 10 rfl (by kernel_rfl) (by kernel_rfl) (by kernel_rfl) (fun _ _ _ h => h) S16 (wantsN 9 16 true rfl (by kernel_rfl) rfl (by kernel_rfl)) rfl ?_
      refine h_pass 11 rfl (by kernel_rfl) (by kernel_rfl) (by kernel_rfl) (fun _ _ _ h => h) S16 (wantsN 9 16 true rfl (by kernel_rfl) rfl (by kernel_rfl)) rfl ?_
      refine h_pass 12 rfl (by kernel_rfl) (by kernel_rfl) (by kernel_rfl) (fun _ _ _ h => h) S16 (wantsN 9 16 true rfl (by kernel_rfl) rfl (by kernel_rfl)) rfl ?_
      refine h_val 13 rfl (by kernel_rfl) (by kernel_rfl) (by kernel_rfl) (fun _ _ _ h => h) S16 (wants0 rfl) (d := 20) (v := (.bool false)) rfl (fun _ H' => (by kernel_rfl)) ?_
      refine h_val 14 rfl (by kernel_rfl) (by kernel_rfl) (by kernel_rfl) (fun _ _ _ h => h) S16 (wants0 rfl) (d := 21) (v := (.bool false)) rfl (fun _ H' => (by kernel_rfl)) ?_
      refine h_pass 15 rfl (by kernel_rfl) (by kernel_rfl) (by kernel_rfl) (fun _ _ _ h => h) S16 (wantsN 14 21 true rfl (by kernel_rfl) rfl (by kernel_rfl)) rfl ?_
      refine h_pass 16 rfl (by kernel_rfl) (by kernel_rfl) (by kernel_rfl) (fun _ _ _ h => h) S16 (wantsN 14 21 true rfl (by kernel_rfl) rfl (by kernel_rfl)) rfl ?_
      refine h_pass 17 rfl (by kernel_rfl) (by kernel_rfl) (by kernel_rfl) (fun _ _ _ h => h) S16 (wantsN 14 21 true rfl (by kernel_rfl) rfl (by kernel_rfl)) rfl ?_
      refine h_pass 18 rfl (by kernel_rfl) (by kernel_rfl) (by kernel_rfl) (fun _ _ _ h => h) S16 (wantsN 14 21 true rfl (by kernel_rfl) rfl (by kernel_rfl)) rfl ?_
      refine h_pass 19 rfl (by kernel_rfl) (by kernel_rfl) (by kernel_rfl) (fun _ _ _ h => h) S16 (wantsN 14 21 true rfl (by kernel_rfl) rfl (by kernel_rfl)) rfl ?_
      refine h_pass 20 rfl (by kernel_rfl) (by kernel_rfl) (by kernel_rfl) (fun _ _ _ h => h) S16 (wantsN 14 21 true rfl (by kernel_rfl) rfl (by kernel_rfl)) rfl ?_
      refine h_val 21 rfl (by kernel_rfl) (by kernel_rfl) (by kernel_rfl) (fun _ _ _ h => h) S16 (wants0 rfl) (d := 28) (v := (.bool false)) rfl (fun _ H' => (by kernel_rfl)) ?_
      refine h_val 22 rfl (by kernel_rfl) (by kernel_rfl) (by kernel_rfl) (fun _ _ _ h => h) S16 (wants0 rfl) (d := 29) (v := (.bool false)) rfl (fun _ H' => (by kernel_rfl)) ?_
      refine h_pass 23 rfl (by kernel_rfl) (by kernel_rfl) (by kernel_rfl) (fun _ _ _ h => h) S16 (wantsN 22 29 true rfl (by kernel_rfl) rfl (by kernel_rfl)) rfl ?_
      refine h_pass 24 rfl (by kernel_rfl) (by kernel_rfl) (by kernel_rfl) (fun _ _ _ h => h) S16 (wantsN 22 29 true rfl (by kernel_rfl) rfl (by kernel_rfl)) rfl ?_
      refine h_pass 25 rfl (by kernel_rfl) (by kernel_rfl) (by kernel_rfl) (fun _ _ _ h => h) S16 (wantsN 22 29 true rfl (by kernel_rfl) rfl (by kernel_rfl)) rfl ?_
      refine h_pass 26 rfl (by kernel_rfl) (by kernel_rfl) (by kernel_rfl) (fun _ _ _ h => h) S16 (wantsN 22 29 true rfl (by kernel_rfl) rfl (by kernel_rfl)) rfl ?_
      refine h_pass 27 rfl (by kernel_rfl) (by kernel_rfl) (by kernel_rfl) (fun _ _ _ h => h) S16 (wantsN 22 29 true rfl (by kernel_rfl) rfl (by kernel_rfl)) rfl ?_
      refine h_pass 28 rfl (by kernel_rfl) (by kernel_rfl) (by kernel_rfl) (fun _ _ _ h => h) S16 (wantsN 22 29 true rfl (by kernel_rfl) rfl (by kernel_rfl)) rfl ?_
      refine h_val 29 rfl (by kernel_rfl) (by kernel_rfl) (by kernel_rfl) (fun _ _ _ h => h) S16 (wants0 rfl) (d := 36) (v := (.bool false)) rfl (fun _ H' => (by kernel_rfl)) ?_
      refine h_val 30 rfl (by kernel_rfl) (by kernel_rfl) (by kernel_rfl) (fun _ _ _ h => h) S16 (wants0 rfl) (d := 6) (v := (.bool false)) rfl (fun _ H' => (by kernel_rfl)) ?_
      refine h_fin (by kernel_rfl) ?_
      refine then_normal ?_
      refine w_ret ?_
      refine end1 rfl (res_tmp (v := (.bool false)) rfl) ?_
      exact ⟨by simp [rightS, b17, b18], H14.upd 0 rfl [] (fun _ h => h.elim)⟩
  · refine h_know 11 (.bool false) (congrArg Value.bool b17) ?_
    refine h_pass 5 rfl (by kernel_rfl) (by kernel_rfl) (by kernel_rfl) (fun _ _ _ h => h) S16 (wantsN 4 11 true rfl (by kernel_rfl) rfl (by kernel_rfl)) rfl ?_
    refine h_pass 6 rfl (by kernel_rfl) (by kernel_rfl) (by kernel_rfl) (fun _ _ _ h => h) S16 (wantsN 4 11 true rfl (by kernel_rfl) rfl (by kernel_rfl)) rfl ?_
    refine h_pass 7 rfl (by kernel_rfl) (by kernel_rfl) (by kernel_rfl) (fun _ _ _ h => h) S16 (wantsN 4 11 true rfl (by kernel_rfl) rfl (by kernel_rfl)) rfl ?_
    refine h_val 8 rfl (by kernel_rfl) (by kernel_rfl) (by kernel_rfl) (fun _ _ _ h => h) S16 (wants0 rfl) (d := 15) (v := (.bool false)) rfl (fun _ H' => (by kernel_rfl)) ?_
    refine h_val 9 rfl (by kernel_rfl) (by kernel_rfl) (by kernel_rfl) (fun _ _ _ h => h) S16 (wants0 rfl) (d := 16) (v := (.bool false)) rfl (fun _ H' => (by kernel_rfl)) ?_
    refine h_pass 10 rfl (by kernel_rfl) (by kernel_rfl) (by kernel_rfl) (fun _ _ _ h => h) S16 (wantsN 9 16 true rfl (by kernel_rfl) rfl (by kernel_rfl)) rfl ?_
    refine h_pass 11 rfl (by kernel_rfl) (by kernel_rfl) (by kernel_rfl) (fun _ _ _ h => h) S16 (wantsN 9 16 true rfl (by kernel_rfl) rfl (by kernel_rfl)) rfl ?_
    refine h_pass 12 rfl (by kernel_rfl) (by kernel_rfl) (by kernel_rfl) (fun _ _ _ h => h) S16 (wantsN 9 16 true rfl (by kernel_rfl) rfl (by kernel_rfl)) rfl ?_
    refine h_val 13 rfl (by kernel_rfl) (by kernel_rfl) (by kernel_rfl) (fun _ _ _ h => h) S16 (wants0 rfl) (d := 20) (v := (.bool false)) rfl (fun _ H' => (by kernel_rfl)) ?_
    refine h_val 14 rfl (by kernel_rfl) (by kernel_rfl) (by kernel_rfl) (fun _ _ _ h => h) S16 (wants0 rfl) (d := 21) (v := (.bool false)) rfl (fun _ H' => (by kernel_rfl)) ?_
    refine h_pass 15 rfl (by kernel_rfl) (by kernel_rfl) (by kernel_rfl) (fun _ _ _ h => h) S16 (wantsN 14 21 true rfl (by kernel_rfl) rfl (by kernel_rfl)) rfl ?_
    refine h_pass 16 rfl (by kernel_rfl) (by kernel_rfl) (by kernel_rfl) (fun _ _ _ h => h) S16 (wantsN 14 21 true rfl (by kernel_rfl) rfl (by kernel_rfl)) rfl ?_
    refine h_pass 17 rfl (by kernel_rfl) (by kernel_rfl) (by kernel_rfl) (fun _ _ _ h => h) S16 (wantsN 14 21 true rfl (by kernel_rfl) rfl (by kernel_rfl)) rfl ?_
    refine h_pass 18 rfl (by kernel_rfl) (by kernel_rfl) (by kernel_rfl) (fun _ _ _ h => h) S16 (wantsN 14 21 true rfl (by kernel_rfl) rfl (by kernel_rfl)) rfl ?_
    refine h_pass 19 rfl (by kernel_rfl) (by kernel_rfl) (by kernel_rfl) (fun _ _ _ h => h) S16 (wantsN 14 21 true rfl (by kernel_rfl) rfl (by kernel_rfl)) rfl ?_
    refine h_pass 20 rfl (by kernel_rfl) (by kernel_rfl) (by kernel_rfl) (fun _ _ _ h => h) S16 (wantsN 14 21 true rfl (by kernel_rfl) rfl (by kernel_rfl)) rfl ?_
    refine h_val 21 rfl (by kernel_rfl) (by kernel_rfl) (by kernel_rfl) (fun _ _ _ h => h) S16 (wants0 rfl) (d := 28) (v := (.bool false)) rfl (fun _ H' => (by kernel_rfl)) ?_
    refine h_val 22 rfl (by kernel_rfl) (by kernel_rfl) (by kernel_rfl) (fun _ _ _ h => h) S16 (wants0 rfl) (d := 29) (v := (.bool false)) rfl (fun _ H' => (by kernel_rfl)) ?_
    refine h_pass 23 rfl (by kernel_rfl) (by kernel_rfl) (by kernel_rfl) (fun _ _ _ h => h) S16 (wantsN 22 29 true rfl (by kernel_rfl) rfl (by kernel_rfl)) rfl ?_
    refine h_pass 24 rfl (by kernel_rfl) (by kernel_rfl) (by kernel_rfl) (fun _ _ _ h => h) S16 (wantsN 22 29 true rfl (by kernel_rfl) rfl (by kernel_rfl)) rfl ?_
    refine h_pass 25 rfl (by kernel_rfl) (by kernel_rfl) (by kernel_rfl) (fun _ _ _ h => h) S16 (wantsN 22 29 true rfl (by kernel_rfl) rfl (by kernel_rfl)) rfl ?_
    refine h_pass 26 rfl (by kernel_rfl) (by kernel_rfl) (by kernel_rfl) (fun _ _ _ h => h) S16 (wantsN 22 29 true rfl (by kernel_rfl) rfl (by kernel_rfl)) rfl ?_
    refine h_pass 27 rfl (by kernel_rfl) (by kernel_rfl) (by kernel_rfl) (fun _ _ _ h => h) S16 (wantsN 22 29 true rfl (by kernel_rfl) rfl (by kernel_rfl)) rfl ?_
    refine h_pass 28 rfl (by kernel_rfl) (by kernel_rfl) (by kernel_rfl) (fun _ _ _ h => h) S16 (wantsN 22 29 true rfl (by kernel_rfl) rfl (by kernel_rfl)) rfl ?_
    refine h_val 29 rfl (by kernel_rfl) (by kernel_rfl) (by kernel_rfl) (fun _ _ _ h => h) S16 (wants0 rfl) (d := 36) (v := (.bool false)) rfl (fun _ H' => (by kernel_rfl)) ?_
    refine h_val 30 rfl (by kernel_rfl) (by kernel_rfl) (by kernel_rfl) (fun _ _ _ h => h) S16 (wants0 rfl) (d := 6) (v := (.bool false)) rfl (fun _ H' => (by kernel_rfl)) ?_
    refine h_fin (by kernel_rfl) ?_
    refine then_normal ?_
    refine w_ret ?_
    refine end1 rfl (res_tmp (v := (.bool false)) rfl) ?_
    exact ⟨by simp [rightS, b17], H14.upd 0 rfl [] (fun _ h => h.elim)⟩

set_option maxRecDepth 100000 in
set_option maxHeartbeats 1000000 in
theorem rRightS_any (w : World) (f cn : Int) (hf : -1099511627776 ≤ f ∧ f ≤ 1099511627776) (r : Nat) (ra : Option Addr) (rc : Nat) (L : List Signed) (hb : (cellC r 88 [.slice ra L.length rc]).ok w) (hr : (rowC 120 2 (.slice ra L.length rc) L.length (L.flatMap encS)).ok w) (hn : L.Nodup) (hL : L.length ≤ 1000000) (s : StampD) (hs : StOk s) :
    Calls Try.prog 25 #[(.agg ⟨([(.int .i64 (f)), (.int .i64 (cn))] : List Value)⟩), (.pointer (some ⟨r, 0, none⟩)), (.agg ⟨(([(.int .i64 (s.r)), (.int .i64 (s.cl)), (.int .i64 (s.seq))] : List Value) ++ hc s.h ++ ([(.int .u64 (s.t)), (.int .i64 (s.sb)), (.int .i64 (s.sm))] : List Value))⟩)] w fun e w' => e = .returned (.bool (rightS f L s)) ∧ Upd [] w w' := by
  have H := Sat.start0 w
  have hs2 := hs
  unfold StOk at hs2
  refine calls_fr Try.func25 rfl 43 rfl (Nat.le_of_ble_eq_true rfl) ?_
  refine w_seq ?_
  refine w_lit ?_
  refine wl_do (wants0 rfl) (fun K1 hK1 => ?_)
  refine d_box (vs := ([(.int .i64 (f)), (.int .i64 (cn))] : List Value)) rfl H rfl rfl ?_
  intro b2 w3 (H4 : Sat w [restC w (fun _ => False), cellC b2 36 ([(.int .i64 (f)), (.int .i64 (cn))] : List Value)] w3)
  refine hK1 _ _ ?_
  clear hK1 K1
  refine wl_do (wants0 rfl) (fun K5 hK5 => ?_)
  refine d_box (vs := (([(.int .i64 (s.r)), (.int .i64 (s.cl)), (.int .i64 (s.seq))] : List Value) ++ hc s.h ++ ([(.int .u64 (s.t)), (.int .i64 (s.sb)), (.int .i64 (s.sm))] : List Value))) rfl H4 rfl rfl ?_
  intro b6 w7 (H8 : Sat w [restC w (fun _ => False), cellC b2 36 ([(.int .i64 (f)), (.int .i64 (cn))] : List Value), cellC b6 49 (([(.int .i64 (s.r)), (.int .i64 (s.cl)), (.int .i64 (s.seq))] : List Value) ++ hc s.h ++ ([(.int .u64 (s.t)), (.int .i64 (s.sb)), (.int .i64 (s.sm))] : List Value))] w7)
  refine hK5 _ _ ?_
  clear hK5 K5
  refine wl_pure (wants0 rfl) (d := 6) (v := (.bool false)) rfl (by kernel_rfl) ?_
  refine w_nil ?_
  refine then_normal ?_
  refine w_seq ?_
  refine h_start H8 [restC w (fun _ => False), cellC b2 36 ([(.int .i64 (f)), (.int .i64 (cn))] : List Value), cellC b6 49 (([(.int .i64 (s.r)), (.int .i64 (s.cl)), (.int .i64 (s.seq))] : List Value) ++ hc s.h ++ ([(.int .u64 (s.t)), (.int .i64 (s.sb)), (.int .i64 (s.sm))] : List Value))] 37 rfl (by kernel_rfl) (fun Hx => (Hx.pick [0, 1, 2] (by decide))) ?_
  intro w9 H10 S11
  refine h_val 0 rfl (by kernel_rfl) (by kernel_rfl) (by kernel_rfl) (fun _ _ _ h => h) S11 (wants0 rfl) (d := 7) (v := (.pointer (some ⟨b6, 0, none⟩))) rfl (fun _ H' => (by kernel_rfl)) ?_
  refine h_val 1 rfl (by kernel_rfl) (by kernel_rfl) (by kernel_rfl) (fun _ _ _ h => h) S11 (wants0 rfl) (d := 8) (v := (.int .i64 (s.r))) rfl (fun _ H' => (e_load1 rfl (by kernel_rfl) (H'.cell 2 rfl (by kernel_rfl)))) ?_
  refine h_val 2 rfl (by kernel_rfl) (by kernel_rfl) (by kernel_rfl) (fun _ _ _ h => h) S11 (wants0 rfl) (d := 9) (v := (.bool (decide (s.r ≥ 0)))) rfl (fun _ H' => (by kernel_rfl)) ?_
  refine h_val 3 rfl (by kernel_rfl) (by kernel_rfl) (by kernel_rfl) (fun _ _ _ h => h) S11 (wants0 rfl) (d := 10) (v := (.bool (decide (s.r ≥ 0)))) rfl (fun _ H' => (by kernel_rfl)) ?_
  refine (bsplit (decide (s.r ≥ 0))).elim (fun b12 => ?_) (fun b12 => ?_)
  · have g13 := of_decide_eq_true b12
    refine h_know 10 (.bool true) (congrArg Value.bool b12) ?_
    have g14 := of_decide_eq_true b12
    refine h_val 4 rfl (by kernel_rfl) (by kernel_rfl) (by kernel_rfl) (fun _ _ _ h => h) S11 (wantsY 3 10 true rfl (by kernel_rfl) rfl (by kernel_rfl)) (d := 11) (v := (.pointer (some ⟨b6, 0, none⟩))) rfl (fun _ H' => (by kernel_rfl)) ?_
    refine h_val 5 rfl (by kernel_rfl) (by kernel_rfl) (by kernel_rfl) (fun _ _ _ h => h) S11 (wantsY 3 10 true rfl (by kernel_rfl) rfl (by kernel_rfl)) (d := 12) (v := (.int .i64 (s.r))) rfl (fun _ H' => (e_load1 rfl (by kernel_rfl) (H'.cell 2 rfl (by kernel_rfl)))) ?_
    refine h_val 6 rfl (by kernel_rfl) (by kernel_rfl) (by kernel_rfl) (fun _ _ _ h => h) S11 (wantsY 3 10 true rfl (by kernel_rfl) rfl (by kernel_rfl)) (d := 13) (v := (.agg ⟨([(.int .i64 (f)), (.int .i64 (cn))] : List Value)⟩)) rfl (fun _ H' => (e_loadN (vs := ([(.int .i64 (f)), (.int .i64 (cn))] : List Value)) rfl (by kernel_rfl) (by kernel_rfl) (by exact Nat.le_of_ble_eq_true (by kernel_rfl)) (H'.at 1 rfl) (by kernel_rfl))) ?_
    refine h_do 7 rfl (by kernel_rfl) (wantsY 3 10 true rfl (by kernel_rfl) rfl (by kernel_rfl)) (fun K15 hK15 => ?_)
    refine d_call (d := 14) rfl (by kernel_rfl) (rN_any w9 f cn (by omega)) ?_
    rintro _ w16 ⟨rfl, u18⟩
    have H17 := H10.keepU u18
    refine ⟨_, rfl, ?_⟩
    have S19 := H17.pick [0, 1, 2] (by decide)
    refine hK15 _ _ S19 ?_
    clear hK15 K15
    refine h_val 8 rfl (by kernel_rfl) (by kernel_rfl) (by kernel_rfl) (fun _ _ _ h => h) S19 (wantsY 3 10 true rfl (by kernel_rfl) rfl (by kernel_rfl)) (d := 15) (v := (.bool (decide (s.r < (3 * f + 1))))) rfl (fun _ H' => (by kernel_rfl)) ?_
    refine h_val 9 rfl (by kernel_rfl) (by kernel_rfl) (by kernel_rfl) (fun _ _ _ h => h) S19 (wants0 rfl) (d := 16) (v := (.bool (decide (s.r < (3 * f + 1))))) rfl (fun _ H' => (by kernel_rfl)) ?_
    refine h_val 10 rfl (by kernel_rfl) (by kernel_rfl) (by kernel_rfl) (fun _ _ _ h => h) S19 (wants0 rfl) (d := 17) (v := (.bool (decide (s.r < (3 * f + 1))))) rfl (fun _ H' => (by kernel_rfl)) ?_
    refine (bsplit (decide (s.r < (3 * f + 1)))).elim (fun b20 => ?_) (fun b20 => ?_)
    · have g21 := of_decide_eq_true b20
      refine h_know 17 (.bool true) (congrArg Value.bool b20) ?_
      have g22 := of_decide_eq_true b20
      refine h_val 11 rfl (by kernel_rfl) (by kernel_rfl) (by kernel_rfl) (fun _ _ _ h => h) S19 (wantsY 10 17 true rfl (by kernel_rfl) rfl (by kernel_rfl)) (d := 18) (v := (.pointer (some ⟨b6, 35, none⟩))) rfl (fun _ H' => (by kernel_rfl)) ?_
      refine h_val 12 rfl (by kernel_rfl) (by kernel_rfl) (by kernel_rfl) (fun _ _ _ h => h) S19 (wantsY 10 17 true rfl (by kernel_rfl) rfl (by kernel_rfl)) (d := 19) (v := (.int .u64 (s.t))) rfl (fun _ H' => (e_load1 rfl (by kernel_rfl) (H'.cell 2 rfl (by kernel_rfl)))) ?_
      refine h_val 13 rfl (by kernel_rfl) (by kernel_rfl) (by kernel_rfl) (fun _ _ _ h => h) S19 (wantsY 10 17 true rfl (by kernel_rfl) rfl (by kernel_rfl)) (d := 20) (v := (.bool (decide (s.t ≥ 1)))) rfl (fun _ H' => (by kernel_rfl)) ?_
      refine h_val 14 rfl (by kernel_rfl) (by kernel_rfl) (by kernel_rfl) (fun _ _ _ h => h) S19 (wants0 rfl) (d := 21) (v := (.bool (decide (s.t ≥ 1)))) rfl (fun _ H' => (by kernel_rfl)) ?_
      refine h_val 15 rfl (by kernel_rfl) (by kernel_rfl) (by kernel_rfl) (fun _ _ _ h => h) S19 (wants0 rfl) (d := 22) (v := (.bool (decide (s.t ≥ 1)))) rfl (fun _ H' => (by kernel_rfl)) ?_
      refine (bsplit (decide (s.t ≥ 1))).elim (fun b23 => ?_) (fun b23 => ?_)
      · have g24 := of_decide_eq_true b23
        refine h_know 22 (.bool true) (congrArg Value.bool b23) ?_
        have g25 := of_decide_eq_true b23
        refine h_val 16 rfl (by kernel_rfl) (by kernel_rfl) (by kernel_rfl) (fun _ _ _ h => h) S19 (wantsY 15 22 true rfl (by kernel_rfl) rfl (by kernel_rfl)) (d := 23) (v := (.pointer (some ⟨b6, 35, none⟩))) rfl (fun _ H' => (by kernel_rfl)) ?_
        refine h_val 17 rfl (by kernel_rfl) (by kernel_rfl) (by kernel_rfl) (fun _ _ _ h => h) S19 (wantsY 15 22 true rfl (by kernel_rfl) rfl (by kernel_rfl)) (d := 24) (v := (.int .u64 (s.t))) rfl (fun _ H' => (e_load1 rfl (by kernel_rfl) (H'.cell 2 rfl (by kernel_rfl)))) ?_
        refine h_val 18 rfl (by kernel_rfl) (by kernel_rfl) (by kernel_rfl) (fun _ _ _ h => h) S19 (wantsY 15 22 true rfl (by kernel_rfl) rfl (by kernel_rfl)) (d := 25) (v := (.bool (decide (s.t < 18446744073709551615)))) rfl (fun _ H' => (by kernel_rfl)) ?_
        refine h_val 19 rfl (by kernel_rfl) (by kernel_rfl) (by kernel_rfl) (fun _ _ _ h => h) S19 (wants0 rfl) (d := 26) (v := (.bool (decide (s.t < 18446744073709551615)))) rfl (fun _ H' => (by kernel_rfl)) ?_
        refine h_val 20 rfl (by kernel_rfl) (by kernel_rfl) (by kernel_rfl) (fun _ _ _ h => h) S19 (wants0 rfl) (d := 27) (v := (.bool (decide (s.t < 18446744073709551615)))) rfl (fun _ H' => (by kernel_rfl)) ?_
        refine (bsplit (decide (s.t < 18446744073709551615))).elim (fun b26 => ?_) (fun b26 => ?_)
        · have g27 := of_decide_eq_true b26
          refine h_know 27 (.bool true) (congrArg Value.bool b26) ?_
          have g28 := of_decide_eq_true b26
          refine h_val 21 rfl (by kernel_rfl) (by kernel_rfl) (by kernel_rfl) (fun _ _ _ h => h) S19 (wantsY 20 27 true rfl (by kernel_rfl) rfl (by kernel_rfl)) (d := 28) (v := (.pointer (some ⟨b6, 36, none⟩))) rfl (fun _ H' => (by kernel_rfl)) ?_
          refine h_val 22 rfl (by kernel_rfl) (by kernel_rfl) (by kernel_rfl) (fun _ _ _ h => h) S19 (wantsY 20 27 true rfl (by kernel_rfl) rfl (by kernel_rfl)) (d := 29) (v := (.pointer (some ⟨b6, 36, none⟩))) rfl (fun _ H' => (by kernel_rfl)) ?_
          refine h_val 23 rfl (by kernel_rfl) (by kernel_rfl) (by kernel_rfl) (fun _ _ _ h => h) S19 (wantsY 20 27 true rfl (by kernel_rfl) rfl (by kernel_rfl)) (d := 30) (v := (.int .i64 (s.sb))) rfl (fun _ H' => (e_load1 rfl (by kernel_rfl) (H'.cell 2 rfl (by kernel_rfl)))) ?_
          refine h_val 24 rfl (by kernel_rfl) (by kernel_rfl) (by kernel_rfl) (fun _ _ _ h => h) S19 (wantsY 20 27 true rfl (by kernel_rfl) rfl (by kernel_rfl)) (d := 31) (v := (.pointer (some ⟨b6, 0, none⟩))) rfl (fun _ H' => (by kernel_rfl)) ?_
          refine h_val 25 rfl (by kernel_rfl) (by kernel_rfl) (by kernel_rfl) (fun _ _ _ h => h) S19 (wantsY 20 27 true rfl (by kernel_rfl) rfl (by kernel_rfl)) (d := 32) (v := (.int .i64 (s.r))) rfl (fun _ H' => (e_load1 rfl (by kernel_rfl) (H'.cell 2 rfl (by kernel_rfl)))) ?_
          refine h_val 26 rfl (by kernel_rfl) (by kernel_rfl) (by kernel_rfl) (fun _ _ _ h => h) S19 (wantsY 20 27 true rfl (by kernel_rfl) rfl (by kernel_rfl)) (d := 33) (v := (.bool (decide (s.sb = s.r)))) rfl (fun _ H' => (by kernel_rfl)) ?_
          refine h_val 27 rfl (by kernel_rfl) (by kernel_rfl) (by kernel_rfl) (fun _ _ _ h => h) S19 (wants0 rfl) (d := 34) (v := (.bool (decide (s.sb = s.r)))) rfl (fun _ H' => (by kernel_rfl)) ?_
          refine h_val 28 rfl (by kernel_rfl) (by kernel_rfl) (by kernel_rfl) (fun _ _ _ h => h) S19 (wants0 rfl) (d := 35) (v := (.bool (decide (s.sb = s.r)))) rfl (fun _ H' => (by kernel_rfl)) ?_
          refine (bsplit (decide (s.sb = s.r))).elim (fun b29 => ?_) (fun b29 => ?_)
          · have g30 := of_decide_eq_true b29
            refine h_know 35 (.bool true) (congrArg Value.bool b29) ?_
            have g31 := of_decide_eq_true b29
            refine h_val 29 rfl (by kernel_rfl) (by kernel_rfl) (by kernel_rfl) (fun _ _ _ h => h) S19 (wantsY 28 35 true rfl (by kernel_rfl) rfl (by kernel_rfl)) (d := 36) (v := (.pointer (some ⟨r, 0, none⟩))) rfl (fun _ H' => (by kernel_rfl)) ?_
            refine h_val 30 rfl (by kernel_rfl) (by kernel_rfl) (by kernel_rfl) (fun _ _ _ h => h) S19 (wantsY 28 35 true rfl (by kernel_rfl) rfl (by kernel_rfl)) (d := 37) (v := (.pointer (some ⟨b6, 36, none⟩))) rfl (fun _ H' => (by kernel_rfl)) ?_
            refine h_val 31 rfl (by kernel_rfl) (by kernel_rfl) (by kernel_rfl) (fun _ _ _ h => h) S19 (wantsY 28 35 true rfl (by kernel_rfl) rfl (by kernel_rfl)) (d := 38) (v := (.agg ⟨([(.int .i64 (s.sb)), (.int .i64 (s.sm))] : List Value)⟩)) rfl (fun _ H' => (e_loadN (vs := ([(.int .i64 (s.sb)), (.int .i64 (s.sm))] : List Value)) rfl (by kernel_rfl) (by kernel_rfl) (by exact Nat.le_of_ble_eq_true (by kernel_rfl)) (H'.at 2 rfl) (by kernel_rfl))) ?_
            refine h_val 32 rfl (by kernel_rfl) (by kernel_rfl) (by kernel_rfl) (fun _ _ _ h => h) S19 (wantsY 28 35 true rfl (by kernel_rfl) rfl (by kernel_rfl)) (d := 39) (v := (.agg ⟨(([(.int .i64 (s.r)), (.int .i64 (s.cl)), (.int .i64 (s.seq))] : List Value) ++ hc s.h ++ ([(.int .u64 (s.t)), (.int .i64 (s.sb)), (.int .i64 (s.sm))] : List Value))⟩)) rfl (fun _ H' => (e_loadN (vs := (([(.int .i64 (s.r)), (.int .i64 (s.cl)), (.int .i64 (s.seq))] : List Value) ++ hc s.h ++ ([(.int .u64 (s.t)), (.int .i64 (s.sb)), (.int .i64 (s.sm))] : List Value))) rfl (by kernel_rfl) (by kernel_rfl) (by exact Nat.le_of_ble_eq_true (by kernel_rfl)) (H'.at 2 rfl) (by kernel_rfl))) ?_
            refine h_do 33 rfl (by kernel_rfl) (wantsY 28 35 true rfl (by kernel_rfl) rfl (by kernel_rfl)) (fun K32 hK32 => ?_)
            refine d_call (d := 40) rfl (by kernel_rfl) (rStampText_any w16 s hs) ?_
            rintro _ w33 ⟨u34, rfl, k35, p36, q37⟩
            have H38 : Sat w [restC w (fun _ => False), cellC b2 36 ([(.int .i64 (f)), (.int .i64 (cn))] : List Value), cellC b6 49 (([(.int .i64 (s.r)), (.int .i64 (s.cl)), (.int .i64 (s.seq))] : List Value) ++ hc s.h ++ ([(.int .u64 (s.t)), (.int .i64 (s.sb)), (.int .i64 (s.sm))] : List Value)), rowC 5 1 u34 ((stampB s).length) ((stampB s).flatMap encB)] w33 := H17.addU p36 k35 q37
            obtain ⟨a39, c40, rfl⟩ := ownsRow_shape (H38.at 3 rfl)
            refine ⟨_, rfl, ?_⟩
            have S41 := H38.pick [0, 1, 2] (by decide)
            refine hK32 _ _ S41 ?_
            clear hK32 K32
            refine h_do 34 rfl (by kernel_rfl) (wantsY 28 35 true rfl (by kernel_rfl) rfl (by kernel_rfl)) (fun K42 hK42 => ?_)
            refine d_call (d := 41) rfl (by kernel_rfl) (rRightQ_any w33 r ra rc L (H38.roCk 0 rfl hb (fun _ _ h => h)) (H38.roCk 0 rfl hr (fun _ _ h => h)) hn hL a39 c40 (stampB s) (ListAt.row (enc := encB) (sz := 1) encB_len (by decide) (H38.at 3 rfl)) s.sb s.sm) ?_
            rintro _ w43 ⟨rfl, u45⟩
            have H44 := H38.keepU u45
            refine ⟨_, rfl, ?_⟩
            have S46 := H44.pick [0, 1, 2] (by decide)
            refine hK42 _ _ S46 ?_
            clear hK42 K42
            refine h_val 35 rfl (by kernel_rfl) (by kernel_rfl) (by kernel_rfl) (fun _ _ _ h => h) S46 (wants0 rfl) (d := 42) (v := (.bool (rightB L s.sb s.sm (stampB s)))) rfl (fun _ H' => (by kernel_rfl)) ?_
            refine h_val 36 rfl (by kernel_rfl) (by kernel_rfl) (by kernel_rfl) (fun _ _ _ h => h) S46 (wants0 rfl) (d := 6) (v := (.bool (rightB L s.sb s.sm (stampB s)))) rfl (fun _ H' => (by kernel_rfl)) ?_
            refine h_fin (by kernel_rfl) ?_
            refine then_normal ?_
            refine w_ret ?_
            refine end1 rfl (res_tmp (v := (.bool (rightB L s.sb s.sm (stampB s)))) rfl) ?_
            exact ⟨by simp [rightS, inB, b12, b20, b23, b26, b29], H44.upd 0 rfl [] (fun _ h => h.elim)⟩
          · have g47 := of_decide_eq_false b29
            refine h_know 35 (.bool false) (congrArg Value.bool b29) ?_
            have g48 := of_decide_eq_false b29
            refine h_pass 29 rfl (by kernel_rfl) (by kernel_rfl) (by kernel_rfl) (fun _ _ _ h => h) S19 (wantsN 28 35 true rfl (by kernel_rfl) rfl (by kernel_rfl)) rfl ?_
            refine h_pass 30 rfl (by kernel_rfl) (by kernel_rfl) (by kernel_rfl) (fun _ _ _ h => h) S19 (wantsN 28 35 true rfl (by kernel_rfl) rfl (by kernel_rfl)) rfl ?_
            refine h_pass 31 rfl (by kernel_rfl) (by kernel_rfl) (by kernel_rfl) (fun _ _ _ h => h) S19 (wantsN 28 35 true rfl (by kernel_rfl) rfl (by kernel_rfl)) rfl ?_
            refine h_pass 32 rfl (by kernel_rfl) (by kernel_rfl) (by kernel_rfl) (fun _ _ _ h => h) S19 (wantsN 28 35 true rfl (by kernel_rfl) rfl (by kernel_rfl)) rfl ?_
            refine h_pass 33 rfl (by kernel_rfl) (by kernel_rfl) (by kernel_rfl) (fun _ _ _ h => h) S19 (wantsN 28 35 true rfl (by kernel_rfl) rfl (by kernel_rfl)) rfl ?_
            refine h_pass 34 rfl (by kernel_rfl) (by kernel_rfl) (by kernel_rfl) (fun _ _ _ h => h) S19 (wantsN 28 35 true rfl (by kernel_rfl) rfl (by kernel_rfl)) rfl ?_
            refine h_val 35 rfl (by kernel_rfl) (by kernel_rfl) (by kernel_rfl) (fun _ _ _ h => h) S19 (wants0 rfl) (d := 42) (v := (.bool false)) rfl (fun _ H' => (by kernel_rfl)) ?_
            refine h_val 36 rfl (by kernel_rfl) (by kernel_rfl) (by kernel_rfl) (fun _ _ _ h => h) S19 (wants0 rfl) (d := 6) (v := (.bool false)) rfl (fun _ H' => (by kernel_rfl)) ?_
            refine h_fin (by kernel_rfl) ?_
            refine then_normal ?_
            refine w_ret ?_
            refine end1 rfl (res_tmp (v := (.bool false)) rfl) ?_
            exact ⟨by simp [rightS, inB, b12, b20, b23, b26, b29], H17.upd 0 rfl [] (fun _ h => h.elim)⟩
        · have g49 := of_decide_eq_false b26
          refine h_know 27 (.bool false) (congrArg Value.bool b26) ?_
          have g50 := of_decide_eq_false b26
          refine h_pass 21 rfl (by kernel_rfl) (by kernel_rfl) (by kernel_rfl) (fun _ _ _ h => h) S19 (wantsN 20 27 true rfl (by kernel_rfl) rfl (by kernel_rfl)) rfl ?_
          refine h_pass 22 rfl (by kernel_rfl) (by kernel_rfl) (by kernel_rfl) (fun _ _ _ h => h) S19 (wantsN 20 27 true rfl (by kernel_rfl) rfl (by kernel_rfl)) rfl ?_
          refine h_pass 23 rfl (by kernel_rfl) (by kernel_rfl) (by kernel_rfl) (fun _ _ _ h => h) S19 (wantsN 20 27 true rfl (by kernel_rfl) rfl (by kernel_rfl)) rfl ?_
          refine h_pass 24 rfl (by kernel_rfl) (by kernel_rfl) (by kernel_rfl) (fun _ _ _ h => h) S19 (wantsN 20 27 true rfl (by kernel_rfl) rfl (by kernel_rfl)) rfl ?_
          refine h_pass 25 rfl (by kernel_rfl) (by kernel_rfl) (by kernel_rfl) (fun _ _ _ h => h) S19 (wantsN 20 27 true rfl (by kernel_rfl) rfl (by kernel_rfl)) rfl ?_
          refine h_pass 26 rfl (by kernel_rfl) (by kernel_rfl) (by kernel_rfl) (fun _ _ _ h => h) S19 (wantsN 20 27 true rfl (by kernel_rfl) rfl (by kernel_rfl)) rfl ?_
          refine h_val 27 rfl (by kernel_rfl) (by kernel_rfl) (by kernel_rfl) (fun _ _ _ h => h) S19 (wants0 rfl) (d := 34) (v := (.bool false)) rfl (fun _ H' => (by kernel_rfl)) ?_
          refine h_val 28 rfl (by kernel_rfl) (by kernel_rfl) (by kernel_rfl) (fun _ _ _ h => h) S19 (wants0 rfl) (d := 35) (v := (.bool false)) rfl (fun _ H' => (by kernel_rfl)) ?_
          refine h_pass 29 rfl (by kernel_rfl) (by kernel_rfl) (by kernel_rfl) (fun _ _ _ h => h) S19 (wantsN 28 35 true rfl (by kernel_rfl) rfl (by kernel_rfl)) rfl ?_
          refine h_pass 30 rfl (by kernel_rfl) (by kernel_rfl) (by kernel_rfl) (fun _ _ _ h => h) S19 (wantsN 28 35 true rfl (by kernel_rfl) rfl (by kernel_rfl)) rfl ?_
          refine h_pass 31 rfl (by kernel_rfl) (by kernel_rfl) (by kernel_rfl) (fun _ _ _ h => h) S19 (wantsN 28 35 true rfl (by kernel_rfl) rfl (by kernel_rfl)) rfl ?_
          refine h_pass 32 rfl (by kernel_rfl) (by kernel_rfl) (by kernel_rfl) (fun _ _ _ h => h) S19 (wantsN 28 35 true rfl (by kernel_rfl) rfl (by kernel_rfl)) rfl ?_
          refine h_pass 33 rfl (by kernel_rfl) (by kernel_rfl) (by kernel_rfl) (fun _ _ _ h => h) S19 (wantsN 28 35 true rfl (by kernel_rfl) rfl (by kernel_rfl)) rfl ?_
          refine h_pass 34 rfl (by kernel_rfl) (by kernel_rfl) (by kernel_rfl) (fun _ _ _ h => h) S19 (wantsN 28 35 true rfl (by kernel_rfl) rfl (by kernel_rfl)) rfl ?_
          refine h_val 35 rfl (by kernel_rfl) (by kernel_rfl) (by kernel_rfl) (fun _ _ _ h => h) S19 (wants0 rfl) (d := 42) (v := (.bool false)) rfl (fun _ H' => (by kernel_rfl)) ?_
          refine h_val 36 rfl (by kernel_rfl) (by kernel_rfl) (by kernel_rfl) (fun _ _ _ h => h) S19 (wants0 rfl) (d := 6) (v := (.bool false)) rfl (fun _ H' => (by kernel_rfl)) ?_
          refine h_fin (by kernel_rfl) ?_
          refine then_normal ?_
          refine w_ret ?_
          refine end1 rfl (res_tmp (v := (.bool false)) rfl) ?_
          exact ⟨by simp [rightS, inB, b12, b20, b23, b26], H17.upd 0 rfl [] (fun _ h => h.elim)⟩
      · have g51 := of_decide_eq_false b23
        refine h_know 22 (.bool false) (congrArg Value.bool b23) ?_
        have g52 := of_decide_eq_false b23
        refine h_pass 16 rfl (by kernel_rfl) (by kernel_rfl) (by kernel_rfl) (fun _ _ _ h => h) S19 (wantsN 15 22 true rfl (by kernel_rfl) rfl (by kernel_rfl)) rfl ?_
        refine h_pass 17 rfl (by kernel_rfl) (by kernel_rfl) (by kernel_rfl) (fun _ _ _ h => h) S19 (wantsN 15 22 true rfl (by kernel_rfl) rfl (by kernel_rfl)) rfl ?_
        refine h_pass 18 rfl (by kernel_rfl) (by kernel_rfl) (by kernel_rfl) (fun _ _ _ h => h) S19 (wantsN 15 22 true rfl (by kernel_rfl) rfl (by kernel_rfl)) rfl ?_
        refine h_val 19 rfl (by kernel_rfl) (by kernel_rfl) (by kernel_rfl) (fun _ _ _ h => h) S19 (wants0 rfl) (d := 26) (v := (.bool false)) rfl (fun _ H' => (by kernel_rfl)) ?_
        refine h_val 20 rfl (by kernel_rfl) (by kernel_rfl) (by kernel_rfl) (fun _ _ _ h => h) S19 (wants0 rfl) (d := 27) (v := (.bool false)) rfl (fun _ H' => (by kernel_rfl)) ?_
        refine h_pass 21 rfl (by kernel_rfl) (by kernel_rfl) (by kernel_rfl) (fun _ _ _ h => h) S19 (wantsN 20 27 true rfl (by kernel_rfl) rfl (by kernel_rfl)) rfl ?_
        refine h_pass 22 rfl (by kernel_rfl) (by kernel_rfl) (by kernel_rfl) (fun _ _ _ h => h) S19 (wantsN 20 27 true rfl (by kernel_rfl) rfl (by kernel_rfl)) rfl ?_
        refine h_pass 23 rfl (by kernel_rfl) (by kernel_rfl) (by kernel_rfl) (fun _ _ _ h => h) S19 (wantsN 20 27 true rfl (by kernel_rfl) rfl (by kernel_rfl)) rfl ?_
        refine h_pass 24 rfl (by kernel_rfl) (by kernel_rfl) (by kernel_rfl) (fun _ _ _ h => h) S19 (wantsN 20 27 true rfl (by kernel_rfl) rfl (by kernel_rfl)) rfl ?_
        refine h_pass 25 rfl (by kernel_rfl) (by kernel_rfl) (by kernel_rfl) (fun _ _ _ h => h) S19 (wantsN 20 27 true rfl (by kernel_rfl) rfl (by kernel_rfl)) rfl ?_
        refine h_pass 26 rfl (by kernel_rfl) (by kernel_rfl) (by kernel_rfl) (fun _ _ _ h => h) S19 (wantsN 20 27 true rfl (by kernel_rfl) rfl (by kernel_rfl)) rfl ?_
        refine h_val 27 rfl (by kernel_rfl) (by kernel_rfl) (by kernel_rfl) (fun _ _ _ h => h) S19 (wants0 rfl) (d := 34) (v := (.bool false)) rfl (fun _ H' => (by kernel_rfl)) ?_
        refine h_val 28 rfl (by kernel_rfl) (by kernel_rfl) (by kernel_rfl) (fun _ _ _ h => h) S19 (wants0 rfl) (d := 35) (v := (.bool false)) rfl (fun _ H' => (by kernel_rfl)) ?_
        refine h_pass 29 rfl (by kernel_rfl) (by kernel_rfl) (by kernel_rfl) (fun _ _ _ h => h) S19 (wantsN 28 35 true rfl (by kernel_rfl) rfl (by kernel_rfl)) rfl ?_
        refine h_pass 30 rfl (by kernel_rfl) (by kernel_rfl) (by kernel_rfl) (fun _ _ _ h => h) S19 (wantsN 28 35 true rfl (by kernel_rfl) rfl (by kernel_rfl)) rfl ?_
        refine h_pass 31 rfl (by kernel_rfl) (by kernel_rfl) (by kernel_rfl) (fun _ _ _ h => h) S19 (wantsN 28 35 true rfl (by kernel_rfl) rfl (by kernel_rfl)) rfl ?_
        refine h_pass 32 rfl (by kernel_rfl) (by kernel_rfl) (by kernel_rfl) (fun _ _ _ h => h) S19 (wantsN 28 35 true rfl (by kernel_rfl) rfl (by kernel_rfl)) rfl ?_
        refine h_pass 33 rfl (by kernel_rfl) (by kernel_rfl) (by kernel_rfl) (fun _ _ _ h => h) S19 (wantsN 28 35 true rfl (by kernel_rfl) rfl (by kernel_rfl)) rfl ?_
        refine h_pass 34 rfl (by kernel_rfl) (by kernel_rfl) (by kernel_rfl) (fun _ _ _ h => h) S19 (wantsN 28 35 true rfl (by kernel_rfl) rfl (by kernel_rfl)) rfl ?_
        refine h_val 35 rfl (by kernel_rfl) (by kernel_rfl) (by kernel_rfl) (fun _ _ _ h => h) S19 (wants0 rfl) (d := 42) (v := (.bool false)) rfl (fun _ H' => (by kernel_rfl)) ?_
        refine h_val 36 rfl (by kernel_rfl) (by kernel_rfl) (by kernel_rfl) (fun _ _ _ h => h) S19 (wants0 rfl) (d := 6) (v := (.bool false)) rfl (fun _ H' => (by kernel_rfl)) ?_
        refine h_fin (by kernel_rfl) ?_
        refine then_normal ?_
        refine w_ret ?_
        refine end1 rfl (res_tmp (v := (.bool false)) rfl) ?_
        exact ⟨by simp [rightS, inB, b12, b20, b23], H17.upd 0 rfl [] (fun _ h => h.elim)⟩
    · have g53 := of_decide_eq_false b20
      refine h_know 17 (.bool false) (congrArg Value.bool b20) ?_
      have g54 := of_decide_eq_false b20
      refine h_pass 11 rfl (by kernel_rfl) (by kernel_rfl) (by kernel_rfl) (fun _ _ _ h => h) S19 (wantsN 10 17 true rfl (by kernel_rfl) rfl (by kernel_rfl)) rfl ?_
      refine h_pass 12 rfl (by kernel_rfl) (by kernel_rfl) (by kernel_rfl) (fun _ _ _ h => h) S19 (wantsN 10 17 true rfl (by kernel_rfl) rfl (by kernel_rfl)) rfl ?_
      refine h_pass 13 rfl (by kernel_rfl) (by kernel_rfl) (by kernel_rfl) (fun _ _ _ h => h) S19 (wantsN 10 17 true rfl (by kernel_rfl) rfl (by kernel_rfl)) rfl ?_
      refine h_val 14 rfl (by kernel_rfl) (by kernel_rfl) (by kernel_rfl) (fun _ _ _ h => h) S19 (wants0 rfl) (d := 21) (v := (.bool false)) rfl (fun _ H' => (by kernel_rfl)) ?_
      refine h_val 15 rfl (by kernel_rfl) (by kernel_rfl) (by kernel_rfl) (fun _ _ _ h => h) S19 (wants0 rfl) (d := 22) (v := (.bool false)) rfl (fun _ H' => (by kernel_rfl)) ?_
      refine h_pass 16 rfl (by kernel_rfl) (by kernel_rfl) (by kernel_rfl) (fun _ _ _ h => h) S19 (wantsN 15 22 true rfl (by kernel_rfl) rfl (by kernel_rfl)) rfl ?_
      refine h_pass 17 rfl (by kernel_rfl) (by kernel_rfl) (by kernel_rfl) (fun _ _ _ h => h) S19 (wantsN 15 22 true rfl (by kernel_rfl) rfl (by kernel_rfl)) rfl ?_
      refine h_pass 18 rfl (by kernel_rfl) (by kernel_rfl) (by kernel_rfl) (fun _ _ _ h => h) S19 (wantsN 15 22 true rfl (by kernel_rfl) rfl (by kernel_rfl)) rfl ?_
      refine h_val 19 rfl (by kernel_rfl) (by kernel_rfl) (by kernel_rfl) (fun _ _ _ h => h) S19 (wants0 rfl) (d := 26) (v := (.bool false)) rfl (fun _ H' => (by kernel_rfl)) ?_
      refine h_val 20 rfl (by kernel_rfl) (by kernel_rfl) (by kernel_rfl) (fun _ _ _ h => h) S19 (wants0 rfl) (d := 27) (v := (.bool false)) rfl (fun _ H' => (by kernel_rfl)) ?_
      refine h_pass 21 rfl (by kernel_rfl) (by kernel_rfl) (by kernel_rfl) (fun _ _ _ h => h) S19 (wantsN 20 27 true rfl (by kernel_rfl) rfl (by kernel_rfl)) rfl ?_
      refine h_pass 22 rfl (by kernel_rfl) (by kernel_rfl) (by kernel_rfl) (fun _ _ _ h => h) S19 (wantsN 20 27 true rfl (by kernel_rfl) rfl (by kernel_rfl)) rfl ?_
      refine h_pass 23 rfl (by kernel_rfl) (by kernel_rfl) (by kernel_rfl) (fun _ _ _ h => h) S19 (wantsN 20 27 true rfl (by kernel_rfl) rfl (by kernel_rfl)) rfl ?_
      refine h_pass 24 rfl (by kernel_rfl) (by kernel_rfl) (by kernel_rfl) (fun _ _ _ h => h) S19 (wantsN 20 27 true rfl (by kernel_rfl) rfl (by kernel_rfl)) rfl ?_
      refine h_pass 25 rfl (by kernel_rfl) (by kernel_rfl) (by kernel_rfl) (fun _ _ _ h => h) S19 (wantsN 20 27 true rfl (by kernel_rfl) rfl (by kernel_rfl)) rfl ?_
      refine h_pass 26 rfl (by kernel_rfl) (by kernel_rfl) (by kernel_rfl) (fun _ _ _ h => h) S19 (wantsN 20 27 true rfl (by kernel_rfl) rfl (by kernel_rfl)) rfl ?_
      refine h_val 27 rfl (by kernel_rfl) (by kernel_rfl) (by kernel_rfl) (fun _ _ _ h => h) S19 (wants0 rfl) (d := 34) (v := (.bool false)) rfl (fun _ H' => (by kernel_rfl)) ?_
      refine h_val 28 rfl (by kernel_rfl) (by kernel_rfl) (by kernel_rfl) (fun _ _ _ h => h) S19 (wants0 rfl) (d := 35) (v := (.bool false)) rfl (fun _ H' => (by kernel_rfl)) ?_
      refine h_pass 29 rfl (by kernel_rfl) (by kernel_rfl) (by kernel_rfl) (fun _ _ _ h => h) S19 (wantsN 28 35 true rfl (by kernel_rfl) rfl (by kernel_rfl)) rfl ?_
      refine h_pass 30 rfl (by kernel_rfl) (by kernel_rfl) (by kernel_rfl) (fun _ _ _ h => h) S19 (wantsN 28 35 true rfl (by kernel_rfl) rfl (by kernel_rfl)) rfl ?_
      refine h_pass 31 rfl (by kernel_rfl) (by kernel_rfl) (by kernel_rfl) (fun _ _ _ h => h) S19 (wantsN 28 35 true rfl (by kernel_rfl) rfl (by kernel_rfl)) rfl ?_
      refine h_pass 32 rfl (by kernel_rfl) (by kernel_rfl) (by kernel_rfl) (fun _ _ _ h => h) S19 (wantsN 28 35 true rfl (by kernel_rfl) rfl (by kernel_rfl)) rfl ?_
      refine h_pass 33 rfl (by kernel_rfl) (by kernel_rfl) (by kernel_rfl) (fun _ _ _ h => h) S19 (wantsN 28 35 true rfl (by kernel_rfl) rfl (by kernel_rfl)) rfl ?_
      refine h_pass 34 rfl (by kernel_rfl) (by kernel_rfl) (by kernel_rfl) (fun _ _ _ h => h) S19 (wantsN 28 35 true rfl (by kernel_rfl) rfl (by kernel_rfl)) rfl ?_
      refine h_val 35 rfl (by kernel_rfl) (by kernel_rfl) (by kernel_rfl) (fun _ _ _ h => h) S19 (wants0 rfl) (d := 42) (v := (.bool false)) rfl (fun _ H' => (by kernel_rfl)) ?_
      refine h_val 36 rfl (by kernel_rfl) (by kernel_rfl) (by kernel_rfl) (fun _ _ _ h => h) S19 (wants0 rfl) (d := 6) (v := (.bool false)) rfl (fun _ H' => (by kernel_rfl)) ?_
      refine h_fin (by kernel_rfl) ?_
      refine then_normal ?_
      refine w_ret ?_
      refine end1 rfl (res_tmp (v := (.bool false)) rfl) ?_
      exact ⟨by simp [rightS, inB, b12, b20], H17.upd 0 rfl [] (fun _ h => h.elim)⟩
  · have g55 := of_decide_eq_false b12
    refine h_know 10 (.bool false) (congrArg Value.bool b12) ?_
    have g56 := of_decide_eq_false b12
    refine h_pass 4 rfl (by kernel_rfl) (by kernel_rfl) (by kernel_rfl) (fun _ _ _ h => h) S11 (wantsN 3 10 true rfl (by kernel_rfl) rfl (by kernel_rfl)) rfl ?_
    refine h_pass 5 rfl (by kernel_rfl) (by kernel_rfl) (by kernel_rfl) (fun _ _ _ h => h) S11 (wantsN 3 10 true rfl (by kernel_rfl) rfl (by kernel_rfl)) rfl ?_
    refine h_pass 6 rfl (by kernel_rfl) (by kernel_rfl) (by kernel_rfl) (fun _ _ _ h => h) S11 (wantsN 3 10 true rfl (by kernel_rfl) rfl (by kernel_rfl)) rfl ?_
    refine h_pass 7 rfl (by kernel_rfl) (by kernel_rfl) (by kernel_rfl) (fun _ _ _ h => h) S11 (wantsN 3 10 true rfl (by kernel_rfl) rfl (by kernel_rfl)) rfl ?_
    refine h_pass 8 rfl (by kernel_rfl) (by kernel_rfl) (by kernel_rfl) (fun _ _ _ h => h) S11 (wantsN 3 10 true rfl (by kernel_rfl) rfl (by kernel_rfl)) rfl ?_
    refine h_val 9 rfl (by kernel_rfl) (by kernel_rfl) (by kernel_rfl) (fun _ _ _ h => h) S11 (wants0 rfl) (d := 16) (v := (.bool false)) rfl (fun _ H' => (by kernel_rfl)) ?_
    refine h_val 10 rfl (by kernel_rfl) (by kernel_rfl) (by kernel_rfl) (fun _ _ _ h => h) S11 (wants0 rfl) (d := 17) (v := (.bool false)) rfl (fun _ H' => (by kernel_rfl)) ?_
    refine h_pass 11 rfl (by kernel_rfl) (by kernel_rfl) (by kernel_rfl) (fun _ _ _ h => h) S11 (wantsN 10 17 true rfl (by kernel_rfl) rfl (by kernel_rfl)) rfl ?_
    refine h_pass 12 rfl (by kernel_rfl) (by kernel_rfl) (by kernel_rfl) (fun _ _ _ h => h) S11 (wantsN 10 17 true rfl (by kernel_rfl) rfl (by kernel_rfl)) rfl ?_
    refine h_pass 13 rfl (by kernel_rfl) (by kernel_rfl) (by kernel_rfl) (fun _ _ _ h => h) S11 (wantsN 10 17 true rfl (by kernel_rfl) rfl (by kernel_rfl)) rfl ?_
    refine h_val 14 rfl (by kernel_rfl) (by kernel_rfl) (by kernel_rfl) (fun _ _ _ h => h) S11 (wants0 rfl) (d := 21) (v := (.bool false)) rfl (fun _ H' => (by kernel_rfl)) ?_
    refine h_val 15 rfl (by kernel_rfl) (by kernel_rfl) (by kernel_rfl) (fun _ _ _ h => h) S11 (wants0 rfl) (d := 22) (v := (.bool false)) rfl (fun _ H' => (by kernel_rfl)) ?_
    refine h_pass 16 rfl (by kernel_rfl) (by kernel_rfl) (by kernel_rfl) (fun _ _ _ h => h) S11 (wantsN 15 22 true rfl (by kernel_rfl) rfl (by kernel_rfl)) rfl ?_
    refine h_pass 17 rfl (by kernel_rfl) (by kernel_rfl) (by kernel_rfl) (fun _ _ _ h => h) S11 (wantsN 15 22 true rfl (by kernel_rfl) rfl (by kernel_rfl)) rfl ?_
    refine h_pass 18 rfl (by kernel_rfl) (by kernel_rfl) (by kernel_rfl) (fun _ _ _ h => h) S11 (wantsN 15 22 true rfl (by kernel_rfl) rfl (by kernel_rfl)) rfl ?_
    refine h_val 19 rfl (by kernel_rfl) (by kernel_rfl) (by kernel_rfl) (fun _ _ _ h => h) S11 (wants0 rfl) (d := 26) (v := (.bool false)) rfl (fun _ H' => (by kernel_rfl)) ?_
    refine h_val 20 rfl (by kernel_rfl) (by kernel_rfl) (by kernel_rfl) (fun _ _ _ h => h) S11 (wants0 rfl) (d := 27) (v := (.bool false)) rfl (fun _ H' => (by kernel_rfl)) ?_
    refine h_pass 21 rfl (by kernel_rfl) (by kernel_rfl) (by kernel_rfl) (fun _ _ _ h => h) S11 (wantsN 20 27 true rfl (by kernel_rfl) rfl (by kernel_rfl)) rfl ?_
    refine h_pass 22 rfl (by kernel_rfl) (by kernel_rfl) (by kernel_rfl) (fun _ _ _ h => h) S11 (wantsN 20 27 true rfl (by kernel_rfl) rfl (by kernel_rfl)) rfl ?_
    refine h_pass 23 rfl (by kernel_rfl) (by kernel_rfl) (by kernel_rfl) (fun _ _ _ h => h) S11 (wantsN 20 27 true rfl (by kernel_rfl) rfl (by kernel_rfl)) rfl ?_
    refine h_pass 24 rfl (by kernel_rfl) (by kernel_rfl) (by kernel_rfl) (fun _ _ _ h => h) S11 (wantsN 20 27 true rfl (by kernel_rfl) rfl (by kernel_rfl)) rfl ?_
    refine h_pass 25 rfl (by kernel_rfl) (by kernel_rfl) (by kernel_rfl) (fun _ _ _ h => h) S11 (wantsN 20 27 true rfl (by kernel_rfl) rfl (by kernel_rfl)) rfl ?_
    refine h_pass 26 rfl (by kernel_rfl) (by kernel_rfl) (by kernel_rfl) (fun _ _ _ h => h) S11 (wantsN 20 27 true rfl (by kernel_rfl) rfl (by kernel_rfl)) rfl ?_
    refine h_val 27 rfl (by kernel_rfl) (by kernel_rfl) (by kernel_rfl) (fun _ _ _ h => h) S11 (wants0 rfl) (d := 34) (v := (.bool false)) rfl (fun _ H' => (by kernel_rfl)) ?_
    refine h_val 28 rfl (by kernel_rfl) (by kernel_rfl) (by kernel_rfl) (fun _ _ _ h => h) S11 (wants0 rfl) (d := 35) (v := (.bool false)) rfl (fun _ H' => (by kernel_rfl)) ?_
    refine h_pass 29 rfl (by kernel_rfl) (by kernel_rfl) (by kernel_rfl) (fun _ _ _ h => h) S11 (wantsN 28 35 true rfl (by kernel_rfl) rfl (by kernel_rfl)) rfl ?_
    refine h_pass 30 rfl (by kernel_rfl) (by kernel_rfl) (by kernel_rfl) (fun _ _ _ h => h) S11 (wantsN 28 35 true rfl (by kernel_rfl) rfl (by kernel_rfl)) rfl ?_
    refine h_pass 31 rfl (by kernel_rfl) (by kernel_rfl) (by kernel_rfl) (fun _ _ _ h => h) S11 (wantsN 28 35 true rfl (by kernel_rfl) rfl (by kernel_rfl)) rfl ?_
    refine h_pass 32 rfl (by kernel_rfl) (by kernel_rfl) (by kernel_rfl) (fun _ _ _ h => h) S11 (wantsN 28 35 true rfl (by kernel_rfl) rfl (by kernel_rfl)) rfl ?_
    refine h_pass 33 rfl (by kernel_rfl) (by kernel_rfl) (by kernel_rfl) (fun _ _ _ h => h) S11 (wantsN 28 35 true rfl (by kernel_rfl) rfl (by kernel_rfl)) rfl ?_
    refine h_pass 34 rfl (by kernel_rfl) (by kernel_rfl) (by kernel_rfl) (fun _ _ _ h => h) S11 (wantsN 28 35 true rfl (by kernel_rfl) rfl (by kernel_rfl)) rfl ?_
    refine h_val 35 rfl (by kernel_rfl) (by kernel_rfl) (by kernel_rfl) (fun _ _ _ h => h) S11 (wants0 rfl) (d := 42) (v := (.bool false)) rfl (fun _ H' => (by kernel_rfl)) ?_
    refine h_val 36 rfl (by kernel_rfl) (by kernel_rfl) (by kernel_rfl) (fun _ _ _ h => h) S11 (wants0 rfl) (d := 6) (v := (.bool false)) rfl (fun _ H' => (by kernel_rfl)) ?_
    refine h_fin (by kernel_rfl) ?_
    refine then_normal ?_
    refine w_ret ?_
    refine end1 rfl (res_tmp (v := (.bool false)) rfl) ?_
    exact ⟨by simp [rightS, inB, b12], H10.upd 0 rfl [] (fun _ h => h.elim)⟩

end Go.Proofs.Ytbpeofcoceaahaa
