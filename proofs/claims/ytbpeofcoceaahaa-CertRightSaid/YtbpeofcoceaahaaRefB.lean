/- WHAT IS PROVED: bytes: contracts. Conditions: stated with each. -/
import Derived.Test.YtbpeofcoceaahaaRbD
namespace Go.Proofs.Ytbpeofcoceaahaa
open Go.RowKit

def rbkL (r : Nat) (a : Option Addr) (c : Nat) (L : List Signed) (tv : Value) (tx : List UInt8) : List Ck := [cellC r 88 [.slice a L.length c], rowC 120 2 (.slice a L.length c) L.length (L.flatMap encS), rowC 5 1 tv tx.length (tx.flatMap encB)]

theorem markOf_at {L : List Signed} (hn : L.Nodup) {i : Nat} {y : Signed} (h : L[i]? = some y) : markOf L y = (i : Int) + 1 := by
  obtain ⟨hi, rfl⟩ := List.getElem?_eq_some_iff.1 h
  have : L.idxOf? L[i] = some i := by
    rw [List.idxOf?_eq_some_iff]
    refine ⟨hi, rfl, fun j hj e => ?_⟩
    have := List.pairwise_iff_getElem.1 hn j i (by omega) hi hj
    exact this e
  unfold markOf; rw [this]; rfl
theorem markOf_no {L : List Signed} {y : Signed} (h : y ∉ L) : markOf L y = 0 := by
  unfold markOf
  cases hq : L.idxOf? y with
  | none => rfl
  | some i =>
    obtain ⟨h1, h2, _⟩ := List.idxOf?_eq_some_iff.1 hq
    exact absurd (h2 ▸ List.getElem_mem h1) h
theorem right_iff {L : List Signed} (hn : L.Nodup) {p m : Int} {tx : List UInt8} : rightB L p m tx = true ↔ ∃ i : Nat, L[i]? = some ⟨p, tx⟩ ∧ m = (i : Int) + 1 := by
  unfold rightB
  simp only [decide_eq_true_eq]
  constructor
  · rintro ⟨h1, h2⟩
    by_cases hm : (⟨p, tx⟩ : Signed) ∈ L
    · obtain ⟨i, hi, e⟩ := List.mem_iff_getElem.1 hm
      have h3 : L[i]? = some ⟨p, tx⟩ := by rw [List.getElem?_eq_getElem hi, e]
      exact ⟨i, h3, by have := markOf_at hn h3; omega⟩
    · rw [markOf_no hm] at h1; omega
  · rintro ⟨i, h1, h2⟩
    have := markOf_at hn h1
    omega
theorem no_step {L : List Signed} {i : Nat} {x : Signed} {y : Signed} (hx : L[i]? = some x) (hne : ¬ x = y) (h : y ∉ L.take i) : y ∉ L.take (i + 1) := by
  rw [List.take_add_one, hx, List.mem_append]
  rintro (q | q)
  · exact h q
  · simp at q; exact hne q.symm

set_option maxRecDepth 100000 in
set_option maxHeartbeats 400000 in
theorem rbRight_any (w : World) (r : Nat) (a : Option Addr) (c : Nat) (L : List Signed) (tv : Value) (tx : List UInt8) (hB : (sepC (rbkL r a c L tv tx)).ok w) (hl : L.length ≤ 1000000) (hn : L.Nodup) (p m : Int) :
    Calls Try.prog 45 #[(.pointer (some ⟨r, 0, none⟩)), (.agg ⟨([(.int .i64 (p)), (.int .i64 (m))] : List Value)⟩), tv] w fun e w' => e = .returned (.bool (rightB L p m tx)) ∧ Sat w [cellC r 88 [.slice a (L).length c], rowC 120 2 (.slice a (L).length c) (L).length ((L).flatMap encS), rowC 5 1 tv tx.length (tx.flatMap encB), restC w (sepC (rbkL r a c L tv tx)).fp] w' := by
  have H : Sat w [cellC r 88 ([(.slice a L.length c)] : List Value), rowC 120 2 (.slice a L.length c) L.length (L.flatMap encS), rowC 5 1 tv tx.length (tx.flatMap encB), restC w (sepC (rbkL r a c L tv tx)).fp] w := Sat.start (rbkL r a c L tv tx) hB
  refine calls_fr Try.func45 rfl 50 rfl (Nat.le_of_ble_eq_true rfl) ?_
  refine w_seq ?_
  refine w_lit ?_
  refine wl_do (wants0 rfl) (fun K1 hK1 => ?_)
  refine d_box (vs := ([(.int .i64 (p)), (.int .i64 (m))] : List Value)) rfl H rfl rfl ?_
  intro b2 w3 (H4 : Sat w [cellC r 88 ([(.slice a L.length c)] : List Value), rowC 120 2 (.slice a L.length c) L.length (L.flatMap encS), rowC 5 1 tv tx.length (tx.flatMap encB), restC w (sepC (rbkL r a c L tv tx)).fp, cellC b2 42 ([(.int .i64 (p)), (.int .i64 (m))] : List Value)] w3)
  refine hK1 _ _ ?_
  clear hK1 K1
  refine wl_pure (wants0 rfl) (d := 6) (v := (.bool false)) rfl (by kernel_rfl) ?_
  refine w_nil ?_
  refine then_normal ?_
  refine w_seq ?_
  refine q_start H4 (by kernel_rfl) (by kernel_rfl) ?_
  refine q_val (wants0 rfl) (d := 7) (v := (.pointer (some ⟨b2, 1, none⟩))) rfl (fun _ H' => (by kernel_rfl)) ?_
  refine q_val (wants0 rfl) (d := 8) (v := (.int .i64 (m))) rfl (fun _ H' => (e_load1 rfl (by kernel_rfl) (H'.cell 4 rfl rfl))) ?_
  refine q_val (wants0 rfl) (d := 9) (v := (.bool (decide (m ≥ 1)))) rfl (fun _ H' => (by kernel_rfl)) ?_
  refine q_val (wants0 rfl) (d := 10) (v := (.bool (decide (m ≥ 1)))) rfl (fun _ H' => (by kernel_rfl)) ?_
  refine (bsplit (decide (m ≥ 1))).elim (fun b5 => ?_) (fun b5 => ?_)
  · have g6 := of_decide_eq_true b5
    refine q_know 10 (.bool true) (congrArg Value.bool b5) ?_
    have g7 := of_decide_eq_true b5
    refine q_val (wantsY 3 10 true rfl (by kernel_rfl) rfl (by kernel_rfl)) (d := 11) (v := (.pointer (some ⟨b2, 1, none⟩))) rfl (fun _ H' => (by kernel_rfl)) ?_
    refine q_val (wantsY 3 10 true rfl (by kernel_rfl) rfl (by kernel_rfl)) (d := 12) (v := (.int .i64 (m))) rfl (fun _ H' => (e_load1 rfl (by kernel_rfl) (H'.cell 4 rfl rfl))) ?_
    refine q_val (wantsY 3 10 true rfl (by kernel_rfl) rfl (by kernel_rfl)) (d := 13) (v := (.pointer (some ⟨r, 0, none⟩))) rfl (fun _ H' => (by kernel_rfl)) ?_
    refine q_val (wantsY 3 10 true rfl (by kernel_rfl) rfl (by kernel_rfl)) (d := 14) (v := (.pointer (some ⟨r, 0, none⟩))) rfl (fun _ H' => (by kernel_rfl)) ?_
    refine q_val (wantsY 3 10 true rfl (by kernel_rfl) rfl (by kernel_rfl)) (d := 15) (v := (.pointer (some ⟨r, 0, none⟩))) rfl (fun _ H' => (by kernel_rfl)) ?_
    refine q_val (wantsY 3 10 true rfl (by kernel_rfl) rfl (by kernel_rfl)) (d := 16) (v := (.slice a L.length c)) rfl (fun _ H' => (e_load1 rfl (by kernel_rfl) (H'.cell 0 rfl rfl))) ?_
    refine q_val (wantsY 3 10 true rfl (by kernel_rfl) rfl (by kernel_rfl)) (d := 17) (v := (.int .i64 ((L.length : Int)))) rfl (fun _ H' => (by kernel_rfl)) ?_
    refine q_val (wantsY 3 10 true rfl (by kernel_rfl) rfl (by kernel_rfl)) (d := 18) (v := (.bool (decide (m ≤ (L.length : Int))))) rfl (fun _ H' => (by kernel_rfl)) ?_
    refine q_val (wants0 rfl) (d := 19) (v := (.bool (decide (m ≤ (L.length : Int))))) rfl (fun _ H' => (by kernel_rfl)) ?_
    refine q_val (wants0 rfl) (d := 20) (v := (.bool (decide (m ≤ (L.length : Int))))) rfl (fun _ H' => (by kernel_rfl)) ?_
    refine (bsplit (decide (m ≤ (L.length : Int)))).elim (fun b8 => ?_) (fun b8 => ?_)
    · have g9 := of_decide_eq_true b8
      refine q_know 20 (.bool true) (congrArg Value.bool b8) ?_
      have g10 := of_decide_eq_true b8
      refine q_val (wantsY 13 20 true rfl (by kernel_rfl) rfl (by kernel_rfl)) (d := 21) (v := (.pointer (some ⟨r, 0, none⟩))) rfl (fun _ H' => (by kernel_rfl)) ?_
      refine q_val (wantsY 13 20 true rfl (by kernel_rfl) rfl (by kernel_rfl)) (d := 22) (v := (.pointer (some ⟨r, 0, none⟩))) rfl (fun _ H' => (by kernel_rfl)) ?_
      refine q_val (wantsY 13 20 true rfl (by kernel_rfl) rfl (by kernel_rfl)) (d := 23) (v := (.pointer (some ⟨r, 0, none⟩))) rfl (fun _ H' => (by kernel_rfl)) ?_
      refine q_val (wantsY 13 20 true rfl (by kernel_rfl) rfl (by kernel_rfl)) (d := 24) (v := (.slice a L.length c)) rfl (fun _ H' => (e_load1 rfl (by kernel_rfl) (H'.cell 0 rfl rfl))) ?_
      refine q_val (wantsY 13 20 true rfl (by kernel_rfl) rfl (by kernel_rfl)) (d := 25) (v := (.pointer (some ⟨b2, 1, none⟩))) rfl (fun _ H' => (by kernel_rfl)) ?_
      refine q_val (wantsY 13 20 true rfl (by kernel_rfl) rfl (by kernel_rfl)) (d := 26) (v := (.int .i64 (m))) rfl (fun _ H' => (e_load1 rfl (by kernel_rfl) (H'.cell 4 rfl rfl))) ?_
      refine q_val (wantsY 13 20 true rfl (by kernel_rfl) rfl (by kernel_rfl)) (d := 27) (v := (.int .i64 (m - 1))) rfl (fun _ H' => (e_int (z := m - 1) (by kernel_rfl) (IntWalk.i64_in _ (by omega)))) ?_
      obtain ⟨g11, c12, e13⟩ := row_shape (H4.at 1 rfl) (by omega)
      obtain ⟨x14, h15⟩ := get_at (show (m - 1).toNat < L.length by omega)
      refine q_val (wantsY 13 20 true rfl (by kernel_rfl) rfl (by kernel_rfl)) (d := 28) (v := (.pointer (some ⟨g11, 0 + (m - 1).toNat * 2, none⟩))) rfl (fun _ H' => (e_indexAddrV (E := 120) (by kernel_rfl) (by kernel_rfl) (Nat.le_of_ble_eq_true rfl) rfl e13 rfl (by omega) (by omega))) ?_
      refine q_val (wantsY 13 20 true rfl (by kernel_rfl) rfl (by kernel_rfl)) (d := 29) (v := (.pointer (some ⟨g11, 0 + (m - 1).toNat * 2, none⟩))) rfl (fun _ H' => (by kernel_rfl)) ?_
      refine q_val (wantsY 13 20 true rfl (by kernel_rfl) rfl (by kernel_rfl)) (d := 30) (v := (.int .i64 (x14.p))) rfl (fun _ H' => (e_load1 rfl (by kernel_rfl) (rows_cell (H'.at 1 rfl) e13 encS_len h15 0 rfl (show 0 + (m - 1).toNat * 2 = (m - 1).toNat * 2 + 0 by omega) (by kernel_rfl)))) ?_
      refine q_val (wantsY 13 20 true rfl (by kernel_rfl) rfl (by kernel_rfl)) (d := 31) (v := (.pointer (some ⟨b2, 0, none⟩))) rfl (fun _ H' => (by kernel_rfl)) ?_
      refine q_val (wantsY 13 20 true rfl (by kernel_rfl) rfl (by kernel_rfl)) (d := 32) (v := (.int .i64 (p))) rfl (fun _ H' => (e_load1 rfl (by kernel_rfl) (H'.cell 4 rfl rfl))) ?_
      refine q_val (wantsY 13 20 true rfl (by kernel_rfl) rfl (by kernel_rfl)) (d := 33) (v := (.bool (decide (x14.p = p)))) rfl (fun _ H' => (by kernel_rfl)) ?_
      refine q_val (wants0 rfl) (d := 34) (v := (.bool (decide (x14.p = p)))) rfl (fun _ H' => (by kernel_rfl)) ?_
      refine q_val (wants0 rfl) (d := 35) (v := (.bool (decide (x14.p = p)))) rfl (fun _ H' => (by kernel_rfl)) ?_
      refine (bsplit (decide (x14.p = p))).elim (fun b16 => ?_) (fun b16 => ?_)
      · have g17 := of_decide_eq_true b16
        refine q_know 35 (.bool true) (congrArg Value.bool b16) ?_
        have g18 := of_decide_eq_true b16
        refine q_val (wantsY 28 35 true rfl (by kernel_rfl) rfl (by kernel_rfl)) (d := 36) (v := (.pointer (some ⟨r, 0, none⟩))) rfl (fun _ H' => (by kernel_rfl)) ?_
        refine q_val (wantsY 28 35 true rfl (by kernel_rfl) rfl (by kernel_rfl)) (d := 37) (v := (.pointer (some ⟨r, 0, none⟩))) rfl (fun _ H' => (by kernel_rfl)) ?_
        refine q_val (wantsY 28 35 true rfl (by kernel_rfl) rfl (by kernel_rfl)) (d := 38) (v := (.pointer (some ⟨r, 0, none⟩))) rfl (fun _ H' => (by kernel_rfl)) ?_
        refine q_val (wantsY 28 35 true rfl (by kernel_rfl) rfl (by kernel_rfl)) (d := 39) (v := (.slice a L.length c)) rfl (fun _ H' => (e_load1 rfl (by kernel_rfl) (H'.cell 0 rfl rfl))) ?_
        refine q_val (wantsY 28 35 true rfl (by kernel_rfl) rfl (by kernel_rfl)) (d := 40) (v := (.pointer (some ⟨b2, 1, none⟩))) rfl (fun _ H' => (by kernel_rfl)) ?_
        refine q_val (wantsY 28 35 true rfl (by kernel_rfl) rfl (by kernel_rfl)) (d := 41) (v := (.int .i64 (m))) rfl (fun _ H' => (e_load1 rfl (by kernel_rfl) (H'.cell 4 rfl rfl))) ?_
        refine q_val (wantsY 28 35 true rfl (by kernel_rfl) rfl (by kernel_rfl)) (d := 42) (v := (.int .i64 (m - 1))) rfl (fun _ H' => (e_int (z := m - 1) (by kernel_rfl) (IntWalk.i64_in _ (by omega)))) ?_
        refine q_val (wantsY 28 35 true rfl (by kernel_rfl) rfl (by kernel_rfl)) (d := 43) (v := (.pointer (some ⟨g11, 0 + (m - 1).toNat * 2, none⟩))) rfl (fun _ H' => (e_indexAddrV (E := 120) (by kernel_rfl) (by kernel_rfl) (Nat.le_of_ble_eq_true rfl) rfl e13 rfl (by omega) (by omega))) ?_
        refine q_val (wantsY 28 35 true rfl (by kernel_rfl) rfl (by kernel_rfl)) (d := 44) (v := (.pointer (some ⟨g11, 0 + (m - 1).toNat * 2 + 1, none⟩))) rfl (fun _ H' => (by kernel_rfl)) ?_
        refine q_val (wantsY 28 35 true rfl (by kernel_rfl) rfl (by kernel_rfl)) (d := 45) (v := (strV x14.s)) rfl (fun _ H' => (e_load1 rfl (by kernel_rfl) (rows_cell (H'.at 1 rfl) e13 encS_len h15 1 rfl (show 0 + (m - 1).toNat * 2 + 1 = (m - 1).toNat * 2 + 1 by omega) (by kernel_rfl)))) ?_
        refine q_val (wantsY 28 35 true rfl (by kernel_rfl) rfl (by kernel_rfl)) (d := 46) (v := tv) rfl (fun _ H' => (by kernel_rfl)) ?_
        refine q_val (wantsY 28 35 true rfl (by kernel_rfl) rfl (by kernel_rfl)) (d := 47) (v := (strV tx)) rfl (fun _ H' => (e_convBytes (e := 5) (s := tx) (by kernel_rfl) (by kernel_rfl) (by kernel_rfl) rfl (list_bytes (ListAt.row (e := 5) (enc := encB) (sz := 1) (v := tv) (n := tx.length) (xs := tx) encB_len (by decide) (H'.at 2 rfl))))) ?_
        refine q_val (wantsY 28 35 true rfl (by kernel_rfl) rfl (by kernel_rfl)) (d := 48) (v := (.bool (decide (x14.s = tx)))) rfl (fun _ H' => (e_eqStr x14.s tx rfl rfl)) ?_
        refine q_val (wants0 rfl) (d := 49) (v := (.bool (decide (x14.s = tx)))) rfl (fun _ H' => (by kernel_rfl)) ?_
        refine q_val (wants0 rfl) (d := 6) (v := (.bool (decide (x14.s = tx)))) rfl (fun _ H' => (by kernel_rfl)) ?_
        refine q_end ?_
        intro w19 H20
        refine then_normal ?_
        refine w_ret ?_
        refine end1 rfl (res_tmp (v := (.bool (decide (x14.s = tx)))) rfl) ?_
        have hb : rightB L p m tx = (decide (x14.s = tx)) := by
            rw [Bool.eq_iff_iff, right_iff hn, decide_eq_true_eq]
            have hp := of_decide_eq_true b16
            constructor
            · rintro ⟨i, h1, h2⟩
              have h3 := h15
              rw [show (m - 1).toNat = i by omega, h1] at h3
              cases h3; rfl
            · intro h
              exact ⟨(m - 1).toNat, by rw [h15, ← hp, ← h], by omega⟩
        exact ⟨by rw [hb], H20.pick [0, 1, 2, 3] (by decide)⟩
      · have g21 := of_decide_eq_false b16
        refine q_know 35 (.bool false) (congrArg Value.bool b16) ?_
        have g22 := of_decide_eq_false b16
        refine q_pass (wantsN 28 35 true rfl (by kernel_rfl) rfl (by kernel_rfl)) rfl ?_
        refine q_pass (wantsN 28 35 true rfl (by kernel_rfl) rfl (by kernel_rfl)) rfl ?_
        refine q_pass (wantsN 28 35 true rfl (by kernel_rfl) rfl (by kernel_rfl)) rfl ?_
        refine q_pass (wantsN 28 35 true rfl (by kernel_rfl) rfl (by kernel_rfl)) rfl ?_
        refine q_pass (wantsN 28 35 true rfl (by kernel_rfl) rfl (by kernel_rfl)) rfl ?_
        refine q_pass (wantsN 28 35 true rfl (by kernel_rfl) rfl (by kernel_rfl)) rfl ?_
        refine q_pass (wantsN 28 35 true rfl (by kernel_rfl) rfl (by kernel_rfl)) rfl ?_
        refine q_pass (wantsN 28 35 true rfl (by kernel_rfl) rfl (by kernel_rfl)) rfl ?_
        refine q_pass (wantsN 28 35 true rfl (by kernel_rfl) rfl (by kernel_rfl)) rfl ?_
        refine q_pass (wantsN 28 35 true rfl (by kernel_rfl) rfl (by kernel_rfl)) rfl ?_
        refine q_pass (wantsN 28 35 true rfl (by kernel_rfl) rfl (by kernel_rfl)) rfl ?_
        refine q_pass (wantsN 28 35 true rfl (by kernel_rfl) rfl (by kernel_rfl)) rfl ?_
        refine q_pass (wantsN 28 35 true rfl (by kernel_rfl) rfl (by kernel_rfl)) rfl ?_
        refine q_val (wants0 rfl) (d := 49) (v := (.bool false)) rfl (fun _ H' => (by kernel_rfl)) ?_
        refine q_val (wants0 rfl) (d := 6) (v := (.bool false)) rfl (fun _ H' => (by kernel_rfl)) ?_
        refine q_end ?_
        intro w23 H24
        refine then_normal ?_
        refine w_ret ?_
        refine end1 rfl (res_tmp (v := (.bool false)) rfl) ?_
        have hb : rightB L p m tx = false := Bool.eq_false_iff.2 fun h => by
            obtain ⟨i, h1, h2⟩ := (right_iff hn).1 h
            have h3 := h15
            rw [show (m - 1).toNat = i by omega, h1] at h3
            cases h3
            exact absurd rfl (of_decide_eq_false b16)
        exact ⟨by rw [hb], H24.pick [0, 1, 2, 3] (by decide)⟩
    · have g25 := of_decide_eq_false b8
      refine q_know 20 (.bool false) (congrArg Value.bool b8) ?_
      have g26 := of_decide_eq_false b8
      refine q_pass (wantsN 13 20 true rfl (by kernel_rfl) rfl (by kernel_rfl)) rfl ?_
      refine q_pass (wantsN 13 20 true rfl (by kernel_rfl) rfl (by kernel_rfl)) rfl ?_
      refine q_pass (wantsN 13 20 true rfl (by kernel_rfl) rfl (by kernel_rfl)) rfl ?_
      refine q_pass (wantsN 13 20 true rfl (by kernel_rfl) rfl (by kernel_rfl)) rfl ?_
      refine q_pass (wantsN 13 20 true rfl (by kernel_rfl) rfl (by kernel_rfl)) rfl ?_
      refine q_pass (wantsN 13 20 true rfl (by kernel_rfl) rfl (by kernel_rfl)) rfl ?_
      refine q_pass (wantsN 13 20 true rfl (by kernel_rfl) rfl (by kernel_rfl)) rfl ?_
      refine q_pass (wantsN 13 20 true rfl (by kernel_rfl) rfl (by kernel_rfl)) rfl ?_
      refine q_pass (wantsN 13 20 true rfl (by kernel_rfl) rfl (by kernel_rfl)) rfl ?_
      refine q_pass (wantsN 13 20 true rfl (by kernel_rfl) rfl (by kernel_rfl)) rfl ?_
      refine q_pass (wantsN 13 20 true rfl (by kernel_rfl) rfl (by kernel_rfl)) rfl ?_
      refine q_pass (wantsN 13 20 true rfl (by kernel_rfl) rfl (by kernel_rfl)) rfl ?_
      refine q_pass (wantsN 13 20 true rfl (by kernel_rfl) rfl (by kernel_rfl)) rfl ?_
      refine q_val (wants0 rfl) (d := 34) (v := (.bool false)) rfl (fun _ H' => (by kernel_rfl)) ?_
      refine q_val (wants0 rfl) (d := 35) (v := (.bool false)) rfl (fun _ H' => (by kernel_rfl)) ?_
      refine q_pass (wantsN 28 35 true rfl (by kernel_rfl) rfl (by kernel_rfl)) rfl ?_
      refine q_pass (wantsN 28 35 true rfl (by kernel_rfl) rfl (by kernel_rfl)) rfl ?_
      refine q_pass (wantsN 28 35 true rfl (by kernel_rfl) rfl (by kernel_rfl)) rfl ?_
      refine q_pass (wantsN 28 35 true rfl (by kernel_rfl) rfl (by kernel_rfl)) rfl ?_
      refine q_pass (wantsN 28 35 true rfl (by kernel_rfl) rfl (by kernel_rfl)) rfl ?_
      refine q_pass (wantsN 28 35 true rfl (by kernel_rfl) rfl (by kernel_rfl)) rfl ?_
      refine q_pass (wantsN 28 35 true rfl (by kernel_rfl) rfl (by kernel_rfl)) rfl ?_
      refine q_pass (wantsN 28 35 true rfl (by kernel_rfl) rfl (by kernel_rfl)) rfl ?_
      refine q_pass (wantsN 28 35 true rfl (by kernel_rfl) rfl (by kernel_rfl)) rfl ?_
      refine q_pass (wantsN 28 35 true rfl (by kernel_rfl) rfl (by kernel_rfl)) rfl ?_
      refine q_pass (wantsN 28 35 true rfl (by kernel_rfl) rfl (by kernel_rfl)) rfl ?_
      refine q_pass (wantsN 28 35 true rfl (by kernel_rfl) rfl (by kernel_rfl)) rfl ?_
      refine q_pass (wantsN 28 35 true rfl (by kernel_rfl) rfl (by kernel_rfl)) rfl ?_
      refine q_val (wants0 rfl) (d := 49) (v := (.bool false)) rfl (fun _ H' => (by kernel_rfl)) ?_
      refine q_val (wants0 rfl) (d := 6) (v := (.bool false)) rfl (fun _ H' => (by kernel_rfl)) ?_
      refine q_end ?_
      intro w27 H28
      refine then_normal ?_
      refine w_ret ?_
      refine end1 rfl (res_tmp (v := (.bool false)) rfl) ?_
      have hb : rightB L p m tx = false := Bool.eq_false_iff.2 fun h => by
          obtain ⟨i, h1, h2⟩ := (right_iff hn).1 h
          have h3 := (List.getElem?_eq_some_iff.1 h1).1
          omega
      exact ⟨by rw [hb], H28.pick [0, 1, 2, 3] (by decide)⟩
  · have g29 := of_decide_eq_false b5
    refine q_know 10 (.bool false) (congrArg Value.bool b5) ?_
    have g30 := of_decide_eq_false b5
    refine q_pass (wantsN 3 10 true rfl (by kernel_rfl) rfl (by kernel_rfl)) rfl ?_
    refine q_pass (wantsN 3 10 true rfl (by kernel_rfl) rfl (by kernel_rfl)) rfl ?_
    refine q_pass (wantsN 3 10 true rfl (by kernel_rfl) rfl (by kernel_rfl)) rfl ?_
    refine q_pass (wantsN 3 10 true rfl (by kernel_rfl) rfl (by kernel_rfl)) rfl ?_
    refine q_pass (wantsN 3 10 true rfl (by kernel_rfl) rfl (by kernel_rfl)) rfl ?_
    refine q_pass (wantsN 3 10 true rfl (by kernel_rfl) rfl (by kernel_rfl)) rfl ?_
    refine q_pass (wantsN 3 10 true rfl (by kernel_rfl) rfl (by kernel_rfl)) rfl ?_
    refine q_pass (wantsN 3 10 true rfl (by kernel_rfl) rfl (by kernel_rfl)) rfl ?_
    refine q_val (wants0 rfl) (d := 19) (v := (.bool false)) rfl (fun _ H' => (by kernel_rfl)) ?_
    refine q_val (wants0 rfl) (d := 20) (v := (.bool false)) rfl (fun _ H' => (by kernel_rfl)) ?_
    refine q_pass (wantsN 13 20 true rfl (by kernel_rfl) rfl (by kernel_rfl)) rfl ?_
    refine q_pass (wantsN 13 20 true rfl (by kernel_rfl) rfl (by kernel_rfl)) rfl ?_
    refine q_pass (wantsN 13 20 true rfl (by kernel_rfl) rfl (by kernel_rfl)) rfl ?_
    refine q_pass (wantsN 13 20 true rfl (by kernel_rfl) rfl (by kernel_rfl)) rfl ?_
    refine q_pass (wantsN 13 20 true rfl (by kernel_rfl) rfl (by kernel_rfl)) rfl ?_
    refine q_pass (wantsN 13 20 true rfl (by kernel_rfl) rfl (by kernel_rfl)) rfl ?_
    refine q_pass (wantsN 13 20 true rfl (by kernel_rfl) rfl (by kernel_rfl)) rfl ?_
    refine q_pass (wantsN 13 20 true rfl (by kernel_rfl) rfl (by kernel_rfl)) rfl ?_
    refine q_pass (wantsN 13 20 true rfl (by kernel_rfl) rfl (by kernel_rfl)) rfl ?_
    refine q_pass (wantsN 13 20 true rfl (by kernel_rfl) rfl (by kernel_rfl)) rfl ?_
    refine q_pass (wantsN 13 20 true rfl (by kernel_rfl) rfl (by kernel_rfl)) rfl ?_
    refine q_pass (wantsN 13 20 true rfl (by kernel_rfl) rfl (by kernel_rfl)) rfl ?_
    refine q_pass (wantsN 13 20 true rfl (by kernel_rfl) rfl (by kernel_rfl)) rfl ?_
    refine q_val (wants0 rfl) (d := 34) (v := (.bool false)) rfl (fun _ H' => (by kernel_rfl)) ?_
    refine q_val (wants0 rfl) (d := 35) (v := (.bool false)) rfl (fun _ H' => (by kernel_rfl)) ?_
    refine q_pass (wantsN 28 35 true rfl (by kernel_rfl) rfl (by kernel_rfl)) rfl ?_
    refine q_pass (wantsN 28 35 true rfl (by kernel_rfl) rfl (by kernel_rfl)) rfl ?_
    refine q_pass (wantsN 28 35 true rfl (by kernel_rfl) rfl (by kernel_rfl)) rfl ?_
    refine q_pass (wantsN 28 35 true rfl (by kernel_rfl) rfl (by kernel_rfl)) rfl ?_
    refine q_pass (wantsN 28 35 true rfl (by kernel_rfl) rfl (by kernel_rfl)) rfl ?_
    refine q_pass (wantsN 28 35 true rfl (by kernel_rfl) rfl (by kernel_rfl)) rfl ?_
    refine q_pass (wantsN 28 35 true rfl (by kernel_rfl) rfl (by kernel_rfl)) rfl ?_
    refine q_pass (wantsN 28 35 true rfl (by kernel_rfl) rfl (by kernel_rfl)) rfl ?_
    refine q_pass (wantsN 28 35 true rfl (by kernel_rfl) rfl (by kernel_rfl)) rfl ?_
    refine q_pass (wantsN 28 35 true rfl (by kernel_rfl) rfl (by kernel_rfl)) rfl ?_
    refine q_pass (wantsN 28 35 true rfl (by kernel_rfl) rfl (by kernel_rfl)) rfl ?_
    refine q_pass (wantsN 28 35 true rfl (by kernel_rfl) rfl (by kernel_rfl)) rfl ?_
    refine q_pass (wantsN 28 35 true rfl (by kernel_rfl) rfl (by kernel_rfl)) rfl ?_
    refine q_val (wants0 rfl) (d := 49) (v := (.bool false)) rfl (fun _ H' => (by kernel_rfl)) ?_
    refine q_val (wants0 rfl) (d := 6) (v := (.bool false)) rfl (fun _ H' => (by kernel_rfl)) ?_
    refine q_end ?_
    intro w31 H32
    refine then_normal ?_
    refine w_ret ?_
    refine end1 rfl (res_tmp (v := (.bool false)) rfl) ?_
    have hb : rightB L p m tx = false := Bool.eq_false_iff.2 fun h => by
        obtain ⟨i, h1, h2⟩ := (right_iff hn).1 h
        have h3 := (List.getElem?_eq_some_iff.1 h1).1
        omega
    exact ⟨by rw [hb], H32.pick [0, 1, 2, 3] (by decide)⟩

set_option maxRecDepth 100000 in
set_option maxHeartbeats 400000 in
theorem rbSign_any (w : World) (r : Nat) (a : Option Addr) (c : Nat) (L : List Signed) (tv : Value) (tx : List UInt8) (hB : (sepC (rbkL r a c L tv tx)).ok w) (hl : L.length ≤ 1000000) (hn : L.Nodup) (p : Int) :
    Calls Try.prog 51 #[(.pointer (some ⟨r, 0, none⟩)), (.int .i64 (p)), tv] w fun e w' => ∃ a' c', e = .returned (.agg #[.int .i64 p, .int .i64 (markOf (signL L (⟨p, tx⟩ : Signed)) (⟨p, tx⟩ : Signed))]) ∧ Sat w [cellC r 88 [.slice a' (signL L (⟨p, tx⟩ : Signed)).length c'], rowC 120 2 (.slice a' (signL L (⟨p, tx⟩ : Signed)).length c') (signL L (⟨p, tx⟩ : Signed)).length ((signL L (⟨p, tx⟩ : Signed)).flatMap encS), rowC 5 1 tv tx.length (tx.flatMap encB), restC w (sepC (rbkL r a c L tv tx)).fp] w' := by
  have H : Sat w [cellC r 88 ([(.slice a L.length c)] : List Value), rowC 120 2 (.slice a L.length c) L.length (L.flatMap encS), rowC 5 1 tv tx.length (tx.flatMap encB), restC w (sepC (rbkL r a c L tv tx)).fp] w := Sat.start (rbkL r a c L tv tx) hB
  refine calls_fr Try.func51 rfl 64 rfl (Nat.le_of_ble_eq_true rfl) ?_
  refine w_seq ?_
  refine w_lit ?_
  refine wl_do (wants0 rfl) (fun K1 hK1 => ?_)
  refine d_alloc (zs := ([(.int .i64 (0)), (.int .i64 (0))] : List Value)) (z := (.agg ⟨([(.int .i64 (0)), (.int .i64 (0))] : List Value)⟩)) rfl H (by kernel_rfl) (by kernel_rfl) ?_
  intro b2 w3 (H4 : Sat w [cellC r 88 ([(.slice a L.length c)] : List Value), rowC 120 2 (.slice a L.length c) L.length (L.flatMap encS), rowC 5 1 tv tx.length (tx.flatMap encB), restC w (sepC (rbkL r a c L tv tx)).fp, cellC b2 42 ([(.int .i64 (0)), (.int .i64 (0))] : List Value)] w3)
  refine hK1 _ _ ?_
  clear hK1 K1
  refine w_nil ?_
  refine then_normal ?_
  refine w_seq ?_
  refine w_seq ?_
  refine w_lit ?_
  refine wl_pure (wants0 rfl) (d := 8) (v := (.pointer (some ⟨r, 0, none⟩))) rfl (by kernel_rfl) ?_
  refine wl_pure (wants0 rfl) (d := 9) (v := (.pointer (some ⟨r, 0, none⟩))) rfl (by kernel_rfl) ?_
  refine wl_pure (wants0 rfl) (d := 10) (v := (.pointer (some ⟨r, 0, none⟩))) rfl (by kernel_rfl) ?_
  refine wl_pure (wants0 rfl) (d := 11) (v := (.slice a L.length c)) rfl (e_load1 rfl (by kernel_rfl) (H4.cell 0 rfl rfl)) ?_
  refine wl_pure (wants0 rfl) (d := 12) (v := (.int .i64 ((L.length : Int)))) rfl (by kernel_rfl) ?_
  refine wl_pure (wants0 rfl) (d := 13) (v := (.int .i64 (0))) rfl (by kernel_rfl) ?_
  refine w_nil ?_
  refine then_normal ?_
  refine w_block ?_
  refine wp_round [7, 13, 14, 15, 16, 17, 18, 19, 20, 21, 22, 23, 24, 25, 26, 27, 28, 29, 30, 31, 32, 33, 34, 35, 36, 37, 38, 39, 40, 41, 42, 43] (fun F_ W_ m_ => ∃ (i : Nat), F_ 13 = (.int .i64 ((i : Int))) ∧ (i ≤ L.length) ∧ ((⟨p, tx⟩ : Signed) ∉ L.take i) ∧ Sat w [cellC r 88 ([(.slice a L.length c)] : List Value), rowC 120 2 (.slice a L.length c) L.length (L.flatMap encS), rowC 5 1 tv tx.length (tx.flatMap encB), restC w (sepC (rbkL r a c L tv tx)).fp, cellC b2 42 ([(.int .i64 (0)), (.int .i64 (0))] : List Value)] W_ ∧ m_ = L.length + 1 - i) _ ⟨0, (show ((.int .i64 (0)) : Value) = _ by first | rfl | go_num), by omega, by simp, H4, rfl⟩ ?_
  rintro g5 w6 _ ⟨i, v8, hi, hno, H7, rfl⟩
  refine wp_know 13 _ v8 ?_
  refine w_seq ?_
  refine w_lit ?_
  refine wl_pure (wants0 rfl) (d := 14) (v := (.bool (decide ((i : Int) < (L.length : Int))))) rfl (by kernel_rfl) ?_
  refine w_nil ?_
  refine then_normal ?_
  refine w_seq ?_
  refine (bsplit (decide ((i : Int) < (L.length : Int)))).elim (fun b10 => ?_) (fun b10 => ?_)
  · have g11 := of_decide_eq_true b10
    refine wp_know 14 (.bool true) (congrArg Value.bool b10) ?_
    have g12 := of_decide_eq_true b10
    refine wp_ift rfl ?_
    refine w_skip ?_
    refine then_normal ?_
    refine w_seq ?_
    refine w_block ?_
    refine w_seq ?_
    refine w_lit ?_
    refine wl_pure (wants0 rfl) (d := 15) (v := (.int .i64 ((i : Int)))) rfl (by kernel_rfl) ?_
    refine wl_pure (wants0 rfl) (d := 7) (v := (.int .i64 ((i : Int)))) rfl (by kernel_rfl) ?_
    refine w_nil ?_
    refine then_normal ?_
    refine w_seq ?_
    refine q_start H7 (by kernel_rfl) (by kernel_rfl) ?_
    refine q_val (wants0 rfl) (d := 16) (v := (.pointer (some ⟨r, 0, none⟩))) rfl (fun _ H' => (by kernel_rfl)) ?_
    refine q_val (wants0 rfl) (d := 17) (v := (.pointer (some ⟨r, 0, none⟩))) rfl (fun _ H' => (by kernel_rfl)) ?_
    refine q_val (wants0 rfl) (d := 18) (v := (.pointer (some ⟨r, 0, none⟩))) rfl (fun _ H' => (by kernel_rfl)) ?_
    refine q_val (wants0 rfl) (d := 19) (v := (.slice a L.length c)) rfl (fun _ H' => (e_load1 rfl (by kernel_rfl) (H'.cell 0 rfl rfl))) ?_
    refine q_val (wants0 rfl) (d := 20) (v := (.int .i64 ((i : Int)))) rfl (fun _ H' => (by kernel_rfl)) ?_
    obtain ⟨g13, c14, e15⟩ := row_shape (H7.at 1 rfl) (by omega)
    obtain ⟨x16, h17⟩ := get_at (show i < L.length by omega)
    refine q_val (wants0 rfl) (d := 21) (v := (.pointer (some ⟨g13, 0 + ((i : Int)).toNat * 2, none⟩))) rfl (fun _ H' => (e_indexAddrV (E := 120) (by kernel_rfl) (by kernel_rfl) (Nat.le_of_ble_eq_true rfl) rfl e15 rfl (by omega) (by omega))) ?_
    refine q_val (wants0 rfl) (d := 22) (v := (.pointer (some ⟨g13, 0 + ((i : Int)).toNat * 2, none⟩))) rfl (fun _ H' => (by kernel_rfl)) ?_
    refine q_val (wants0 rfl) (d := 23) (v := (.int .i64 (x16.p))) rfl (fun _ H' => (e_load1 rfl (by kernel_rfl) (rows_cell (H'.at 1 rfl) e15 encS_len h17 0 rfl (show 0 + ((i : Int)).toNat * 2 = i * 2 + 0 by omega) (by kernel_rfl)))) ?_
    refine q_val (wants0 rfl) (d := 24) (v := (.int .i64 (p))) rfl (fun _ H' => (by kernel_rfl)) ?_
    refine q_val (wants0 rfl) (d := 25) (v := (.bool (decide (x16.p = p)))) rfl (fun _ H' => (by kernel_rfl)) ?_
    refine q_val (wants0 rfl) (d := 26) (v := (.bool (decide (x16.p = p)))) rfl (fun _ H' => (by kernel_rfl)) ?_
    refine (bsplit (decide (x16.p = p))).elim (fun b18 => ?_) (fun b18 => ?_)
    · have g19 := of_decide_eq_true b18
      refine q_know 26 (.bool true) (congrArg Value.bool b18) ?_
      have g20 := of_decide_eq_true b18
      refine q_val (wantsY 10 26 true rfl (by kernel_rfl) rfl (by kernel_rfl)) (d := 27) (v := (.pointer (some ⟨r, 0, none⟩))) rfl (fun _ H' => (by kernel_rfl)) ?_
      refine q_val (wantsY 10 26 true rfl (by kernel_rfl) rfl (by kernel_rfl)) (d := 28) (v := (.pointer (some ⟨r, 0, none⟩))) rfl (fun _ H' => (by kernel_rfl)) ?_
      refine q_val (wantsY 10 26 true rfl (by kernel_rfl) rfl (by kernel_rfl)) (d := 29) (v := (.pointer (some ⟨r, 0, none⟩))) rfl (fun _ H' => (by kernel_rfl)) ?_
      refine q_val (wantsY 10 26 true rfl (by kernel_rfl) rfl (by kernel_rfl)) (d := 30) (v := (.slice a L.length c)) rfl (fun _ H' => (e_load1 rfl (by kernel_rfl) (H'.cell 0 rfl rfl))) ?_
      refine q_val (wantsY 10 26 true rfl (by kernel_rfl) rfl (by kernel_rfl)) (d := 31) (v := (.int .i64 ((i : Int)))) rfl (fun _ H' => (by kernel_rfl)) ?_
      refine q_val (wantsY 10 26 true rfl (by kernel_rfl) rfl (by kernel_rfl)) (d := 32) (v := (.pointer (some ⟨g13, 0 + ((i : Int)).toNat * 2, none⟩))) rfl (fun _ H' => (e_indexAddrV (E := 120) (by kernel_rfl) (by kernel_rfl) (Nat.le_of_ble_eq_true rfl) rfl e15 rfl (by omega) (by omega))) ?_
      refine q_val (wantsY 10 26 true rfl (by kernel_rfl) rfl (by kernel_rfl)) (d := 33) (v := (.pointer (some ⟨g13, 0 + ((i : Int)).toNat * 2 + 1, none⟩))) rfl (fun _ H' => (by kernel_rfl)) ?_
      refine q_val (wantsY 10 26 true rfl (by kernel_rfl) rfl (by kernel_rfl)) (d := 34) (v := (strV x16.s)) rfl (fun _ H' => (e_load1 rfl (by kernel_rfl) (rows_cell (H'.at 1 rfl) e15 encS_len h17 1 rfl (show 0 + ((i : Int)).toNat * 2 + 1 = i * 2 + 1 by omega) (by kernel_rfl)))) ?_
      refine q_val (wantsY 10 26 true rfl (by kernel_rfl) rfl (by kernel_rfl)) (d := 35) (v := tv) rfl (fun _ H' => (by kernel_rfl)) ?_
      refine q_val (wantsY 10 26 true rfl (by kernel_rfl) rfl (by kernel_rfl)) (d := 36) (v := (strV tx)) rfl (fun _ H' => (e_convBytes (e := 5) (s := tx) (by kernel_rfl) (by kernel_rfl) (by kernel_rfl) rfl (list_bytes (ListAt.row (e := 5) (enc := encB) (sz := 1) (v := tv) (n := tx.length) (xs := tx) encB_len (by decide) (H'.at 2 rfl))))) ?_
      refine q_val (wantsY 10 26 true rfl (by kernel_rfl) rfl (by kernel_rfl)) (d := 37) (v := (.bool (decide (x16.s = tx)))) rfl (fun _ H' => (e_eqStr x16.s tx rfl rfl)) ?_
      refine q_val (wants0 rfl) (d := 38) (v := (.bool (decide (x16.s = tx)))) rfl (fun _ H' => (by kernel_rfl)) ?_
      refine q_end ?_
      intro w21 H22
      refine then_normal ?_
      refine (bsplit (decide (x16.s = tx))).elim (fun b23 => ?_) (fun b23 => ?_)
      · have g24 := of_decide_eq_true b23
        refine wp_know 38 (.bool true) (congrArg Value.bool b23) ?_
        have g25 := of_decide_eq_true b23
        refine wp_ift rfl ?_
        refine w_seq ?_
        refine w_lit ?_
        refine wl_pure (wants0 rfl) (d := 39) (v := (.int .i64 (p))) rfl (by kernel_rfl) ?_
        refine wl_pure (wants0 rfl) (d := 40) (v := (.int .i64 ((i : Int)))) rfl (by kernel_rfl) ?_
        refine wl_pure (wants0 rfl) (d := 41) (v := (.int .i64 ((i : Int) + 1))) rfl (e_int (z := (i : Int) + 1) (by kernel_rfl) (IntWalk.i64_in _ (by omega))) ?_
        refine wl_pure (wants0 rfl) (d := 42) (v := (.agg ⟨([(.int .i64 (p)), (.int .i64 ((i : Int) + 1))] : List Value)⟩)) rfl (by kernel_rfl) ?_
        refine wl_do (wants0 rfl) (fun K26 hK26 => ?_)
        refine d_store (vs := ([(.int .i64 (p)), (.int .i64 ((i : Int) + 1))] : List Value)) rfl H22 4 rfl rfl rfl rfl (by kernel_rfl) (Nat.le_of_ble_eq_true (by kernel_rfl)) (Nat.le_of_ble_eq_true (by kernel_rfl)) (by kernel_rfl) ?_
        intro w27 (H28 : Sat w [cellC r 88 ([(.slice a L.length c)] : List Value), rowC 120 2 (.slice a L.length c) L.length (L.flatMap encS), rowC 5 1 tv tx.length (tx.flatMap encB), restC w (sepC (rbkL r a c L tv tx)).fp, cellC b2 42 ([(.int .i64 (p)), (.int .i64 ((i : Int) + 1))] : List Value)] w27)
        refine hK26 _ _ ?_
        clear hK26 K26
        refine w_nil ?_
        refine then_normal ?_
        refine w_ret ?_
        refine blk_ret ?_
        refine then_ret ?_
        refine back_ret ?_
        refine blk_ret ?_
        refine then_ret ?_
        refine end1 rfl (res_cellN (vs := ([(.int .i64 (p)), (.int .i64 ((i : Int) + 1))] : List Value)) rfl (by kernel_rfl) (by kernel_rfl) (by exact Nat.le_of_ble_eq_true (by kernel_rfl)) (H28.at 4 rfl) (by kernel_rfl)) ?_
        have hy : L[i]? = some (⟨p, tx⟩ : Signed) := by rw [h17]; congr 1; have q1 := of_decide_eq_true b18; have q2 := of_decide_eq_true b23; rw [← q1, ← q2]
        have hm : (⟨p, tx⟩ : Signed) ∈ L := List.mem_of_getElem? hy
        refine ⟨a, c, ?_, ?_⟩
        · rw [signL_of_mem hm, markOf_at hn hy]
        · rw [signL_of_mem hm]; exact H28.pick [0, 1, 2, 3] (by decide)
      · have g30 := of_decide_eq_false b23
        refine wp_know 38 (.bool false) (congrArg Value.bool b23) ?_
        have g31 := of_decide_eq_false b23
        refine wp_iff rfl ?_
        refine w_skip ?_
        refine blk_normal ?_
        refine then_normal ?_
        refine w_lit ?_
        refine wl_pure (wants0 rfl) (d := 43) (v := (.int .i64 ((i : Int) + 1))) rfl (e_int (z := (i : Int) + 1) (by kernel_rfl) (IntWalk.i64_in _ (by omega))) ?_
        refine wl_pure (wants0 rfl) (d := 13) (v := (.int .i64 ((i : Int) + 1))) rfl (by kernel_rfl) ?_
        refine w_nil ?_
        refine round_back ?_ _ ⟨(i + 1), (show ((.int .i64 ((i : Int) + 1)) : Value) = _ by first | rfl | go_num), by omega, (no_step h17 (fun e => by first | exact absurd (congrArg Signed.s e) (of_decide_eq_false b23) | exact absurd (congrArg Signed.p e) (of_decide_eq_false b23)) hno), H22, rfl⟩ (by omega)
        exact (same_upd rfl (same_upd rfl (same_upd rfl (same_upd rfl (same_upd rfl (same_upd rfl (same_upd rfl (same_upd rfl (same_upd rfl (same_upd rfl (same_upd rfl (same_upd rfl (same_upd rfl (same_upd rfl (same_upd rfl (same_upd rfl (same_upd rfl (same_upd rfl (same_upd rfl (same_upd rfl (same_upd rfl (same_upd rfl (same_upd rfl (same_upd rfl (same_upd rfl (same_upd rfl (same_upd rfl (same_upd rfl (same_upd rfl (same_upd rfl (same_upd rfl (same_upd rfl (same_ovr)))))))))))))))))))))))))))))))))
    · have g32 := of_decide_eq_false b18
      refine q_know 26 (.bool false) (congrArg Value.bool b18) ?_
      have g33 := of_decide_eq_false b18
      refine q_pass (wantsN 10 26 true rfl (by kernel_rfl) rfl (by kernel_rfl)) rfl ?_
      refine q_pass (wantsN 10 26 true rfl (by kernel_rfl) rfl (by kernel_rfl)) rfl ?_
      refine q_pass (wantsN 10 26 true rfl (by kernel_rfl) rfl (by kernel_rfl)) rfl ?_
      refine q_pass (wantsN 10 26 true rfl (by kernel_rfl) rfl (by kernel_rfl)) rfl ?_
      refine q_pass (wantsN 10 26 true rfl (by kernel_rfl) rfl (by kernel_rfl)) rfl ?_
      refine q_pass (wantsN 10 26 true rfl (by kernel_rfl) rfl (by kernel_rfl)) rfl ?_
      refine q_pass (wantsN 10 26 true rfl (by kernel_rfl) rfl (by kernel_rfl)) rfl ?_
      refine q_pass (wantsN 10 26 true rfl (by kernel_rfl) rfl (by kernel_rfl)) rfl ?_
      refine q_pass (wantsN 10 26 true rfl (by kernel_rfl) rfl (by kernel_rfl)) rfl ?_
      refine q_pass (wantsN 10 26 true rfl (by kernel_rfl) rfl (by kernel_rfl)) rfl ?_
      refine q_pass (wantsN 10 26 true rfl (by kernel_rfl) rfl (by kernel_rfl)) rfl ?_
      refine q_val (wants0 rfl) (d := 38) (v := (.bool false)) rfl (fun _ H' => (by kernel_rfl)) ?_
      refine q_end ?_
      intro w34 H35
      refine then_normal ?_
      refine wp_iff rfl ?_
      refine w_skip ?_
      refine blk_normal ?_
      refine then_normal ?_
      refine w_lit ?_
      refine wl_pure (wants0 rfl) (d := 43) (v := (.int .i64 ((i : Int) + 1))) rfl (e_int (z := (i : Int) + 1) (by kernel_rfl) (IntWalk.i64_in _ (by omega))) ?_
      refine wl_pure (wants0 rfl) (d := 13) (v := (.int .i64 ((i : Int) + 1))) rfl (by kernel_rfl) ?_
      refine w_nil ?_
      refine round_back ?_ _ ⟨(i + 1), (show ((.int .i64 ((i : Int) + 1)) : Value) = _ by first | rfl | go_num), by omega, (no_step h17 (fun e => by first | exact absurd (congrArg Signed.s e) (of_decide_eq_false b18) | exact absurd (congrArg Signed.p e) (of_decide_eq_false b18)) hno), H35, rfl⟩ (by omega)
      exact (same_upd rfl (same_upd rfl (same_upd rfl (same_upd rfl (same_upd rfl (same_upd rfl (same_upd rfl (same_upd rfl (same_upd rfl (same_upd rfl (same_upd rfl (same_upd rfl (same_upd rfl (same_upd rfl (same_upd rfl (same_upd rfl (same_upd rfl (same_upd rfl (same_upd rfl (same_upd rfl (same_upd rfl (same_upd rfl (same_upd rfl (same_upd rfl (same_upd rfl (same_upd rfl (same_upd rfl (same_upd rfl (same_upd rfl (same_upd rfl (same_upd rfl (same_ovr))))))))))))))))))))))))))))))))
  · have g36 := of_decide_eq_false b10
    refine wp_know 14 (.bool false) (congrArg Value.bool b10) ?_
    have g37 := of_decide_eq_false b10
    refine wp_iff rfl ?_
    refine w_exit ?_
    refine then_exit ?_
    refine back_exit ?_
    refine blk_hit ?_
    refine then_normal ?_
    refine w_seq ?_
    refine k_start H7 [cellC r 88 ([(.slice a L.length c)] : List Value), rowC 5 1 tv tx.length (tx.flatMap encB), restC w (sepC (rbkL r a c L tv tx)).fp, cellC b2 42 ([(.int .i64 (0)), (.int .i64 (0))] : List Value)] [13] 14 rfl (by kernel_rfl) (fun Hx => (Hx.pick [0, 2, 3, 4] (by decide))) ?_
    intro w38 H39 S40
    refine k_pure 0 rfl (by kernel_rfl) (by kernel_rfl) (by kernel_rfl) (fun _ _ _ h => h) S40 (wants0 rfl) rfl (d := 44) (v := (.pointer (some ⟨r, 0, none⟩))) rfl (fun _ => (by kernel_rfl)) ?_
    refine k_pure 1 rfl (by kernel_rfl) (by kernel_rfl) (by kernel_rfl) (fun _ _ _ h => h) S40 (wants0 rfl) rfl (d := 45) (v := (.pointer (some ⟨r, 0, none⟩))) rfl (fun _ => (by kernel_rfl)) ?_
    refine k_pure 2 rfl (by kernel_rfl) (by kernel_rfl) (by kernel_rfl) (fun _ _ _ h => h) S40 (wants0 rfl) rfl (d := 46) (v := (.pointer (some ⟨r, 0, none⟩))) rfl (fun _ => (by kernel_rfl)) ?_
    refine k_pure 3 rfl (by kernel_rfl) (by kernel_rfl) (by kernel_rfl) (fun _ _ _ h => h) S40 (wants0 rfl) rfl (d := 47) (v := (.pointer (some ⟨r, 0, none⟩))) rfl (fun _ => (by kernel_rfl)) ?_
    refine k_val 4 rfl (by kernel_rfl) (by kernel_rfl) (by kernel_rfl) (fun _ _ _ h => h) S40 (wants0 rfl) rfl (by kernel_rfl) (d := 48) (v := (.slice a L.length c)) rfl (fun _ H' => (e_load1 rfl (by kernel_rfl) (H'.cell 0 rfl rfl))) ?_
    refine k_pure 5 rfl (by kernel_rfl) (by kernel_rfl) (by kernel_rfl) (fun _ _ _ h => h) S40 (wants0 rfl) rfl (d := 49) (v := (.int .i64 (p))) rfl (fun _ => (by kernel_rfl)) ?_
    refine k_pure 6 rfl (by kernel_rfl) (by kernel_rfl) (by kernel_rfl) (fun _ _ _ h => h) S40 (wants0 rfl) rfl (d := 50) (v := tv) rfl (fun _ => (by kernel_rfl)) ?_
    refine k_val 7 rfl (by kernel_rfl) (by kernel_rfl) (by kernel_rfl) (fun _ _ _ h => h) S40 (wants0 rfl) rfl (by kernel_rfl) (d := 51) (v := (strV tx)) rfl (fun _ H' => (e_convBytes (e := 5) (s := tx) (by kernel_rfl) (by kernel_rfl) (by kernel_rfl) rfl (list_bytes (ListAt.row (e := 5) (enc := encB) (sz := 1) (v := tv) (n := tx.length) (xs := tx) encB_len (by decide) (H'.at 1 rfl))))) ?_
    refine k_pure 8 rfl (by kernel_rfl) (by kernel_rfl) (by kernel_rfl) (fun _ _ _ h => h) S40 (wants0 rfl) rfl (d := 52) (v := (.agg ⟨([(.int .i64 (p)), (strV tx)] : List Value)⟩)) rfl (fun _ => (by kernel_rfl)) ?_
    refine k_do 9 rfl (by kernel_rfl) (wants0 rfl) rfl (fun K41 hK41 => ?_)
    refine d_buildSlice (e := 120) (size := 2) (bytes := 24) (z := (.agg ⟨([(.int .i64 (0)), (strV ([] : List UInt8))] : List Value)⟩)) (pvs := [(0, (.agg ⟨([(.int .i64 (p)), (strV tx)] : List Value)⟩))]) (vs := ([(.int .i64 (p)), (strV tx)] : List Value)) rfl H39 (by kernel_rfl) (by kernel_rfl) (by kernel_rfl) (by kernel_rfl) (by kernel_rfl) rfl rfl ?_
    intro b42 w43 (H44 : Sat w [cellC r 88 ([(.slice a L.length c)] : List Value), rowC 120 2 (.slice a L.length c) L.length (L.flatMap encS), rowC 5 1 tv tx.length (tx.flatMap encB), restC w (sepC (rbkL r a c L tv tx)).fp, cellC b2 42 ([(.int .i64 (0)), (.int .i64 (0))] : List Value), rowC 120 2 (.slice (some ⟨b42, 0, none⟩) 1 1) 1 ([(.int .i64 (p)), (strV tx)] : List Value)] w43)
    have S45 := H44.pick [0, 2, 3, 4] (by decide)
    refine hK41 _ _ S45 ?_
    clear hK41 K41
    refine k_do 10 rfl (by kernel_rfl) (wants0 rfl) rfl (fun K46 hK46 => ?_)
    refine d_append (T := 86) (e := 120) (size := 2) (bytes := 24) rfl H44 (by kernel_rfl) 1 5 rfl rfl rfl rfl (by kernel_rfl) (by omega) (by omega) ?_
    intro v47 w48 (H49 : Sat w [cellC r 88 ([(.slice a L.length c)] : List Value), rowC 120 2 v47 (L.length + 1) ((L.flatMap encS) ++ ([(.int .i64 (p)), (strV tx)] : List Value)), rowC 5 1 tv tx.length (tx.flatMap encB), restC w (sepC (rbkL r a c L tv tx)).fp, cellC b2 42 ([(.int .i64 (0)), (.int .i64 (0))] : List Value), rowC 120 2 (.slice (some ⟨b42, 0, none⟩) 1 1) 1 ([(.int .i64 (p)), (strV tx)] : List Value)] w48)
    have H52 : Sat w [cellC r 88 ([(.slice a L.length c)] : List Value), rowC 120 2 v47 ((L ++ [(⟨p, tx⟩ : Signed)]).length) ((L ++ [(⟨p, tx⟩ : Signed)]).flatMap encS), rowC 5 1 tv tx.length (tx.flatMap encB), restC w (sepC (rbkL r a c L tv tx)).fp, cellC b2 42 ([(.int .i64 (0)), (.int .i64 (0))] : List Value), rowC 120 2 (.slice (some ⟨b42, 0, none⟩) 1 1) 1 ([(.int .i64 (p)), (strV tx)] : List Value)] w48 := H49.cast (by simp only [List.length_append, List.flatMap_append] <;> rfl)
    obtain ⟨a50, c51, rfl⟩ := ownsRow_shape (H52.at 1 rfl)
    have S53 := H52.pick [0, 2, 3, 4] (by decide)
    refine hK46 _ _ S53 ?_
    clear hK46 K46
    refine k_pure 11 rfl (by kernel_rfl) (by kernel_rfl) (by kernel_rfl) (fun _ _ _ h => h) S53 (wants0 rfl) rfl (d := 55) (v := (.pointer (some ⟨r, 0, none⟩))) rfl (fun _ => (by kernel_rfl)) ?_
    refine k_pure 12 rfl (by kernel_rfl) (by kernel_rfl) (by kernel_rfl) (fun _ _ _ h => h) S53 (wants0 rfl) rfl (d := 56) (v := (.pointer (some ⟨r, 0, none⟩))) rfl (fun _ => (by kernel_rfl)) ?_
    refine k_brk 13 (Sat w [rowC 5 1 tv tx.length (tx.flatMap encB), restC w (sepC (rbkL r a c L tv tx)).fp, cellC b2 42 ([(.int .i64 (0)), (.int .i64 (0))] : List Value)]) rfl (by kernel_rfl) (wants0 rfl) rfl (fun K54 hK54 => ?_)
    refine d_store (vs := ([(.slice a50 ((L ++ [(⟨p, tx⟩ : Signed)]).length) c51)] : List Value)) rfl H52 0 rfl rfl rfl rfl (by kernel_rfl) (Nat.le_of_ble_eq_true (by kernel_rfl)) (Nat.le_of_ble_eq_true (by kernel_rfl)) (by kernel_rfl) ?_
    intro w55 (H56 : Sat w [cellC r 88 ([(.slice a50 ((L ++ [(⟨p, tx⟩ : Signed)]).length) c51)] : List Value), rowC 120 2 (.slice a50 ((L ++ [(⟨p, tx⟩ : Signed)]).length) c51) ((L ++ [(⟨p, tx⟩ : Signed)]).length) ((L ++ [(⟨p, tx⟩ : Signed)]).flatMap encS), rowC 5 1 tv tx.length (tx.flatMap encB), restC w (sepC (rbkL r a c L tv tx)).fp, cellC b2 42 ([(.int .i64 (0)), (.int .i64 (0))] : List Value), rowC 120 2 (.slice (some ⟨b42, 0, none⟩) 1 1) 1 ([(.int .i64 (p)), (strV tx)] : List Value)] w55)
    have S58 := H56.pick [2, 3, 4] (by decide)
    refine hK54 _ _ S58 ?_
    clear hK54 K54
    refine h_fin (by kernel_rfl) ?_
    refine then_normal ?_
    refine w_seq ?_
    refine w_lit ?_
    refine wl_pure (wants0 rfl) (d := 57) (v := (.int .i64 (p))) rfl (by kernel_rfl) ?_
    refine wl_pure (wants0 rfl) (d := 58) (v := (.pointer (some ⟨r, 0, none⟩))) rfl (by kernel_rfl) ?_
    refine wl_pure (wants0 rfl) (d := 59) (v := (.pointer (some ⟨r, 0, none⟩))) rfl (by kernel_rfl) ?_
    refine wl_pure (wants0 rfl) (d := 60) (v := (.pointer (some ⟨r, 0, none⟩))) rfl (by kernel_rfl) ?_
    refine wl_pure (wants0 rfl) (d := 61) (v := (.slice a50 ((L ++ [(⟨p, tx⟩ : Signed)]).length) c51)) rfl (e_load1 rfl (by kernel_rfl) (H56.cell 0 rfl rfl)) ?_
    refine wl_pure (wants0 rfl) (d := 62) (v := (.int .i64 (((L ++ [(⟨p, tx⟩ : Signed)]).length : Int)))) rfl (by kernel_rfl) ?_
    refine wl_pure (wants0 rfl) (d := 63) (v := (.agg ⟨([(.int .i64 (p)), (.int .i64 (((L ++ [(⟨p, tx⟩ : Signed)]).length : Int)))] : List Value)⟩)) rfl (by kernel_rfl) ?_
    refine wl_do (wants0 rfl) (fun K59 hK59 => ?_)
    refine d_store (vs := ([(.int .i64 (p)), (.int .i64 (((L ++ [(⟨p, tx⟩ : Signed)]).length : Int)))] : List Value)) rfl H56 4 rfl rfl rfl rfl (by kernel_rfl) (Nat.le_of_ble_eq_true (by kernel_rfl)) (Nat.le_of_ble_eq_true (by kernel_rfl)) (by kernel_rfl) ?_
    intro w60 (H61 : Sat w [cellC r 88 ([(.slice a50 ((L ++ [(⟨p, tx⟩ : Signed)]).length) c51)] : List Value), rowC 120 2 (.slice a50 ((L ++ [(⟨p, tx⟩ : Signed)]).length) c51) ((L ++ [(⟨p, tx⟩ : Signed)]).length) ((L ++ [(⟨p, tx⟩ : Signed)]).flatMap encS), rowC 5 1 tv tx.length (tx.flatMap encB), restC w (sepC (rbkL r a c L tv tx)).fp, cellC b2 42 ([(.int .i64 (p)), (.int .i64 (((L ++ [(⟨p, tx⟩ : Signed)]).length : Int)))] : List Value), rowC 120 2 (.slice (some ⟨b42, 0, none⟩) 1 1) 1 ([(.int .i64 (p)), (strV tx)] : List Value)] w60)
    refine hK59 _ _ ?_
    clear hK59 K59
    refine w_nil ?_
    refine then_normal ?_
    refine w_ret ?_
    refine end1 rfl (res_cellN (vs := ([(.int .i64 (p)), (.int .i64 (((L ++ [(⟨p, tx⟩ : Signed)]).length : Int)))] : List Value)) rfl (by kernel_rfl) (by kernel_rfl) (by exact Nat.le_of_ble_eq_true (by kernel_rfl)) (H61.at 4 rfl) (by kernel_rfl)) ?_
    have hno2 : (⟨p, tx⟩ : Signed) ∉ L := by rw [List.take_of_length_le (show L.length ≤ i by omega)] at hno; exact hno
    have hsl : signL L (⟨p, tx⟩ : Signed) = L ++ [(⟨p, tx⟩ : Signed)] := by unfold signL; rw [if_neg hno2]
    have hnd : (L ++ [(⟨p, tx⟩ : Signed)]).Nodup := by rw [List.nodup_append]; exact ⟨hn, by simp, fun x hx y hy => by rw [List.mem_singleton.1 hy]; exact fun e => hno2 (e ▸ hx)⟩
    have hat : (L ++ [(⟨p, tx⟩ : Signed)])[L.length]? = some (⟨p, tx⟩ : Signed) := by simp
    refine ⟨a50, c51, ?_, ?_⟩
    · rw [hsl, markOf_at hnd hat]; first | rfl | simp
    · rw [hsl]; exact H61.pick [0, 1, 2, 3] (by decide)

end Go.Proofs.Ytbpeofcoceaahaa
