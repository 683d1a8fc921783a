/- WHAT IS PROVED: bytes copied, cut, compared; the entry of a place: contracts. Conditions: stated with each. -/
import Derived.Test.YtoiplcicbjimlaaRev16
import Derived.Test.YtoiplcicbjimlaaMinMax
namespace Go.Proofs.Ytoiplcicbjimlaa
open Go.RowKit
def withinV (v n : Int) : Int := if n < 1 then 0 else v % n
theorem within_lim (v n : Int) (h : 1 ≤ n) : 0 ≤ withinV v n ∧ withinV v n < n := by
  unfold withinV; rw [if_neg (by omega)]
  exact ⟨Int.emod_nonneg _ (by omega), Int.emod_lt_of_pos _ (by omega)⟩
def entH (i : Int) : Hash := shaR (ofT 1 (1 + withinV i 9) (hash1 7) [UInt8.ofNat (withinV i 9).toNat])
theorem take_eqB {xs ys : List UInt8} {i : Nat} (h : xs.take i = ys.take i) (h1 : i < xs.length) (h2 : i < ys.length) (e : xs.getD i 0 = ys.getD i 0) : xs.take (i + 1) = ys.take (i + 1) := by
  rw [List.getD_eq_getElem?_getD, List.getElem?_eq_getElem h1, List.getD_eq_getElem?_getD, List.getElem?_eq_getElem h2] at e
  rw [List.take_add_one, List.take_add_one, h, List.getElem?_eq_getElem h1, List.getElem?_eq_getElem h2]
  simp only [Option.getD_some] at e
  rw [e]

set_option maxRecDepth 100000 in
set_option maxHeartbeats 400000 in
theorem within_any (w : World) (v n : Int) (hn : n ≤ 4611686018427387904) :
    Calls Try.prog 10 #[(.int .i64 (v)), (.int .i64 (n))] w fun e w' => e = .returned (.int .i64 (withinV v n)) ∧ Upd [] w w' := by
  have H := Sat.start0 w
  refine calls_fr Try.func10 rfl 17 rfl (Nat.le_of_ble_eq_true rfl) ?_
  refine w_seq ?_
  refine w_lit ?_
  refine wl_pure (wants0 rfl) (d := 4) (v := (.int .i64 (0))) rfl (by kernel_rfl) ?_
  refine w_nil ?_
  refine then_normal ?_
  refine w_seq ?_
  refine w_seq ?_
  refine w_lit ?_
  refine wl_pure (wants0 rfl) (d := 6) (v := (.int .i64 (n))) rfl (by kernel_rfl) ?_
  refine wl_pure (wants0 rfl) (d := 7) (v := (.bool (decide (n < 1)))) rfl (by kernel_rfl) ?_
  refine w_nil ?_
  refine then_normal ?_
  refine (bsplit (decide (n < 1))).elim (fun b1 => ?_) (fun b1 => ?_)
  · have g2 := of_decide_eq_true b1
    refine wp_know 7 (.bool true) (congrArg Value.bool b1) ?_
    refine wp_ift rfl ?_
    refine w_seq ?_
    refine w_lit ?_
    refine wl_pure (wants0 rfl) (d := 4) (v := (.int .i64 (0))) rfl (by kernel_rfl) ?_
    refine w_nil ?_
    refine then_normal ?_
    refine w_ret ?_
    refine then_ret ?_
    refine end1 rfl (res_tmp (v := (.int .i64 (0))) rfl) ?_
    exact ⟨by unfold withinV; rw [if_pos (of_decide_eq_true b1)], H.upd 0 rfl [] (fun _ h => h.elim)⟩
  · have g3 := of_decide_eq_false b1
    refine wp_know 7 (.bool false) (congrArg Value.bool b1) ?_
    refine wp_iff rfl ?_
    refine w_skip ?_
    refine then_normal ?_
    refine w_seq ?_
    refine w_lit ?_
    refine wl_pure (wants0 rfl) (d := 8) (v := (.int .i64 (v))) rfl (by kernel_rfl) ?_
    refine wl_pure (wants0 rfl) (d := 9) (v := (.int .i64 (n))) rfl (by kernel_rfl) ?_
    refine wl_pure (wants0 rfl) (d := 10) (v := (.int .i64 (Int.tmod v n))) rfl (e_tmod (by kernel_rfl) (by omega)) ?_
    refine wl_pure (wants0 rfl) (d := 5) (v := (.int .i64 (Int.tmod v n))) rfl (by kernel_rfl) ?_
    refine w_nil ?_
    refine then_normal ?_
    refine w_seq ?_
    refine w_seq ?_
    refine w_lit ?_
    refine wl_pure (wants0 rfl) (d := 11) (v := (.int .i64 (Int.tmod v n))) rfl (by kernel_rfl) ?_
    refine wl_pure (wants0 rfl) (d := 12) (v := (.bool (decide ((Int.tmod v n) < 0)))) rfl (by kernel_rfl) ?_
    refine w_nil ?_
    refine then_normal ?_
    refine (bsplit (decide ((Int.tmod v n) < 0))).elim (fun b4 => ?_) (fun b4 => ?_)
    · have g5 := of_decide_eq_true b4
      refine wp_know 12 (.bool true) (congrArg Value.bool b4) ?_
      refine wp_ift rfl ?_
      refine w_lit ?_
      refine wl_pure (wants0 rfl) (d := 13) (v := (.int .i64 (Int.tmod v n))) rfl (by kernel_rfl) ?_
      refine wl_pure (wants0 rfl) (d := 14) (v := (.int .i64 (n))) rfl (by kernel_rfl) ?_
      refine wl_pure (wants0 rfl) (d := 15) (v := (.int .i64 ((Int.tmod v n) + n))) rfl (e_int (z := (Int.tmod v n) + n) (by kernel_rfl) (IntWalk.i64_in _ (by have := tmod_lim v n (by omega); omega))) ?_
      refine wl_pure (wants0 rfl) (d := 5) (v := (.int .i64 ((Int.tmod v n) + n))) rfl (by kernel_rfl) ?_
      refine w_nil ?_
      refine then_normal ?_
      refine w_seq ?_
      refine w_lit ?_
      refine wl_pure (wants0 rfl) (d := 16) (v := (.int .i64 ((Int.tmod v n) + n))) rfl (by kernel_rfl) ?_
      refine wl_pure (wants0 rfl) (d := 4) (v := (.int .i64 ((Int.tmod v n) + n))) rfl (by kernel_rfl) ?_
      refine w_nil ?_
      refine then_normal ?_
      refine w_ret ?_
      refine end1 rfl (res_tmp (v := (.int .i64 ((Int.tmod v n) + n))) rfl) ?_
      exact ⟨by unfold withinV; rw [if_neg (of_decide_eq_false b1), tmod_emod v n (by have := of_decide_eq_false b1; omega), if_pos (of_decide_eq_true b4)], H.upd 0 rfl [] (fun _ h => h.elim)⟩
    · have g6 := of_decide_eq_false b4
      refine wp_know 12 (.bool false) (congrArg Value.bool b4) ?_
      refine wp_iff rfl ?_
      refine w_skip ?_
      refine then_normal ?_
      refine w_seq ?_
      refine w_lit ?_
      refine wl_pure (wants0 rfl) (d := 16) (v := (.int .i64 (Int.tmod v n))) rfl (by kernel_rfl) ?_
      refine wl_pure (wants0 rfl) (d := 4) (v := (.int .i64 (Int.tmod v n))) rfl (by kernel_rfl) ?_
      refine w_nil ?_
      refine then_normal ?_
      refine w_ret ?_
      refine end1 rfl (res_tmp (v := (.int .i64 (Int.tmod v n))) rfl) ?_
      exact ⟨by unfold withinV; rw [if_neg (of_decide_eq_false b1), tmod_emod v n (by have := of_decide_eq_false b1; omega), if_neg (of_decide_eq_false b4)], H.upd 0 rfl [] (fun _ h => h.elim)⟩

set_option maxRecDepth 100000 in
set_option maxHeartbeats 400000 in
theorem copyB_any (w : World) (v : Value) (p : List UInt8) (hp : ListAt encB 1 w v p) (hx : p.length ≤ 1000000) :
    Calls Try.prog 29 #[(v)] w fun e w' => ∃ u, e = .returned u ∧ (rowC 5 1 u p.length (p.flatMap encB)).ok w' ∧ Upd [] w w' ∧ ∀ b, (rowC 5 1 u p.length (p.flatMap encB)).fp b → w.heap.size ≤ b := by
  have H := Sat.start0 w
  refine calls_fr Try.func29 rfl 5 rfl (Nat.le_of_ble_eq_true rfl) ?_
  refine w_seq ?_
  refine w_lit ?_
  refine wl_pure (wants0 rfl) (d := 2) (v := (.slice none 0 0)) rfl (by kernel_rfl) ?_
  refine w_nil ?_
  refine then_normal ?_
  refine w_seq ?_
  refine w_lit ?_
  refine wl_pure (wants0 rfl) (d := 3) (v := v) rfl (by kernel_rfl) ?_
  refine wl_do (wants0 rfl) (fun K1 hK1 => ?_)
  refine d_appendNilL (T := 22) (e := 5) (size := 1) (bytes := 1) rfl H (by kernel_rfl) encB_len encB_one (ListAt.now H 0 rfl hp) rfl rfl (by omega) (by omega) ?_
  intro v2 w3 (H4 : Sat w [restC w (fun _ => False), rowC 5 1 v2 p.length (p.flatMap encB)] w3)
  obtain ⟨a5, c6, rfl⟩ := ownsRow_shape (H4.at 1 rfl)
  refine hK1 _ _ ?_
  clear hK1 K1
  refine wl_pure (wants0 rfl) (d := 2) (v := (.slice a5 p.length c6)) rfl (by kernel_rfl) ?_
  refine w_nil ?_
  refine then_normal ?_
  refine w_ret ?_
  refine end1 rfl (res_tmp (v := (.slice a5 p.length c6)) rfl) ?_
  exact ⟨_, rfl, H4.at 1 rfl, H4.upd 0 rfl [] (fun _ h => h.elim), H4.fresh 0 rfl (fun _ h => h) 1 rfl rfl⟩

set_option maxRecDepth 100000 in
set_option maxHeartbeats 400000 in
theorem cutB_any (w : World) (pa : Option Addr) (pc : Nat) (p : List UInt8) (hp : ListAt encB 1 w (.slice pa p.length pc) p) (n : Nat) (hn : n ≤ 1000000) :
    Calls Try.prog 8 #[(.slice pa p.length pc), (.int .i64 ((n : Int)))] w fun e w' => ∃ u, e = .returned u ∧ (rowC 5 1 u (p.take n).length ((p.take n).flatMap encB)).ok w' ∧ Upd [] w w' ∧ ∀ b, (rowC 5 1 u (p.take n).length ((p.take n).flatMap encB)).fp b → w.heap.size ≤ b := by
  have hcap := ListAt.cap hp
  have H := Sat.start0 w
  refine calls_fr Try.func8 rfl 12 rfl (Nat.le_of_ble_eq_true rfl) ?_
  refine w_seq ?_
  refine w_lit ?_
  refine wl_pure (wants0 rfl) (d := 4) (v := (.slice none 0 0)) rfl (by kernel_rfl) ?_
  refine w_nil ?_
  refine then_normal ?_
  refine w_seq ?_
  refine w_lit ?_
  refine wl_pure (wants0 rfl) (d := 5) (v := (.slice pa p.length pc)) rfl (by kernel_rfl) ?_
  refine wl_pure (wants0 rfl) (d := 6) (v := (.slice pa p.length pc)) rfl (by kernel_rfl) ?_
  refine wl_pure (wants0 rfl) (d := 7) (v := (.int .i64 ((p.length : Int)))) rfl (by kernel_rfl) ?_
  refine wl_pure (wants0 rfl) (d := 8) (v := (.int .i64 ((n : Int)))) rfl (by kernel_rfl) ?_
  refine wl_pure (wants0 rfl) (d := 9) (v := (.int .i64 (((min p.length n : Nat) : Int)))) rfl (e_min (k := .i64) (a := (p.length : Int)) (b := (n : Int)) (z := ((min p.length n : Nat) : Int)) rfl rfl (by omega)) ?_
  refine wl_pure (wants0 rfl) (d := 10) (v := (.slice pa (min p.length n) pc)) rfl (e_sliceHi (E := 5) (q := (min p.length n)) (by kernel_rfl) (by kernel_rfl) rfl rfl (by omega) (by omega)) ?_
  refine wl_do (wants0 rfl) (fun K1 hK1 => ?_)
  refine d_call (d := 11) rfl (by kernel_rfl) (copyB_any w (.slice pa (min p.length n) pc) (p.take (min p.length n)) (ListAt.take (ListAt.now H 0 rfl hp) (by omega)) (by simp only [List.length_take]; omega)) ?_
  rintro _ w2 ⟨u3, rfl, k4, p5, q6⟩
  have H7 : Sat w [restC w (fun _ => False), rowC 5 1 u3 ((p.take (min p.length n)).length) ((p.take (min p.length n)).flatMap encB)] w2 := H.addU p5 k4 q6
  obtain ⟨a8, c9, rfl⟩ := ownsRow_shape (H7.at 1 rfl)
  refine ⟨_, rfl, ?_⟩
  refine hK1 _ _ ?_
  clear hK1 K1
  refine wl_pure (wants0 rfl) (d := 4) (v := (.slice a8 ((p.take (min p.length n)).length) c9)) rfl (by kernel_rfl) ?_
  refine w_nil ?_
  refine then_normal ?_
  refine w_ret ?_
  refine end1 rfl (res_tmp (v := (.slice a8 ((p.take (min p.length n)).length) c9)) rfl) ?_
  have ht : p.take (min p.length n) = p.take n := by rw [List.take_eq_take_iff]; omega
  exact ⟨_, rfl, (by rw [← ht]; exact H7.at 1 rfl), H7.upd 0 rfl [] (fun _ h => h.elim), (by rw [← ht]; exact H7.fresh 0 rfl (fun _ h => h) 1 rfl rfl)⟩

set_option maxRecDepth 100000 in
set_option maxHeartbeats 400000 in
theorem sameB_any (w : World) (pa : Option Addr) (pc : Nat) (p : List UInt8) (hp : ListAt encB 1 w (.slice pa p.length pc) p) (hlp : p.length ≤ 1000000) (qa : Option Addr) (qc : Nat) (q : List UInt8) (hq : ListAt encB 1 w (.slice qa q.length qc) q) :
    Calls Try.prog 13 #[(.slice pa p.length pc), (.slice qa q.length qc)] w fun e w' => e = .returned (.bool (decide (p = q))) ∧ Upd [] w w' := by
  have H := Sat.start0 w
  refine calls_fr Try.func13 rfl 26 rfl (Nat.le_of_ble_eq_true rfl) ?_
  refine w_seq ?_
  refine w_lit ?_
  refine wl_pure (wants0 rfl) (d := 4) (v := (.bool false)) rfl (by kernel_rfl) ?_
  refine w_nil ?_
  refine then_normal ?_
  refine w_seq ?_
  refine w_seq ?_
  refine w_lit ?_
  refine wl_pure (wants0 rfl) (d := 6) (v := (.slice pa p.length pc)) rfl (by kernel_rfl) ?_
  refine wl_pure (wants0 rfl) (d := 7) (v := (.int .i64 ((p.length : Int)))) rfl (by kernel_rfl) ?_
  refine wl_pure (wants0 rfl) (d := 8) (v := (.slice qa q.length qc)) rfl (by kernel_rfl) ?_
  refine wl_pure (wants0 rfl) (d := 9) (v := (.int .i64 ((q.length : Int)))) rfl (by kernel_rfl) ?_
  refine wl_pure (wants0 rfl) (d := 10) (v := (.bool (!(decide ((p.length : Int) = (q.length : Int)))))) rfl (by kernel_rfl) ?_
  refine w_nil ?_
  refine then_normal ?_
  refine (bsplit (!(decide ((p.length : Int) = (q.length : Int))))).elim (fun b1 => ?_) (fun b1 => ?_)
  · have g2 := bnot_true b1
    have g3 := of_decide_eq_false g2
    refine wp_know 10 (.bool true) (congrArg Value.bool b1) ?_
    have g4 := bnot_true b1
    have g5 := of_decide_eq_false g4
    refine wp_ift rfl ?_
    refine w_seq ?_
    refine w_lit ?_
    refine wl_pure (wants0 rfl) (d := 4) (v := (.bool false)) rfl (by kernel_rfl) ?_
    refine w_nil ?_
    refine then_normal ?_
    refine w_ret ?_
    refine then_ret ?_
    refine end1 rfl (res_tmp (v := (.bool false)) rfl) ?_
    exact ⟨by rw [decide_eq_false (fun e => by have z := b1; simp [e] at z)], H.upd 0 rfl [] (fun _ h => h.elim)⟩
  · have g6 := bnot_false b1
    have g7 := of_decide_eq_true g6
    refine wp_know 10 (.bool false) (congrArg Value.bool b1) ?_
    have g8 := bnot_false b1
    have g9 := of_decide_eq_true g8
    refine wp_iff rfl ?_
    refine w_skip ?_
    refine then_normal ?_
    refine w_seq ?_
    refine w_seq ?_
    have hlen : p.length = q.length := by have z := b1; simp at z; omega
    refine w_lit ?_
    refine wl_pure (wants0 rfl) (d := 5) (v := (.int .i64 (0))) rfl (by kernel_rfl) ?_
    refine w_nil ?_
    refine then_normal ?_
    refine w_block ?_
    refine wp_round [4, 5, 11, 12, 13, 14, 15, 16, 17, 18, 19, 20, 21, 22, 23, 24, 25] (fun F_ W_ m_ => ∃ (i : Nat), F_ 5 = (.int .i64 ((i : Int))) ∧ (i ≤ p.length) ∧ (p.take i = q.take i) ∧ Sat w [restC w (fun _ => False)] W_ ∧ m_ = p.length + 1 - i) _ ⟨0, (show ((.int .i64 (0)) : Value) = _ by first | rfl | go_num), by omega, by simp, H, rfl⟩ ?_
    rintro g10 w11 _ ⟨i, v13, hi, hse, H12, rfl⟩
    refine wp_know 5 _ v13 ?_
    refine w_seq ?_
    refine w_seq ?_
    refine w_lit ?_
    refine wl_pure (wants0 rfl) (d := 11) (v := (.int .i64 ((i : Int)))) rfl (by kernel_rfl) ?_
    refine wl_pure (wants0 rfl) (d := 12) (v := (.slice pa p.length pc)) rfl (by kernel_rfl) ?_
    refine wl_pure (wants0 rfl) (d := 13) (v := (.int .i64 ((p.length : Int)))) rfl (by kernel_rfl) ?_
    refine wl_pure (wants0 rfl) (d := 14) (v := (.bool (decide ((i : Int) < (p.length : Int))))) rfl (by kernel_rfl) ?_
    refine w_nil ?_
    refine then_normal ?_
    refine (bsplit (decide ((i : Int) < (p.length : Int)))).elim (fun b15 => ?_) (fun b15 => ?_)
    · have g16 := of_decide_eq_true b15
      refine wp_know 14 (.bool true) (congrArg Value.bool b15) ?_
      have g17 := of_decide_eq_true b15
      refine wp_ift rfl ?_
      refine w_skip ?_
      refine then_normal ?_
      refine w_seq ?_
      refine w_block ?_
      refine w_seq ?_
      refine q_start H12 (by kernel_rfl) (by kernel_rfl) ?_
      refine q_val (wants0 rfl) (d := 17) (v := (.slice pa p.length pc)) rfl (fun _ H' => (by kernel_rfl)) ?_
      refine q_val (wants0 rfl) (d := 18) (v := (.int .i64 ((i : Int)))) rfl (fun _ H' => (by kernel_rfl)) ?_
      obtain ⟨g18, o19, c20, e21, R22⟩ := SliceOf.atD hp 0 (show i < p.length by omega)
      refine q_val (wants0 rfl) (d := 19) (v := (.pointer (some ⟨g18, o19 + ((i : Int)).toNat * 1, none⟩))) rfl (fun _ H' => (e_indexAddrW (E := 5) (by kernel_rfl) (by kernel_rfl) (Nat.le_of_ble_eq_true rfl) rfl e21 rfl (by omega) (by omega))) ?_
      refine q_val (wants0 rfl) (d := 20) (v := (.int .u8 (((p.getD i 0).toNat : Int)))) rfl (fun _ H' => (e_load1 rfl (by kernel_rfl) (H'.cellR 0 rfl (cells_at R22 0 (by kernel_rfl) (show o19 + ((i : Int)).toNat * 1 = o19 + i * 1 + 0 by omega)) (fun h => h)))) ?_
      refine q_val (wants0 rfl) (d := 21) (v := (.slice qa q.length qc)) rfl (fun _ H' => (by kernel_rfl)) ?_
      refine q_val (wants0 rfl) (d := 22) (v := (.int .i64 ((i : Int)))) rfl (fun _ H' => (by kernel_rfl)) ?_
      obtain ⟨g23, o24, c25, e26, R27⟩ := SliceOf.atD hq 0 (show i < q.length by omega)
      refine q_val (wants0 rfl) (d := 23) (v := (.pointer (some ⟨g23, o24 + ((i : Int)).toNat * 1, none⟩))) rfl (fun _ H' => (e_indexAddrW (E := 5) (by kernel_rfl) (by kernel_rfl) (Nat.le_of_ble_eq_true rfl) rfl e26 rfl (by omega) (by omega))) ?_
      refine q_val (wants0 rfl) (d := 24) (v := (.int .u8 (((q.getD i 0).toNat : Int)))) rfl (fun _ H' => (e_load1 rfl (by kernel_rfl) (H'.cellR 0 rfl (cells_at R27 0 (by kernel_rfl) (show o24 + ((i : Int)).toNat * 1 = o24 + i * 1 + 0 by omega)) (fun h => h)))) ?_
      refine q_val (wants0 rfl) (d := 25) (v := (.bool (!(decide (((p.getD i 0).toNat : Int) = ((q.getD i 0).toNat : Int)))))) rfl (fun _ H' => (by kernel_rfl)) ?_
      refine q_end ?_
      intro w28 H29
      refine then_normal ?_
      refine (bsplit (!(decide (((p.getD i 0).toNat : Int) = ((q.getD i 0).toNat : Int))))).elim (fun b30 => ?_) (fun b30 => ?_)
      · have g31 := bnot_true b30
        have g32 := of_decide_eq_false g31
        refine wp_know 25 (.bool true) (congrArg Value.bool b30) ?_
        have g33 := bnot_true b30
        have g34 := of_decide_eq_false g33
        refine wp_ift rfl ?_
        refine w_seq ?_
        refine w_lit ?_
        refine wl_pure (wants0 rfl) (d := 4) (v := (.bool false)) rfl (by kernel_rfl) ?_
        refine w_nil ?_
        refine then_normal ?_
        refine w_ret ?_
        refine blk_ret ?_
        refine then_ret ?_
        refine back_ret ?_
        refine blk_ret ?_
        refine then_ret ?_
        refine end1 rfl (res_tmp (v := (.bool false)) rfl) ?_
        exact ⟨by rw [decide_eq_false (fun e => by rw [e] at b30; simp at b30)], H29.upd 0 rfl [] (fun _ h => h.elim)⟩
      · have g35 := bnot_false b30
        have g36 := of_decide_eq_true g35
        refine wp_know 25 (.bool false) (congrArg Value.bool b30) ?_
        have g37 := bnot_false b30
        have g38 := of_decide_eq_true g37
        refine wp_iff rfl ?_
        refine w_skip ?_
        refine blk_normal ?_
        refine then_normal ?_
        refine w_lit ?_
        refine wl_pure (wants0 rfl) (d := 15) (v := (.int .i64 ((i : Int)))) rfl (by kernel_rfl) ?_
        refine wl_pure (wants0 rfl) (d := 16) (v := (.int .i64 ((i : Int) + 1))) rfl (e_int (z := (i : Int) + 1) (by kernel_rfl) (IntWalk.i64_in _ (by omega))) ?_
        refine wl_pure (wants0 rfl) (d := 5) (v := (.int .i64 ((i : Int) + 1))) rfl (by kernel_rfl) ?_
        refine w_nil ?_
        refine round_back ?_ _ ⟨(i + 1), (show ((.int .i64 ((i : Int) + 1)) : Value) = _ by first | rfl | go_num), by omega, take_eqB hse (by omega) (by omega) (UInt8.toNat_inj.1 (by have z := of_decide_eq_true (bnot_false b30); omega)), H29, rfl⟩ (by omega)
        exact (same_upd rfl (same_upd rfl (same_upd rfl (same_upd rfl (same_upd rfl (same_upd rfl (same_upd rfl (same_upd rfl (same_upd rfl (same_upd rfl (same_upd rfl (same_upd rfl (same_upd rfl (same_upd rfl (same_upd rfl (same_upd rfl (same_upd rfl (same_upd rfl (same_upd rfl (same_ovr))))))))))))))))))))
    · have g39 := of_decide_eq_false b15
      refine wp_know 14 (.bool false) (congrArg Value.bool b15) ?_
      have g40 := of_decide_eq_false b15
      refine wp_iff rfl ?_
      refine w_exit ?_
      refine then_exit ?_
      refine back_exit ?_
      refine blk_hit ?_
      refine then_normal ?_
      refine w_seq ?_
      refine w_lit ?_
      refine wl_pure (wants0 rfl) (d := 4) (v := (.bool true)) rfl (by kernel_rfl) ?_
      refine w_nil ?_
      refine then_normal ?_
      refine w_ret ?_
      refine end1 rfl (res_tmp (v := (.bool true)) rfl) ?_
      exact ⟨by rw [decide_eq_true (show p = q by rw [← List.take_of_length_le (show p.length ≤ i by omega), hse, List.take_of_length_le (by omega)])], H12.upd 0 rfl [] (fun _ h => h.elim)⟩

set_option maxRecDepth 100000 in
set_option maxHeartbeats 1000000 in
theorem entry_any (w : World) (i : Int) :
    Calls Try.prog 12 #[(.int .i64 (i))] w fun e w' => e = .returned (.agg ⟨(([(.int .i64 (1)), (.int .i64 (1 + withinV i 9))] : List Value) ++ hc (entH i) ++ ([(.int .u64 (3))] : List Value))⟩) ∧ Upd [] w w' := by
  have hw := within_lim i 9 (by omega)
  have H := Sat.start0 w
  refine calls_fr Try.func12 rfl 17 rfl (Nat.le_of_ble_eq_true rfl) ?_
  refine w_seq ?_
  refine w_lit ?_
  refine wl_do (wants0 rfl) (fun K1 hK1 => ?_)
  refine d_alloc (zs := (([(.int .i64 (0)), (.int .i64 (0))] : List Value) ++ hc hash0 ++ ([(.int .u64 (0))] : List Value))) (z := (.agg ⟨(([(.int .i64 (0)), (.int .i64 (0))] : List Value) ++ hc hash0 ++ ([(.int .u64 (0))] : List Value))⟩)) rfl H (by kernel_rfl) (by kernel_rfl) ?_
  intro b2 w3 (H4 : Sat w [restC w (fun _ => False), cellC b2 38 (([(.int .i64 (0)), (.int .i64 (0))] : List Value) ++ hc hash0 ++ ([(.int .u64 (0))] : List Value))] w3)
  refine hK1 _ _ ?_
  clear hK1 K1
  refine w_nil ?_
  refine then_normal ?_
  refine w_seq ?_
  refine w_lit ?_
  refine wl_pure (wants0 rfl) (d := 4) (v := (.int .i64 (i))) rfl (by kernel_rfl) ?_
  refine wl_do (wants0 rfl) (fun K5 hK5 => ?_)
  refine d_call (d := 5) rfl (by kernel_rfl) (within_any w3 i 9 (by omega)) ?_
  rintro _ w6 ⟨rfl, u8⟩
  have H7 := H4.keepU u8
  refine ⟨_, rfl, ?_⟩
  refine hK5 _ _ ?_
  clear hK5 K5
  refine wl_pure (wants0 rfl) (d := 6) (v := (.int .i64 (1 + (withinV i 9)))) rfl (e_int (z := 1 + (withinV i 9)) (by kernel_rfl) (IntWalk.i64_in _ (by omega))) ?_
  refine wl_pure (wants0 rfl) (d := 7) (v := (.agg ⟨([(.int .i64 (1)), (.int .i64 (1 + (withinV i 9)))] : List Value)⟩)) rfl (by kernel_rfl) ?_
  refine wl_do (wants0 rfl) (fun K9 hK9 => ?_)
  refine d_alloc (zs := ([(.int .i64 (0)), (.int .i64 (0))] : List Value)) (z := (.agg ⟨([(.int .i64 (0)), (.int .i64 (0))] : List Value)⟩)) rfl H7 (by kernel_rfl) (by kernel_rfl) ?_
  intro b10 w11 (H12 : Sat w [restC w (fun _ => False), cellC b2 38 (([(.int .i64 (0)), (.int .i64 (0))] : List Value) ++ hc hash0 ++ ([(.int .u64 (0))] : List Value)), cellC b10 35 ([(.int .i64 (0)), (.int .i64 (0))] : List Value)] w11)
  refine hK9 _ _ ?_
  clear hK9 K9
  refine wl_do (wants0 rfl) (fun K13 hK13 => ?_)
  refine d_storeX (vs := ([(.int .i64 (1)), (.int .i64 (1 + (withinV i 9)))] : List Value)) (cs' := ([(.int .i64 (1)), (.int .i64 (1 + (withinV i 9)))] : List Value)) rfl H12 2 rfl rfl rfl rfl (by kernel_rfl) (Nat.le_of_ble_eq_true (by kernel_rfl)) (Nat.le_of_ble_eq_true (by kernel_rfl)) (by kernel_rfl) (by kernel_rfl) ?_
  intro w14 (H15 : Sat w [restC w (fun _ => False), cellC b2 38 (([(.int .i64 (0)), (.int .i64 (0))] : List Value) ++ hc hash0 ++ ([(.int .u64 (0))] : List Value)), cellC b10 35 ([(.int .i64 (1)), (.int .i64 (1 + (withinV i 9)))] : List Value)] w14)
  refine hK13 _ _ ?_
  clear hK13 K13
  refine w_nil ?_
  refine then_normal ?_
  refine w_seq ?_
  refine h_start H15 [restC w (fun _ => False), cellC b10 35 ([(.int .i64 (1)), (.int .i64 (1 + (withinV i 9)))] : List Value)] 10 rfl (by kernel_rfl) (fun Hx => (Hx.pick [0, 2] (by decide))) ?_
  intro w17 H18 S19
  refine h_val 0 rfl (by kernel_rfl) (by kernel_rfl) (by kernel_rfl) (fun _ _ _ h => h) S19 (wants0 rfl) (d := 8) (v := (.agg ⟨([(.int .i64 (1)), (.int .i64 (1 + (withinV i 9)))] : List Value)⟩)) rfl (fun _ H' => (e_loadN (vs := ([(.int .i64 (1)), (.int .i64 (1 + (withinV i 9)))] : List Value)) rfl (by kernel_rfl) (by kernel_rfl) (by exact Nat.le_of_ble_eq_true (by kernel_rfl)) (H'.at 1 rfl) (by kernel_rfl))) ?_
  refine h_val 1 rfl (by kernel_rfl) (by kernel_rfl) (by kernel_rfl) (fun _ _ _ h => h) S19 (wants0 rfl) (d := 9) (v := (.agg ⟨([(.int .i64 (1)), (.int .i64 (1 + (withinV i 9)))] : List Value)⟩)) rfl (fun _ H' => (e_loadN (vs := ([(.int .i64 (1)), (.int .i64 (1 + (withinV i 9)))] : List Value)) rfl (by kernel_rfl) (by kernel_rfl) (by exact Nat.le_of_ble_eq_true (by kernel_rfl)) (H'.at 1 rfl) (by kernel_rfl))) ?_
  refine h_val 2 rfl (by kernel_rfl) (by kernel_rfl) (by kernel_rfl) (fun _ _ _ h => h) S19 (wants0 rfl) (d := 10) (v := (.agg ⟨(hc (hash1 (7)))⟩)) rfl (fun _ H' => (by kernel_rfl)) ?_
  refine h_val 3 rfl (by kernel_rfl) (by kernel_rfl) (by kernel_rfl) (fun _ _ _ h => h) S19 (wants0 rfl) (d := 11) (v := (.int .i64 (i))) rfl (fun _ H' => (by kernel_rfl)) ?_
  refine h_do 4 rfl (by kernel_rfl) (wants0 rfl) (fun K20 hK20 => ?_)
  refine d_call (d := 12) rfl (by kernel_rfl) (within_any w17 i 9 (by omega)) ?_
  rintro _ w21 ⟨rfl, u23⟩
  have H22 := H18.keepU u23
  refine ⟨_, rfl, ?_⟩
  have S24 := H22.pick [0, 2] (by decide)
  refine hK20 _ _ S24 ?_
  clear hK20 K20
  refine h_val 5 rfl (by kernel_rfl) (by kernel_rfl) (by kernel_rfl) (fun _ _ _ h => h) S24 (wants0 rfl) (d := 13) (v := (.int .u8 (withinV i 9))) rfl (fun _ H' => (e_int (z := withinV i 9) (by kernel_rfl) (wrap_u8 (by omega)))) ?_
  refine h_do 6 rfl (by kernel_rfl) (wants0 rfl) (fun K25 hK25 => ?_)
  refine d_buildSlice (e := 5) (size := 1) (bytes := 1) (z := (.int .u8 (0))) (pvs := [(0, (.int .u8 (withinV i 9)))]) (vs := ([(.int .u8 (withinV i 9))] : List Value)) rfl H22 (by kernel_rfl) (by kernel_rfl) (by kernel_rfl) (by kernel_rfl) (by kernel_rfl) rfl rfl ?_
  intro b26 w27 (H28 : Sat w [restC w (fun _ => False), cellC b2 38 (([(.int .i64 (0)), (.int .i64 (0))] : List Value) ++ hc hash0 ++ ([(.int .u64 (0))] : List Value)), cellC b10 35 ([(.int .i64 (1)), (.int .i64 (1 + (withinV i 9)))] : List Value), rowC 5 1 (.slice (some ⟨b26, 0, none⟩) 1 1) 1 ([(.int .u8 (withinV i 9))] : List Value)] w27)
  have H29 : Sat w [restC w (fun _ => False), cellC b2 38 (([(.int .i64 (0)), (.int .i64 (0))] : List Value) ++ hc hash0 ++ ([(.int .u64 (0))] : List Value)), cellC b10 35 ([(.int .i64 (1)), (.int .i64 (1 + (withinV i 9)))] : List Value), rowC 5 1 (.slice (some ⟨b26, 0, none⟩) 1 1) 1 ([UInt8.ofNat (withinV i 9).toNat].flatMap encB)] w27 := H28.cast (by rw [byte_enc (by omega)])
  have S30 := H29.pick [0, 2] (by decide)
  refine hK25 _ _ S30 ?_
  clear hK25 K25
  refine h_do 7 rfl (by kernel_rfl) (wants0 rfl) (fun K31 hK31 => ?_)
  refine d_call (d := 15) rfl (by kernel_rfl) (rOf_any w27 (1 : Int) (1 + (withinV i 9)) (hash1 (7)) (some ⟨b26, 0, none⟩) 1 ([UInt8.ofNat (withinV i 9).toNat]) (ListAt.row (enc := encB) (sz := 1) encB_len (by decide) (H29.at 3 rfl)) (by omega) (by omega) (by simp)) ?_
  rintro _ w32 ⟨rfl, u34⟩
  have H33 := H29.keepU u34
  refine ⟨_, rfl, ?_⟩
  have S35 := H33.pick [0, 2] (by decide)
  refine hK31 _ _ S35 ?_
  clear hK31 K31
  refine h_val 8 rfl (by kernel_rfl) (by kernel_rfl) (by kernel_rfl) (fun _ _ _ h => h) S35 (wants0 rfl) (d := 16) (v := (.agg ⟨(([(.int .i64 (1)), (.int .i64 (1 + (withinV i 9)))] : List Value) ++ hc (shaR (ofT (1 : Int) (1 + (withinV i 9)) (hash1 (7)) ([UInt8.ofNat (withinV i 9).toNat]))) ++ ([(.int .u64 (3))] : List Value))⟩)) rfl (fun _ H' => (by kernel_rfl)) ?_
  refine h_do 9 rfl (by kernel_rfl) (wants0 rfl) (fun K36 hK36 => ?_)
  refine d_storeX (vs := (([(.int .i64 (1)), (.int .i64 (1 + (withinV i 9)))] : List Value) ++ hc (shaR (ofT (1 : Int) (1 + (withinV i 9)) (hash1 (7)) ([UInt8.ofNat (withinV i 9).toNat]))) ++ ([(.int .u64 (3))] : List Value))) (cs' := (([(.int .i64 (1)), (.int .i64 (1 + (withinV i 9)))] : List Value) ++ hc (shaR (ofT (1 : Int) (1 + (withinV i 9)) (hash1 (7)) ([UInt8.ofNat (withinV i 9).toNat]))) ++ ([(.int .u64 (3))] : List Value))) rfl H33 1 rfl rfl rfl rfl (by kernel_rfl) (Nat.le_of_ble_eq_true (by kernel_rfl)) (Nat.le_of_ble_eq_true (by kernel_rfl)) (by kernel_rfl) (by kernel_rfl) ?_
  intro w37 (H38 : Sat w [restC w (fun _ => False), cellC b2 38 (([(.int .i64 (1)), (.int .i64 (1 + (withinV i 9)))] : List Value) ++ hc (shaR (ofT (1 : Int) (1 + (withinV i 9)) (hash1 (7)) ([UInt8.ofNat (withinV i 9).toNat]))) ++ ([(.int .u64 (3))] : List Value)), cellC b10 35 ([(.int .i64 (1)), (.int .i64 (1 + (withinV i 9)))] : List Value), rowC 5 1 (.slice (some ⟨b26, 0, none⟩) 1 1) 1 ([UInt8.ofNat (withinV i 9).toNat].flatMap encB)] w37)
  have S40 := H38.pick [0, 2] (by decide)
  refine hK36 _ _ S40 ?_
  clear hK36 K36
  refine h_fin (by kernel_rfl) ?_
  refine then_normal ?_
  refine w_ret ?_
  refine end1 rfl (res_cellN (vs := (([(.int .i64 (1)), (.int .i64 (1 + (withinV i 9)))] : List Value) ++ hc (shaR (ofT (1 : Int) (1 + (withinV i 9)) (hash1 (7)) ([UInt8.ofNat (withinV i 9).toNat]))) ++ ([(.int .u64 (3))] : List Value))) rfl (by kernel_rfl) (by kernel_rfl) (by exact Nat.le_of_ble_eq_true (by kernel_rfl)) (H38.at 1 rfl) (by kernel_rfl)) ?_
  exact ⟨rfl, H38.upd 0 rfl [] (fun _ h => h.elim)⟩

set_option maxRecDepth 100000 in
set_option maxHeartbeats 1000000 in
theorem clash_any (w : World) (i : Int) (pa : Option Addr) (pc : Nat) (p : List UInt8) (hp : ListAt encB 1 w (.slice pa p.length pc) p) (hlp : p.length ≤ 1000) (x : Hash) :
    Calls Try.prog 17 #[(.int .i64 (i)), (.slice pa p.length pc), (.agg ⟨(hc x)⟩)] w fun e w' => e = .returned (.bool (decide (shaR (ofT 1 (1 + withinV i 9) x p) = entH i))) ∧ Upd [] w w' := by
  have hw := within_lim i 9 (by omega)
  have H := Sat.start0 w
  refine calls_fr Try.func17 rfl 18 rfl (Nat.le_of_ble_eq_true rfl) ?_
  refine w_seq ?_
  refine w_lit ?_
  refine wl_do (wants0 rfl) (fun K1 hK1 => ?_)
  refine d_box (vs := (hc x)) rfl H rfl rfl ?_
  intro b2 w3 (H4 : Sat w [restC w (fun _ => False), cellC b2 24 (hc x)] w3)
  refine hK1 _ _ ?_
  clear hK1 K1
  refine wl_pure (wants0 rfl) (d := 6) (v := (.bool false)) rfl (by kernel_rfl) ?_
  refine w_nil ?_
  refine then_normal ?_
  refine w_seq ?_
  refine w_lit ?_
  refine wl_pure (wants0 rfl) (d := 8) (v := (.int .i64 (i))) rfl (by kernel_rfl) ?_
  refine wl_do (wants0 rfl) (fun K5 hK5 => ?_)
  refine d_call (d := 9) rfl (by kernel_rfl) (entry_any w3 i) ?_
  rintro _ w6 ⟨rfl, u8⟩
  have H7 := H4.keepU u8
  refine ⟨_, rfl, ?_⟩
  refine hK5 _ _ ?_
  clear hK5 K5
  refine wl_do (wants0 rfl) (fun K9 hK9 => ?_)
  refine d_alloc (zs := (([(.int .i64 (0)), (.int .i64 (0))] : List Value) ++ hc hash0 ++ ([(.int .u64 (0))] : List Value))) (z := (.agg ⟨(([(.int .i64 (0)), (.int .i64 (0))] : List Value) ++ hc hash0 ++ ([(.int .u64 (0))] : List Value))⟩)) rfl H7 (by kernel_rfl) (by kernel_rfl) ?_
  intro b10 w11 (H12 : Sat w [restC w (fun _ => False), cellC b2 24 (hc x), cellC b10 38 (([(.int .i64 (0)), (.int .i64 (0))] : List Value) ++ hc hash0 ++ ([(.int .u64 (0))] : List Value))] w11)
  refine hK9 _ _ ?_
  clear hK9 K9
  refine wl_do (wants0 rfl) (fun K13 hK13 => ?_)
  refine d_storeX (vs := (([(.int .i64 (1)), (.int .i64 (1 + withinV i 9))] : List Value) ++ hc (entH i) ++ ([(.int .u64 (3))] : List Value))) (cs' := (([(.int .i64 (1)), (.int .i64 (1 + withinV i 9))] : List Value) ++ hc (entH i) ++ ([(.int .u64 (3))] : List Value))) rfl H12 2 rfl rfl rfl rfl (by kernel_rfl) (Nat.le_of_ble_eq_true (by kernel_rfl)) (Nat.le_of_ble_eq_true (by kernel_rfl)) (by kernel_rfl) (by kernel_rfl) ?_
  intro w14 (H15 : Sat w [restC w (fun _ => False), cellC b2 24 (hc x), cellC b10 38 (([(.int .i64 (1)), (.int .i64 (1 + withinV i 9))] : List Value) ++ hc (entH i) ++ ([(.int .u64 (3))] : List Value))] w14)
  refine hK13 _ _ ?_
  clear hK13 K13
  refine w_nil ?_
  refine then_normal ?_
  refine w_seq ?_
  refine q_start H15 (by kernel_rfl) (by kernel_rfl) ?_
  refine q_val (wants0 rfl) (d := 10) (v := (.pointer (some ⟨b10, 0, none⟩))) rfl (fun _ H' => (by kernel_rfl)) ?_
  refine q_val (wants0 rfl) (d := 11) (v := (.agg ⟨([(.int .i64 (1)), (.int .i64 (1 + withinV i 9))] : List Value)⟩)) rfl (fun _ H' => (e_loadN (vs := ([(.int .i64 (1)), (.int .i64 (1 + withinV i 9))] : List Value)) rfl (by kernel_rfl) (by kernel_rfl) (by exact Nat.le_of_ble_eq_true (by kernel_rfl)) (H'.at 2 rfl) (by kernel_rfl))) ?_
  refine q_val (wants0 rfl) (d := 12) (v := (.agg ⟨(hc x)⟩)) rfl (fun _ H' => (e_loadN (vs := (hc x)) rfl (by kernel_rfl) (by kernel_rfl) (by exact Nat.le_of_ble_eq_true (by kernel_rfl)) (H'.at 1 rfl) (by kernel_rfl))) ?_
  refine q_val (wants0 rfl) (d := 13) (v := (.slice pa p.length pc)) rfl (fun _ H' => (by kernel_rfl)) ?_
  refine q_call (wants0 rfl) (d := 14) (v := (.agg ⟨(hc (shaR (ofT (1 : Int) (1 + withinV i 9) x p)))⟩)) rfl (fun _ _ => by kernel_rfl) (fun w' H' => (rOf_any w' (1 : Int) (1 + withinV i 9) x pa pc p (ListAt.now H' 0 rfl hp) (by omega) (by omega) hlp).mono fun _ _ h => ⟨h.1, H'.keepU h.2⟩) ?_
  refine q_val (wants0 rfl) (d := 15) (v := (.pointer (some ⟨b10, 2, none⟩))) rfl (fun _ H' => (by kernel_rfl)) ?_
  refine q_val (wants0 rfl) (d := 16) (v := (.agg ⟨(hc (entH i))⟩)) rfl (fun _ H' => (e_loadN (vs := (hc (entH i))) rfl (by kernel_rfl) (by kernel_rfl) (by exact Nat.le_of_ble_eq_true (by kernel_rfl)) (H'.at 2 rfl) (by kernel_rfl))) ?_
  refine q_val (wants0 rfl) (d := 17) (v := (.bool (decide ((shaR (ofT (1 : Int) (1 + withinV i 9) x p)) = (entH i))))) rfl (fun _ H' => (e_eqHash (shaR (ofT (1 : Int) (1 + withinV i 9) x p)) (entH i) rfl rfl)) ?_
  refine q_val (wants0 rfl) (d := 6) (v := (.bool (decide ((shaR (ofT (1 : Int) (1 + withinV i 9) x p)) = (entH i))))) rfl (fun _ H' => (by kernel_rfl)) ?_
  refine q_end ?_
  intro w17 H18
  refine then_normal ?_
  refine w_ret ?_
  refine end1 rfl (res_tmp (v := (.bool (decide ((shaR (ofT (1 : Int) (1 + withinV i 9) x p)) = (entH i))))) rfl) ?_
  exact ⟨rfl, H18.upd 0 rfl [] (fun _ h => h.elim)⟩

end Go.Proofs.Ytoiplcicbjimlaa
