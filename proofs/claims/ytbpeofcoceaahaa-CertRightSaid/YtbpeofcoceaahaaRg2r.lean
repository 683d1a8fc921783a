/- WHAT IS PROVED: right commitments, stamps, certificates, their times, the document's way: contracts. Conditions: stated with each. -/
import Derived.Test.YtbpeofcoceaahaaShort
import Derived.Test.YtbpeofcoceaahaaRightD
import Derived.Test.YtbpeofcoceaahaaRt2
import Derived.Test.YtbpeofcoceaahaaRefB
import Derived.Test.YtbpeofcoceaahaaNumsS
namespace Go.Proofs.Ytbpeofcoceaahaa
open Go.RowKit

set_option maxRecDepth 100000 in
set_option maxHeartbeats 400000 in
theorem rRightQ_any (w : World) (r : Nat) (ra : Option Addr) (rc : Nat) (L : List Signed) (hb : (cellC r 88 [.slice ra L.length rc]).ok w) (hr : (rowC 120 2 (.slice ra L.length rc) L.length (L.flatMap encS)).ok w) (hn : L.Nodup) (hL : L.length ≤ 1000000) (ta : Option Addr) (tc : Nat) (tx : List UInt8) (ht : ListAt encB 1 w (.slice ta tx.length tc) tx) (p m : Int) :
  Calls Try.prog 45 #[(.pointer (some ⟨r, 0, none⟩)), (.agg ⟨([(.int .i64 (p)), (.int .i64 (m))] : List Value)⟩), (.slice ta tx.length tc)] w fun e w' => e = .returned (.bool (rightB L p m tx)) ∧ Upd [] w w' := by
 have H := Sat.start0 w
 refine calls_fr Try.func45 rfl 50 rfl (Nat.le_of_ble_eq_true rfl) ?_
 refine w_seq ?_
 refine w_lit ?_
 refine wl_do (wants0 rfl) (fun K1 hK1 => ?_)
 refine d_box (vs := ([(.int .i64 (p)), (.int .i64 (m))] : List Value)) rfl H rfl rfl ?_
 intro b2 w3 (H4 : Sat w [restC w (fun _ => False), cellC b2 42 ([(.int .i64 (p)), (.int .i64 (m))] : List Value)] w3)
 refine hK1 _ _ ?_
 clear hK1 K1
 refine wv 6 (.bool false) ?_
 refine w_nil ?_
 refine then_normal ?_
 refine w_seq ?_
 refine q_start H4 (by kernel_rfl) (by kernel_rfl) ?_
 refine qv 7 (pt b2 1) ?_
 refine qv 8 (.int .i64 (m)) ?_ (hr := fun _ H' => (e_load1 rfl (by kernel_rfl) (H'.cell 1 rfl rfl)))
 refine qv 9 (.bool (decide (m ≥ 1))) ?_
 refine qv 10 (.bool (decide (m ≥ 1))) ?_
 refine (bsplit (decide (m ≥ 1))).elim (fun b5 => ?_) (fun b5 => ?_)
 ·have g6 := of_decide_eq_true b5
  refine q_know 10 (.bool true) (congrArg Value.bool b5) ?_
  have g7 := of_decide_eq_true b5
  refine qy 3 10 true 11 (pt b2 1) ?_
  refine qy 3 10 true 12 (.int .i64 (m)) ?_ (hr := fun _ H' => (e_load1 rfl (by kernel_rfl) (H'.cell 1 rfl rfl)))
  refine qy 3 10 true 13 (pt r 0) ?_
  refine qy 3 10 true 14 (pt r 0) ?_
  refine qy 3 10 true 15 (pt r 0) ?_
  refine qy 3 10 true 16 (.slice ra L.length rc) ?_ (hr := fun _ H' => (e_load1 rfl (by kernel_rfl) (H'.roCell 0 rfl hb (fun h => h) rfl)))
  refine q_val (wantsY 3 10 true rfl (by kernel_rfl) rfl (by kernel_rfl)) (d := 17) (v := (.int .i64 ((L.length : Int)))) rfl (fun _ H' => (by kernel_rfl)) ?_
  refine qy 3 10 true 18 (.bool (decide (m ≤ (L.length : Int)))) ?_
  refine qv 19 (.bool (decide (m ≤ (L.length : Int)))) ?_
  refine qv 20 (.bool (decide (m ≤ (L.length : Int)))) ?_
  refine (bsplit (decide (m ≤ (L.length : Int)))).elim (fun b8 => ?_) (fun b8 => ?_)
  ·have g9 := of_decide_eq_true b8
   refine q_know 20 (.bool true) (congrArg Value.bool b8) ?_
   have g10 := of_decide_eq_true b8
   refine qy 13 20 true 21 (pt r 0) ?_
   refine qy 13 20 true 22 (pt r 0) ?_
   refine qy 13 20 true 23 (pt r 0) ?_
   refine qy 13 20 true 24 (.slice ra L.length rc) ?_ (hr := fun _ H' => (e_load1 rfl (by kernel_rfl) (H'.roCell 0 rfl hb (fun h => h) rfl)))
   refine qy 13 20 true 25 (pt b2 1) ?_
   refine qy 13 20 true 26 (.int .i64 (m)) ?_ (hr := fun _ H' => (e_load1 rfl (by kernel_rfl) (H'.cell 1 rfl rfl)))
   refine qy 13 20 true 27 (.int .i64 (m - 1)) ?_ (hr := fun _ H' => (e_int (z := m - 1) (by kernel_rfl) (IntWalk.i64_in _ (by omega))))
   obtain ⟨g11, c12, e13⟩ := row_shape hr (by omega)
   obtain ⟨x14, h15⟩ := get_at (show (m - 1).toNat < L.length by omega)
   refine qy 13 20 true 28 (.pointer (some ⟨g11, 0 + (m - 1).toNat * 2, none⟩)) ?_ (hr := fun _ H' => (e_indexAddrV (E := 120) (by kernel_rfl) (by kernel_rfl) (Nat.le_of_ble_eq_true rfl) rfl e13 rfl (by omega) (by omega)))
   refine qy 13 20 true 29 (.pointer (some ⟨g11, 0 + (m - 1).toNat * 2, none⟩)) ?_
   refine qy 13 20 true 30 (.int .i64 (x14.p)) ?_ (hr := fun _ H' => (e_load1 rfl (by kernel_rfl) (rows_cell (H'.roCk 0 rfl hr (fun _ _ h => h)) e13 encS_len h15 0 rfl (show 0 + (m - 1).toNat * 2 = (m - 1).toNat * 2 + 0 by omega) (by kernel_rfl))))
   refine qy 13 20 true 31 (pt b2 0) ?_
   refine qy 13 20 true 32 (.int .i64 (p)) ?_ (hr := fun _ H' => (e_load1 rfl (by kernel_rfl) (H'.cell 1 rfl rfl)))
   refine qy 13 20 true 33 (.bool (decide (x14.p = p))) ?_
   refine qv 34 (.bool (decide (x14.p = p))) ?_
   refine qv 35 (.bool (decide (x14.p = p))) ?_
   refine (bsplit (decide (x14.p = p))).elim (fun b16 => ?_) (fun b16 => ?_)
   ·have g17 := of_decide_eq_true b16
    refine q_know 35 (.bool true) (congrArg Value.bool b16) ?_
    have g18 := of_decide_eq_true b16
    refine qy 28 35 true 36 (pt r 0) ?_
    refine qy 28 35 true 37 (pt r 0) ?_
    refine qy 28 35 true 38 (pt r 0) ?_
    refine qy 28 35 true 39 (.slice ra L.length rc) ?_ (hr := fun _ H' => (e_load1 rfl (by kernel_rfl) (H'.roCell 0 rfl hb (fun h => h) rfl)))
    refine qy 28 35 true 40 (pt b2 1) ?_
    refine qy 28 35 true 41 (.int .i64 (m)) ?_ (hr := fun _ H' => (e_load1 rfl (by kernel_rfl) (H'.cell 1 rfl rfl)))
    refine qy 28 35 true 42 (.int .i64 (m - 1)) ?_ (hr := fun _ H' => (e_int (z := m - 1) (by kernel_rfl) (IntWalk.i64_in _ (by omega))))
    refine qy 28 35 true 43 (.pointer (some ⟨g11, 0 + (m - 1).toNat * 2, none⟩)) ?_ (hr := fun _ H' => (e_indexAddrV (E := 120) (by kernel_rfl) (by kernel_rfl) (Nat.le_of_ble_eq_true rfl) rfl e13 rfl (by omega) (by omega)))
    refine qy 28 35 true 44 (.pointer (some ⟨g11, 0 + (m - 1).toNat * 2 + 1, none⟩)) ?_
    refine qy 28 35 true 45 (strV x14.s) ?_ (hr := fun _ H' => (e_load1 rfl (by kernel_rfl) (rows_cell (H'.roCk 0 rfl hr (fun _ _ h => h)) e13 encS_len h15 1 rfl (show 0 + (m - 1).toNat * 2 + 1 = (m - 1).toNat * 2 + 1 by omega) (by kernel_rfl))))
    refine qy 28 35 true 46 (.slice ta tx.length tc) ?_
    refine qy 28 35 true 47 (strV tx) ?_ (hr := fun _ H' => (e_convBytes (e := 5) (s := tx) (by kernel_rfl) (by kernel_rfl) (by kernel_rfl) rfl (list_bytes (ListAt.now H' 0 rfl ht))))
    refine qy 28 35 true 48 (.bool (decide (x14.s = tx))) ?_ (hr := fun _ H' => (e_eqStr x14.s tx rfl rfl))
    refine qv 49 (.bool (decide (x14.s = tx))) ?_
    refine qv 6 (.bool (decide (x14.s = tx))) ?_
    refine q_end ?_
    intro w19 H20
    refine then_normal ?_
    refine w_ret ?_
    refine end1 rfl (res_tmp (v := (.bool (decide (x14.s = tx)))) rfl) ?_
    have hb : rightB L p m tx = (decide (x14.s = tx)) := by
      rw [Bool.eq_iff_iff, right_iff hn, decide_eq_true_eq]
      have hp := of_decide_eq_true b16
      constructor
      ·rintro ⟨i, h1, h2⟩
       have h3 := h15
       rw [show (m - 1).toNat = i by omega, h1] at h3
       cases h3; rfl
      ·intro h
       exact ⟨(m - 1).toNat, by rw [h15, ← hp, ← h], by omega⟩
    exact ⟨by rw [hb], H20.upd 0 rfl [] (fun _ h => h.elim)⟩
   ·have g21 := of_decide_eq_false b16
    refine q_know 35 (.bool false) (congrArg Value.bool b16) ?_
    have g22 := of_decide_eq_false b16
    iterate 13 refine qn 28 35 true ?_
    refine qv 49 (.bool false) ?_
    refine qv 6 (.bool false) ?_
    refine q_end ?_
    intro w23 H24
    refine then_normal ?_
    refine w_ret ?_
    refine end1 rfl (res_tmp (v := (.bool false)) rfl) ?_
    have hb : rightB L p m tx = false := Bool.eq_false_iff.2 fun h => by
      obtain ⟨i, h1, h2⟩ := (right_iff hn).1 h
      have h3 := h15
      rw [show (m - 1).toNat = i by omega, h1] at h3
      cases h3
      exact absurd rfl (of_decide_eq_false b16)
    exact ⟨by rw [hb], H24.upd 0 rfl [] (fun _ h => h.elim)⟩
  ·have g25 := of_decide_eq_false b8
   refine q_know 20 (.bool false) (congrArg Value.bool b8) ?_
   have g26 := of_decide_eq_false b8
   iterate 13 refine qn 13 20 true ?_
   refine qv 34 (.bool false) ?_
   refine qv 35 (.bool false) ?_
   iterate 13 refine qn 28 35 true ?_
   refine qv 49 (.bool false) ?_
   refine qv 6 (.bool false) ?_
   refine q_end ?_
   intro w27 H28
   refine then_normal ?_
   refine w_ret ?_
   refine end1 rfl (res_tmp (v := (.bool false)) rfl) ?_
   have hb : rightB L p m tx = false := Bool.eq_false_iff.2 fun h => by
     obtain ⟨i, h1, h2⟩ := (right_iff hn).1 h
     have h3 := (List.getElem?_eq_some_iff.1 h1).1
     omega
   exact ⟨by rw [hb], H28.upd 0 rfl [] (fun _ h => h.elim)⟩
 ·have g29 := of_decide_eq_false b5
  refine q_know 10 (.bool false) (congrArg Value.bool b5) ?_
  have g30 := of_decide_eq_false b5
  iterate 8 refine qn 3 10 true ?_
  refine qv 19 (.bool false) ?_
  refine qv 20 (.bool false) ?_
  iterate 13 refine qn 13 20 true ?_
  refine qv 34 (.bool false) ?_
  refine qv 35 (.bool false) ?_
  iterate 13 refine qn 28 35 true ?_
  refine qv 49 (.bool false) ?_
  refine qv 6 (.bool false) ?_
  refine q_end ?_
  intro w31 H32
  refine then_normal ?_
  refine w_ret ?_
  refine end1 rfl (res_tmp (v := (.bool false)) rfl) ?_
  have hb : rightB L p m tx = false := Bool.eq_false_iff.2 fun h => by
    obtain ⟨i, h1, h2⟩ := (right_iff hn).1 h
    have h3 := (List.getElem?_eq_some_iff.1 h1).1
    omega
  exact ⟨by rw [hb], H32.upd 0 rfl [] (fun _ h => h.elim)⟩

set_option maxRecDepth 100000 in
set_option maxHeartbeats 400000 in
theorem rN_any (w : World) (f cn : Int) (hf : -1099511627776 ≤ f ∧ f ≤ 1099511627776) :
  Calls Try.prog 30 #[(.agg ⟨([(.int .i64 (f)), (.int .i64 (cn))] : List Value)⟩)] w fun e w' => e = .returned (.int .i64 (3 * f + 1)) ∧ Upd [] w w' := by
 have H := Sat.start0 w
 refine calls_fr Try.func30 rfl 7 rfl (Nat.le_of_ble_eq_true rfl) ?_
 refine w_seq ?_
 refine w_lit ?_
 refine wl_do (wants0 rfl) (fun K1 hK1 => ?_)
 refine d_box (vs := ([(.int .i64 (f)), (.int .i64 (cn))] : List Value)) rfl H rfl rfl ?_
 intro b2 w3 (H4 : Sat w [restC w (fun _ => False), cellC b2 36 ([(.int .i64 (f)), (.int .i64 (cn))] : List Value)] w3)
 refine hK1 _ _ ?_
 clear hK1 K1
 refine wv 2 (.int .i64 (0)) ?_
 refine w_nil ?_
 refine then_normal ?_
 refine w_seq ?_
 refine w_lit ?_
 refine wv 3 (pt b2 0) ?_
 refine wv 4 (.int .i64 (f)) ?_ (hr := e_load1 rfl (by kernel_rfl) (H4.cell 1 rfl rfl))
 refine wv 5 (.int .i64 (3 * f)) ?_ (hr := e_int (z := 3 * f) (by kernel_rfl) (IntWalk.i64_in _ (by omega)))
 refine wv 6 (.int .i64 ((3 * f) + 1)) ?_ (hr := e_int (z := (3 * f) + 1) (by kernel_rfl) (IntWalk.i64_in _ (by omega)))
 refine wv 2 (.int .i64 ((3 * f) + 1)) ?_
 refine w_nil ?_
 refine then_normal ?_
 refine w_ret ?_
 refine end1 rfl (res_tmp (v := (.int .i64 ((3 * f) + 1))) rfl) ?_
 exact ⟨rfl, H4.upd 0 rfl [] (fun _ h => h.elim)⟩

set_option maxRecDepth 100000 in
set_option maxHeartbeats 400000 in
theorem rQ_any (w : World) (f cn : Int) (hf : -1099511627776 ≤ f ∧ f ≤ 1099511627776) :
  Calls Try.prog 41 #[(.agg ⟨([(.int .i64 (f)), (.int .i64 (cn))] : List Value)⟩)] w fun e w' => e = .returned (.int .i64 (2 * f + 1)) ∧ Upd [] w w' := by
 have H := Sat.start0 w
 refine calls_fr Try.func41 rfl 7 rfl (Nat.le_of_ble_eq_true rfl) ?_
 refine w_seq ?_
 refine w_lit ?_
 refine wl_do (wants0 rfl) (fun K1 hK1 => ?_)
 refine d_box (vs := ([(.int .i64 (f)), (.int .i64 (cn))] : List Value)) rfl H rfl rfl ?_
 intro b2 w3 (H4 : Sat w [restC w (fun _ => False), cellC b2 36 ([(.int .i64 (f)), (.int .i64 (cn))] : List Value)] w3)
 refine hK1 _ _ ?_
 clear hK1 K1
 refine wv 2 (.int .i64 (0)) ?_
 refine w_nil ?_
 refine then_normal ?_
 refine w_seq ?_
 refine w_lit ?_
 refine wv 3 (pt b2 0) ?_
 refine wv 4 (.int .i64 (f)) ?_ (hr := e_load1 rfl (by kernel_rfl) (H4.cell 1 rfl rfl))
 refine wv 5 (.int .i64 (2 * f)) ?_ (hr := e_int (z := 2 * f) (by kernel_rfl) (IntWalk.i64_in _ (by omega)))
 refine wv 6 (.int .i64 ((2 * f) + 1)) ?_ (hr := e_int (z := (2 * f) + 1) (by kernel_rfl) (IntWalk.i64_in _ (by omega)))
 refine wv 2 (.int .i64 ((2 * f) + 1)) ?_
 refine w_nil ?_
 refine then_normal ?_
 refine w_ret ?_
 refine end1 rfl (res_tmp (v := (.int .i64 ((2 * f) + 1))) rfl) ?_
 exact ⟨rfl, H4.upd 0 rfl [] (fun _ h => h.elim)⟩

set_option maxRecDepth 100000 in
set_option maxHeartbeats 1000000 in
theorem rValid_any (w : World) (f cn : Int) (x : CommitD) :
  Calls Try.prog 63 #[(.agg ⟨([(.int .i64 (f)), (.int .i64 (cn))] : List Value)⟩), (.agg ⟨(([(.int .i64 (x.cl)), (.int .i64 (x.seq))] : List Value) ++ hc x.h ++ ([(.int .i64 (x.len)), (.int .i64 (x.sb)), (.int .i64 (x.sm))] : List Value))⟩)] w fun e w' => e = .returned (.bool (validC cn x)) ∧ Upd [] w w' := by
 have H := Sat.start0 w
 refine calls_fr Try.func63 rfl 39 rfl (Nat.le_of_ble_eq_true rfl) ?_
 refine w_seq ?_
 refine w_lit ?_
 refine wl_do (wants0 rfl) (fun K1 hK1 => ?_)
 refine d_box (vs := ([(.int .i64 (f)), (.int .i64 (cn))] : List Value)) rfl H rfl rfl ?_
 intro b2 w3 (H4 : Sat w [restC w (fun _ => False), cellC b2 36 ([(.int .i64 (f)), (.int .i64 (cn))] : List Value)] w3)
 refine hK1 _ _ ?_
 clear hK1 K1
 refine wl_do (wants0 rfl) (fun K5 hK5 => ?_)
 refine d_box (vs := (([(.int .i64 (x.cl)), (.int .i64 (x.seq))] : List Value) ++ hc x.h ++ ([(.int .i64 (x.len)), (.int .i64 (x.sb)), (.int .i64 (x.sm))] : List Value))) rfl H4 rfl rfl ?_
 intro b6 w7 (H8 : Sat w [restC w (fun _ => False), cellC b2 36 ([(.int .i64 (f)), (.int .i64 (cn))] : List Value), cellC b6 44 (([(.int .i64 (x.cl)), (.int .i64 (x.seq))] : List Value) ++ hc x.h ++ ([(.int .i64 (x.len)), (.int .i64 (x.sb)), (.int .i64 (x.sm))] : List Value))] w7)
 refine hK5 _ _ ?_
 clear hK5 K5
 refine wv 4 (.bool false) ?_
 refine w_nil ?_
 refine then_normal ?_
 refine wp_meetR [4, 5, 6, 7, 8, 9, 10, 11, 12, 13, 14, 15, 16, 17, 18, 19, 20, 21, 22, 23, 24, 25, 26, 27, 28, 29, 30, 31, 32, 33, 34, 35, 36, 37, 38] (fun G_ W_ => G_ 4 = (.bool (validC cn x)) ∧ Sat w [restC w (fun _ => False), cellC b2 36 ([(.int .i64 (f)), (.int .i64 (cn))] : List Value), cellC b6 44 (([(.int .i64 (x.cl)), (.int .i64 (x.seq))] : List Value) ++ hc x.h ++ ([(.int .i64 (x.len)), (.int .i64 (x.sb)), (.int .i64 (x.sm))] : List Value))] W_) ?_ ?_
 ·refine w_lit ?_
  refine wv 5 (pt b6 0) ?_
  refine wv 6 (pt b6 0) ?_
  refine wv 7 (.int .i64 (x.cl)) ?_ (hr := e_load1 rfl (by kernel_rfl) (H8.cell 2 rfl (by kernel_rfl)))
  refine wv 8 (.bool (decide (x.cl ≥ 0))) ?_
  refine wv 9 (.bool (decide (x.cl ≥ 0))) ?_
  refine (bsplit (decide (x.cl ≥ 0))).elim (fun b10 => ?_) (fun b10 => ?_)
  ·have g11 := of_decide_eq_true b10
   refine wl_know 9 (.bool true) (congrArg Value.bool b10) ?_
   refine wy 4 9 true 10 (pt b6 0) ?_
   refine wy 4 9 true 11 (pt b6 0) ?_
   refine wy 4 9 true 12 (.int .i64 (x.cl)) ?_ (hr := e_load1 rfl (by kernel_rfl) (H8.cell 2 rfl (by kernel_rfl)))
   refine wy 4 9 true 13 (pt b2 1) ?_
   refine wy 4 9 true 14 (.int .i64 (cn)) ?_ (hr := e_load1 rfl (by kernel_rfl) (H8.cell 1 rfl rfl))
   refine wy 4 9 true 15 (.bool (decide (x.cl < cn))) ?_
   refine wv 16 (.bool (decide (x.cl < cn))) ?_
   refine wv 17 (.bool (decide (x.cl < cn))) ?_
   refine (bsplit (decide (x.cl < cn))).elim (fun b12 => ?_) (fun b12 => ?_)
   ·have g13 := of_decide_eq_true b12
    refine wl_know 17 (.bool true) (congrArg Value.bool b12) ?_
    refine wy 12 17 true 18 (pt b6 0) ?_
    refine wy 12 17 true 19 (pt b6 1) ?_
    refine wy 12 17 true 20 (.int .i64 (x.seq)) ?_ (hr := e_load1 rfl (by kernel_rfl) (H8.cell 2 rfl (by kernel_rfl)))
    refine wy 12 17 true 21 (.bool (decide (x.seq ≥ 1))) ?_
    refine wv 22 (.bool (decide (x.seq ≥ 1))) ?_
    refine wv 23 (.bool (decide (x.seq ≥ 1))) ?_
    refine (bsplit (decide (x.seq ≥ 1))).elim (fun b14 => ?_) (fun b14 => ?_)
    ·have g15 := of_decide_eq_true b14
     refine wl_know 23 (.bool true) (congrArg Value.bool b14) ?_
     refine wy 18 23 true 24 (pt b6 0) ?_
     refine wy 18 23 true 25 (pt b6 1) ?_
     refine wy 18 23 true 26 (.int .i64 (x.seq)) ?_ (hr := e_load1 rfl (by kernel_rfl) (H8.cell 2 rfl (by kernel_rfl)))
     refine wy 18 23 true 27 (.bool (decide (x.seq ≤ 1048576))) ?_
     refine wv 28 (.bool (decide (x.seq ≤ 1048576))) ?_
     refine wv 29 (.bool (decide (x.seq ≤ 1048576))) ?_
     refine (bsplit (decide (x.seq ≤ 1048576))).elim (fun b16 => ?_) (fun b16 => ?_)
     ·have g17 := of_decide_eq_true b16
      refine wl_know 29 (.bool true) (congrArg Value.bool b16) ?_
      refine wy 24 29 true 30 (pt b6 34) ?_
      refine wy 24 29 true 31 (.int .i64 (x.len)) ?_ (hr := e_load1 rfl (by kernel_rfl) (H8.cell 2 rfl (by kernel_rfl)))
      refine wy 24 29 true 32 (.bool (decide (x.len ≥ 0))) ?_
      refine wv 33 (.bool (decide (x.len ≥ 0))) ?_
      refine wv 34 (.bool (decide (x.len ≥ 0))) ?_
      refine (bsplit (decide (x.len ≥ 0))).elim (fun b18 => ?_) (fun b18 => ?_)
      ·have g19 := of_decide_eq_true b18
       refine wl_know 34 (.bool true) (congrArg Value.bool b18) ?_
       refine wy 29 34 true 35 (pt b6 34) ?_
       refine wy 29 34 true 36 (.int .i64 (x.len)) ?_ (hr := e_load1 rfl (by kernel_rfl) (H8.cell 2 rfl (by kernel_rfl)))
       refine wy 29 34 true 37 (.bool (decide (x.len ≤ 256))) ?_
       refine wv 38 (.bool (decide (x.len ≤ 256))) ?_
       refine wv 4 (.bool (decide (x.len ≤ 256))) ?_
       refine w_nil ?_
       refine meetR_at ?_ ⟨(congrArg Value.bool (show (decide (x.len ≤ 256)) = (validC cn x) by simp [validC, b10, b12, b14, b16, b18])), H8⟩
       exact (same_upd rfl (same_upd rfl (same_upd rfl (same_upd rfl (same_upd rfl (same_upd rfl (same_upd rfl (same_upd rfl (same_upd rfl (same_upd rfl (same_upd rfl (same_upd rfl (same_upd rfl (same_upd rfl (same_upd rfl (same_upd rfl (same_upd rfl (same_upd rfl (same_upd rfl (same_upd rfl (same_upd rfl (same_upd rfl (same_upd rfl (same_upd rfl (same_upd rfl (same_upd rfl (same_upd rfl (same_upd rfl (same_upd rfl (same_upd rfl (same_upd rfl (same_upd rfl (same_upd rfl (same_upd rfl (same_upd rfl (same_upd rfl (same_upd rfl (same_upd rfl (same_upd rfl (same_upd rfl (same_refl)))))))))))))))))))))))))))))))))))))))))
      ·have g20 := of_decide_eq_false b18
       refine wl_know 34 (.bool false) (congrArg Value.bool b18) ?_
       iterate 3 refine wn 29 34 true ?_
       refine wv 38 (.bool false) ?_
       refine wv 4 (.bool false) ?_
       refine w_nil ?_
       refine meetR_at ?_ ⟨(congrArg Value.bool (show false = (validC cn x) by simp [validC, b10, b12, b14, b16, b18])), H8⟩
       exact (same_upd rfl (same_upd rfl (same_upd rfl (same_upd rfl (same_upd rfl (same_upd rfl (same_upd rfl (same_upd rfl (same_upd rfl (same_upd rfl (same_upd rfl (same_upd rfl (same_upd rfl (same_upd rfl (same_upd rfl (same_upd rfl (same_upd rfl (same_upd rfl (same_upd rfl (same_upd rfl (same_upd rfl (same_upd rfl (same_upd rfl (same_upd rfl (same_upd rfl (same_upd rfl (same_upd rfl (same_upd rfl (same_upd rfl (same_upd rfl (same_upd rfl (same_upd rfl (same_upd rfl (same_upd rfl (same_upd rfl (same_upd rfl (same_upd rfl (same_upd rfl (same_upd rfl (same_upd rfl (same_refl)))))))))))))))))))))))))))))))))))))))))
     ·have g21 := of_decide_eq_false b16
      refine wl_know 29 (.bool false) (congrArg Value.bool b16) ?_
      iterate 3 refine wn 24 29 true ?_
      refine wv 33 (.bool false) ?_
      refine wv 34 (.bool false) ?_
      iterate 3 refine wn 29 34 true ?_
      refine wv 38 (.bool false) ?_
      refine wv 4 (.bool false) ?_
      refine w_nil ?_
      refine meetR_at ?_ ⟨(congrArg Value.bool (show false = (validC cn x) by simp [validC, b10, b12, b14, b16])), H8⟩
      exact (same_upd rfl (same_upd rfl (same_upd rfl (same_upd rfl (same_upd rfl (same_upd rfl (same_upd rfl (same_upd rfl (same_upd rfl (same_upd rfl (same_upd rfl (same_upd rfl (same_upd rfl (same_upd rfl (same_upd rfl (same_upd rfl (same_upd rfl (same_upd rfl (same_upd rfl (same_upd rfl (same_upd rfl (same_upd rfl (same_upd rfl (same_upd rfl (same_upd rfl (same_upd rfl (same_upd rfl (same_upd rfl (same_upd rfl (same_upd rfl (same_upd rfl (same_upd rfl (same_upd rfl (same_upd rfl (same_upd rfl (same_upd rfl (same_upd rfl (same_upd rfl (same_upd rfl (same_refl))))))))))))))))))))))))))))))))))))))))
    ·have g22 := of_decide_eq_false b14
     refine wl_know 23 (.bool false) (congrArg Value.bool b14) ?_
     iterate 4 refine wn 18 23 true ?_
     refine wv 28 (.bool false) ?_
     refine wv 29 (.bool false) ?_
     iterate 3 refine wn 24 29 true ?_
     refine wv 33 (.bool false) ?_
     refine wv 34 (.bool false) ?_
     iterate 3 refine wn 29 34 true ?_
     refine wv 38 (.bool false) ?_
     refine wv 4 (.bool false) ?_
     refine w_nil ?_
     refine meetR_at ?_ ⟨(congrArg Value.bool (show false = (validC cn x) by simp [validC, b10, b12, b14])), H8⟩
     exact (same_upd rfl (same_upd rfl (same_upd rfl (same_upd rfl (same_upd rfl (same_upd rfl (same_upd rfl (same_upd rfl (same_upd rfl (same_upd rfl (same_upd rfl (same_upd rfl (same_upd rfl (same_upd rfl (same_upd rfl (same_upd rfl (same_upd rfl (same_upd rfl (same_upd rfl (same_upd rfl (same_upd rfl (same_upd rfl (same_upd rfl (same_upd rfl (same_upd rfl (same_upd rfl (same_upd rfl (same_upd rfl (same_upd rfl (same_upd rfl (same_upd rfl (same_upd rfl (same_upd rfl (same_upd rfl (same_upd rfl (same_upd rfl (same_upd rfl (same_upd rfl (same_refl)))))))))))))))))))))))))))))))))))))))
   ·have g23 := of_decide_eq_false b12
    refine wl_know 17 (.bool false) (congrArg Value.bool b12) ?_
    iterate 4 refine wn 12 17 true ?_
    refine wv 22 (.bool false) ?_
    refine wv 23 (.bool false) ?_
    iterate 4 refine wn 18 23 true ?_
    refine wv 28 (.bool false) ?_
    refine wv 29 (.bool false) ?_
    iterate 3 refine wn 24 29 true ?_
    refine wv 33 (.bool false) ?_
    refine wv 34 (.bool false) ?_
    iterate 3 refine wn 29 34 true ?_
    refine wv 38 (.bool false) ?_
    refine wv 4 (.bool false) ?_
    refine w_nil ?_
    refine meetR_at ?_ ⟨(congrArg Value.bool (show false = (validC cn x) by simp [validC, b10, b12])), H8⟩
    exact (same_upd rfl (same_upd rfl (same_upd rfl (same_upd rfl (same_upd rfl (same_upd rfl (same_upd rfl (same_upd rfl (same_upd rfl (same_upd rfl (same_upd rfl (same_upd rfl (same_upd rfl (same_upd rfl (same_upd rfl (same_upd rfl (same_upd rfl (same_upd rfl (same_upd rfl (same_upd rfl (same_upd rfl (same_upd rfl (same_upd rfl (same_upd rfl (same_upd rfl (same_upd rfl (same_upd rfl (same_upd rfl (same_upd rfl (same_upd rfl (same_upd rfl (same_upd rfl (same_upd rfl (same_upd rfl (same_upd rfl (same_upd rfl (same_upd rfl (same_refl))))))))))))))))))))))))))))))))))))))
  ·have g24 := of_decide_eq_false b10
   refine wl_know 9 (.bool false) (congrArg Value.bool b10) ?_
   iterate 6 refine wn 4 9 true ?_
   refine wv 16 (.bool false) ?_
   refine wv 17 (.bool false) ?_
   iterate 4 refine wn 12 17 true ?_
   refine wv 22 (.bool false) ?_
   refine wv 23 (.bool false) ?_
   iterate 4 refine wn 18 23 true ?_
   refine wv 28 (.bool false) ?_
   refine wv 29 (.bool false) ?_
   iterate 3 refine wn 24 29 true ?_
   refine wv 33 (.bool false) ?_
   refine wv 34 (.bool false) ?_
   iterate 3 refine wn 29 34 true ?_
   refine wv 38 (.bool false) ?_
   refine wv 4 (.bool false) ?_
   refine w_nil ?_
   refine meetR_at ?_ ⟨(congrArg Value.bool (show false = (validC cn x) by simp [validC, b10])), H8⟩
   exact (same_upd rfl (same_upd rfl (same_upd rfl (same_upd rfl (same_upd rfl (same_upd rfl (same_upd rfl (same_upd rfl (same_upd rfl (same_upd rfl (same_upd rfl (same_upd rfl (same_upd rfl (same_upd rfl (same_upd rfl (same_upd rfl (same_upd rfl (same_upd rfl (same_upd rfl (same_upd rfl (same_upd rfl (same_upd rfl (same_upd rfl (same_upd rfl (same_upd rfl (same_upd rfl (same_upd rfl (same_upd rfl (same_upd rfl (same_upd rfl (same_upd rfl (same_upd rfl (same_upd rfl (same_upd rfl (same_upd rfl (same_upd rfl (same_refl)))))))))))))))))))))))))))))))))))))
 ·rintro f25 w26 ⟨v28, H27⟩
  refine wp_know 4 _ v28 ?_
  refine w_ret ?_
  refine end1 rfl (res_tmp (v := (.bool (validC cn x))) rfl) ?_
  exact ⟨rfl, H27.upd 0 rfl [] (fun _ h => h.elim)⟩

set_option maxRecDepth 100000 in
set_option maxHeartbeats 1000000 in
theorem rRightC_any (w : World) (f cn : Int) (hf : -1099511627776 ≤ f ∧ f ≤ 1099511627776) (r : Nat) (ra : Option Addr) (rc : Nat) (L : List Signed) (hb : (cellC r 88 [.slice ra L.length rc]).ok w) (hr : (rowC 120 2 (.slice ra L.length rc) L.length (L.flatMap encS)).ok w) (hn : L.Nodup) (hL : L.length ≤ 1000000) (s : CommitD) (hs : CoOk s) :
  Calls Try.prog 40 #[(.agg ⟨([(.int .i64 (f)), (.int .i64 (cn))] : List Value)⟩), (.pointer (some ⟨r, 0, none⟩)), (.agg ⟨(([(.int .i64 (s.cl)), (.int .i64 (s.seq))] : List Value) ++ hc s.h ++ ([(.int .i64 (s.len)), (.int .i64 (s.sb)), (.int .i64 (s.sm))] : List Value))⟩)] w fun e w' => e = .returned (.bool (rightC cn L s)) ∧ Upd [] w w' := by
 have H := Sat.start0 w
 have hs2 := hs
 unfold CoOk at hs2
 refine calls_fr Try.func40 rfl 28 rfl (Nat.le_of_ble_eq_true rfl) ?_
 refine w_seq ?_
 refine w_lit ?_
 refine wl_do (wants0 rfl) (fun K1 hK1 => ?_)
 refine d_box (vs := ([(.int .i64 (f)), (.int .i64 (cn))] : List Value)) rfl H rfl rfl ?_
 intro b2 w3 (H4 : Sat w [restC w (fun _ => False), cellC b2 36 ([(.int .i64 (f)), (.int .i64 (cn))] : List Value)] w3)
 refine hK1 _ _ ?_
 clear hK1 K1
 refine wl_do (wants0 rfl) (fun K5 hK5 => ?_)
 refine d_box (vs := (([(.int .i64 (s.cl)), (.int .i64 (s.seq))] : List Value) ++ hc s.h ++ ([(.int .i64 (s.len)), (.int .i64 (s.sb)), (.int .i64 (s.sm))] : List Value))) rfl H4 rfl rfl ?_
 intro b6 w7 (H8 : Sat w [restC w (fun _ => False), cellC b2 36 ([(.int .i64 (f)), (.int .i64 (cn))] : List Value), cellC b6 44 (([(.int .i64 (s.cl)), (.int .i64 (s.seq))] : List Value) ++ hc s.h ++ ([(.int .i64 (s.len)), (.int .i64 (s.sb)), (.int .i64 (s.sm))] : List Value))] w7)
 refine hK5 _ _ ?_
 clear hK5 K5
 refine wv 6 (.bool false) ?_
 refine w_nil ?_
 refine then_normal ?_
 refine w_seq ?_
 refine h_start H8 [restC w (fun _ => False), cellC b2 36 ([(.int .i64 (f)), (.int .i64 (cn))] : List Value), cellC b6 44 (([(.int .i64 (s.cl)), (.int .i64 (s.seq))] : List Value) ++ hc s.h ++ ([(.int .i64 (s.len)), (.int .i64 (s.sb)), (.int .i64 (s.sm))] : List Value))] 22 rfl (by kernel_rfl) (fun Hx => (Hx.pick [0, 1, 2] (by decide))) ?_
 intro w9 H10 S11
 refine hv0 0 S11 7 (.agg ⟨([(.int .i64 (f)), (.int .i64 (cn))] : List Value)⟩) ?_ (he := fun _ H' => (e_loadN (vs := ([(.int .i64 (f)), (.int .i64 (cn))] : List Value)) rfl (by kernel_rfl) (by kernel_rfl) (by exact Nat.le_of_ble_eq_true (by kernel_rfl)) (H'.at 1 rfl) (by kernel_rfl)))
 refine hv0 1 S11 8 (.agg ⟨(([(.int .i64 (s.cl)), (.int .i64 (s.seq))] : List Value) ++ hc s.h ++ ([(.int .i64 (s.len)), (.int .i64 (s.sb)), (.int .i64 (s.sm))] : List Value))⟩) ?_ (he := fun _ H' => (e_loadN (vs := (([(.int .i64 (s.cl)), (.int .i64 (s.seq))] : List Value) ++ hc s.h ++ ([(.int .i64 (s.len)), (.int .i64 (s.sb)), (.int .i64 (s.sm))] : List Value))) rfl (by kernel_rfl) (by kernel_rfl) (by exact Nat.le_of_ble_eq_true (by kernel_rfl)) (H'.at 2 rfl) (by kernel_rfl)))
 refine h_do 2 rfl (by kernel_rfl) (wants0 rfl) (fun K12 hK12 => ?_)
 refine d_call (d := 9) rfl (by kernel_rfl) (rValid_any w9 f cn s) ?_
 rintro _ w13 ⟨rfl, u15⟩
 have H14 := H10.keepU u15
 refine ⟨_, rfl, ?_⟩
 have S16 := H14.pick [0, 1, 2] (by decide)
 refine hK12 _ _ S16 ?_
 clear hK12 K12
 refine hv0 3 S16 10 (.bool (validC cn s)) ?_
 refine (bsplit (validC cn s)).elim (fun b17 => ?_) (fun b17 => ?_)
 ·refine h_know 10 (.bool true) (congrArg Value.bool b17) ?_
  refine h_val 4 rfl (by kernel_rfl) (by kernel_rfl) (by kernel_rfl) (fun _ _ _ h => h) S16 (wantsY 3 10 true rfl (by kernel_rfl) rfl (by kernel_rfl)) (d := 11) (v := (pt b6 35)) rfl (fun _ H' => (by kernel_rfl)) ?_
  refine h_val 5 rfl (by kernel_rfl) (by kernel_rfl) (by kernel_rfl) (fun _ _ _ h => h) S16 (wantsY 3 10 true rfl (by kernel_rfl) rfl (by kernel_rfl)) (d := 12) (v := (pt b6 35)) rfl (fun _ H' => (by kernel_rfl)) ?_
  refine h_val 6 rfl (by kernel_rfl) (by kernel_rfl) (by kernel_rfl) (fun _ _ _ h => h) S16 (wantsY 3 10 true rfl (by kernel_rfl) rfl (by kernel_rfl)) (d := 13) (v := (.int .i64 (s.sb))) rfl (fun _ H' => (e_load1 rfl (by kernel_rfl) (H'.cell 2 rfl (by kernel_rfl)))) ?_
  refine h_val 7 rfl (by kernel_rfl) (by kernel_rfl) (by kernel_rfl) (fun _ _ _ h => h) S16 (wantsY 3 10 true rfl (by kernel_rfl) rfl (by kernel_rfl)) (d := 14) (v := (pt b6 0)) rfl (fun _ H' => (by kernel_rfl)) ?_
  refine h_val 8 rfl (by kernel_rfl) (by kernel_rfl) (by kernel_rfl) (fun _ _ _ h => h) S16 (wantsY 3 10 true rfl (by kernel_rfl) rfl (by kernel_rfl)) (d := 15) (v := (pt b6 0)) rfl (fun _ H' => (by kernel_rfl)) ?_
  refine h_val 9 rfl (by kernel_rfl) (by kernel_rfl) (by kernel_rfl) (fun _ _ _ h => h) S16 (wantsY 3 10 true rfl (by kernel_rfl) rfl (by kernel_rfl)) (d := 16) (v := (.int .i64 (s.cl))) rfl (fun _ H' => (e_load1 rfl (by kernel_rfl) (H'.cell 2 rfl (by kernel_rfl)))) ?_
  refine h_val 10 rfl (by kernel_rfl) (by kernel_rfl) (by kernel_rfl) (fun _ _ _ h => h) S16 (wantsY 3 10 true rfl (by kernel_rfl) rfl (by kernel_rfl)) (d := 17) (v := (.int .i64 (IntKind.i64.wrap (1000 + s.cl)))) rfl (fun _ H' => (by kernel_rfl)) ?_
  refine h_val 11 rfl (by kernel_rfl) (by kernel_rfl) (by kernel_rfl) (fun _ _ _ h => h) S16 (wantsY 3 10 true rfl (by kernel_rfl) rfl (by kernel_rfl)) (d := 18) (v := (.bool (decide (s.sb = (IntKind.i64.wrap (1000 + s.cl)))))) rfl (fun _ H' => (by kernel_rfl)) ?_
  refine hv0 12 S16 19 (.bool (decide (s.sb = (IntKind.i64.wrap (1000 + s.cl))))) ?_
  refine hv0 13 S16 20 (.bool (decide (s.sb = (IntKind.i64.wrap (1000 + s.cl))))) ?_
  refine (bsplit (decide (s.sb = (IntKind.i64.wrap (1000 + s.cl))))).elim (fun b18 => ?_) (fun b18 => ?_)
  ·have g19 := of_decide_eq_true b18
   refine h_know 20 (.bool true) (congrArg Value.bool b18) ?_
   have g20 := of_decide_eq_true b18
   refine h_val 14 rfl (by kernel_rfl) (by kernel_rfl) (by kernel_rfl) (fun _ _ _ h => h) S16 (wantsY 13 20 true rfl (by kernel_rfl) rfl (by kernel_rfl)) (d := 21) (v := (pt r 0)) rfl (fun _ H' => (by kernel_rfl)) ?_
   refine h_val 15 rfl (by kernel_rfl) (by kernel_rfl) (by kernel_rfl) (fun _ _ _ h => h) S16 (wantsY 13 20 true rfl (by kernel_rfl) rfl (by kernel_rfl)) (d := 22) (v := (pt b6 35)) rfl (fun _ H' => (by kernel_rfl)) ?_
   refine h_val 16 rfl (by kernel_rfl) (by kernel_rfl) (by kernel_rfl) (fun _ _ _ h => h) S16 (wantsY 13 20 true rfl (by kernel_rfl) rfl (by kernel_rfl)) (d := 23) (v := (.agg ⟨([(.int .i64 (s.sb)), (.int .i64 (s.sm))] : List Value)⟩)) rfl (fun _ H' => (e_loadN (vs := ([(.int .i64 (s.sb)), (.int .i64 (s.sm))] : List Value)) rfl (by kernel_rfl) (by kernel_rfl) (by exact Nat.le_of_ble_eq_true (by kernel_rfl)) (H'.at 2 rfl) (by kernel_rfl))) ?_
   refine h_val 17 rfl (by kernel_rfl) (by kernel_rfl) (by kernel_rfl) (fun _ _ _ h => h) S16 (wantsY 13 20 true rfl (by kernel_rfl) rfl (by kernel_rfl)) (d := 24) (v := (.agg ⟨(([(.int .i64 (s.cl)), (.int .i64 (s.seq))] : List Value) ++ hc s.h ++ ([(.int .i64 (s.len)), (.int .i64 (s.sb)), (.int .i64 (s.sm))] : List Value))⟩)) rfl (fun _ H' => (e_loadN (vs := (([(.int .i64 (s.cl)), (.int .i64 (s.seq))] : List Value) ++ hc s.h ++ ([(.int .i64 (s.len)), (.int .i64 (s.sb)), (.int .i64 (s.sm))] : List Value))) rfl (by kernel_rfl) (by kernel_rfl) (by exact Nat.le_of_ble_eq_true (by kernel_rfl)) (H'.at 2 rfl) (by kernel_rfl))) ?_
   refine h_do 18 rfl (by kernel_rfl) (wantsY 13 20 true rfl (by kernel_rfl) rfl (by kernel_rfl)) (fun K21 hK21 => ?_)
   refine d_call (d := 25) rfl (by kernel_rfl) (rCommitText_any w13 s hs) ?_
   rintro _ w22 ⟨u23, rfl, k24, p25, q26⟩
   have H27 : Sat w [restC w (fun _ => False), cellC b2 36 ([(.int .i64 (f)), (.int .i64 (cn))] : List Value), cellC b6 44 (([(.int .i64 (s.cl)), (.int .i64 (s.seq))] : List Value) ++ hc s.h ++ ([(.int .i64 (s.len)), (.int .i64 (s.sb)), (.int .i64 (s.sm))] : List Value)), rowC 5 1 u23 ((commitB s).length) ((commitB s).flatMap encB)] w22 := H14.addU p25 k24 q26
   obtain ⟨a28, c29, rfl⟩ := ownsRow_shape (H27.at 3 rfl)
   refine ⟨_, rfl, ?_⟩
   have S30 := H27.pick [0, 1, 2] (by decide)
   refine hK21 _ _ S30 ?_
   clear hK21 K21
   refine h_do 19 rfl (by kernel_rfl) (wantsY 13 20 true rfl (by kernel_rfl) rfl (by kernel_rfl)) (fun K31 hK31 => ?_)
   refine d_call (d := 26) rfl (by kernel_rfl) (rRightQ_any w22 r ra rc L (H27.roCk 0 rfl hb (fun _ _ h => h)) (H27.roCk 0 rfl hr (fun _ _ h => h)) hn hL a28 c29 (commitB s) (ListAt.row (enc := encB) (sz := 1) encB_len (by decide) (H27.at 3 rfl)) s.sb s.sm) ?_
   rintro _ w32 ⟨rfl, u34⟩
   have H33 := H27.keepU u34
   refine ⟨_, rfl, ?_⟩
   have S35 := H33.pick [0, 1, 2] (by decide)
   refine hK31 _ _ S35 ?_
   clear hK31 K31
   refine hv0 20 S35 27 (.bool (rightB L s.sb s.sm (commitB s))) ?_
   refine hv0 21 S35 6 (.bool (rightB L s.sb s.sm (commitB s))) ?_
   refine h_fin (by kernel_rfl) ?_
   refine then_normal ?_
   refine w_ret ?_
   refine end1 rfl (res_tmp (v := (.bool (rightB L s.sb s.sm (commitB s)))) rfl) ?_
   exact ⟨by simp [rightC, b17, b18], H33.upd 0 rfl [] (fun _ h => h.elim)⟩
  ·have g36 := of_decide_eq_false b18
   refine h_know 20 (.bool false) (congrArg Value.bool b18) ?_
   have g37 := of_decide_eq_false b18
   refine h_pass 14 rfl (by kernel_rfl) (by kernel_rfl) (by kernel_rfl) (fun _ _ _ h => h) S16 (wantsN 13 20 true rfl (by kernel_rfl) rfl (by kernel_rfl)) rfl ?_
   refine h_pass 15 rfl (by kernel_rfl) (by kernel_rfl) (by kernel_rfl) (fun _ _ _ h => h) S16 (wantsN 13 20 true rfl (by kernel_rfl) rfl (by kernel_rfl)) rfl ?_
   refine h_pass 16 rfl (by kernel_rfl) (by kernel_rfl) (by kernel_rfl) (fun _ _ _ h => h) S16 (wantsN 13 20 true rfl (by kernel_rfl) rfl (by kernel_rfl)) rfl ?_
   refine h_pass 17 rfl (by kernel_rfl) (by kernel_rfl) (by kernel_rfl) (fun _ _ _ h => h) S16 (wantsN 13 20 true rfl (by kernel_rfl) rfl (by kernel_rfl)) rfl ?_
   refine h_pass 18 rfl (by kernel_rfl) (by kernel_rfl) (by kernel_rfl) (fun _ _ _ h => h) S16 (wantsN 13 20 true rfl (by kernel_rfl) rfl (by kernel_rfl)) rfl ?_
   refine h_pass 19 rfl (by kernel_rfl) (by kernel_rfl) (by kernel_rfl) (fun _ _ _ h => h) S16 (wantsN 13 20 true rfl (by kernel_rfl) rfl (by kernel_rfl)) rfl ?_
   refine hv0 20 S16 27 (.bool false) ?_
   refine hv0 21 S16 6 (.bool false) ?_
   refine h_fin (by kernel_rfl) ?_
   refine then_normal ?_
   refine w_ret ?_
   refine end1 rfl (res_tmp (v := (.bool false)) rfl) ?_
   exact ⟨by simp [rightC, b17, b18], H14.upd 0 rfl [] (fun _ h => h.elim)⟩
 ·refine h_know 10 (.bool false) (congrArg Value.bool b17) ?_
  refine h_pass 4 rfl (by kernel_rfl) (by kernel_rfl) (by kernel_rfl) (fun _ _ _ h => h) S16 (wantsN 3 10 true rfl (by kernel_rfl) rfl (by kernel_rfl)) rfl ?_
  refine h_pass 5 rfl (by kernel_rfl) (by kernel_rfl) (by kernel_rfl) (fun _ _ _ h => h) S16 (wantsN 3 10 true rfl (by kernel_rfl) rfl (by kernel_rfl)) rfl ?_
  refine h_pass 6 rfl (by kernel_rfl) (by kernel_rfl) (by kernel_rfl) (fun _ _ _ h => h) S16 (wantsN 3 10 true rfl (by kernel_rfl) rfl (by kernel_rfl)) rfl ?_
  refine h_pass 7 rfl (by kernel_rfl) (by kernel_rfl) (by kernel_rfl) (fun _ _ _ h => h) S16 (wantsN 3 10 true rfl (by kernel_rfl) rfl (by kernel_rfl)) rfl ?_
  refine h_pass 8 rfl (by kernel_rfl) (by kernel_rfl) (by kernel_rfl) (fun _ _ _ h => h) S16 (wantsN 3 10 true rfl (by kernel_rfl) rfl (by kernel_rfl)) rfl ?_
  refine h_pass 9 rfl (by kernel_rfl) (by kernel_rfl) (by kernel_rfl) (fun _ _ _ h => h) S16 (wantsN 3 10 true rfl (by kernel_rfl) rfl (by kernel_rfl)) rfl ?_
  refine h_pass 10 rfl (by kernel_rfl) (by kernel_rfl) (by kernel_rfl) (fun _ _ _ h => h) S16 (wantsN 3 10 true rfl (by kernel_rfl) rfl (by kernel_rfl)) rfl ?_
  refine h_pass 11 rfl (by kernel_rfl) (by kernel_rfl) (by kernel_rfl) (fun _ _ _ h => h) S16 (wantsN 3 10 true rfl (by kernel_rfl) rfl (by kernel_rfl)) rfl ?_
  refine hv0 12 S16 19 (.bool false) ?_
  refine hv0 13 S16 20 (.bool false) ?_
  refine h_pass 14 rfl (by kernel_rfl) (by kernel_rfl) (by kernel_rfl) (fun _ _ _ h => h) S16 (wantsN 13 20 true rfl (by kernel_rfl) rfl (by kernel_rfl)) rfl ?_
  refine h_pass 15 rfl (by kernel_rfl) (by kernel_rfl) (by kernel_rfl) (fun _ _ _ h => h) S16 (wantsN 13 20 true rfl (by kernel_rfl) rfl (by kernel_rfl)) rfl ?_
  refine h_pass 16 rfl (by kernel_rfl) (by kernel_rfl) (by kernel_rfl) (fun _ _ _ h => h) S16 (wantsN 13 20 true rfl (by kernel_rfl) rfl (by kernel_rfl)) rfl ?_
  refine h_pass 17 rfl (by kernel_rfl) (by kernel_rfl) (by kernel_rfl) (fun _ _ _ h => h) S16 (wantsN 13 20 true rfl (by kernel_rfl) rfl (by kernel_rfl)) rfl ?_
  refine h_pass 18 rfl (by kernel_rfl) (by kernel_rfl) (by kernel_rfl) (fun _ _ _ h => h) S16 (wantsN 13 20 true rfl (by kernel_rfl) rfl (by kernel_rfl)) rfl ?_
  refine h_pass 19 rfl (by kernel_rfl) (by kernel_rfl) (by kernel_rfl) (fun _ _ _ h => h) S16 (wantsN 13 20 true rfl (by kernel_rfl) rfl (by kernel_rfl)) rfl ?_
  refine hv0 20 S16 27 (.bool false) ?_
  refine hv0 21 S16 6 (.bool false) ?_
  refine h_fin (by kernel_rfl) ?_
  refine then_normal ?_
  refine w_ret ?_
  refine end1 rfl (res_tmp (v := (.bool false)) rfl) ?_
  exact ⟨by simp [rightC, b17], H14.upd 0 rfl [] (fun _ h => h.elim)⟩

set_option maxRecDepth 100000 in
set_option maxHeartbeats 1000000 in
theorem rRightS_any (w : World) (f cn : Int) (hf : -1099511627776 ≤ f ∧ f ≤ 1099511627776) (r : Nat) (ra : Option Addr) (rc : Nat) (L : List Signed) (hb : (cellC r 88 [.slice ra L.length rc]).ok w) (hr : (rowC 120 2 (.slice ra L.length rc) L.length (L.flatMap encS)).ok w) (hn : L.Nodup) (hL : L.length ≤ 1000000) (s : StampD) (hs : StOk s) :
  Calls Try.prog 25 #[(.agg ⟨([(.int .i64 (f)), (.int .i64 (cn))] : List Value)⟩), (.pointer (some ⟨r, 0, none⟩)), (.agg ⟨(([(.int .i64 (s.r)), (.int .i64 (s.cl)), (.int .i64 (s.seq))] : List Value) ++ hc s.h ++ ([(.int .u64 (s.t)), (.int .i64 (s.sb)), (.int .i64 (s.sm))] : List Value))⟩)] w fun e w' => e = .returned (.bool (rightS f L s)) ∧ Upd [] w w' := by
 have H := Sat.start0 w
 have hs2 := hs
 unfold StOk at hs2
 refine calls_fr Try.func25 rfl 43 rfl (Nat.le_of_ble_eq_true rfl) ?_
 refine w_seq ?_
 refine w_lit ?_
 refine wl_do (wants0 rfl) (fun K1 hK1 => ?_)
 refine d_box (vs := ([(.int .i64 (f)), (.int .i64 (cn))] : List Value)) rfl H rfl rfl ?_
 intro b2 w3 (H4 : Sat w [restC w (fun _ => False), cellC b2 36 ([(.int .i64 (f)), (.int .i64 (cn))] : List Value)] w3)
 refine hK1 _ _ ?_
 clear hK1 K1
 refine wl_do (wants0 rfl) (fun K5 hK5 => ?_)
 refine d_box (vs := (([(.int .i64 (s.r)), (.int .i64 (s.cl)), (.int .i64 (s.seq))] : List Value) ++ hc s.h ++ ([(.int .u64 (s.t)), (.int .i64 (s.sb)), (.int .i64 (s.sm))] : List Value))) rfl H4 rfl rfl ?_
 intro b6 w7 (H8 : Sat w [restC w (fun _ => False), cellC b2 36 ([(.int .i64 (f)), (.int .i64 (cn))] : List Value), cellC b6 49 (([(.int .i64 (s.r)), (.int .i64 (s.cl)), (.int .i64 (s.seq))] : List Value) ++ hc s.h ++ ([(.int .u64 (s.t)), (.int .i64 (s.sb)), (.int .i64 (s.sm))] : List Value))] w7)
 refine hK5 _ _ ?_
 clear hK5 K5
 refine wv 6 (.bool false) ?_
 refine w_nil ?_
 refine then_normal ?_
 refine w_seq ?_
 refine h_start H8 [restC w (fun _ => False), cellC b2 36 ([(.int .i64 (f)), (.int .i64 (cn))] : List Value), cellC b6 49 (([(.int .i64 (s.r)), (.int .i64 (s.cl)), (.int .i64 (s.seq))] : List Value) ++ hc s.h ++ ([(.int .u64 (s.t)), (.int .i64 (s.sb)), (.int .i64 (s.sm))] : List Value))] 37 rfl (by kernel_rfl) (fun Hx => (Hx.pick [0, 1, 2] (by decide))) ?_
 intro w9 H10 S11
 refine hv0 0 S11 7 (pt b6 0) ?_
 refine hv0 1 S11 8 (.int .i64 (s.r)) ?_ (he := fun _ H' => (e_load1 rfl (by kernel_rfl) (H'.cell 2 rfl (by kernel_rfl))))
 refine hv0 2 S11 9 (.bool (decide (s.r ≥ 0))) ?_
 refine hv0 3 S11 10 (.bool (decide (s.r ≥ 0))) ?_
 refine (bsplit (decide (s.r ≥ 0))).elim (fun b12 => ?_) (fun b12 => ?_)
 ·have g13 := of_decide_eq_true b12
  refine h_know 10 (.bool true) (congrArg Value.bool b12) ?_
  have g14 := of_decide_eq_true b12
  refine h_val 4 rfl (by kernel_rfl) (by kernel_rfl) (by kernel_rfl) (fun _ _ _ h => h) S11 (wantsY 3 10 true rfl (by kernel_rfl) rfl (by kernel_rfl)) (d := 11) (v := (pt b6 0)) rfl (fun _ H' => (by kernel_rfl)) ?_
  refine h_val 5 rfl (by kernel_rfl) (by kernel_rfl) (by kernel_rfl) (fun _ _ _ h => h) S11 (wantsY 3 10 true rfl (by kernel_rfl) rfl (by kernel_rfl)) (d := 12) (v := (.int .i64 (s.r))) rfl (fun _ H' => (e_load1 rfl (by kernel_rfl) (H'.cell 2 rfl (by kernel_rfl)))) ?_
  refine h_val 6 rfl (by kernel_rfl) (by kernel_rfl) (by kernel_rfl) (fun _ _ _ h => h) S11 (wantsY 3 10 true rfl (by kernel_rfl) rfl (by kernel_rfl)) (d := 13) (v := (.agg ⟨([(.int .i64 (f)), (.int .i64 (cn))] : List Value)⟩)) rfl (fun _ H' => (e_loadN (vs := ([(.int .i64 (f)), (.int .i64 (cn))] : List Value)) rfl (by kernel_rfl) (by kernel_rfl) (by exact Nat.le_of_ble_eq_true (by kernel_rfl)) (H'.at 1 rfl) (by kernel_rfl))) ?_
  refine h_do 7 rfl (by kernel_rfl) (wantsY 3 10 true rfl (by kernel_rfl) rfl (by kernel_rfl)) (fun K15 hK15 => ?_)
  refine d_call (d := 14) rfl (by kernel_rfl) (rN_any w9 f cn (by omega)) ?_
  rintro _ w16 ⟨rfl, u18⟩
  have H17 := H10.keepU u18
  refine ⟨_, rfl, ?_⟩
  have S19 := H17.pick [0, 1, 2] (by decide)
  refine hK15 _ _ S19 ?_
  clear hK15 K15
  refine h_val 8 rfl (by kernel_rfl) (by kernel_rfl) (by kernel_rfl) (fun _ _ _ h => h) S19 (wantsY 3 10 true rfl (by kernel_rfl) rfl (by kernel_rfl)) (d := 15) (v := (.bool (decide (s.r < (3 * f + 1))))) rfl (fun _ H' => (by kernel_rfl)) ?_
  refine hv0 9 S19 16 (.bool (decide (s.r < (3 * f + 1)))) ?_
  refine hv0 10 S19 17 (.bool (decide (s.r < (3 * f + 1)))) ?_
  refine (bsplit (decide (s.r < (3 * f + 1)))).elim (fun b20 => ?_) (fun b20 => ?_)
  ·have g21 := of_decide_eq_true b20
   refine h_know 17 (.bool true) (congrArg Value.bool b20) ?_
   have g22 := of_decide_eq_true b20
   refine h_val 11 rfl (by kernel_rfl) (by kernel_rfl) (by kernel_rfl) (fun _ _ _ h => h) S19 (wantsY 10 17 true rfl (by kernel_rfl) rfl (by kernel_rfl)) (d := 18) (v := (pt b6 35)) rfl (fun _ H' => (by kernel_rfl)) ?_
   refine h_val 12 rfl (by kernel_rfl) (by kernel_rfl) (by kernel_rfl) (fun _ _ _ h => h) S19 (wantsY 10 17 true rfl (by kernel_rfl) rfl (by kernel_rfl)) (d := 19) (v := (.int .u64 (s.t))) rfl (fun _ H' => (e_load1 rfl (by kernel_rfl) (H'.cell 2 rfl (by kernel_rfl)))) ?_
   refine h_val 13 rfl (by kernel_rfl) (by kernel_rfl) (by kernel_rfl) (fun _ _ _ h => h) S19 (wantsY 10 17 true rfl (by kernel_rfl) rfl (by kernel_rfl)) (d := 20) (v := (.bool (decide (s.t ≥ 1)))) rfl (fun _ H' => (by kernel_rfl)) ?_
   refine hv0 14 S19 21 (.bool (decide (s.t ≥ 1))) ?_
   refine hv0 15 S19 22 (.bool (decide (s.t ≥ 1))) ?_
   refine (bsplit (decide (s.t ≥ 1))).elim (fun b23 => ?_) (fun b23 => ?_)
   ·have g24 := of_decide_eq_true b23
    refine h_know 22 (.bool true) (congrArg Value.bool b23) ?_
    have g25 := of_decide_eq_true b23
    refine h_val 16 rfl (by kernel_rfl) (by kernel_rfl) (by kernel_rfl) (fun _ _ _ h => h) S19 (wantsY 15 22 true rfl (by kernel_rfl) rfl (by kernel_rfl)) (d := 23) (v := (pt b6 35)) rfl (fun _ H' => (by kernel_rfl)) ?_
    refine h_val 17 rfl (by kernel_rfl) (by kernel_rfl) (by kernel_rfl) (fun _ _ _ h => h) S19 (wantsY 15 22 true rfl (by kernel_rfl) rfl (by kernel_rfl)) (d := 24) (v := (.int .u64 (s.t))) rfl (fun _ H' => (e_load1 rfl (by kernel_rfl) (H'.cell 2 rfl (by kernel_rfl)))) ?_
    refine h_val 18 rfl (by kernel_rfl) (by kernel_rfl) (by kernel_rfl) (fun _ _ _ h => h) S19 (wantsY 15 22 true rfl (by kernel_rfl) rfl (by kernel_rfl)) (d := 25) (v := (.bool (decide (s.t < 18446744073709551615)))) rfl (fun _ H' => (by kernel_rfl)) ?_
    refine hv0 19 S19 26 (.bool (decide (s.t < 18446744073709551615))) ?_
    refine hv0 20 S19 27 (.bool (decide (s.t < 18446744073709551615))) ?_
    refine (bsplit (decide (s.t < 18446744073709551615))).elim (fun b26 => ?_) (fun b26 => ?_)
    ·have g27 := of_decide_eq_true b26
     refine h_know 27 (.bool true) (congrArg Value.bool b26) ?_
     have g28 := of_decide_eq_true b26
     refine h_val 21 rfl (by kernel_rfl) (by kernel_rfl) (by kernel_rfl) (fun _ _ _ h => h) S19 (wantsY 20 27 true rfl (by kernel_rfl) rfl (by kernel_rfl)) (d := 28) (v := (pt b6 36)) rfl (fun _ H' => (by kernel_rfl)) ?_
     refine h_val 22 rfl (by kernel_rfl) (by kernel_rfl) (by kernel_rfl) (fun _ _ _ h => h) S19 (wantsY 20 27 true rfl (by kernel_rfl) rfl (by kernel_rfl)) (d := 29) (v := (pt b6 36)) rfl (fun _ H' => (by kernel_rfl)) ?_
     refine h_val 23 rfl (by kernel_rfl) (by kernel_rfl) (by kernel_rfl) (fun _ _ _ h => h) S19 (wantsY 20 27 true rfl (by kernel_rfl) rfl (by kernel_rfl)) (d := 30) (v := (.int .i64 (s.sb))) rfl (fun _ H' => (e_load1 rfl (by kernel_rfl) (H'.cell 2 rfl (by kernel_rfl)))) ?_
     refine h_val 24 rfl (by kernel_rfl) (by kernel_rfl) (by kernel_rfl) (fun _ _ _ h => h) S19 (wantsY 20 27 true rfl (by kernel_rfl) rfl (by kernel_rfl)) (d := 31) (v := (pt b6 0)) rfl (fun _ H' => (by kernel_rfl)) ?_
     refine h_val 25 rfl (by kernel_rfl) (by kernel_rfl) (by kernel_rfl) (fun _ _ _ h => h) S19 (wantsY 20 27 true rfl (by kernel_rfl) rfl (by kernel_rfl)) (d := 32) (v := (.int .i64 (s.r))) rfl (fun _ H' => (e_load1 rfl (by kernel_rfl) (H'.cell 2 rfl (by kernel_rfl)))) ?_
     refine h_val 26 rfl (by kernel_rfl) (by kernel_rfl) (by kernel_rfl) (fun _ _ _ h => h) S19 (wantsY 20 27 true rfl (by kernel_rfl) rfl (by kernel_rfl)) (d := 33) (v := (.bool (decide (s.sb = s.r)))) rfl (fun _ H' => (by kernel_rfl)) ?_
     refine hv0 27 S19 34 (.bool (decide (s.sb = s.r))) ?_
     refine hv0 28 S19 35 (.bool (decide (s.sb = s.r))) ?_
     refine (bsplit (decide (s.sb = s.r))).elim (fun b29 => ?_) (fun b29 => ?_)
     ·have g30 := of_decide_eq_true b29
      refine h_know 35 (.bool true) (congrArg Value.bool b29) ?_
      have g31 := of_decide_eq_true b29
      refine h_val 29 rfl (by kernel_rfl) (by kernel_rfl) (by kernel_rfl) (fun _ _ _ h => h) S19 (wantsY 28 35 true rfl (by kernel_rfl) rfl (by kernel_rfl)) (d := 36) (v := (pt r 0)) rfl (fun _ H' => (by kernel_rfl)) ?_
      refine h_val 30 rfl (by kernel_rfl) (by kernel_rfl) (by kernel_rfl) (fun _ _ _ h => h) S19 (wantsY 28 35 true rfl (by kernel_rfl) rfl (by kernel_rfl)) (d := 37) (v := (pt b6 36)) rfl (fun _ H' => (by kernel_rfl)) ?_
      refine h_val 31 rfl (by kernel_rfl) (by kernel_rfl) (by kernel_rfl) (fun _ _ _ h => h) S19 (wantsY 28 35 true rfl (by kernel_rfl) rfl (by kernel_rfl)) (d := 38) (v := (.agg ⟨([(.int .i64 (s.sb)), (.int .i64 (s.sm))] : List Value)⟩)) rfl (fun _ H' => (e_loadN (vs := ([(.int .i64 (s.sb)), (.int .i64 (s.sm))] : List Value)) rfl (by kernel_rfl) (by kernel_rfl) (by exact Nat.le_of_ble_eq_true (by kernel_rfl)) (H'.at 2 rfl) (by kernel_rfl))) ?_
      refine h_val 32 rfl (by kernel_rfl) (by kernel_rfl) (by kernel_rfl) (fun _ _ _ h => h) S19 (wantsY 28 35 true rfl (by kernel_rfl) rfl (by kernel_rfl)) (d := 39) (v := (.agg ⟨(([(.int .i64 (s.r)), (.int .i64 (s.cl)), (.int .i64 (s.seq))] : List Value) ++ hc s.h ++ ([(.int .u64 (s.t)), (.int .i64 (s.sb)), (.int .i64 (s.sm))] : List Value))⟩)) rfl (fun _ H' => (e_loadN (vs := (([(.int .i64 (s.r)), (.int .i64 (s.cl)), (.int .i64 (s.seq))] : List Value) ++ hc s.h ++ ([(.int .u64 (s.t)), (.int .i64 (s.sb)), (.int .i64 (s.sm))] : List Value))) rfl (by kernel_rfl) (by kernel_rfl) (by exact Nat.le_of_ble_eq_true (by kernel_rfl)) (H'.at 2 rfl) (by kernel_rfl))) ?_
      refine h_do 33 rfl (by kernel_rfl) (wantsY 28 35 true rfl (by kernel_rfl) rfl (by kernel_rfl)) (fun K32 hK32 => ?_)
      refine d_call (d := 40) rfl (by kernel_rfl) (rStampText_any w16 s hs) ?_
      rintro _ w33 ⟨u34, rfl, k35, p36, q37⟩
      have H38 : Sat w [restC w (fun _ => False), cellC b2 36 ([(.int .i64 (f)), (.int .i64 (cn))] : List Value), cellC b6 49 (([(.int .i64 (s.r)), (.int .i64 (s.cl)), (.int .i64 (s.seq))] : List Value) ++ hc s.h ++ ([(.int .u64 (s.t)), (.int .i64 (s.sb)), (.int .i64 (s.sm))] : List Value)), rowC 5 1 u34 ((stampB s).length) ((stampB s).flatMap encB)] w33 := H17.addU p36 k35 q37
      obtain ⟨a39, c40, rfl⟩ := ownsRow_shape (H38.at 3 rfl)
      refine ⟨_, rfl, ?_⟩
      have S41 := H38.pick [0, 1, 2] (by decide)
      refine hK32 _ _ S41 ?_
      clear hK32 K32
      refine h_do 34 rfl (by kernel_rfl) (wantsY 28 35 true rfl (by kernel_rfl) rfl (by kernel_rfl)) (fun K42 hK42 => ?_)
      refine d_call (d := 41) rfl (by kernel_rfl) (rRightQ_any w33 r ra rc L (H38.roCk 0 rfl hb (fun _ _ h => h)) (H38.roCk 0 rfl hr (fun _ _ h => h)) hn hL a39 c40 (stampB s) (ListAt.row (enc := encB) (sz := 1) encB_len (by decide) (H38.at 3 rfl)) s.sb s.sm) ?_
      rintro _ w43 ⟨rfl, u45⟩
      have H44 := H38.keepU u45
      refine ⟨_, rfl, ?_⟩
      have S46 := H44.pick [0, 1, 2] (by decide)
      refine hK42 _ _ S46 ?_
      clear hK42 K42
      refine hv0 35 S46 42 (.bool (rightB L s.sb s.sm (stampB s))) ?_
      refine hv0 36 S46 6 (.bool (rightB L s.sb s.sm (stampB s))) ?_
      refine h_fin (by kernel_rfl) ?_
      refine then_normal ?_
      refine w_ret ?_
      refine end1 rfl (res_tmp (v := (.bool (rightB L s.sb s.sm (stampB s)))) rfl) ?_
      exact ⟨by simp [rightS, inB, b12, b20, b23, b26, b29], H44.upd 0 rfl [] (fun _ h => h.elim)⟩
     ·have g47 := of_decide_eq_false b29
      refine h_know 35 (.bool false) (congrArg Value.bool b29) ?_
      have g48 := of_decide_eq_false b29
      refine h_pass 29 rfl (by kernel_rfl) (by kernel_rfl) (by kernel_rfl) (fun _ _ _ h => h) S19 (wantsN 28 35 true rfl (by kernel_rfl) rfl (by kernel_rfl)) rfl ?_
      refine h_pass 30 rfl (by kernel_rfl) (by kernel_rfl) (by kernel_rfl) (fun _ _ _ h => h) S19 (wantsN 28 35 true rfl (by kernel_rfl) rfl (by kernel_rfl)) rfl ?_
      refine h_pass 31 rfl (by kernel_rfl) (by kernel_rfl) (by kernel_rfl) (fun _ _ _ h => h) S19 (wantsN 28 35 true rfl (by kernel_rfl) rfl (by kernel_rfl)) rfl ?_
      refine h_pass 32 rfl (by kernel_rfl) (by kernel_rfl) (by kernel_rfl) (fun _ _ _ h => h) S19 (wantsN 28 35 true rfl (by kernel_rfl) rfl (by kernel_rfl)) rfl ?_
      refine h_pass 33 rfl (by kernel_rfl) (by kernel_rfl) (by kernel_rfl) (fun _ _ _ h => h) S19 (wantsN 28 35 true rfl (by kernel_rfl) rfl (by kernel_rfl)) rfl ?_
      refine h_pass 34 rfl (by kernel_rfl) (by kernel_rfl) (by kernel_rfl) (fun _ _ _ h => h) S19 (wantsN 28 35 true rfl (by kernel_rfl) rfl (by kernel_rfl)) rfl ?_
      refine hv0 35 S19 42 (.bool false) ?_
      refine hv0 36 S19 6 (.bool false) ?_
      refine h_fin (by kernel_rfl) ?_
      refine then_normal ?_
      refine w_ret ?_
      refine end1 rfl (res_tmp (v := (.bool false)) rfl) ?_
      exact ⟨by simp [rightS, inB, b12, b20, b23, b26, b29], H17.upd 0 rfl [] (fun _ h => h.elim)⟩
    ·have g49 := of_decide_eq_false b26
     refine h_know 27 (.bool false) (congrArg Value.bool b26) ?_
     have g50 := of_decide_eq_false b26
     refine h_pass 21 rfl (by kernel_rfl) (by kernel_rfl) (by kernel_rfl) (fun _ _ _ h => h) S19 (wantsN 20 27 true rfl (by kernel_rfl) rfl (by kernel_rfl)) rfl ?_
     refine h_pass 22 rfl (by kernel_rfl) (by kernel_rfl) (by kernel_rfl) (fun _ _ _ h => h) S19 (wantsN 20 27 true rfl (by kernel_rfl) rfl (by kernel_rfl)) rfl ?_
     refine h_pass 23 rfl (by kernel_rfl) (by kernel_rfl) (by kernel_rfl) (fun _ _ _ h => h) S19 (wantsN 20 27 true rfl (by kernel_rfl) rfl (by kernel_rfl)) rfl ?_
     refine h_pass 24 rfl (by kernel_rfl) (by kernel_rfl) (by kernel_rfl) (fun _ _ _ h => h) S19 (wantsN 20 27 true rfl (by kernel_rfl) rfl (by kernel_rfl)) rfl ?_
     refine h_pass 25 rfl (by kernel_rfl) (by kernel_rfl) (by kernel_rfl) (fun _ _ _ h => h) S19 (wantsN 20 27 true rfl (by kernel_rfl) rfl (by kernel_rfl)) rfl ?_
     refine h_pass 26 rfl (by kernel_rfl) (by kernel_rfl) (by kernel_rfl) (fun _ _ _ h => h) S19 (wantsN 20 27 true rfl (by kernel_rfl) rfl (by kernel_rfl)) rfl ?_
     refine hv0 27 S19 34 (.bool false) ?_
     refine hv0 28 S19 35 (.bool false) ?_
     refine h_pass 29 rfl (by kernel_rfl) (by kernel_rfl) (by kernel_rfl) (fun _ _ _ h => h) S19 (wantsN 28 35 true rfl (by kernel_rfl) rfl (by kernel_rfl)) rfl ?_
     refine h_pass 30 rfl (by kernel_rfl) (by kernel_rfl) (by kernel_rfl) (fun _ _ _ h => h) S19 (wantsN 28 35 true rfl (by kernel_rfl) rfl (by kernel_rfl)) rfl ?_
     refine h_pass 31 rfl (by kernel_rfl) (by kernel_rfl) (by kernel_rfl) (fun _ _ _ h => h) S19 (wantsN 28 35 true rfl (by kernel_rfl) rfl (by kernel_rfl)) rfl ?_
     refine h_pass 32 rfl (by kernel_rfl) (by kernel_rfl) (by kernel_rfl) (fun _ _ _ h => h) S19 (wantsN 28 35 true rfl (by kernel_rfl) rfl (by kernel_rfl)) rfl ?_
     refine h_pass 33 rfl (by kernel_rfl) (by kernel_rfl) (by kernel_rfl) (fun _ _ _ h => h) S19 (wantsN 28 35 true rfl (by kernel_rfl) rfl (by kernel_rfl)) rfl ?_
     refine h_pass 34 rfl (by kernel_rfl) (by kernel_rfl) (by kernel_rfl) (fun _ _ _ h => h) S19 (wantsN 28 35 true rfl (by kernel_rfl) rfl (by kernel_rfl)) rfl ?_
     refine hv0 35 S19 42 (.bool false) ?_
     refine hv0 36 S19 6 (.bool false) ?_
     refine h_fin (by kernel_rfl) ?_
     refine then_normal ?_
     refine w_ret ?_
     refine end1 rfl (res_tmp (v := (.bool false)) rfl) ?_
     exact ⟨by simp [rightS, inB, b12, b20, b23, b26], H17.upd 0 rfl [] (fun _ h => h.elim)⟩
   ·have g51 := of_decide_eq_false b23
    refine h_know 22 (.bool false) (congrArg Value.bool b23) ?_
    have g52 := of_decide_eq_false b23
    refine h_pass 16 rfl (by kernel_rfl) (by kernel_rfl) (by kernel_rfl) (fun _ _ _ h => h) S19 (wantsN 15 22 true rfl (by kernel_rfl) rfl (by kernel_rfl)) rfl ?_
    refine h_pass 17 rfl (by kernel_rfl) (by kernel_rfl) (by kernel_rfl) (fun _ _ _ h => h) S19 (wantsN 15 22 true rfl (by kernel_rfl) rfl (by kernel_rfl)) rfl ?_
    refine h_pass 18 rfl (by kernel_rfl) (by kernel_rfl) (by kernel_rfl) (fun _ _ _ h => h) S19 (wantsN 15 22 true rfl (by kernel_rfl) rfl (by kernel_rfl)) rfl ?_
    refine hv0 19 S19 26 (.bool false) ?_
    refine hv0 20 S19 27 (.bool false) ?_
    refine h_pass 21 rfl (by kernel_rfl) (by kernel_rfl) (by kernel_rfl) (fun _ _ _ h => h) S19 (wantsN 20 27 true rfl (by kernel_rfl) rfl (by kernel_rfl)) rfl ?_
    refine h_pass 22 rfl (by kernel_rfl) (by kernel_rfl) (by kernel_rfl) (fun _ _ _ h => h) S19 (wantsN 20 27 true rfl (by kernel_rfl) rfl (by kernel_rfl)) rfl ?_
    refine h_pass 23 rfl (by kernel_rfl) (by kernel_rfl) (by kernel_rfl) (fun _ _ _ h => h) S19 (wantsN 20 27 true rfl (by kernel_rfl) rfl (by kernel_rfl)) rfl ?_
    refine h_pass 24 rfl (by kernel_rfl) (by kernel_rfl) (by kernel_rfl) (fun _ _ _ h => h) S19 (wantsN 20 27 true rfl (by kernel_rfl) rfl (by kernel_rfl)) rfl ?_
    refine h_pass 25 rfl (by kernel_rfl) (by kernel_rfl) (by kernel_rfl) (fun _ _ _ h => h) S19 (wantsN 20 27 true rfl (by kernel_rfl) rfl (by kernel_rfl)) rfl ?_
    refine h_pass 26 rfl (by kernel_rfl) (by kernel_rfl) (by kernel_rfl) (fun _ _ _ h => h) S19 (wantsN 20 27 true rfl (by kernel_rfl) rfl (by kernel_rfl)) rfl ?_
    refine hv0 27 S19 34 (.bool false) ?_
    refine hv0 28 S19 35 (.bool false) ?_
    refine h_pass 29 rfl (by kernel_rfl) (by kernel_rfl) (by kernel_rfl) (fun _ _ _ h => h) S19 (wantsN 28 35 true rfl (by kernel_rfl) rfl (by kernel_rfl)) rfl ?_
    refine h_pass 30 rfl (by kernel_rfl) (by kernel_rfl) (by kernel_rfl) (fun _ _ _ h => h) S19 (wantsN 28 35 true rfl (by kernel_rfl) rfl (by kernel_rfl)) rfl ?_
    refine h_pass 31 rfl (by kernel_rfl) (by kernel_rfl) (by kernel_rfl) (fun _ _ _ h => h) S19 (wantsN 28 35 true rfl (by kernel_rfl) rfl (by kernel_rfl)) rfl ?_
    refine h_pass 32 rfl (by kernel_rfl) (by kernel_rfl) (by kernel_rfl) (fun _ _ _ h => h) S19 (wantsN 28 35 true rfl (by kernel_rfl) rfl (by kernel_rfl)) rfl ?_
    refine h_pass 33 rfl (by kernel_rfl) (by kernel_rfl) (by kernel_rfl) (fun _ _ _ h => h) S19 (wantsN 28 35 true rfl (by kernel_rfl) rfl (by kernel_rfl)) rfl ?_
    refine h_pass 34 rfl (by kernel_rfl) (by kernel_rfl) (by kernel_rfl) (fun _ _ _ h => h) S19 (wantsN 28 35 true rfl (by kernel_rfl) rfl (by kernel_rfl)) rfl ?_
    refine hv0 35 S19 42 (.bool false) ?_
    refine hv0 36 S19 6 (.bool false) ?_
    refine h_fin (by kernel_rfl) ?_
    refine then_normal ?_
    refine w_ret ?_
    refine end1 rfl (res_tmp (v := (.bool false)) rfl) ?_
    exact ⟨by simp [rightS, inB, b12, b20, b23], H17.upd 0 rfl [] (fun _ h => h.elim)⟩
  ·have g53 := of_decide_eq_false b20
   refine h_know 17 (.bool false) (congrArg Value.bool b20) ?_
   have g54 := of_decide_eq_false b20
   refine h_pass 11 rfl (by kernel_rfl) (by kernel_rfl) (by kernel_rfl) (fun _ _ _ h => h) S19 (wantsN 10 17 true rfl (by kernel_rfl) rfl (by kernel_rfl)) rfl ?_
   refine h_pass 12 rfl (by kernel_rfl) (by kernel_rfl) (by kernel_rfl) (fun _ _ _ h => h) S19 (wantsN 10 17 true rfl (by kernel_rfl) rfl (by kernel_rfl)) rfl ?_
   refine h_pass 13 rfl (by kernel_rfl) (by kernel_rfl) (by kernel_rfl) (fun _ _ _ h => h) S19 (wantsN 10 17 true rfl (by kernel_rfl) rfl (by kernel_rfl)) rfl ?_
   refine hv0 14 S19 21 (.bool false) ?_
   refine hv0 15 S19 22 (.bool false) ?_
   refine h_pass 16 rfl (by kernel_rfl) (by kernel_rfl) (by kernel_rfl) (fun _ _ _ h => h) S19 (wantsN 15 22 true rfl (by kernel_rfl) rfl (by kernel_rfl)) rfl ?_
   refine h_pass 17 rfl (by kernel_rfl) (by kernel_rfl) (by kernel_rfl) (fun _ _ _ h => h) S19 (wantsN 15 22 true rfl (by kernel_rfl) rfl (by kernel_rfl)) rfl ?_
   refine h_pass 18 rfl (by kernel_rfl) (by kernel_rfl) (by kernel_rfl) (fun _ _ _ h => h) S19 (wantsN 15 22 true rfl (by kernel_rfl) rfl (by kernel_rfl)) rfl ?_
   refine hv0 19 S19 26 (.bool false) ?_
   refine hv0 20 S19 27 (.bool false) ?_
   refine h_pass 21 rfl (by kernel_rfl) (by kernel_rfl) (by kernel_rfl) (fun _ _ _ h => h) S19 (wantsN 20 27 true rfl (by kernel_rfl) rfl (by kernel_rfl)) rfl ?_
   refine h_pass 22 rfl (by kernel_rfl) (by kernel_rfl) (by kernel_rfl) (fun _ _ _ h => h) S19 (wantsN 20 27 true rfl (by kernel_rfl) rfl (by kernel_rfl)) rfl ?_
   refine h_pass 23 rfl (by kernel_rfl) (by kernel_rfl) (by kernel_rfl) (fun _ _ _ h => h) S19 (wantsN 20 27 true rfl (by kernel_rfl) rfl (by kernel_rfl)) rfl ?_
   refine h_pass 24 rfl (by kernel_rfl) (by kernel_rfl) (by kernel_rfl) (fun _ _ _ h => h) S19 (wantsN 20 27 true rfl (by kernel_rfl) rfl (by kernel_rfl)) rfl ?_
   refine h_pass 25 rfl (by kernel_rfl) (by kernel_rfl) (by kernel_rfl) (fun _ _ _ h => h) S19 (wantsN 20 27 true rfl (by kernel_rfl) rfl (by kernel_rfl)) rfl ?_
   refine h_pass 26 rfl (by kernel_rfl) (by kernel_rfl) (by kernel_rfl) (fun _ _ _ h => h) S19 (wantsN 20 27 true rfl (by kernel_rfl) rfl (by kernel_rfl)) rfl ?_
   refine hv0 27 S19 34 (.bool false) ?_
   refine hv0 28 S19 35 (.bool false) ?_
   refine h_pass 29 rfl (by kernel_rfl) (by kernel_rfl) (by kernel_rfl) (fun _ _ _ h => h) S19 (wantsN 28 35 true rfl (by kernel_rfl) rfl (by kernel_rfl)) rfl ?_
   refine h_pass 30 rfl (by kernel_rfl) (by kernel_rfl) (by kernel_rfl) (fun _ _ _ h => h) S19 (wantsN 28 35 true rfl (by kernel_rfl) rfl (by kernel_rfl)) rfl ?_
   refine h_pass 31 rfl (by kernel_rfl) (by kernel_rfl) (by kernel_rfl) (fun _ _ _ h => h) S19 (wantsN 28 35 true rfl (by kernel_rfl) rfl (by kernel_rfl)) rfl ?_
   refine h_pass 32 rfl (by kernel_rfl) (by kernel_rfl) (by kernel_rfl) (fun _ _ _ h => h) S19 (wantsN 28 35 true rfl (by kernel_rfl) rfl (by kernel_rfl)) rfl ?_
   refine h_pass 33 rfl (by kernel_rfl) (by kernel_rfl) (by kernel_rfl) (fun _ _ _ h => h) S19 (wantsN 28 35 true rfl (by kernel_rfl) rfl (by kernel_rfl)) rfl ?_
   refine h_pass 34 rfl (by kernel_rfl) (by kernel_rfl) (by kernel_rfl) (fun _ _ _ h => h) S19 (wantsN 28 35 true rfl (by kernel_rfl) rfl (by kernel_rfl)) rfl ?_
   refine hv0 35 S19 42 (.bool false) ?_
   refine hv0 36 S19 6 (.bool false) ?_
   refine h_fin (by kernel_rfl) ?_
   refine then_normal ?_
   refine w_ret ?_
   refine end1 rfl (res_tmp (v := (.bool false)) rfl) ?_
   exact ⟨by simp [rightS, inB, b12, b20], H17.upd 0 rfl [] (fun _ h => h.elim)⟩
 ·have g55 := of_decide_eq_false b12
  refine h_know 10 (.bool false) (congrArg Value.bool b12) ?_
  have g56 := of_decide_eq_false b12
  refine h_pass 4 rfl (by kernel_rfl) (by kernel_rfl) (by kernel_rfl) (fun _ _ _ h => h) S11 (wantsN 3 10 true rfl (by kernel_rfl) rfl (by kernel_rfl)) rfl ?_
  refine h_pass 5 rfl (by kernel_rfl) (by kernel_rfl) (by kernel_rfl) (fun _ _ _ h => h) S11 (wantsN 3 10 true rfl (by kernel_rfl) rfl (by kernel_rfl)) rfl ?_
  refine h_pass 6 rfl (by kernel_rfl) (by kernel_rfl) (by kernel_rfl) (fun _ _ _ h => h) S11 (wantsN 3 10 true rfl (by kernel_rfl) rfl (by kernel_rfl)) rfl ?_
  refine h_pass 7 rfl (by kernel_rfl) (by kernel_rfl) (by kernel_rfl) (fun _ _ _ h => h) S11 (wantsN 3 10 true rfl (by kernel_rfl) rfl (by kernel_rfl)) rfl ?_
  refine h_pass 8 rfl (by kernel_rfl) (by kernel_rfl) (by kernel_rfl) (fun _ _ _ h => h) S11 (wantsN 3 10 true rfl (by kernel_rfl) rfl (by kernel_rfl)) rfl ?_
  refine hv0 9 S11 16 (.bool false) ?_
  refine hv0 10 S11 17 (.bool false) ?_
  refine h_pass 11 rfl (by kernel_rfl) (by kernel_rfl) (by kernel_rfl) (fun _ _ _ h => h) S11 (wantsN 10 17 true rfl (by kernel_rfl) rfl (by kernel_rfl)) rfl ?_
  refine h_pass 12 rfl (by kernel_rfl) (by kernel_rfl) (by kernel_rfl) (fun _ _ _ h => h) S11 (wantsN 10 17 true rfl (by kernel_rfl) rfl (by kernel_rfl)) rfl ?_
  refine h_pass 13 rfl (by kernel_rfl) (by kernel_rfl) (by kernel_rfl) (fun _ _ _ h => h) S11 (wantsN 10 17 true rfl (by kernel_rfl) rfl (by kernel_rfl)) rfl ?_
  refine hv0 14 S11 21 (.bool false) ?_
  refine hv0 15 S11 22 (.bool false) ?_
  refine h_pass 16 rfl (by kernel_rfl) (by kernel_rfl) (by kernel_rfl) (fun _ _ _ h => h) S11 (wantsN 15 22 true rfl (by kernel_rfl) rfl (by kernel_rfl)) rfl ?_
  refine h_pass 17 rfl (by kernel_rfl) (by kernel_rfl) (by kernel_rfl) (fun _ _ _ h => h) S11 (wantsN 15 22 true rfl (by kernel_rfl) rfl (by kernel_rfl)) rfl ?_
  refine h_pass 18 rfl (by kernel_rfl) (by kernel_rfl) (by kernel_rfl) (fun _ _ _ h => h) S11 (wantsN 15 22 true rfl (by kernel_rfl) rfl (by kernel_rfl)) rfl ?_
  refine hv0 19 S11 26 (.bool false) ?_
  refine hv0 20 S11 27 (.bool false) ?_
  refine h_pass 21 rfl (by kernel_rfl) (by kernel_rfl) (by kernel_rfl) (fun _ _ _ h => h) S11 (wantsN 20 27 true rfl (by kernel_rfl) rfl (by kernel_rfl)) rfl ?_
  refine h_pass 22 rfl (by kernel_rfl) (by kernel_rfl) (by kernel_rfl) (fun _ _ _ h => h) S11 (wantsN 20 27 true rfl (by kernel_rfl) rfl (by kernel_rfl)) rfl ?_
  refine h_pass 23 rfl (by kernel_rfl) (by kernel_rfl) (by kernel_rfl) (fun _ _ _ h => h) S11 (wantsN 20 27 true rfl (by kernel_rfl) rfl (by kernel_rfl)) rfl ?_
  refine h_pass 24 rfl (by kernel_rfl) (by kernel_rfl) (by kernel_rfl) (fun _ _ _ h => h) S11 (wantsN 20 27 true rfl (by kernel_rfl) rfl (by kernel_rfl)) rfl ?_
  refine h_pass 25 rfl (by kernel_rfl) (by kernel_rfl) (by kernel_rfl) (fun _ _ _ h => h) S11 (wantsN 20 27 true rfl (by kernel_rfl) rfl (by kernel_rfl)) rfl ?_
  refine h_pass 26 rfl (by kernel_rfl) (by kernel_rfl) (by kernel_rfl) (fun _ _ _ h => h) S11 (wantsN 20 27 true rfl (by kernel_rfl) rfl (by kernel_rfl)) rfl ?_
  refine hv0 27 S11 34 (.bool false) ?_
  refine hv0 28 S11 35 (.bool false) ?_
  refine h_pass 29 rfl (by kernel_rfl) (by kernel_rfl) (by kernel_rfl) (fun _ _ _ h => h) S11 (wantsN 28 35 true rfl (by kernel_rfl) rfl (by kernel_rfl)) rfl ?_
  refine h_pass 30 rfl (by kernel_rfl) (by kernel_rfl) (by kernel_rfl) (fun _ _ _ h => h) S11 (wantsN 28 35 true rfl (by kernel_rfl) rfl (by kernel_rfl)) rfl ?_
  refine h_pass 31 rfl (by kernel_rfl) (by kernel_rfl) (by kernel_rfl) (fun _ _ _ h => h) S11 (wantsN 28 35 true rfl (by kernel_rfl) rfl (by kernel_rfl)) rfl ?_
  refine h_pass 32 rfl (by kernel_rfl) (by kernel_rfl) (by kernel_rfl) (fun _ _ _ h => h) S11 (wantsN 28 35 true rfl (by kernel_rfl) rfl (by kernel_rfl)) rfl ?_
  refine h_pass 33 rfl (by kernel_rfl) (by kernel_rfl) (by kernel_rfl) (fun _ _ _ h => h) S11 (wantsN 28 35 true rfl (by kernel_rfl) rfl (by kernel_rfl)) rfl ?_
  refine h_pass 34 rfl (by kernel_rfl) (by kernel_rfl) (by kernel_rfl) (fun _ _ _ h => h) S11 (wantsN 28 35 true rfl (by kernel_rfl) rfl (by kernel_rfl)) rfl ?_
  refine hv0 35 S11 42 (.bool false) ?_
  refine hv0 36 S11 6 (.bool false) ?_
  refine h_fin (by kernel_rfl) ?_
  refine then_normal ?_
  refine w_ret ?_
  refine end1 rfl (res_tmp (v := (.bool false)) rfl) ?_
  exact ⟨by simp [rightS, inB, b12], H10.upd 0 rfl [] (fun _ h => h.elim)⟩

set_option maxRecDepth 100000 in
set_option maxHeartbeats 2000000 in
theorem rRightX_any (w : World) (f cn : Int) (hf : -1099511627776 ≤ f ∧ f ≤ 1099511627776) (r : Nat) (ra : Option Addr) (rc : Nat) (L : List Signed) (hb : (cellC r 88 [.slice ra L.length rc]).ok w) (hr : (rowC 120 2 (.slice ra L.length rc) L.length (L.flatMap encS)).ok w) (hn : L.Nodup) (hL : L.length ≤ 1000000) (x : CommitD) (hx : CoOk x) (sa : Option Addr) (sc : Nat) (S : List StampD) (hS : ListAt encSt 38 w (.slice sa S.length sc) S) (hok : StsOk S) (hlS : S.length ≤ 1000000) :
  Calls Try.prog 21 #[(.agg ⟨([(.int .i64 (f)), (.int .i64 (cn))] : List Value)⟩), (.pointer (some ⟨r, 0, none⟩)), (.agg ⟨(([(.int .i64 (x.cl)), (.int .i64 (x.seq))] : List Value) ++ hc x.h ++ ([(.int .i64 (x.len)), (.int .i64 (x.sb)), (.int .i64 (x.sm)), (.slice sa S.length sc)] : List Value))⟩)] w fun e w' => e = .returned (.bool (rightX f cn L x S)) ∧ Upd [] w w' := by
 have H := Sat.start0 w
 refine calls_fr Try.func21 rfl 72 rfl (Nat.le_of_ble_eq_true rfl) ?_
 refine w_seq ?_
 refine w_lit ?_
 refine wl_do (wants0 rfl) (fun K1 hK1 => ?_)
 refine d_box (vs := ([(.int .i64 (f)), (.int .i64 (cn))] : List Value)) rfl H rfl rfl ?_
 intro b2 w3 (H4 : Sat w [restC w (fun _ => False), cellC b2 36 ([(.int .i64 (f)), (.int .i64 (cn))] : List Value)] w3)
 refine hK1 _ _ ?_
 clear hK1 K1
 refine wl_do (wants0 rfl) (fun K5 hK5 => ?_)
 refine d_box (vs := (([(.int .i64 (x.cl)), (.int .i64 (x.seq))] : List Value) ++ hc x.h ++ ([(.int .i64 (x.len)), (.int .i64 (x.sb)), (.int .i64 (x.sm)), (.slice sa S.length sc)] : List Value))) rfl H4 rfl rfl ?_
 intro b6 w7 (H8 : Sat w [restC w (fun _ => False), cellC b2 36 ([(.int .i64 (f)), (.int .i64 (cn))] : List Value), cellC b6 47 (([(.int .i64 (x.cl)), (.int .i64 (x.seq))] : List Value) ++ hc x.h ++ ([(.int .i64 (x.len)), (.int .i64 (x.sb)), (.int .i64 (x.sm)), (.slice sa S.length sc)] : List Value))] w7)
 refine hK5 _ _ ?_
 clear hK5 K5
 refine wv 6 (.bool false) ?_
 refine w_nil ?_
 refine then_normal ?_
 iterate 2 refine w_seq ?_
 refine q_start H8 (by kernel_rfl) (by kernel_rfl) ?_
 refine qv 9 (.agg ⟨([(.int .i64 (f)), (.int .i64 (cn))] : List Value)⟩) ?_ (hr := fun _ H' => (e_loadN (vs := ([(.int .i64 (f)), (.int .i64 (cn))] : List Value)) rfl (by kernel_rfl) (by kernel_rfl) (by exact Nat.le_of_ble_eq_true (by kernel_rfl)) (H'.at 1 rfl) (by kernel_rfl)))
 refine qv 10 (pt r 0) ?_
 refine qv 11 (pt b6 0) ?_
 refine qv 12 (.agg ⟨(([(.int .i64 (x.cl)), (.int .i64 (x.seq))] : List Value) ++ hc x.h ++ ([(.int .i64 (x.len)), (.int .i64 (x.sb)), (.int .i64 (x.sm))] : List Value))⟩) ?_ (hr := fun _ H' => (e_loadN (vs := (([(.int .i64 (x.cl)), (.int .i64 (x.seq))] : List Value) ++ hc x.h ++ ([(.int .i64 (x.len)), (.int .i64 (x.sb)), (.int .i64 (x.sm))] : List Value))) rfl (by kernel_rfl) (by kernel_rfl) (by exact Nat.le_of_ble_eq_true (by kernel_rfl)) (H'.at 2 rfl) (by kernel_rfl)))
 refine q_call (wants0 rfl) (d := 13) (v := (.bool (rightC cn L x))) rfl (fun _ _ => by kernel_rfl) (fun w' H' => (rRightC_any w' f cn (by omega) r ra rc L (H'.roCk 0 rfl hb (fun _ _ h => h)) (H'.roCk 0 rfl hr (fun _ _ h => h)) hn hL x hx).mono fun _ _ h => ⟨h.1, H'.keepU h.2⟩) ?_
 refine qv 14 (.bool (!(rightC cn L x))) ?_
 refine qv 15 (.bool (!(rightC cn L x))) ?_
 refine (bsplit (!(rightC cn L x))).elim (fun b9 => ?_) (fun b9 => ?_)
 ·have g10 := bnot_true b9
  refine q_know 15 (.bool true) (congrArg Value.bool b9) ?_
  have g11 := bnot_true b9
  iterate 6 refine qn 6 15 false ?_
  refine qv 22 (.bool true) ?_
  refine q_end ?_
  intro w12 H13
  refine then_normal ?_
  refine wp_ift rfl ?_
  refine w_seq ?_
  refine w_lit ?_
  refine wv 6 (.bool false) ?_
  refine w_nil ?_
  refine then_normal ?_
  refine w_ret ?_
  refine then_ret ?_
  refine end1 rfl (res_tmp (v := (.bool false)) rfl) ?_
  have n14 := bnot_true b9
  exact ⟨by simp only [rightX, n14, Bool.not_true, Bool.not_false, Bool.true_or, Bool.false_or, Bool.or_true, Bool.or_false, Bool.and_true, Bool.true_and, Bool.and_false, Bool.false_and], H13.upd 0 rfl [] (fun _ h => h.elim)⟩
 ·have g15 := bnot_false b9
  refine q_know 15 (.bool false) (congrArg Value.bool b9) ?_
  have g16 := bnot_false b9
  refine qy 6 15 false 16 (pt b6 37) ?_
  refine qy 6 15 false 17 (.slice sa S.length sc) ?_ (hr := fun _ H' => (e_load1 rfl (by kernel_rfl) (H'.cell 2 rfl (by kernel_rfl))))
  refine q_val (wantsY 6 15 false rfl (by kernel_rfl) rfl (by kernel_rfl)) (d := 18) (v := (.int .i64 ((S.length : Int)))) rfl (fun _ H' => (by kernel_rfl)) ?_
  refine qy 6 15 false 19 (.agg ⟨([(.int .i64 (f)), (.int .i64 (cn))] : List Value)⟩) ?_ (hr := fun _ H' => (e_loadN (vs := ([(.int .i64 (f)), (.int .i64 (cn))] : List Value)) rfl (by kernel_rfl) (by kernel_rfl) (by exact Nat.le_of_ble_eq_true (by kernel_rfl)) (H'.at 1 rfl) (by kernel_rfl)))
  refine q_call (wantsY 6 15 false rfl (by kernel_rfl) rfl (by kernel_rfl)) (d := 20) (v := (.int .i64 (2 * f + 1))) rfl (fun _ _ => by kernel_rfl) (fun w' H' => (rQ_any w' f cn (by omega)).mono fun _ _ h => ⟨h.1, H'.keepU h.2⟩) ?_
  refine qy 6 15 false 21 (.bool (!(decide ((S.length : Int) = (2 * f + 1))))) ?_
  refine qv 22 (.bool (!(decide ((S.length : Int) = (2 * f + 1))))) ?_
  refine q_end ?_
  intro w17 H18
  refine then_normal ?_
  refine (bsplit (!(decide ((S.length : Int) = (2 * f + 1))))).elim (fun b19 => ?_) (fun b19 => ?_)
  ·have g20 := bnot_true b19
   have g21 := of_decide_eq_false g20
   refine wp_know 22 (.bool true) (congrArg Value.bool b19) ?_
   have g22 := bnot_true b19
   have g23 := of_decide_eq_false g22
   refine wp_ift rfl ?_
   refine w_seq ?_
   refine w_lit ?_
   refine wv 6 (.bool false) ?_
   refine w_nil ?_
   refine then_normal ?_
   refine w_ret ?_
   refine then_ret ?_
   refine end1 rfl (res_tmp (v := (.bool false)) rfl) ?_
   have n24 := bnot_false b9
   have n25 := bnot_true b19
   exact ⟨by simp only [rightX, n24, n25, Bool.not_true, Bool.not_false, Bool.true_or, Bool.false_or, Bool.or_true, Bool.or_false, Bool.and_true, Bool.true_and, Bool.and_false, Bool.false_and], H18.upd 0 rfl [] (fun _ h => h.elim)⟩
  ·have g26 := bnot_false b19
   have g27 := of_decide_eq_true g26
   refine wp_know 22 (.bool false) (congrArg Value.bool b19) ?_
   have g28 := bnot_false b19
   have g29 := of_decide_eq_true g28
   refine wp_iff rfl ?_
   refine w_skip ?_
   refine then_normal ?_
   iterate 2 refine w_seq ?_
   refine w_lit ?_
   refine wv 23 (pt b6 37) ?_
   refine wv 24 (.slice sa S.length sc) ?_ (hr := e_load1 rfl (by kernel_rfl) (H18.cell 2 rfl (by kernel_rfl)))
   refine wv 25 (.int .i64 ((S.length : Int))) ?_
   refine wv 26 (.int .i64 (0)) ?_
   refine w_nil ?_
   refine then_normal ?_
   refine w_block ?_
   have n30 := bnot_false b9
   have n31 := bnot_false b19
   refine wp_round [6, 7, 8, 26, 27, 28, 29, 30, 31, 32, 33, 34, 35, 36, 37, 38, 39, 40, 41, 42, 43, 44, 45, 46, 47, 48, 49, 50, 51, 52, 53, 54, 55, 56, 57, 58, 59, 60, 61, 62, 63, 64, 65, 66, 67, 68, 69, 70, 71] (fun F_ W_ m_ => ∃ (i : Nat), F_ 26 = (.int .i64 ((i : Int))) ∧ (i ≤ S.length) ∧ (∀ j, j < i → okAt f L x S j = true) ∧ Sat w [restC w (fun _ => False), cellC b2 36 ([(.int .i64 (f)), (.int .i64 (cn))] : List Value), cellC b6 47 (([(.int .i64 (x.cl)), (.int .i64 (x.seq))] : List Value) ++ hc x.h ++ ([(.int .i64 (x.len)), (.int .i64 (x.sb)), (.int .i64 (x.sm)), (.slice sa S.length sc)] : List Value))] W_ ∧ m_ = S.length - i) _ ⟨0, (show ((.int .i64 (0)) : Value) = _ by first | rfl | go_num), (Nat.zero_le _), (fun _ h => absurd h (Nat.not_lt_zero _)), H18, rfl⟩ ?_
   rintro g32 w33 _ ⟨i, v35, hi, hall, H34, rfl⟩
   refine wp_know 26 _ v35 ?_
   refine w_seq ?_
   refine w_lit ?_
   refine wv 27 (.bool (decide ((i : Int) < (S.length : Int)))) ?_
   refine w_nil ?_
   refine then_normal ?_
   refine w_seq ?_
   refine (bsplit (decide ((i : Int) < (S.length : Int)))).elim (fun b37 => ?_) (fun b37 => ?_)
   ·have g38 := of_decide_eq_true b37
    refine wp_know 27 (.bool true) (congrArg Value.bool b37) ?_
    have g39 := of_decide_eq_true b37
    refine wp_ift rfl ?_
    refine w_skip ?_
    refine then_normal ?_
    refine w_seq ?_
    refine w_block ?_
    refine w_seq ?_
    refine w_lit ?_
    refine wv 28 (.int .i64 ((i : Int))) ?_
    refine wv 7 (.int .i64 ((i : Int))) ?_
    refine w_nil ?_
    refine then_normal ?_
    refine w_seq ?_
    refine w_lit ?_
    refine wv 29 (pt b6 37) ?_
    refine wv 30 (.slice sa S.length sc) ?_ (hr := e_load1 rfl (by kernel_rfl) (H34.cell 2 rfl (by kernel_rfl)))
    refine wv 31 (.int .i64 ((i : Int))) ?_
    obtain ⟨g40, o41, c42, e43, R44⟩ := SliceOf.atD hS stamp0 (show i < S.length by omega)
    refine wv 32 (.pointer (some ⟨g40, o41 + ((i : Int)).toNat * 38, none⟩)) ?_ (hr := e_indexAddrW (E := 49) (by kernel_rfl) (by kernel_rfl) (Nat.le_of_ble_eq_true rfl) rfl e43 rfl (by omega) (by omega))
    refine wv 33 (.agg ⟨(([(.int .i64 ((S.getD i stamp0).r)), (.int .i64 ((S.getD i stamp0).cl)), (.int .i64 ((S.getD i stamp0).seq))] : List Value) ++ hc (S.getD i stamp0).h ++ ([(.int .u64 ((S.getD i stamp0).t)), (.int .i64 ((S.getD i stamp0).sb)), (.int .i64 ((S.getD i stamp0).sm))] : List Value))⟩) ?_ (hr := e_loadRun (vs := (([(.int .i64 ((S.getD i stamp0).r)), (.int .i64 ((S.getD i stamp0).cl)), (.int .i64 ((S.getD i stamp0).seq))] : List Value) ++ hc (S.getD i stamp0).h ++ ([(.int .u64 ((S.getD i stamp0).t)), (.int .i64 ((S.getD i stamp0).sb)), (.int .i64 ((S.getD i stamp0).sm))] : List Value))) rfl (by kernel_rfl) (by kernel_rfl) (Nat.le_of_ble_eq_true (by kernel_rfl)) (H34.runR 0 rfl (cells_run R44 0 (by kernel_rfl) (show o41 + ((i : Int)).toNat * 38 = o41 + i * 38 + 0 by omega)) (fun h => h)))
    refine wl_do (wants0 rfl) (fun K45 hK45 => ?_)
    refine d_alloc (zs := (([(.int .i64 (0)), (.int .i64 (0)), (.int .i64 (0))] : List Value) ++ hc hash0 ++ ([(.int .u64 (0)), (.int .i64 (0)), (.int .i64 (0))] : List Value))) (z := (.agg ⟨(([(.int .i64 (0)), (.int .i64 (0)), (.int .i64 (0))] : List Value) ++ hc hash0 ++ ([(.int .u64 (0)), (.int .i64 (0)), (.int .i64 (0))] : List Value))⟩)) rfl H34 (by kernel_rfl) (by kernel_rfl) ?_
    intro b46 w47 (H48 : Sat w [restC w (fun _ => False), cellC b2 36 ([(.int .i64 (f)), (.int .i64 (cn))] : List Value), cellC b6 47 (([(.int .i64 (x.cl)), (.int .i64 (x.seq))] : List Value) ++ hc x.h ++ ([(.int .i64 (x.len)), (.int .i64 (x.sb)), (.int .i64 (x.sm)), (.slice sa S.length sc)] : List Value)), cellC b46 49 (([(.int .i64 (0)), (.int .i64 (0)), (.int .i64 (0))] : List Value) ++ hc hash0 ++ ([(.int .u64 (0)), (.int .i64 (0)), (.int .i64 (0))] : List Value))] w47)
    refine hK45 _ _ ?_
    clear hK45 K45
    refine wl_do (wants0 rfl) (fun K49 hK49 => ?_)
    refine d_storeX (vs := (([(.int .i64 ((S.getD i stamp0).r)), (.int .i64 ((S.getD i stamp0).cl)), (.int .i64 ((S.getD i stamp0).seq))] : List Value) ++ hc (S.getD i stamp0).h ++ ([(.int .u64 ((S.getD i stamp0).t)), (.int .i64 ((S.getD i stamp0).sb)), (.int .i64 ((S.getD i stamp0).sm))] : List Value))) (cs' := (([(.int .i64 ((S.getD i stamp0).r)), (.int .i64 ((S.getD i stamp0).cl)), (.int .i64 ((S.getD i stamp0).seq))] : List Value) ++ hc (S.getD i stamp0).h ++ ([(.int .u64 ((S.getD i stamp0).t)), (.int .i64 ((S.getD i stamp0).sb)), (.int .i64 ((S.getD i stamp0).sm))] : List Value))) rfl H48 3 rfl rfl rfl rfl (by kernel_rfl) (Nat.le_of_ble_eq_true (by kernel_rfl)) (Nat.le_of_ble_eq_true (by kernel_rfl)) (by kernel_rfl) (by kernel_rfl) ?_
    intro w50 (H51 : Sat w [restC w (fun _ => False), cellC b2 36 ([(.int .i64 (f)), (.int .i64 (cn))] : List Value), cellC b6 47 (([(.int .i64 (x.cl)), (.int .i64 (x.seq))] : List Value) ++ hc x.h ++ ([(.int .i64 (x.len)), (.int .i64 (x.sb)), (.int .i64 (x.sm)), (.slice sa S.length sc)] : List Value)), cellC b46 49 (([(.int .i64 ((S.getD i stamp0).r)), (.int .i64 ((S.getD i stamp0).cl)), (.int .i64 ((S.getD i stamp0).seq))] : List Value) ++ hc (S.getD i stamp0).h ++ ([(.int .u64 ((S.getD i stamp0).t)), (.int .i64 ((S.getD i stamp0).sb)), (.int .i64 ((S.getD i stamp0).sm))] : List Value))] w50)
    refine hK49 _ _ ?_
    clear hK49 K49
    refine w_nil ?_
    refine then_normal ?_
    refine w_seq ?_
    refine q_start H51 (by kernel_rfl) (by kernel_rfl) ?_
    refine qv 34 (.int .i64 ((i : Int))) ?_
    refine qv 35 (.bool (decide ((i : Int) > 0))) ?_
    refine qv 36 (.bool (decide ((i : Int) > 0))) ?_
    refine (bsplit (decide ((i : Int) > 0))).elim (fun b53 => ?_) (fun b53 => ?_)
    ·have g54 := of_decide_eq_true b53
     refine q_know 36 (.bool true) (congrArg Value.bool b53) ?_
     have g55 := of_decide_eq_true b53
     refine qy 2 36 true 37 (pt b46 0) ?_
     refine qy 2 36 true 38 (.int .i64 ((S.getD i stamp0).r)) ?_ (hr := fun _ H' => (e_load1 rfl (by kernel_rfl) (H'.cell 3 rfl (by kernel_rfl))))
     refine qy 2 36 true 39 (pt b6 37) ?_
     refine qy 2 36 true 40 (.slice sa S.length sc) ?_ (hr := fun _ H' => (e_load1 rfl (by kernel_rfl) (H'.cell 2 rfl (by kernel_rfl))))
     refine qy 2 36 true 41 (.int .i64 ((i : Int))) ?_
     refine qy 2 36 true 42 (.int .i64 ((i : Int) - 1)) ?_ (hr := fun _ H' => (e_int (z := (i : Int) - 1) (by kernel_rfl) (IntWalk.i64_in _ (by omega))))
     obtain ⟨g56, o57, c58, e59, R60⟩ := SliceOf.atD hS stamp0 (show ((i : Int) - 1).toNat < S.length by omega)
     refine qy 2 36 true 43 (.pointer (some ⟨g56, o57 + ((i : Int) - 1).toNat * 38, none⟩)) ?_ (hr := fun _ H' => (e_indexAddrW (E := 49) (by kernel_rfl) (by kernel_rfl) (Nat.le_of_ble_eq_true rfl) rfl e59 rfl (by omega) (by omega)))
     refine qy 2 36 true 44 (.pointer (some ⟨g56, o57 + ((i : Int) - 1).toNat * 38, none⟩)) ?_
     refine qy 2 36 true 45 (.int .i64 ((S.getD ((i : Int) - 1).toNat stamp0).r)) ?_ (hr := fun _ H' => (e_load1 rfl (by kernel_rfl) (H'.cellR 0 rfl (cells_at R60 0 (by kernel_rfl) (show o57 + ((i : Int) - 1).toNat * 38 = o57 + ((i : Int) - 1).toNat * 38 + 0 by omega)) (fun h => h))))
     refine qy 2 36 true 46 (.bool (decide (((S.getD i stamp0).r) ≤ ((S.getD ((i : Int) - 1).toNat stamp0).r)))) ?_
     refine qv 47 (.bool (decide (((S.getD i stamp0).r) ≤ ((S.getD ((i : Int) - 1).toNat stamp0).r)))) ?_
     refine qv 48 (.bool (decide (((S.getD i stamp0).r) ≤ ((S.getD ((i : Int) - 1).toNat stamp0).r)))) ?_
     refine (bsplit (decide (((S.getD i stamp0).r) ≤ ((S.getD ((i : Int) - 1).toNat stamp0).r)))).elim (fun b61 => ?_) (fun b61 => ?_)
     ·have g62 := of_decide_eq_true b61
      refine q_know 48 (.bool true) (congrArg Value.bool b61) ?_
      have g63 := of_decide_eq_true b61
      iterate 6 refine qn 14 48 false ?_
      refine qv 55 (.bool true) ?_
      refine qv 56 (.bool true) ?_
      iterate 6 refine qn 22 56 false ?_
      refine qv 63 (.bool true) ?_
      refine qv 64 (.bool true) ?_
      iterate 5 refine qn 30 64 false ?_
      refine qv 70 (.bool true) ?_
      refine q_end ?_
      intro w64 H65
      refine then_normal ?_
      refine wp_ift rfl ?_
      refine w_seq ?_
      refine w_lit ?_
      refine wv 6 (.bool false) ?_
      refine w_nil ?_
      refine then_normal ?_
      refine w_ret ?_
      refine blk_ret ?_
      refine then_ret ?_
      refine back_ret ?_
      refine blk_ret ?_
      refine then_ret ?_
      refine end1 rfl (res_tmp (v := (.bool false)) rfl) ?_
      have e1 : ((i : Int) - 1).toNat = i - 1 := by omega
      have ho : okAt f L x S i = false := by unfold okAt sameN; rw [← e1]; simp only [b37, b53, b61, Bool.not_true, Bool.not_false, Bool.true_or, Bool.false_or, Bool.or_true, Bool.or_false, Bool.and_true, Bool.true_and, Bool.and_false, Bool.false_and]
      exact ⟨by simp only [rightX, all_not (show i < S.length by omega) ho, Bool.and_false], H65.upd 0 rfl [] (fun _ h => h.elim)⟩
     ·have g66 := of_decide_eq_false b61
      refine q_know 48 (.bool false) (congrArg Value.bool b61) ?_
      have g67 := of_decide_eq_false b61
      refine qy 14 48 false 49 (pt b46 1) ?_
      refine qy 14 48 false 50 (.agg ⟨([(.int .i64 ((S.getD i stamp0).cl)), (.int .i64 ((S.getD i stamp0).seq))] : List Value)⟩) ?_ (hr := fun _ H' => (e_loadN (vs := ([(.int .i64 ((S.getD i stamp0).cl)), (.int .i64 ((S.getD i stamp0).seq))] : List Value)) rfl (by kernel_rfl) (by kernel_rfl) (by exact Nat.le_of_ble_eq_true (by kernel_rfl)) (H'.at 3 rfl) (by kernel_rfl)))
      refine qy 14 48 false 51 (pt b6 0) ?_
      refine qy 14 48 false 52 (pt b6 0) ?_
      refine qy 14 48 false 53 (.agg ⟨([(.int .i64 (x.cl)), (.int .i64 (x.seq))] : List Value)⟩) ?_ (hr := fun _ H' => (e_loadN (vs := ([(.int .i64 (x.cl)), (.int .i64 (x.seq))] : List Value)) rfl (by kernel_rfl) (by kernel_rfl) (by exact Nat.le_of_ble_eq_true (by kernel_rfl)) (H'.at 2 rfl) (by kernel_rfl)))
      refine qy 14 48 false 54 (.bool (!(decide (((S.getD i stamp0).cl) = x.cl ∧ ((S.getD i stamp0).seq) = x.seq)))) ?_ (hr := fun _ H' => (e_neqName ((S.getD i stamp0).cl) ((S.getD i stamp0).seq) x.cl x.seq rfl rfl))
      refine qv 55 (.bool (!(decide (((S.getD i stamp0).cl) = x.cl ∧ ((S.getD i stamp0).seq) = x.seq)))) ?_
      refine qv 56 (.bool (!(decide (((S.getD i stamp0).cl) = x.cl ∧ ((S.getD i stamp0).seq) = x.seq)))) ?_
      refine (bsplit (!(decide (((S.getD i stamp0).cl) = x.cl ∧ ((S.getD i stamp0).seq) = x.seq)))).elim (fun b68 => ?_) (fun b68 => ?_)
      ·have g69 := bnot_true b68
       refine q_know 56 (.bool true) (congrArg Value.bool b68) ?_
       have g70 := bnot_true b68
       iterate 6 refine qn 22 56 false ?_
       refine qv 63 (.bool true) ?_
       refine qv 64 (.bool true) ?_
       iterate 5 refine qn 30 64 false ?_
       refine qv 70 (.bool true) ?_
       refine q_end ?_
       intro w71 H72
       refine then_normal ?_
       refine wp_ift rfl ?_
       refine w_seq ?_
       refine w_lit ?_
       refine wv 6 (.bool false) ?_
       refine w_nil ?_
       refine then_normal ?_
       refine w_ret ?_
       refine blk_ret ?_
       refine then_ret ?_
       refine back_ret ?_
       refine blk_ret ?_
       refine then_ret ?_
       refine end1 rfl (res_tmp (v := (.bool false)) rfl) ?_
       have n73 := bnot_true b68
       have e1 : ((i : Int) - 1).toNat = i - 1 := by omega
       have ho : okAt f L x S i = false := by unfold okAt sameN; rw [← e1]; simp only [b37, b53, b61, n73, Bool.not_true, Bool.not_false, Bool.true_or, Bool.false_or, Bool.or_true, Bool.or_false, Bool.and_true, Bool.true_and, Bool.and_false, Bool.false_and]
       exact ⟨by simp only [rightX, all_not (show i < S.length by omega) ho, Bool.and_false], H72.upd 0 rfl [] (fun _ h => h.elim)⟩
      ·have g74 := bnot_false b68
       refine q_know 56 (.bool false) (congrArg Value.bool b68) ?_
       have g75 := bnot_false b68
       refine qy 22 56 false 57 (pt b46 3) ?_
       refine qy 22 56 false 58 (.agg ⟨(hc (S.getD i stamp0).h)⟩) ?_ (hr := fun _ H' => (e_loadN (vs := (hc (S.getD i stamp0).h)) rfl (by kernel_rfl) (by kernel_rfl) (by exact Nat.le_of_ble_eq_true (by kernel_rfl)) (H'.at 3 rfl) (by kernel_rfl)))
       refine qy 22 56 false 59 (pt b6 0) ?_
       refine qy 22 56 false 60 (pt b6 2) ?_
       refine qy 22 56 false 61 (.agg ⟨(hc x.h)⟩) ?_ (hr := fun _ H' => (e_loadN (vs := (hc x.h)) rfl (by kernel_rfl) (by kernel_rfl) (by exact Nat.le_of_ble_eq_true (by kernel_rfl)) (H'.at 2 rfl) (by kernel_rfl)))
       refine qy 22 56 false 62 (.bool (!(decide (((S.getD i stamp0).h) = x.h)))) ?_ (hr := fun _ H' => (e_neHash ((S.getD i stamp0).h) x.h rfl rfl))
       refine qv 63 (.bool (!(decide (((S.getD i stamp0).h) = x.h)))) ?_
       refine qv 64 (.bool (!(decide (((S.getD i stamp0).h) = x.h)))) ?_
       refine (bsplit (!(decide (((S.getD i stamp0).h) = x.h)))).elim (fun b76 => ?_) (fun b76 => ?_)
       ·have g77 := bnot_true b76
        have g78 := of_decide_eq_false g77
        refine q_know 64 (.bool true) (congrArg Value.bool b76) ?_
        have g79 := bnot_true b76
        have g80 := of_decide_eq_false g79
        iterate 5 refine qn 30 64 false ?_
        refine qv 70 (.bool true) ?_
        refine q_end ?_
        intro w81 H82
        refine then_normal ?_
        refine wp_ift rfl ?_
        refine w_seq ?_
        refine w_lit ?_
        refine wv 6 (.bool false) ?_
        refine w_nil ?_
        refine then_normal ?_
        refine w_ret ?_
        refine blk_ret ?_
        refine then_ret ?_
        refine back_ret ?_
        refine blk_ret ?_
        refine then_ret ?_
        refine end1 rfl (res_tmp (v := (.bool false)) rfl) ?_
        have n83 := bnot_false b68
        have n84 := bnot_true b76
        have e1 : ((i : Int) - 1).toNat = i - 1 := by omega
        have ho : okAt f L x S i = false := by unfold okAt sameN; rw [← e1]; simp only [b37, b53, b61, n83, n84, Bool.not_true, Bool.not_false, Bool.true_or, Bool.false_or, Bool.or_true, Bool.or_false, Bool.and_true, Bool.true_and, Bool.and_false, Bool.false_and]
        exact ⟨by simp only [rightX, all_not (show i < S.length by omega) ho, Bool.and_false], H82.upd 0 rfl [] (fun _ h => h.elim)⟩
       ·have g85 := bnot_false b76
        have g86 := of_decide_eq_true g85
        refine q_know 64 (.bool false) (congrArg Value.bool b76) ?_
        have g87 := bnot_false b76
        have g88 := of_decide_eq_true g87
        refine qy 30 64 false 65 (.agg ⟨([(.int .i64 (f)), (.int .i64 (cn))] : List Value)⟩) ?_ (hr := fun _ H' => (e_loadN (vs := ([(.int .i64 (f)), (.int .i64 (cn))] : List Value)) rfl (by kernel_rfl) (by kernel_rfl) (by exact Nat.le_of_ble_eq_true (by kernel_rfl)) (H'.at 1 rfl) (by kernel_rfl)))
        refine qy 30 64 false 66 (pt r 0) ?_
        refine qy 30 64 false 67 (.agg ⟨(([(.int .i64 ((S.getD i stamp0).r)), (.int .i64 ((S.getD i stamp0).cl)), (.int .i64 ((S.getD i stamp0).seq))] : List Value) ++ hc (S.getD i stamp0).h ++ ([(.int .u64 ((S.getD i stamp0).t)), (.int .i64 ((S.getD i stamp0).sb)), (.int .i64 ((S.getD i stamp0).sm))] : List Value))⟩) ?_ (hr := fun _ H' => (e_loadN (vs := (([(.int .i64 ((S.getD i stamp0).r)), (.int .i64 ((S.getD i stamp0).cl)), (.int .i64 ((S.getD i stamp0).seq))] : List Value) ++ hc (S.getD i stamp0).h ++ ([(.int .u64 ((S.getD i stamp0).t)), (.int .i64 ((S.getD i stamp0).sb)), (.int .i64 ((S.getD i stamp0).sm))] : List Value))) rfl (by kernel_rfl) (by kernel_rfl) (by exact Nat.le_of_ble_eq_true (by kernel_rfl)) (H'.at 3 rfl) (by kernel_rfl)))
        refine q_call (wantsY 30 64 false rfl (by kernel_rfl) rfl (by kernel_rfl)) (d := 68) (v := (.bool (rightS f L (S.getD i stamp0)))) rfl (fun _ _ => by kernel_rfl) (fun w' H' => (rRightS_any w' f cn (by omega) r ra rc L (H'.roCk 0 rfl hb (fun _ _ h => h)) (H'.roCk 0 rfl hr (fun _ _ h => h)) hn hL (S.getD i stamp0) (hok _ (by omega))).mono fun _ _ h => ⟨h.1, H'.keepU h.2⟩) ?_
        refine qy 30 64 false 69 (.bool (!(rightS f L (S.getD i stamp0)))) ?_
        refine qv 70 (.bool (!(rightS f L (S.getD i stamp0)))) ?_
        refine q_end ?_
        intro w89 H90
        refine then_normal ?_
        refine (bsplit (!(rightS f L (S.getD i stamp0)))).elim (fun b91 => ?_) (fun b91 => ?_)
        ·have g92 := bnot_true b91
         refine wp_know 70 (.bool true) (congrArg Value.bool b91) ?_
         have g93 := bnot_true b91
         refine wp_ift rfl ?_
         refine w_seq ?_
         refine w_lit ?_
         refine wv 6 (.bool false) ?_
         refine w_nil ?_
         refine then_normal ?_
         refine w_ret ?_
         refine blk_ret ?_
         refine then_ret ?_
         refine back_ret ?_
         refine blk_ret ?_
         refine then_ret ?_
         refine end1 rfl (res_tmp (v := (.bool false)) rfl) ?_
         have n94 := bnot_false b68
         have n95 := bnot_false b76
         have n96 := bnot_true b91
         have e1 : ((i : Int) - 1).toNat = i - 1 := by omega
         have ho : okAt f L x S i = false := by unfold okAt sameN; rw [← e1]; simp only [b37, b53, b61, n94, n95, n96, Bool.not_true, Bool.not_false, Bool.true_or, Bool.false_or, Bool.or_true, Bool.or_false, Bool.and_true, Bool.true_and, Bool.and_false, Bool.false_and]
         exact ⟨by simp only [rightX, all_not (show i < S.length by omega) ho, Bool.and_false], H90.upd 0 rfl [] (fun _ h => h.elim)⟩
        ·have g97 := bnot_false b91
         refine wp_know 70 (.bool false) (congrArg Value.bool b91) ?_
         have g98 := bnot_false b91
         refine wp_iff rfl ?_
         refine w_skip ?_
         refine blk_normal ?_
         refine then_normal ?_
         refine w_lit ?_
         refine wv 71 (.int .i64 ((i : Int) + 1)) ?_ (hr := e_int (z := (i : Int) + 1) (by kernel_rfl) (IntWalk.i64_in _ (by omega)))
         refine wv 26 (.int .i64 ((i : Int) + 1)) ?_
         refine w_nil ?_
         have n99 := bnot_false b68
         have n100 := bnot_false b76
         have n101 := bnot_false b91
         have e1 : ((i : Int) - 1).toNat = i - 1 := by omega
         have ho : okAt f L x S i = true := by unfold okAt sameN; rw [← e1]; simp only [b37, b53, b61, n99, n100, n101, Bool.not_true, Bool.not_false, Bool.true_or, Bool.false_or, Bool.or_true, Bool.or_false, Bool.and_true, Bool.true_and, Bool.and_false, Bool.false_and]
         have H102 : Sat w [restC w (fun _ => False), cellC b2 36 ([(.int .i64 (f)), (.int .i64 (cn))] : List Value), cellC b6 47 (([(.int .i64 (x.cl)), (.int .i64 (x.seq))] : List Value) ++ hc x.h ++ ([(.int .i64 (x.len)), (.int .i64 (x.sb)), (.int .i64 (x.sm)), (.slice sa S.length sc)] : List Value))] w89 := H90.pick [0, 1, 2] (by decide)
         refine round_back ?_ _ ⟨(i + 1), (show ((.int .i64 ((i : Int) + 1)) : Value) = _ by first | rfl | go_num), (by omega), (fun j hj => by rcases Nat.lt_or_ge j i with h | h; exact hall j h; rw [show j = i by omega]; exact ho), H102, rfl⟩ (by omega)
         iterate 55 refine same_upd rfl ?_
         exact same_ovr
    ·have g103 := of_decide_eq_false b53
     refine q_know 36 (.bool false) (congrArg Value.bool b53) ?_
     have g104 := of_decide_eq_false b53
     iterate 10 refine qn 2 36 true ?_
     refine qv 47 (.bool false) ?_
     refine qv 48 (.bool false) ?_
     refine qy 14 48 false 49 (pt b46 1) ?_
     refine qy 14 48 false 50 (.agg ⟨([(.int .i64 ((S.getD i stamp0).cl)), (.int .i64 ((S.getD i stamp0).seq))] : List Value)⟩) ?_ (hr := fun _ H' => (e_loadN (vs := ([(.int .i64 ((S.getD i stamp0).cl)), (.int .i64 ((S.getD i stamp0).seq))] : List Value)) rfl (by kernel_rfl) (by kernel_rfl) (by exact Nat.le_of_ble_eq_true (by kernel_rfl)) (H'.at 3 rfl) (by kernel_rfl)))
     refine qy 14 48 false 51 (pt b6 0) ?_
     refine qy 14 48 false 52 (pt b6 0) ?_
     refine qy 14 48 false 53 (.agg ⟨([(.int .i64 (x.cl)), (.int .i64 (x.seq))] : List Value)⟩) ?_ (hr := fun _ H' => (e_loadN (vs := ([(.int .i64 (x.cl)), (.int .i64 (x.seq))] : List Value)) rfl (by kernel_rfl) (by kernel_rfl) (by exact Nat.le_of_ble_eq_true (by kernel_rfl)) (H'.at 2 rfl) (by kernel_rfl)))
     refine qy 14 48 false 54 (.bool (!(decide (((S.getD i stamp0).cl) = x.cl ∧ ((S.getD i stamp0).seq) = x.seq)))) ?_ (hr := fun _ H' => (e_neqName ((S.getD i stamp0).cl) ((S.getD i stamp0).seq) x.cl x.seq rfl rfl))
     refine qv 55 (.bool (!(decide (((S.getD i stamp0).cl) = x.cl ∧ ((S.getD i stamp0).seq) = x.seq)))) ?_
     refine qv 56 (.bool (!(decide (((S.getD i stamp0).cl) = x.cl ∧ ((S.getD i stamp0).seq) = x.seq)))) ?_
     refine (bsplit (!(decide (((S.getD i stamp0).cl) = x.cl ∧ ((S.getD i stamp0).seq) = x.seq)))).elim (fun b105 => ?_) (fun b105 => ?_)
     ·have g106 := bnot_true b105
      refine q_know 56 (.bool true) (congrArg Value.bool b105) ?_
      have g107 := bnot_true b105
      iterate 6 refine qn 22 56 false ?_
      refine qv 63 (.bool true) ?_
      refine qv 64 (.bool true) ?_
      iterate 5 refine qn 30 64 false ?_
      refine qv 70 (.bool true) ?_
      refine q_end ?_
      intro w108 H109
      refine then_normal ?_
      refine wp_ift rfl ?_
      refine w_seq ?_
      refine w_lit ?_
      refine wv 6 (.bool false) ?_
      refine w_nil ?_
      refine then_normal ?_
      refine w_ret ?_
      refine blk_ret ?_
      refine then_ret ?_
      refine back_ret ?_
      refine blk_ret ?_
      refine then_ret ?_
      refine end1 rfl (res_tmp (v := (.bool false)) rfl) ?_
      have n110 := bnot_true b105
      have e1 : ((i : Int) - 1).toNat = i - 1 := by omega
      have ho : okAt f L x S i = false := by unfold okAt sameN; rw [← e1]; simp only [b37, b53, n110, Bool.not_true, Bool.not_false, Bool.true_or, Bool.false_or, Bool.or_true, Bool.or_false, Bool.and_true, Bool.true_and, Bool.and_false, Bool.false_and]
      exact ⟨by simp only [rightX, all_not (show i < S.length by omega) ho, Bool.and_false], H109.upd 0 rfl [] (fun _ h => h.elim)⟩
     ·have g111 := bnot_false b105
      refine q_know 56 (.bool false) (congrArg Value.bool b105) ?_
      have g112 := bnot_false b105
      refine qy 22 56 false 57 (pt b46 3) ?_
      refine qy 22 56 false 58 (.agg ⟨(hc (S.getD i stamp0).h)⟩) ?_ (hr := fun _ H' => (e_loadN (vs := (hc (S.getD i stamp0).h)) rfl (by kernel_rfl) (by kernel_rfl) (by exact Nat.le_of_ble_eq_true (by kernel_rfl)) (H'.at 3 rfl) (by kernel_rfl)))
      refine qy 22 56 false 59 (pt b6 0) ?_
      refine qy 22 56 false 60 (pt b6 2) ?_
      refine qy 22 56 false 61 (.agg ⟨(hc x.h)⟩) ?_ (hr := fun _ H' => (e_loadN (vs := (hc x.h)) rfl (by kernel_rfl) (by kernel_rfl) (by exact Nat.le_of_ble_eq_true (by kernel_rfl)) (H'.at 2 rfl) (by kernel_rfl)))
      refine qy 22 56 false 62 (.bool (!(decide (((S.getD i stamp0).h) = x.h)))) ?_ (hr := fun _ H' => (e_neHash ((S.getD i stamp0).h) x.h rfl rfl))
      refine qv 63 (.bool (!(decide (((S.getD i stamp0).h) = x.h)))) ?_
      refine qv 64 (.bool (!(decide (((S.getD i stamp0).h) = x.h)))) ?_
      refine (bsplit (!(decide (((S.getD i stamp0).h) = x.h)))).elim (fun b113 => ?_) (fun b113 => ?_)
      ·have g114 := bnot_true b113
       have g115 := of_decide_eq_false g114
       refine q_know 64 (.bool true) (congrArg Value.bool b113) ?_
       have g116 := bnot_true b113
       have g117 := of_decide_eq_false g116
       iterate 5 refine qn 30 64 false ?_
       refine qv 70 (.bool true) ?_
       refine q_end ?_
       intro w118 H119
       refine then_normal ?_
       refine wp_ift rfl ?_
       refine w_seq ?_
       refine w_lit ?_
       refine wv 6 (.bool false) ?_
       refine w_nil ?_
       refine then_normal ?_
       refine w_ret ?_
       refine blk_ret ?_
       refine then_ret ?_
       refine back_ret ?_
       refine blk_ret ?_
       refine then_ret ?_
       refine end1 rfl (res_tmp (v := (.bool false)) rfl) ?_
       have n120 := bnot_false b105
       have n121 := bnot_true b113
       have e1 : ((i : Int) - 1).toNat = i - 1 := by omega
       have ho : okAt f L x S i = false := by unfold okAt sameN; rw [← e1]; simp only [b37, b53, n120, n121, Bool.not_true, Bool.not_false, Bool.true_or, Bool.false_or, Bool.or_true, Bool.or_false, Bool.and_true, Bool.true_and, Bool.and_false, Bool.false_and]
       exact ⟨by simp only [rightX, all_not (show i < S.length by omega) ho, Bool.and_false], H119.upd 0 rfl [] (fun _ h => h.elim)⟩
      ·have g122 := bnot_false b113
       have g123 := of_decide_eq_true g122
       refine q_know 64 (.bool false) (congrArg Value.bool b113) ?_
       have g124 := bnot_false b113
       have g125 := of_decide_eq_true g124
       refine qy 30 64 false 65 (.agg ⟨([(.int .i64 (f)), (.int .i64 (cn))] : List Value)⟩) ?_ (hr := fun _ H' => (e_loadN (vs := ([(.int .i64 (f)), (.int .i64 (cn))] : List Value)) rfl (by kernel_rfl) (by kernel_rfl) (by exact Nat.le_of_ble_eq_true (by kernel_rfl)) (H'.at 1 rfl) (by kernel_rfl)))
       refine qy 30 64 false 66 (pt r 0) ?_
       refine qy 30 64 false 67 (.agg ⟨(([(.int .i64 ((S.getD i stamp0).r)), (.int .i64 ((S.getD i stamp0).cl)), (.int .i64 ((S.getD i stamp0).seq))] : List Value) ++ hc (S.getD i stamp0).h ++ ([(.int .u64 ((S.getD i stamp0).t)), (.int .i64 ((S.getD i stamp0).sb)), (.int .i64 ((S.getD i stamp0).sm))] : List Value))⟩) ?_ (hr := fun _ H' => (e_loadN (vs := (([(.int .i64 ((S.getD i stamp0).r)), (.int .i64 ((S.getD i stamp0).cl)), (.int .i64 ((S.getD i stamp0).seq))] : List Value) ++ hc (S.getD i stamp0).h ++ ([(.int .u64 ((S.getD i stamp0).t)), (.int .i64 ((S.getD i stamp0).sb)), (.int .i64 ((S.getD i stamp0).sm))] : List Value))) rfl (by kernel_rfl) (by kernel_rfl) (by exact Nat.le_of_ble_eq_true (by kernel_rfl)) (H'.at 3 rfl) (by kernel_rfl)))
       refine q_call (wantsY 30 64 false rfl (by kernel_rfl) rfl (by kernel_rfl)) (d := 68) (v := (.bool (rightS f L (S.getD i stamp0)))) rfl (fun _ _ => by kernel_rfl) (fun w' H' => (rRightS_any w' f cn (by omega) r ra rc L (H'.roCk 0 rfl hb (fun _ _ h => h)) (H'.roCk 0 rfl hr (fun _ _ h => h)) hn hL (S.getD i stamp0) (hok _ (by omega))).mono fun _ _ h => ⟨h.1, H'.keepU h.2⟩) ?_
       refine qy 30 64 false 69 (.bool (!(rightS f L (S.getD i stamp0)))) ?_
       refine qv 70 (.bool (!(rightS f L (S.getD i stamp0)))) ?_
       refine q_end ?_
       intro w126 H127
       refine then_normal ?_
       refine (bsplit (!(rightS f L (S.getD i stamp0)))).elim (fun b128 => ?_) (fun b128 => ?_)
       ·have g129 := bnot_true b128
        refine wp_know 70 (.bool true) (congrArg Value.bool b128) ?_
        have g130 := bnot_true b128
        refine wp_ift rfl ?_
        refine w_seq ?_
        refine w_lit ?_
        refine wv 6 (.bool false) ?_
        refine w_nil ?_
        refine then_normal ?_
        refine w_ret ?_
        refine blk_ret ?_
        refine then_ret ?_
        refine back_ret ?_
        refine blk_ret ?_
        refine then_ret ?_
        refine end1 rfl (res_tmp (v := (.bool false)) rfl) ?_
        have n131 := bnot_false b105
        have n132 := bnot_false b113
        have n133 := bnot_true b128
        have e1 : ((i : Int) - 1).toNat = i - 1 := by omega
        have ho : okAt f L x S i = false := by unfold okAt sameN; rw [← e1]; simp only [b37, b53, n131, n132, n133, Bool.not_true, Bool.not_false, Bool.true_or, Bool.false_or, Bool.or_true, Bool.or_false, Bool.and_true, Bool.true_and, Bool.and_false, Bool.false_and]
        exact ⟨by simp only [rightX, all_not (show i < S.length by omega) ho, Bool.and_false], H127.upd 0 rfl [] (fun _ h => h.elim)⟩
       ·have g134 := bnot_false b128
        refine wp_know 70 (.bool false) (congrArg Value.bool b128) ?_
        have g135 := bnot_false b128
        refine wp_iff rfl ?_
        refine w_skip ?_
        refine blk_normal ?_
        refine then_normal ?_
        refine w_lit ?_
        refine wv 71 (.int .i64 ((i : Int) + 1)) ?_ (hr := e_int (z := (i : Int) + 1) (by kernel_rfl) (IntWalk.i64_in _ (by omega)))
        refine wv 26 (.int .i64 ((i : Int) + 1)) ?_
        refine w_nil ?_
        have n136 := bnot_false b105
        have n137 := bnot_false b113
        have n138 := bnot_false b128
        have e1 : ((i : Int) - 1).toNat = i - 1 := by omega
        have ho : okAt f L x S i = true := by unfold okAt sameN; rw [← e1]; simp only [b37, b53, n136, n137, n138, Bool.not_true, Bool.not_false, Bool.true_or, Bool.false_or, Bool.or_true, Bool.or_false, Bool.and_true, Bool.true_and, Bool.and_false, Bool.false_and]
        have H139 : Sat w [restC w (fun _ => False), cellC b2 36 ([(.int .i64 (f)), (.int .i64 (cn))] : List Value), cellC b6 47 (([(.int .i64 (x.cl)), (.int .i64 (x.seq))] : List Value) ++ hc x.h ++ ([(.int .i64 (x.len)), (.int .i64 (x.sb)), (.int .i64 (x.sm)), (.slice sa S.length sc)] : List Value))] w126 := H127.pick [0, 1, 2] (by decide)
        refine round_back ?_ _ ⟨(i + 1), (show ((.int .i64 ((i : Int) + 1)) : Value) = _ by first | rfl | go_num), (by omega), (fun j hj => by rcases Nat.lt_or_ge j i with h | h; exact hall j h; rw [show j = i by omega]; exact ho), H139, rfl⟩ (by omega)
        iterate 54 refine same_upd rfl ?_
        exact same_ovr
   ·have g140 := of_decide_eq_false b37
    refine wp_know 27 (.bool false) (congrArg Value.bool b37) ?_
    have g141 := of_decide_eq_false b37
    refine wp_iff rfl ?_
    refine w_exit ?_
    refine then_exit ?_
    refine back_exit ?_
    refine blk_hit ?_
    refine then_normal ?_
    refine w_seq ?_
    refine w_lit ?_
    refine wv 6 (.bool true) ?_
    refine w_nil ?_
    refine then_normal ?_
    refine w_ret ?_
    refine end1 rfl (res_tmp (v := (.bool true)) rfl) ?_
    have hn0 : i = S.length := by omega
    subst hn0
    exact ⟨by simp only [rightX, all_upto hall, n30, n31, Bool.not_true, Bool.not_false, Bool.true_or, Bool.false_or, Bool.or_true, Bool.or_false, Bool.and_true, Bool.true_and, Bool.and_false, Bool.false_and], H34.upd 0 rfl [] (fun _ h => h.elim)⟩

set_option maxRecDepth 100000 in
set_option maxHeartbeats 1000000 in
theorem rTime_any (w : World) (x : CommitD) (sa : Option Addr) (sc : Nat) (S : List StampD) (hS : ListAt encSt 38 w (.slice sa S.length sc) S) (hlS : S.length ≤ 12) :
  Calls Try.prog 23 #[(.agg ⟨(([(.int .i64 (x.cl)), (.int .i64 (x.seq))] : List Value) ++ hc x.h ++ ([(.int .i64 (x.len)), (.int .i64 (x.sb)), (.int .i64 (x.sm)), (.slice sa S.length sc)] : List Value))⟩)] w fun e w' => e = .returned (.int .u64 (timeD S)) ∧ Upd [] w w' := by
 have H := Sat.start0 w
 refine calls_fr Try.func23 rfl 29 rfl (Nat.le_of_ble_eq_true rfl) ?_
 refine w_seq ?_
 refine w_lit ?_
 refine wl_do (wants0 rfl) (fun K1 hK1 => ?_)
 refine d_box (vs := (([(.int .i64 (x.cl)), (.int .i64 (x.seq))] : List Value) ++ hc x.h ++ ([(.int .i64 (x.len)), (.int .i64 (x.sb)), (.int .i64 (x.sm)), (.slice sa S.length sc)] : List Value))) rfl H rfl rfl ?_
 intro b2 w3 (H4 : Sat w [restC w (fun _ => False), cellC b2 47 (([(.int .i64 (x.cl)), (.int .i64 (x.seq))] : List Value) ++ hc x.h ++ ([(.int .i64 (x.len)), (.int .i64 (x.sb)), (.int .i64 (x.sm)), (.slice sa S.length sc)] : List Value))] w3)
 refine hK1 _ _ ?_
 clear hK1 K1
 refine wv 2 (.int .u64 (0)) ?_
 refine w_nil ?_
 refine then_normal ?_
 refine w_seq ?_
 refine w_lit ?_
 refine wv 3 (.slice none 0 0) ?_
 refine w_nil ?_
 refine then_normal ?_
 iterate 2 refine w_seq ?_
 refine w_lit ?_
 refine wv 7 (pt b2 37) ?_
 refine wv 8 (.slice sa S.length sc) ?_ (hr := e_load1 rfl (by kernel_rfl) (H4.cell 1 rfl (by kernel_rfl)))
 refine wv 9 (.int .i64 ((S.length : Int))) ?_
 refine wv 10 (.int .i64 (0)) ?_
 refine w_nil ?_
 refine then_normal ?_
 refine w_block ?_
 have H5 := H4.addNil 23 1
 refine wp_round [3, 4, 10, 11, 12, 13, 14, 15, 16, 17, 18, 19, 20, 21, 22] (fun F_ W_ m_ => ∃ (i : Nat) (a : Option Addr) (c : Nat) (D : List Int), F_ 10 = (.int .i64 ((i : Int))) ∧ F_ 3 = (.slice a D.length c) ∧ (i ≤ S.length) ∧ (D = timesD (S.take i)) ∧ Sat w [restC w (fun _ => False), cellC b2 47 (([(.int .i64 (x.cl)), (.int .i64 (x.seq))] : List Value) ++ hc x.h ++ ([(.int .i64 (x.len)), (.int .i64 (x.sb)), (.int .i64 (x.sm)), (.slice sa S.length sc)] : List Value)), rowC 23 1 (.slice a D.length c) D.length (D.flatMap encU)] W_ ∧ m_ = S.length - i) _ ⟨0, none, 0, [], (show ((.int .i64 (0)) : Value) = _ by first | rfl | go_num), (by first | rfl | go_num), (Nat.zero_le _), rfl, H5, rfl⟩ ?_
 rintro g6 w7 _ ⟨i, a, c, D, v9, v10, hi, hD, H8, rfl⟩
 refine wp_know 10 _ v9 ?_
 refine wp_know 3 _ v10 ?_
 have hDl : D.length = i := by rw [hD, times_len, List.length_take]; omega
 refine w_seq ?_
 refine w_lit ?_
 refine wv 11 (.bool (decide ((i : Int) < (S.length : Int)))) ?_
 refine w_nil ?_
 refine then_normal ?_
 refine w_seq ?_
 refine (bsplit (decide ((i : Int) < (S.length : Int)))).elim (fun b12 => ?_) (fun b12 => ?_)
 ·have g13 := of_decide_eq_true b12
  refine wp_know 11 (.bool true) (congrArg Value.bool b12) ?_
  have g14 := of_decide_eq_true b12
  refine wp_ift rfl ?_
  refine w_skip ?_
  refine then_normal ?_
  refine w_seq ?_
  refine w_block ?_
  refine w_seq ?_
  refine w_lit ?_
  refine wv 12 (.int .i64 ((i : Int))) ?_
  refine wv 4 (.int .i64 ((i : Int))) ?_
  refine w_nil ?_
  refine then_normal ?_
  refine w_lit ?_
  refine wv 13 (.slice a D.length c) ?_
  refine wv 14 (pt b2 37) ?_
  refine wv 15 (.slice sa S.length sc) ?_ (hr := e_load1 rfl (by kernel_rfl) (H8.cell 1 rfl (by kernel_rfl)))
  refine wv 16 (.int .i64 ((i : Int))) ?_
  obtain ⟨g15, o16, c17, e18, R19⟩ := SliceOf.atD hS stamp0 (show i < S.length by omega)
  refine wv 17 (.pointer (some ⟨g15, o16 + ((i : Int)).toNat * 38, none⟩)) ?_ (hr := e_indexAddrW (E := 49) (by kernel_rfl) (by kernel_rfl) (Nat.le_of_ble_eq_true rfl) rfl e18 rfl (by omega) (by omega))
  refine wv 18 (.pointer (some ⟨g15, o16 + ((i : Int)).toNat * 38 + 35, none⟩)) ?_
  refine wv 19 (.int .u64 ((S.getD i stamp0).t)) ?_ (hr := e_load1 rfl (by kernel_rfl) (H8.cellR 0 rfl (cells_at R19 35 (by kernel_rfl) (show o16 + ((i : Int)).toNat * 38 + 35 = o16 + i * 38 + 35 by omega)) (fun h => h)))
  refine wl_do (wants0 rfl) (fun K20 hK20 => ?_)
  refine d_buildSlice (e := 23) (size := 1) (bytes := 8) (z := (.int .u64 (0))) (pvs := [(0, (.int .u64 ((S.getD i stamp0).t)))]) (vs := ([(.int .u64 ((S.getD i stamp0).t))] : List Value)) rfl H8 (by kernel_rfl) (by kernel_rfl) (by kernel_rfl) (by kernel_rfl) (by kernel_rfl) rfl rfl ?_
  intro b21 w22 (H23 : Sat w [restC w (fun _ => False), cellC b2 47 (([(.int .i64 (x.cl)), (.int .i64 (x.seq))] : List Value) ++ hc x.h ++ ([(.int .i64 (x.len)), (.int .i64 (x.sb)), (.int .i64 (x.sm)), (.slice sa S.length sc)] : List Value)), rowC 23 1 (.slice a D.length c) D.length (D.flatMap encU), rowC 23 1 (.slice (some ⟨b21, 0, none⟩) 1 1) 1 ([(.int .u64 ((S.getD i stamp0).t))] : List Value)] w22)
  have H24 : Sat w [restC w (fun _ => False), cellC b2 47 (([(.int .i64 (x.cl)), (.int .i64 (x.seq))] : List Value) ++ hc x.h ++ ([(.int .i64 (x.len)), (.int .i64 (x.sb)), (.int .i64 (x.sm)), (.slice sa S.length sc)] : List Value)), rowC 23 1 (.slice a D.length c) D.length (D.flatMap encU), rowC 23 1 (.slice (some ⟨b21, 0, none⟩) 1 1) 1 ([(S.getD i stamp0).t].flatMap encU)] w22 := H23.cast (by rw [show (([(.int .u64 ((S.getD i stamp0).t))] : List Value) : List Value) = [(S.getD i stamp0).t].flatMap encU from rfl])
  refine hK20 _ _ ?_
  clear hK20 K20
  refine wl_do (wants0 rfl) (fun K25 hK25 => ?_)
  refine d_append (T := 22) (e := 23) (size := 1) (bytes := 8) rfl H24 (by kernel_rfl) 2 3 rfl rfl rfl rfl (flat_one encU encU_one [(S.getD i stamp0).t]) (by omega) (by omega) ?_
  intro v26 w27 (H28 : Sat w [restC w (fun _ => False), cellC b2 47 (([(.int .i64 (x.cl)), (.int .i64 (x.seq))] : List Value) ++ hc x.h ++ ([(.int .i64 (x.len)), (.int .i64 (x.sb)), (.int .i64 (x.sm)), (.slice sa S.length sc)] : List Value)), rowC 23 1 v26 (D.length + 1) ((D.flatMap encU) ++ ([(S.getD i stamp0).t].flatMap encU)), rowC 23 1 (.slice (some ⟨b21, 0, none⟩) 1 1) 1 ([(S.getD i stamp0).t].flatMap encU)] w27)
  have H31 : Sat w [restC w (fun _ => False), cellC b2 47 (([(.int .i64 (x.cl)), (.int .i64 (x.seq))] : List Value) ++ hc x.h ++ ([(.int .i64 (x.len)), (.int .i64 (x.sb)), (.int .i64 (x.sm)), (.slice sa S.length sc)] : List Value)), rowC 23 1 v26 ((D ++ [(S.getD i stamp0).t]).length) ((D ++ [(S.getD i stamp0).t]).flatMap encU), rowC 23 1 (.slice (some ⟨b21, 0, none⟩) 1 1) 1 ([(S.getD i stamp0).t].flatMap encU)] w27 := H28.cast (by simp only [List.length_append, List.flatMap_append] <;> rfl)
  obtain ⟨a29, c30, rfl⟩ := ownsRow_shape (H31.at 2 rfl)
  refine hK25 _ _ ?_
  clear hK25 K25
  refine wv 3 (.slice a29 ((D ++ [(S.getD i stamp0).t]).length) c30) ?_
  refine w_nil ?_
  refine blk_normal ?_
  refine then_normal ?_
  refine w_lit ?_
  refine wv 22 (.int .i64 ((i : Int) + 1)) ?_ (hr := e_int (z := (i : Int) + 1) (by kernel_rfl) (IntWalk.i64_in _ (by omega)))
  refine wv 10 (.int .i64 ((i : Int) + 1)) ?_
  refine w_nil ?_
  have hDl : D.length = i := by rw [hD, times_len, List.length_take]; omega
  have H32 : Sat w [restC w (fun _ => False), cellC b2 47 (([(.int .i64 (x.cl)), (.int .i64 (x.seq))] : List Value) ++ hc x.h ++ ([(.int .i64 (x.len)), (.int .i64 (x.sb)), (.int .i64 (x.sm)), (.slice sa S.length sc)] : List Value)), rowC 23 1 (.slice a29 ((D ++ [(S.getD i stamp0).t]).length) c30) ((D ++ [(S.getD i stamp0).t]).length) ((D ++ [(S.getD i stamp0).t]).flatMap encU)] w27 := H31.pick [0, 1, 2] (by decide)
  refine round_back ?_ _ ⟨(i + 1), a29, c30, (D ++ [(S.getD i stamp0).t]), (show ((.int .i64 ((i : Int) + 1)) : Value) = _ by first | rfl | go_num), (show ((.slice a29 ((D ++ [(S.getD i stamp0).t]).length) c30) : Value) = _ by first | rfl | go_num), (by omega), (by rw [hD, times_step S (by omega)]), H32, rfl⟩ (by omega)
  iterate 18 refine same_upd rfl ?_
  exact same_ovr
 ·have g33 := of_decide_eq_false b12
  refine wp_know 11 (.bool false) (congrArg Value.bool b12) ?_
  have g34 := of_decide_eq_false b12
  refine wp_iff rfl ?_
  refine w_exit ?_
  refine then_exit ?_
  refine back_exit ?_
  refine blk_hit ?_
  refine then_normal ?_
  refine w_seq ?_
  refine w_lit ?_
  refine wv 24 (.slice a D.length c) ?_
  refine wl_do (wants0 rfl) (fun K35 hK35 => ?_)
  refine d_call (d := 25) rfl (by kernel_rfl) (medR_any w7 (.slice a D.length c) D (ListAt.row (enc := encU) (sz := 1) encU_len (by decide) (H8.at 2 rfl)) (by omega)) ?_
  rintro _ w36 ⟨rfl, u38⟩
  have H37 := H8.keepU u38
  refine ⟨_, rfl, ?_⟩
  refine hK35 _ _ ?_
  clear hK35 K35
  refine wv 23 (.tuple #[(.int .u64 (medV D)), (.bool (decide (D.length % 2 = 1)))]) ?_
  refine wv 26 (.int .u64 (medV D)) ?_
  refine wv 27 (.bool (decide (D.length % 2 = 1))) ?_
  refine wv 5 (.int .u64 (medV D)) ?_
  refine wv 6 (.bool (decide (D.length % 2 = 1))) ?_
  refine w_nil ?_
  refine then_normal ?_
  refine w_seq ?_
  refine w_lit ?_
  refine wv 28 (.int .u64 (medV D)) ?_
  refine wv 2 (.int .u64 (medV D)) ?_
  refine w_nil ?_
  refine then_normal ?_
  refine w_ret ?_
  refine end1 rfl (res_tmp (v := (.int .u64 (medV D))) rfl) ?_
  have hT : D = timesD S := by rw [hD, List.take_of_length_le (by omega)]
  exact ⟨by unfold timeD; rw [← hT], H37.upd 0 rfl [] (fun _ h => h.elim)⟩

end Go.Proofs.Ytbpeofcoceaahaa
