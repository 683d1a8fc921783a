/- WHAT IS PROVED: the contracts of a core's small functions. Conditions: stated with each. -/
import Derived.Test.YthjmbhneifjeeaaShort
import Derived.Test.YthjmbhneifjeeaaFar
namespace Go.Proofs.Ythjmbhneifjeeaa
open Go.RowKit

set_option maxRecDepth 100000 in
set_option maxHeartbeats 400000 in
theorem wireQuorum_any (w : World) (f c : Int) (hf : -1000000 ≤ f ∧ f ≤ 1000000) :
  Calls Try.prog 66 #[(.agg ⟨([(.int .i64 (f)), (.int .i64 (c))] : List Value)⟩)] w fun e w' => e = .returned (.int .i64 (2 * f + 1)) ∧ Upd [] w w' := by
 have H := Sat.start0 w
 refine calls_fr Try.func66 rfl 7 rfl (Nat.le_of_ble_eq_true rfl) ?_
 refine w_seq ?_
 refine w_lit ?_
 refine wl_do (wants0 rfl) (fun K1 hK1 => ?_)
 refine d_box (vs := ([(.int .i64 (f)), (.int .i64 (c))] : List Value)) rfl H rfl rfl ?_
 intro b2 w3 (H4 : Sat w [restC w (fun _ => False), cellC b2 25 ([(.int .i64 (f)), (.int .i64 (c))] : List Value)] w3)
 refine hK1 _ _ ?_
 clear hK1 K1
 refine wv 2 (.int .i64 (0)) ?_
 refine w_nil ?_
 refine then_normal ?_
 refine w_seq ?_
 refine w_lit ?_
 refine wv 3 (pt b2 0) ?_
 refine wv 4 (.int .i64 (f)) ?_ (hr := e_load1 rfl (by kernel_rfl) (H4.cell 1 rfl rfl))
 refine wv 5 (.int .i64 (2 * f)) ?_ (hr := e_int (z := 2 * f) (by kernel_rfl) (IntWalk.i64_in _ (by omega)))
 refine wv 6 (.int .i64 ((2 * f) + 1)) ?_ (hr := e_int (z := (2 * f) + 1) (by kernel_rfl) (IntWalk.i64_in _ (by omega)))
 refine wv 2 (.int .i64 ((2 * f) + 1)) ?_
 refine w_nil ?_
 refine then_normal ?_
 refine w_ret ?_
 refine end1 rfl (res_tmp (v := (.int .i64 ((2 * f) + 1))) rfl) ?_
 exact ⟨rfl, H4.upd 0 rfl [] (fun _ h => h.elim)⟩

set_option maxRecDepth 100000 in
set_option maxHeartbeats 400000 in
theorem coreProposer_any (w : World) (f c : Int) (hf : 1 ≤ f ∧ f ≤ 1000000) (ep r : Int) :
  Calls Try.prog 22 #[(.agg ⟨([(.int .i64 (f)), (.int .i64 (c))] : List Value)⟩), (.int .i64 (ep)), (.int .i64 (r))] w fun e w' => e = .returned (.int .i64 (proposerV f ep r)) ∧ Upd [] w w' := by
 have H := Sat.start0 w
 have q1 := Int.emod_nonneg (max 0 ep) (show (3 * f + 1) ≠ 0 by omega)
 have q2 := Int.emod_lt_of_pos (max 0 ep) (show 0 < (3 * f + 1) by omega)
 have q3 := Int.emod_nonneg (max 0 r) (show (3 * f + 1) ≠ 0 by omega)
 have q4 := Int.emod_lt_of_pos (max 0 r) (show 0 < (3 * f + 1) by omega)
 refine calls_fr Try.func22 rfl 23 rfl (Nat.le_of_ble_eq_true rfl) ?_
 refine w_seq ?_
 refine w_lit ?_
 refine wl_do (wants0 rfl) (fun K1 hK1 => ?_)
 refine d_box (vs := ([(.int .i64 (f)), (.int .i64 (c))] : List Value)) rfl H rfl rfl ?_
 intro b2 w3 (H4 : Sat w [restC w (fun _ => False), cellC b2 25 ([(.int .i64 (f)), (.int .i64 (c))] : List Value)] w3)
 refine hK1 _ _ ?_
 clear hK1 K1
 refine wv 6 (.int .i64 (0)) ?_
 refine w_nil ?_
 refine then_normal ?_
 refine w_seq ?_
 refine w_lit ?_
 refine wv 8 (.agg ⟨([(.int .i64 (f)), (.int .i64 (c))] : List Value)⟩) ?_ (hr := e_loadN (vs := ([(.int .i64 (f)), (.int .i64 (c))] : List Value)) rfl (by kernel_rfl) (by kernel_rfl) (by exact Nat.le_of_ble_eq_true (by kernel_rfl)) (H4.at 1 rfl) (by kernel_rfl))
 refine wl_do (wants0 rfl) (fun K5 hK5 => ?_)
 refine d_call (d := 9) rfl (by kernel_rfl) (wireN_any w3 f c (by omega)) ?_
 rintro _ w6 ⟨rfl, u8⟩
 have H7 := H4.keepU u8
 refine ⟨_, rfl, ?_⟩
 refine hK5 _ _ ?_
 clear hK5 K5
 refine wv 7 (.int .i64 (3 * f + 1)) ?_
 refine w_nil ?_
 refine then_normal ?_
 iterate 2 refine w_seq ?_
 refine w_lit ?_
 refine wv 10 (.int .i64 (3 * f + 1)) ?_
 refine wv 11 (.bool (decide ((3 * f + 1) < 1))) ?_
 refine w_nil ?_
 refine then_normal ?_
 have b9 : (decide ((3 * f + 1) < 1)) = false := by simp; omega
 refine wp_know 11 (.bool false) (congrArg Value.bool b9) ?_
 refine wp_iff rfl ?_
 refine w_skip ?_
 refine then_normal ?_
 refine w_seq ?_
 refine q_start H7 (by kernel_rfl) (by kernel_rfl) ?_
 refine qv 12 (.int .i64 (ep)) ?_
 refine qv 13 (.int .i64 (max (0 : Int) ep)) ?_ (hr := fun _ H' => (e_maxI (k := .i64) (a := 0) (b := ep) (z := max (0 : Int) ep) rfl rfl rfl))
 refine qv 14 (.int .i64 (3 * f + 1)) ?_
 refine qv 15 (.int .i64 ((max (0 : Int) ep) % (3 * f + 1))) ?_ (hr := fun _ H' => (e_rem (by kernel_rfl) (by omega) (by omega)))
 refine qv 16 (.int .i64 (r)) ?_
 refine qv 17 (.int .i64 (max (0 : Int) r)) ?_ (hr := fun _ H' => (e_maxI (k := .i64) (a := 0) (b := r) (z := max (0 : Int) r) rfl rfl rfl))
 refine qv 18 (.int .i64 (3 * f + 1)) ?_
 refine qv 19 (.int .i64 ((max (0 : Int) r) % (3 * f + 1))) ?_ (hr := fun _ H' => (e_rem (by kernel_rfl) (by omega) (by omega)))
 refine qv 20 (.int .i64 (((max (0 : Int) ep) % (3 * f + 1)) + ((max (0 : Int) r) % (3 * f + 1)))) ?_ (hr := fun _ H' => (e_int (z := ((max (0 : Int) ep) % (3 * f + 1)) + ((max (0 : Int) r) % (3 * f + 1))) (by kernel_rfl) (IntWalk.i64_in _ (by omega))))
 refine qv 21 (.int .i64 (3 * f + 1)) ?_
 refine qv 22 (.int .i64 ((((max (0 : Int) ep) % (3 * f + 1)) + ((max (0 : Int) r) % (3 * f + 1))) % (3 * f + 1))) ?_ (hr := fun _ H' => (e_rem (by kernel_rfl) (by omega) (by omega)))
 refine qv 6 (.int .i64 ((((max (0 : Int) ep) % (3 * f + 1)) + ((max (0 : Int) r) % (3 * f + 1))) % (3 * f + 1))) ?_
 refine q_end ?_
 intro w10 H11
 refine then_normal ?_
 refine w_ret ?_
 refine end1 rfl (res_tmp (v := (.int .i64 ((((max (0 : Int) ep) % (3 * f + 1)) + ((max (0 : Int) r) % (3 * f + 1))) % (3 * f + 1)))) rfl) ?_
 exact ⟨rfl, H11.upd 0 rfl [] (fun _ h => h.elim)⟩

set_option maxRecDepth 100000 in
set_option maxHeartbeats 400000 in
theorem coreTimer_any (w : World) (k : Nat) (cells : List Value) (T : TypeId) (r : Int) (hb : w.heap[k]? = some (.cells ⟨cells⟩ T (0, 0))) (x : Int) (hr : cells[4]? = some (.int .i64 r) := by kernel_rfl) :
  Calls Try.prog 50 #[(.pointer (some ⟨k, 0, none⟩)), (.int .i64 (x))] w fun e w' => e = .returned (.agg ⟨[.int .i64 4, .int .i64 r, .int .i64 x] ++ hc hash0⟩) ∧ Upd [] w w' := by
 have H := Sat.start0 w
 refine calls_fr Try.func50 rfl 12 rfl (Nat.le_of_ble_eq_true rfl) ?_
 refine w_seq ?_
 refine w_lit ?_
 refine wl_do (wants0 rfl) (fun K1 hK1 => ?_)
 refine d_alloc (zs := (([(.int .i64 (0)), (.int .i64 (0)), (.int .i64 (0))] : List Value) ++ hc hash0)) (z := (.agg ⟨(([(.int .i64 (0)), (.int .i64 (0)), (.int .i64 (0))] : List Value) ++ hc hash0)⟩)) rfl H (by kernel_rfl) (by kernel_rfl) ?_
 intro b2 w3 (H4 : Sat w [restC w (fun _ => False), cellC b2 45 (([(.int .i64 (0)), (.int .i64 (0)), (.int .i64 (0))] : List Value) ++ hc hash0)] w3)
 refine hK1 _ _ ?_
 clear hK1 K1
 refine w_nil ?_
 refine then_normal ?_
 refine w_seq ?_
 refine w_lit ?_
 refine wv 5 (pt k 0) ?_
 refine wv 6 (pt k 0) ?_
 refine wv 7 (pt k 4) ?_
 refine wv 8 (pt k 4) ?_
 refine wv 9 (.int .i64 (r)) ?_ (hr := e_load1 rfl (by kernel_rfl) (H4.roCell 0 rfl hb (fun h => h) hr))
 refine wv 10 (.int .i64 (x)) ?_
 refine wv 11 (.agg ⟨(([(.int .i64 (4)), (.int .i64 (r)), (.int .i64 (x))] : List Value) ++ hc hash0)⟩) ?_
 refine wl_do (wants0 rfl) (fun K5 hK5 => ?_)
 refine d_store (vs := (([(.int .i64 (4)), (.int .i64 (r)), (.int .i64 (x))] : List Value) ++ hc hash0)) rfl H4 1 rfl rfl rfl rfl (by kernel_rfl) (Nat.le_of_ble_eq_true (by kernel_rfl)) (Nat.le_of_ble_eq_true (by kernel_rfl)) (by kernel_rfl) ?_
 intro w6 (H7 : Sat w [restC w (fun _ => False), cellC b2 45 (([(.int .i64 (4)), (.int .i64 (r)), (.int .i64 (x))] : List Value) ++ hc hash0)] w6)
 refine hK5 _ _ ?_
 clear hK5 K5
 refine w_nil ?_
 refine then_normal ?_
 refine w_ret ?_
 refine end1 rfl (res_cellN (vs := (([(.int .i64 (4)), (.int .i64 (r)), (.int .i64 (x))] : List Value) ++ hc hash0)) rfl (by kernel_rfl) (by kernel_rfl) (by exact Nat.le_of_ble_eq_true (by kernel_rfl)) (H7.at 1 rfl) (by kernel_rfl)) ?_
 exact ⟨rfl, H7.upd 0 rfl [] (fun _ h => h.elim)⟩

set_option maxRecDepth 100000 in
set_option maxHeartbeats 400000 in
theorem coreEnter_any (w : World) (k t hb cb ab lb pb : Nat) (D : CoreD) (hT : (coreC k t hb cb ab lb pb D).ok w) (h : CI D) (r : Int) :
  Calls Try.prog 35 #[(.pointer (some ⟨k, 0, none⟩)), (.int .i64 (r))] w fun e w' => ∃ v, e = .returned v ∧ Sat w [cellC k 92 (coreL t pb (nextD D r)), talC t hb cb ab lb (nextD D r).f (nextD D r).c (nextD D r).L, mapC pb (Value.int .i64) propV (nextD D r).P, rowC 45 35 v (nextA D r).length ((nextA D r).flatMap encA), restC w (coreC k t hb cb ab lb pb D).fp] w' := by
 have H : Sat w [cellC k 92 (coreL t pb D), talC t hb cb ab lb D.f D.c D.L, mapC pb (Value.int .i64) propV D.P, restC w (coreC k t hb cb ab lb pb D).fp] w := Sat.start _ hT
 have hf := h.f
 have hep := h.ep
 have hrp := h.rp
 have hrd := h.rd
 have hst := h.st
 have hvo := h.votes
 refine calls_fr Try.func35 rfl 56 rfl (Nat.le_of_ble_eq_true rfl) ?_
 refine w_seq ?_
 refine w_lit ?_
 refine wv 4 (.slice none 0 0) ?_
 refine w_nil ?_
 refine then_normal ?_
 iterate 2 refine w_seq ?_
 refine w_lit ?_
 refine wv 5 (.int .i64 (r)) ?_
 refine wv 6 (.bool (decide (r > 1048576))) ?_
 refine w_nil ?_
 refine then_normal ?_
 refine (bsplit (decide (r > 1048576))).elim (fun b1 => ?_) (fun b1 => ?_)
 ·have g2 := of_decide_eq_true b1
  refine wp_know 6 (.bool true) (congrArg Value.bool b1) ?_
  refine wp_ift rfl ?_
  refine w_seq ?_
  refine w_lit ?_
  refine wv 4 (.slice none 0 0) ?_
  refine w_nil ?_
  refine then_normal ?_
  refine w_ret ?_
  refine then_ret ?_
  refine end1 rfl (res_tmp (v := (.slice none 0 0)) rfl) ?_
  rw [show nextD D r = D by unfold nextD; rw [if_neg (by have := of_decide_eq_true b1; omega)], show nextA D r = [] by unfold nextA; rw [if_neg (by have := of_decide_eq_true b1; omega)]]
  have Hn := H.addNil 45 35
  exact ⟨_, rfl, (Hn.pick [0, 1, 2, 4, 3] (by decide)).cast (by kernel_rfl)⟩
 ·have g3 := of_decide_eq_false b1
  refine wp_know 6 (.bool false) (congrArg Value.bool b1) ?_
  refine wp_iff rfl ?_
  refine w_skip ?_
  refine then_normal ?_
  refine w_seq ?_
  refine w_lit ?_
  refine wv 7 (pt k 0) ?_
  refine wv 8 (pt k 0) ?_
  refine wv 9 (.int .i64 (r)) ?_
  refine wv 10 (pt k 0) ?_
  refine wv 11 (pt k 4) ?_
  refine wv 12 (pt k 4) ?_
  refine wl_do (wants0 rfl) (fun K4 hK4 => ?_)
  refine d_storeX (vs := ([(.int .i64 (r))] : List Value)) (cs' := (coreW D.f D.c D.epoch D.replica r D.s.step D.s.lr D.s.vr D.s.locked D.s.valid D.s.decided D.s.decision t pb D.wv D.sp D.sc)) rfl H 0 rfl rfl rfl rfl (by kernel_rfl) (Nat.le_of_ble_eq_true (by kernel_rfl)) (Nat.le_of_ble_eq_true (by kernel_rfl)) (by kernel_rfl) (by kernel_rfl) ?_
  intro w5 (H6 : Sat w [cellC k 92 (coreW D.f D.c D.epoch D.replica r D.s.step D.s.lr D.s.vr D.s.locked D.s.valid D.s.decided D.s.decision t pb D.wv D.sp D.sc), talC t hb cb ab lb D.f D.c D.L, mapC pb (Value.int .i64) propV D.P, restC w (coreC k t hb cb ab lb pb D).fp] w5)
  refine hK4 _ _ ?_
  clear hK4 K4
  refine wv 13 (pt k 0) ?_
  refine wv 14 (pt k 4) ?_
  refine wv 15 (pt k 5) ?_
  refine wl_do (wants0 rfl) (fun K8 hK8 => ?_)
  refine d_storeX (vs := ([(.int .i64 (1))] : List Value)) (cs' := (coreW D.f D.c D.epoch D.replica r 1 D.s.lr D.s.vr D.s.locked D.s.valid D.s.decided D.s.decision t pb D.wv D.sp D.sc)) rfl H6 0 rfl rfl rfl rfl (by kernel_rfl) (Nat.le_of_ble_eq_true (by kernel_rfl)) (Nat.le_of_ble_eq_true (by kernel_rfl)) (by kernel_rfl) (by kernel_rfl) ?_
  intro w9 (H10 : Sat w [cellC k 92 (coreW D.f D.c D.epoch D.replica r 1 D.s.lr D.s.vr D.s.locked D.s.valid D.s.decided D.s.decision t pb D.wv D.sp D.sc), talC t hb cb ab lb D.f D.c D.L, mapC pb (Value.int .i64) propV D.P, restC w (coreC k t hb cb ab lb pb D).fp] w9)
  refine hK8 _ _ ?_
  clear hK8 K8
  refine w_nil ?_
  refine then_normal ?_
  refine w_seq ?_
  refine w_lit ?_
  refine wv 16 (pt k 0) ?_
  refine wv 17 (pt k 0) ?_
  refine wv 18 (pt k 0) ?_
  refine wv 19 (pt k 0) ?_
  refine wv 20 (pt k 107) ?_
  refine wl_do (wants0 rfl) (fun K12 hK12 => ?_)
  refine d_storeX (vs := ([(.bool false)] : List Value)) (cs' := (coreW D.f D.c D.epoch D.replica r 1 D.s.lr D.s.vr D.s.locked D.s.valid D.s.decided D.s.decision t pb false D.sp D.sc)) rfl H10 0 rfl rfl rfl rfl (by kernel_rfl) (Nat.le_of_ble_eq_true (by kernel_rfl)) (Nat.le_of_ble_eq_true (by kernel_rfl)) (by kernel_rfl) (by kernel_rfl) ?_
  intro w13 (H14 : Sat w [cellC k 92 (coreW D.f D.c D.epoch D.replica r 1 D.s.lr D.s.vr D.s.locked D.s.valid D.s.decided D.s.decision t pb false D.sp D.sc), talC t hb cb ab lb D.f D.c D.L, mapC pb (Value.int .i64) propV D.P, restC w (coreC k t hb cb ab lb pb D).fp] w13)
  refine hK12 _ _ ?_
  clear hK12 K12
  refine wv 21 (pt k 0) ?_
  refine wv 22 (pt k 108) ?_
  refine wl_do (wants0 rfl) (fun K16 hK16 => ?_)
  refine d_storeX (vs := ([(.bool false)] : List Value)) (cs' := (coreW D.f D.c D.epoch D.replica r 1 D.s.lr D.s.vr D.s.locked D.s.valid D.s.decided D.s.decision t pb false false D.sc)) rfl H14 0 rfl rfl rfl rfl (by kernel_rfl) (Nat.le_of_ble_eq_true (by kernel_rfl)) (Nat.le_of_ble_eq_true (by kernel_rfl)) (by kernel_rfl) (by kernel_rfl) ?_
  intro w17 (H18 : Sat w [cellC k 92 (coreW D.f D.c D.epoch D.replica r 1 D.s.lr D.s.vr D.s.locked D.s.valid D.s.decided D.s.decision t pb false false D.sc), talC t hb cb ab lb D.f D.c D.L, mapC pb (Value.int .i64) propV D.P, restC w (coreC k t hb cb ab lb pb D).fp] w17)
  refine hK16 _ _ ?_
  clear hK16 K16
  refine wv 23 (pt k 0) ?_
  refine wv 24 (pt k 109) ?_
  refine wl_do (wants0 rfl) (fun K20 hK20 => ?_)
  refine d_storeX (vs := ([(.bool false)] : List Value)) (cs' := (coreW D.f D.c D.epoch D.replica r 1 D.s.lr D.s.vr D.s.locked D.s.valid D.s.decided D.s.decision t pb false false false)) rfl H18 0 rfl rfl rfl rfl (by kernel_rfl) (Nat.le_of_ble_eq_true (by kernel_rfl)) (Nat.le_of_ble_eq_true (by kernel_rfl)) (by kernel_rfl) (by kernel_rfl) ?_
  intro w21 (H22 : Sat w [cellC k 92 (coreW D.f D.c D.epoch D.replica r 1 D.s.lr D.s.vr D.s.locked D.s.valid D.s.decided D.s.decision t pb false false false), talC t hb cb ab lb D.f D.c D.L, mapC pb (Value.int .i64) propV D.P, restC w (coreC k t hb cb ab lb pb D).fp] w21)
  refine hK20 _ _ ?_
  clear hK20 K20
  refine w_nil ?_
  refine then_normal ?_
  iterate 2 refine w_seq ?_
  refine q_start H22 (by kernel_rfl) (by kernel_rfl) ?_
  refine qv 25 (pt k 0) ?_
  refine qv 26 (pt k 0) ?_
  refine qv 27 (pt k 0) ?_
  refine qv 28 (.agg ⟨([(.int .i64 (D.f)), (.int .i64 (D.c))] : List Value)⟩) ?_ (hr := fun _ H' => (e_loadN (vs := ([(.int .i64 (D.f)), (.int .i64 (D.c))] : List Value)) rfl (by kernel_rfl) (by kernel_rfl) (by exact Nat.le_of_ble_eq_true (by kernel_rfl)) (H'.at 0 rfl) (by kernel_rfl)))
  refine qv 29 (pt k 0) ?_
  refine qv 30 (pt k 0) ?_
  refine qv 31 (pt k 2) ?_
  refine qv 32 (.int .i64 (D.epoch)) ?_ (hr := fun _ H' => (e_load1 rfl (by kernel_rfl) (H'.cell 0 rfl (by kernel_rfl))))
  refine qv 33 (.int .i64 (r)) ?_
  refine q_call (wants0 rfl) (d := 34) (v := (.int .i64 (proposerV D.f D.epoch r))) rfl (fun _ _ => by kernel_rfl) (fun w' H' => (coreProposer_any w' D.f D.c (by omega) D.epoch r).mono fun _ _ h => ⟨h.1, H'.keepU h.2⟩) ?_
  refine qv 35 (pt k 0) ?_
  refine qv 36 (pt k 0) ?_
  refine qv 37 (pt k 3) ?_
  refine qv 38 (.int .i64 (D.replica)) ?_ (hr := fun _ H' => (e_load1 rfl (by kernel_rfl) (H'.cell 0 rfl (by kernel_rfl))))
  refine qv 39 (.bool (decide ((proposerV D.f D.epoch r) = D.replica))) ?_
  refine q_end ?_
  intro w24 H25
  refine then_normal ?_
  refine (bsplit (decide ((proposerV D.f D.epoch r) = D.replica))).elim (fun b26 => ?_) (fun b26 => ?_)
  ·have g27 := of_decide_eq_true b26
   refine wp_know 39 (.bool true) (congrArg Value.bool b26) ?_
   refine wp_ift rfl ?_
   refine w_seq ?_
   refine h_start H25 [cellC k 92 (coreW D.f D.c D.epoch D.replica r 1 D.s.lr D.s.vr D.s.locked D.s.valid D.s.decided D.s.decision t pb false false false), talC t hb cb ab lb D.f D.c D.L, mapC pb (Value.int .i64) propV D.P, restC w (coreC k t hb cb ab lb pb D).fp] 14 rfl (by kernel_rfl) (fun Hx => (Hx.pick [0, 1, 2, 3] (by decide))) ?_
   intro w28 H29 S30
   refine hv0 0 S30 40 (.int .i64 (r)) ?_
   refine hv0 1 S30 41 (pt k 0) ?_
   refine hv0 2 S30 42 (pt k 0) ?_
   refine hv0 3 S30 43 (pt k 4) ?_
   refine hv0 4 S30 44 (pt k 7) ?_
   refine hv0 5 S30 45 (.int .i64 (D.s.vr)) ?_ (he := fun _ H' => (e_load1 rfl (by kernel_rfl) (H'.cell 0 rfl (by kernel_rfl))))
   refine hv0 6 S30 46 (pt k 0) ?_
   refine hv0 7 S30 47 (pt k 0) ?_
   refine hv0 8 S30 48 (pt k 4) ?_
   refine hv0 9 S30 49 (pt k 40) ?_
   refine hv0 10 S30 50 (.agg ⟨(hc D.s.valid)⟩) ?_ (he := fun _ H' => (e_loadN (vs := (hc D.s.valid)) rfl (by kernel_rfl) (by kernel_rfl) (by exact Nat.le_of_ble_eq_true (by kernel_rfl)) (H'.at 0 rfl) (by kernel_rfl)))
   refine h_val 11 rfl (by kernel_rfl) (by kernel_rfl) (by kernel_rfl) (fun _ _ _ h => h) S30 (wants0 rfl) (d := 51) (v := (.agg ⟨(([(.int .i64 (1)), (.int .i64 (r)), (.int .i64 (D.s.vr))] : List Value) ++ hc D.s.valid)⟩)) rfl (fun _ H' => (by kernel_rfl)) ?_
   refine h_do 12 rfl (by kernel_rfl) (wants0 rfl) (fun K31 hK31 => ?_)
   refine d_buildSlice (e := 45) (size := 35) (bytes := 56) (z := (.agg ⟨(([(.int .i64 (0)), (.int .i64 (0)), (.int .i64 (0))] : List Value) ++ hc hash0)⟩)) (pvs := [(0, (.agg ⟨(([(.int .i64 (1)), (.int .i64 (r)), (.int .i64 (D.s.vr))] : List Value) ++ hc D.s.valid)⟩))]) (vs := (([(.int .i64 (1)), (.int .i64 (r)), (.int .i64 (D.s.vr))] : List Value) ++ hc D.s.valid)) rfl H29 (by kernel_rfl) (by kernel_rfl) (by kernel_rfl) (by kernel_rfl) (by kernel_rfl) rfl rfl ?_
   intro b32 w33 (H34 : Sat w [cellC k 92 (coreW D.f D.c D.epoch D.replica r 1 D.s.lr D.s.vr D.s.locked D.s.valid D.s.decided D.s.decision t pb false false false), talC t hb cb ab lb D.f D.c D.L, mapC pb (Value.int .i64) propV D.P, restC w (coreC k t hb cb ab lb pb D).fp, rowC 45 35 (.slice (some ⟨b32, 0, none⟩) 1 1) 1 (([(.int .i64 (1)), (.int .i64 (r)), (.int .i64 (D.s.vr))] : List Value) ++ hc D.s.valid)] w33)
   have S35 := H34.pick [0, 1, 2, 3] (by decide)
   refine hK31 _ _ S35 ?_
   clear hK31 K31
   refine hv0 13 S35 4 (.slice (some ⟨b32, 0, none⟩) 1 1) ?_
   refine h_fin (by kernel_rfl) ?_
   refine then_normal ?_
   refine w_ret ?_
   refine then_ret ?_
   refine end1 rfl (res_tmp (v := (.slice (some ⟨b32, 0, none⟩) 1 1)) rfl) ?_
   rw [show nextD D r = toD D r by unfold nextD; rw [if_pos (by have := of_decide_eq_false b1; omega)], show nextA D r = enterA D r by unfold nextA; rw [if_pos (by have := of_decide_eq_false b1; omega)]]
   rw [show enterA D r = [⟨1, r, D.s.vr, D.s.valid⟩] from if_pos (of_decide_eq_true b26)]
   exact ⟨_, rfl, (H34.pick [0, 1, 2, 4, 3] (by decide)).cast (by kernel_rfl)⟩
  ·have g36 := of_decide_eq_false b26
   refine wp_know 39 (.bool false) (congrArg Value.bool b26) ?_
   refine wp_iff rfl ?_
   refine w_skip ?_
   refine then_normal ?_
   refine w_seq ?_
   refine w_lit ?_
   refine wv 53 (pt k 0) ?_
   refine wl_do (wants0 rfl) (fun K37 hK37 => ?_)
   refine d_call (d := 54) rfl (by kernel_rfl) (coreTimer_any w24 k _ _ r (H25.at 0 rfl) 1) ?_
   rintro _ w38 ⟨rfl, u40⟩
   have H39 := H25.keepU u40
   refine ⟨_, rfl, ?_⟩
   refine hK37 _ _ ?_
   clear hK37 K37
   refine wl_do (wants0 rfl) (fun K41 hK41 => ?_)
   refine d_buildSlice (e := 45) (size := 35) (bytes := 56) (z := (.agg ⟨(([(.int .i64 (0)), (.int .i64 (0)), (.int .i64 (0))] : List Value) ++ hc hash0)⟩)) (pvs := [(0, (.agg ⟨(([(.int .i64 (4)), (.int .i64 (r)), (.int .i64 (1))] : List Value) ++ hc hash0)⟩))]) (vs := (([(.int .i64 (4)), (.int .i64 (r)), (.int .i64 (1))] : List Value) ++ hc hash0)) rfl H39 (by kernel_rfl) (by kernel_rfl) (by kernel_rfl) (by kernel_rfl) (by kernel_rfl) rfl rfl ?_
   intro b42 w43 (H44 : Sat w [cellC k 92 (coreW D.f D.c D.epoch D.replica r 1 D.s.lr D.s.vr D.s.locked D.s.valid D.s.decided D.s.decision t pb false false false), talC t hb cb ab lb D.f D.c D.L, mapC pb (Value.int .i64) propV D.P, restC w (coreC k t hb cb ab lb pb D).fp, rowC 45 35 (.slice (some ⟨b42, 0, none⟩) 1 1) 1 (([(.int .i64 (4)), (.int .i64 (r)), (.int .i64 (1))] : List Value) ++ hc hash0)] w43)
   refine hK41 _ _ ?_
   clear hK41 K41
   refine wv 4 (.slice (some ⟨b42, 0, none⟩) 1 1) ?_
   refine w_nil ?_
   refine then_normal ?_
   refine w_ret ?_
   refine end1 rfl (res_tmp (v := (.slice (some ⟨b42, 0, none⟩) 1 1)) rfl) ?_
   rw [show nextD D r = toD D r by unfold nextD; rw [if_pos (by have := of_decide_eq_false b1; omega)], show nextA D r = enterA D r by unfold nextA; rw [if_pos (by have := of_decide_eq_false b1; omega)]]
   rw [show enterA D r = [⟨4, r, 1, hash0⟩] from if_neg (of_decide_eq_false b26)]
   exact ⟨_, rfl, (H44.pick [0, 1, 2, 4, 3] (by decide)).cast (by kernel_rfl)⟩

set_option maxRecDepth 100000 in
set_option maxHeartbeats 400000 in
theorem corePrevote_any (w : World) (k t hb cb ab lb pb : Nat) (D : CoreD) (hT : (coreC k t hb cb ab lb pb D).ok w) (h : CI D) (x : Hash) :
  Calls Try.prog 39 #[(.pointer (some ⟨k, 0, none⟩)), (.agg ⟨(hc x)⟩)] w fun e w' => ∃ v, e = .returned v ∧ Sat w [cellC k 92 (coreL t pb (ownV D 1 2 x)), talC t hb cb ab lb (ownV D 1 2 x).f (ownV D 1 2 x).c (ownV D 1 2 x).L, mapC pb (Value.int .i64) propV (ownV D 1 2 x).P, rowC 45 35 v (ownA D 2 x).length ((ownA D 2 x).flatMap encA), restC w (coreC k t hb cb ab lb pb D).fp] w' := by
 have H : Sat w [cellC k 92 (coreL t pb D), talC t hb cb ab lb D.f D.c D.L, mapC pb (Value.int .i64) propV D.P, restC w (coreC k t hb cb ab lb pb D).fp] w := Sat.start _ hT
 have hf := h.f
 have hep := h.ep
 have hrp := h.rp
 have hrd := h.rd
 have hst := h.st
 have hvo := h.votes
 refine calls_fr Try.func39 rfl 32 rfl (Nat.le_of_ble_eq_true rfl) ?_
 refine w_seq ?_
 refine w_lit ?_
 refine wl_do (wants0 rfl) (fun K1 hK1 => ?_)
 refine d_box (vs := (hc x)) rfl H rfl rfl ?_
 intro b2 w3 (H4 : Sat w [cellC k 92 (coreL t pb D), talC t hb cb ab lb D.f D.c D.L, mapC pb (Value.int .i64) propV D.P, restC w (coreC k t hb cb ab lb pb D).fp, cellC b2 36 (hc x)] w3)
 refine hK1 _ _ ?_
 clear hK1 K1
 refine wv 4 (.slice none 0 0) ?_
 refine w_nil ?_
 refine then_normal ?_
 refine w_seq ?_
 refine w_lit ?_
 refine wv 5 (pt k 0) ?_
 refine wv 6 (pt k 0) ?_
 refine wv 7 (pt k 4) ?_
 refine wv 8 (pt k 5) ?_
 refine wl_do (wants0 rfl) (fun K5 hK5 => ?_)
 refine d_storeX (vs := ([(.int .i64 (2))] : List Value)) (cs' := (coreW D.f D.c D.epoch D.replica D.s.round 2 D.s.lr D.s.vr D.s.locked D.s.valid D.s.decided D.s.decision t pb D.wv D.sp D.sc)) rfl H4 0 rfl rfl rfl rfl (by kernel_rfl) (Nat.le_of_ble_eq_true (by kernel_rfl)) (Nat.le_of_ble_eq_true (by kernel_rfl)) (by kernel_rfl) (by kernel_rfl) ?_
 intro w6 (H7 : Sat w [cellC k 92 (coreW D.f D.c D.epoch D.replica D.s.round 2 D.s.lr D.s.vr D.s.locked D.s.valid D.s.decided D.s.decision t pb D.wv D.sp D.sc), talC t hb cb ab lb D.f D.c D.L, mapC pb (Value.int .i64) propV D.P, restC w (coreC k t hb cb ab lb pb D).fp, cellC b2 36 (hc x)] w6)
 refine hK5 _ _ ?_
 clear hK5 K5
 refine w_nil ?_
 refine then_normal ?_
 refine w_seq ?_
 refine h_start H7 [cellC k 92 (coreW D.f D.c D.epoch D.replica D.s.round 2 D.s.lr D.s.vr D.s.locked D.s.valid D.s.decided D.s.decision t pb D.wv D.sp D.sc), mapC pb (Value.int .i64) propV D.P, restC w (coreC k t hb cb ab lb pb D).fp, cellC b2 36 (hc x)] 15 rfl (by kernel_rfl) (fun Hx => (Hx.pick [0, 2, 3, 4] (by decide))) ?_
 intro w9 H10 S11
 refine hv0 0 S11 9 (pt k 0) ?_
 refine hv0 1 S11 10 (pt k 0) ?_
 refine hv0 2 S11 11 (pt k 105) ?_
 refine hv0 3 S11 12 (pt t 0) ?_ (he := fun _ H' => (e_load1 rfl (by kernel_rfl) (H'.cell 0 rfl (by kernel_rfl))))
 refine hv0 4 S11 13 (pt k 0) ?_
 refine hv0 5 S11 14 (pt k 0) ?_
 refine hv0 6 S11 15 (pt k 4) ?_
 refine hv0 7 S11 16 (pt k 4) ?_
 refine hv0 8 S11 17 (.int .i64 (D.s.round)) ?_ (he := fun _ H' => (e_load1 rfl (by kernel_rfl) (H'.cell 0 rfl (by kernel_rfl))))
 refine hv0 9 S11 18 (pt k 0) ?_
 refine hv0 10 S11 19 (pt k 0) ?_
 refine hv0 11 S11 20 (pt k 3) ?_
 refine hv0 12 S11 21 (.int .i64 (D.replica)) ?_ (he := fun _ H' => (e_load1 rfl (by kernel_rfl) (H'.cell 0 rfl (by kernel_rfl))))
 refine hv0 13 S11 22 (.agg ⟨(hc x)⟩) ?_ (he := fun _ H' => (e_loadN (vs := (hc x)) rfl (by kernel_rfl) (by kernel_rfl) (by exact Nat.le_of_ble_eq_true (by kernel_rfl)) (H'.at 3 rfl) (by kernel_rfl)))
 refine h_do 14 rfl (by kernel_rfl) (wants0 rfl) (fun K12 hK12 => ?_)
 refine d_call (d := 23) rfl (by kernel_rfl) (talAdd_any w9 t hb cb ab lb D.f D.c D.L (H10.at 1 rfl) 1 D.s.round D.replica x (hvo)) ?_
 rintro _ w13 ⟨rfl, k16, u15⟩
 have H14 : Sat w [cellC k 92 (coreW D.f D.c D.epoch D.replica D.s.round 2 D.s.lr D.s.vr D.s.locked D.s.valid D.s.decided D.s.decision t pb D.wv D.sp D.sc), talC t hb cb ab lb D.f D.c (addV D.f D.L ⟨1, D.s.round, D.replica, x⟩), mapC pb (Value.int .i64) propV D.P, restC w (coreC k t hb cb ab lb pb D).fp, cellC b2 36 (hc x)] w13 := H10.setU u15 1 rfl (fun _ hb => hb) k16 (fun _ hb => .inl hb)
 refine ⟨_, rfl, ?_⟩
 have S17 := H14.pick [0, 2, 3, 4] (by decide)
 refine hK12 _ _ S17 ?_
 clear hK12 K12
 refine h_fin (by kernel_rfl) ?_
 refine then_normal ?_
 refine w_seq ?_
 refine h_start H14 [cellC k 92 (coreW D.f D.c D.epoch D.replica D.s.round 2 D.s.lr D.s.vr D.s.locked D.s.valid D.s.decided D.s.decision t pb D.wv D.sp D.sc), talC t hb cb ab lb D.f D.c (addV D.f D.L ⟨1, D.s.round, D.replica, x⟩), mapC pb (Value.int .i64) propV D.P, restC w (coreC k t hb cb ab lb pb D).fp, cellC b2 36 (hc x)] 9 rfl (by kernel_rfl) (fun Hx => (Hx.pick [0, 1, 2, 3, 4] (by decide))) ?_
 intro w18 H19 S20
 refine hv0 0 S20 24 (pt k 0) ?_
 refine hv0 1 S20 25 (pt k 0) ?_
 refine hv0 2 S20 26 (pt k 4) ?_
 refine hv0 3 S20 27 (pt k 4) ?_
 refine hv0 4 S20 28 (.int .i64 (D.s.round)) ?_ (he := fun _ H' => (e_load1 rfl (by kernel_rfl) (H'.cell 0 rfl (by kernel_rfl))))
 refine hv0 5 S20 29 (.agg ⟨(hc x)⟩) ?_ (he := fun _ H' => (e_loadN (vs := (hc x)) rfl (by kernel_rfl) (by kernel_rfl) (by exact Nat.le_of_ble_eq_true (by kernel_rfl)) (H'.at 4 rfl) (by kernel_rfl)))
 refine h_val 6 rfl (by kernel_rfl) (by kernel_rfl) (by kernel_rfl) (fun _ _ _ h => h) S20 (wants0 rfl) (d := 30) (v := (.agg ⟨(([(.int .i64 (2)), (.int .i64 (D.s.round)), (.int .i64 (-1))] : List Value) ++ hc x)⟩)) rfl (fun _ H' => (by kernel_rfl)) ?_
 refine h_do 7 rfl (by kernel_rfl) (wants0 rfl) (fun K21 hK21 => ?_)
 refine d_buildSlice (e := 45) (size := 35) (bytes := 56) (z := (.agg ⟨(([(.int .i64 (0)), (.int .i64 (0)), (.int .i64 (0))] : List Value) ++ hc hash0)⟩)) (pvs := [(0, (.agg ⟨(([(.int .i64 (2)), (.int .i64 (D.s.round)), (.int .i64 (-1))] : List Value) ++ hc x)⟩))]) (vs := (([(.int .i64 (2)), (.int .i64 (D.s.round)), (.int .i64 (-1))] : List Value) ++ hc x)) rfl H19 (by kernel_rfl) (by kernel_rfl) (by kernel_rfl) (by kernel_rfl) (by kernel_rfl) rfl rfl ?_
 intro b22 w23 (H24 : Sat w [cellC k 92 (coreW D.f D.c D.epoch D.replica D.s.round 2 D.s.lr D.s.vr D.s.locked D.s.valid D.s.decided D.s.decision t pb D.wv D.sp D.sc), talC t hb cb ab lb D.f D.c (addV D.f D.L ⟨1, D.s.round, D.replica, x⟩), mapC pb (Value.int .i64) propV D.P, restC w (coreC k t hb cb ab lb pb D).fp, cellC b2 36 (hc x), rowC 45 35 (.slice (some ⟨b22, 0, none⟩) 1 1) 1 (([(.int .i64 (2)), (.int .i64 (D.s.round)), (.int .i64 (-1))] : List Value) ++ hc x)] w23)
 have S25 := H24.pick [0, 1, 2, 3, 4] (by decide)
 refine hK21 _ _ S25 ?_
 clear hK21 K21
 refine hv0 8 S25 4 (.slice (some ⟨b22, 0, none⟩) 1 1) ?_
 refine h_fin (by kernel_rfl) ?_
 refine then_normal ?_
 refine w_ret ?_
 refine end1 rfl (res_tmp (v := (.slice (some ⟨b22, 0, none⟩) 1 1)) rfl) ?_
 exact ⟨_, rfl, (H24.pick [0, 1, 2, 5, 3] (by decide)).cast (by kernel_rfl)⟩

set_option maxRecDepth 100000 in
set_option maxHeartbeats 400000 in
theorem corePrecommit_any (w : World) (k t hb cb ab lb pb : Nat) (D : CoreD) (hT : (coreC k t hb cb ab lb pb D).ok w) (h : CI D) (x : Hash) :
  Calls Try.prog 40 #[(.pointer (some ⟨k, 0, none⟩)), (.agg ⟨(hc x)⟩)] w fun e w' => ∃ v, e = .returned v ∧ Sat w [cellC k 92 (coreL t pb (ownV D 2 3 x)), talC t hb cb ab lb (ownV D 2 3 x).f (ownV D 2 3 x).c (ownV D 2 3 x).L, mapC pb (Value.int .i64) propV (ownV D 2 3 x).P, rowC 45 35 v (ownA D 3 x).length ((ownA D 3 x).flatMap encA), restC w (coreC k t hb cb ab lb pb D).fp] w' := by
 have H : Sat w [cellC k 92 (coreL t pb D), talC t hb cb ab lb D.f D.c D.L, mapC pb (Value.int .i64) propV D.P, restC w (coreC k t hb cb ab lb pb D).fp] w := Sat.start _ hT
 have hf := h.f
 have hep := h.ep
 have hrp := h.rp
 have hrd := h.rd
 have hst := h.st
 have hvo := h.votes
 refine calls_fr Try.func40 rfl 32 rfl (Nat.le_of_ble_eq_true rfl) ?_
 refine w_seq ?_
 refine w_lit ?_
 refine wl_do (wants0 rfl) (fun K1 hK1 => ?_)
 refine d_box (vs := (hc x)) rfl H rfl rfl ?_
 intro b2 w3 (H4 : Sat w [cellC k 92 (coreL t pb D), talC t hb cb ab lb D.f D.c D.L, mapC pb (Value.int .i64) propV D.P, restC w (coreC k t hb cb ab lb pb D).fp, cellC b2 36 (hc x)] w3)
 refine hK1 _ _ ?_
 clear hK1 K1
 refine wv 4 (.slice none 0 0) ?_
 refine w_nil ?_
 refine then_normal ?_
 refine w_seq ?_
 refine w_lit ?_
 refine wv 5 (pt k 0) ?_
 refine wv 6 (pt k 0) ?_
 refine wv 7 (pt k 4) ?_
 refine wv 8 (pt k 5) ?_
 refine wl_do (wants0 rfl) (fun K5 hK5 => ?_)
 refine d_storeX (vs := ([(.int .i64 (3))] : List Value)) (cs' := (coreW D.f D.c D.epoch D.replica D.s.round 3 D.s.lr D.s.vr D.s.locked D.s.valid D.s.decided D.s.decision t pb D.wv D.sp D.sc)) rfl H4 0 rfl rfl rfl rfl (by kernel_rfl) (Nat.le_of_ble_eq_true (by kernel_rfl)) (Nat.le_of_ble_eq_true (by kernel_rfl)) (by kernel_rfl) (by kernel_rfl) ?_
 intro w6 (H7 : Sat w [cellC k 92 (coreW D.f D.c D.epoch D.replica D.s.round 3 D.s.lr D.s.vr D.s.locked D.s.valid D.s.decided D.s.decision t pb D.wv D.sp D.sc), talC t hb cb ab lb D.f D.c D.L, mapC pb (Value.int .i64) propV D.P, restC w (coreC k t hb cb ab lb pb D).fp, cellC b2 36 (hc x)] w6)
 refine hK5 _ _ ?_
 clear hK5 K5
 refine w_nil ?_
 refine then_normal ?_
 refine w_seq ?_
 refine h_start H7 [cellC k 92 (coreW D.f D.c D.epoch D.replica D.s.round 3 D.s.lr D.s.vr D.s.locked D.s.valid D.s.decided D.s.decision t pb D.wv D.sp D.sc), mapC pb (Value.int .i64) propV D.P, restC w (coreC k t hb cb ab lb pb D).fp, cellC b2 36 (hc x)] 15 rfl (by kernel_rfl) (fun Hx => (Hx.pick [0, 2, 3, 4] (by decide))) ?_
 intro w9 H10 S11
 refine hv0 0 S11 9 (pt k 0) ?_
 refine hv0 1 S11 10 (pt k 0) ?_
 refine hv0 2 S11 11 (pt k 105) ?_
 refine hv0 3 S11 12 (pt t 0) ?_ (he := fun _ H' => (e_load1 rfl (by kernel_rfl) (H'.cell 0 rfl (by kernel_rfl))))
 refine hv0 4 S11 13 (pt k 0) ?_
 refine hv0 5 S11 14 (pt k 0) ?_
 refine hv0 6 S11 15 (pt k 4) ?_
 refine hv0 7 S11 16 (pt k 4) ?_
 refine hv0 8 S11 17 (.int .i64 (D.s.round)) ?_ (he := fun _ H' => (e_load1 rfl (by kernel_rfl) (H'.cell 0 rfl (by kernel_rfl))))
 refine hv0 9 S11 18 (pt k 0) ?_
 refine hv0 10 S11 19 (pt k 0) ?_
 refine hv0 11 S11 20 (pt k 3) ?_
 refine hv0 12 S11 21 (.int .i64 (D.replica)) ?_ (he := fun _ H' => (e_load1 rfl (by kernel_rfl) (H'.cell 0 rfl (by kernel_rfl))))
 refine hv0 13 S11 22 (.agg ⟨(hc x)⟩) ?_ (he := fun _ H' => (e_loadN (vs := (hc x)) rfl (by kernel_rfl) (by kernel_rfl) (by exact Nat.le_of_ble_eq_true (by kernel_rfl)) (H'.at 3 rfl) (by kernel_rfl)))
 refine h_do 14 rfl (by kernel_rfl) (wants0 rfl) (fun K12 hK12 => ?_)
 refine d_call (d := 23) rfl (by kernel_rfl) (talAdd_any w9 t hb cb ab lb D.f D.c D.L (H10.at 1 rfl) 2 D.s.round D.replica x (hvo)) ?_
 rintro _ w13 ⟨rfl, k16, u15⟩
 have H14 : Sat w [cellC k 92 (coreW D.f D.c D.epoch D.replica D.s.round 3 D.s.lr D.s.vr D.s.locked D.s.valid D.s.decided D.s.decision t pb D.wv D.sp D.sc), talC t hb cb ab lb D.f D.c (addV D.f D.L ⟨2, D.s.round, D.replica, x⟩), mapC pb (Value.int .i64) propV D.P, restC w (coreC k t hb cb ab lb pb D).fp, cellC b2 36 (hc x)] w13 := H10.setU u15 1 rfl (fun _ hb => hb) k16 (fun _ hb => .inl hb)
 refine ⟨_, rfl, ?_⟩
 have S17 := H14.pick [0, 2, 3, 4] (by decide)
 refine hK12 _ _ S17 ?_
 clear hK12 K12
 refine h_fin (by kernel_rfl) ?_
 refine then_normal ?_
 refine w_seq ?_
 refine h_start H14 [cellC k 92 (coreW D.f D.c D.epoch D.replica D.s.round 3 D.s.lr D.s.vr D.s.locked D.s.valid D.s.decided D.s.decision t pb D.wv D.sp D.sc), talC t hb cb ab lb D.f D.c (addV D.f D.L ⟨2, D.s.round, D.replica, x⟩), mapC pb (Value.int .i64) propV D.P, restC w (coreC k t hb cb ab lb pb D).fp, cellC b2 36 (hc x)] 9 rfl (by kernel_rfl) (fun Hx => (Hx.pick [0, 1, 2, 3, 4] (by decide))) ?_
 intro w18 H19 S20
 refine hv0 0 S20 24 (pt k 0) ?_
 refine hv0 1 S20 25 (pt k 0) ?_
 refine hv0 2 S20 26 (pt k 4) ?_
 refine hv0 3 S20 27 (pt k 4) ?_
 refine hv0 4 S20 28 (.int .i64 (D.s.round)) ?_ (he := fun _ H' => (e_load1 rfl (by kernel_rfl) (H'.cell 0 rfl (by kernel_rfl))))
 refine hv0 5 S20 29 (.agg ⟨(hc x)⟩) ?_ (he := fun _ H' => (e_loadN (vs := (hc x)) rfl (by kernel_rfl) (by kernel_rfl) (by exact Nat.le_of_ble_eq_true (by kernel_rfl)) (H'.at 4 rfl) (by kernel_rfl)))
 refine h_val 6 rfl (by kernel_rfl) (by kernel_rfl) (by kernel_rfl) (fun _ _ _ h => h) S20 (wants0 rfl) (d := 30) (v := (.agg ⟨(([(.int .i64 (3)), (.int .i64 (D.s.round)), (.int .i64 (-1))] : List Value) ++ hc x)⟩)) rfl (fun _ H' => (by kernel_rfl)) ?_
 refine h_do 7 rfl (by kernel_rfl) (wants0 rfl) (fun K21 hK21 => ?_)
 refine d_buildSlice (e := 45) (size := 35) (bytes := 56) (z := (.agg ⟨(([(.int .i64 (0)), (.int .i64 (0)), (.int .i64 (0))] : List Value) ++ hc hash0)⟩)) (pvs := [(0, (.agg ⟨(([(.int .i64 (3)), (.int .i64 (D.s.round)), (.int .i64 (-1))] : List Value) ++ hc x)⟩))]) (vs := (([(.int .i64 (3)), (.int .i64 (D.s.round)), (.int .i64 (-1))] : List Value) ++ hc x)) rfl H19 (by kernel_rfl) (by kernel_rfl) (by kernel_rfl) (by kernel_rfl) (by kernel_rfl) rfl rfl ?_
 intro b22 w23 (H24 : Sat w [cellC k 92 (coreW D.f D.c D.epoch D.replica D.s.round 3 D.s.lr D.s.vr D.s.locked D.s.valid D.s.decided D.s.decision t pb D.wv D.sp D.sc), talC t hb cb ab lb D.f D.c (addV D.f D.L ⟨2, D.s.round, D.replica, x⟩), mapC pb (Value.int .i64) propV D.P, restC w (coreC k t hb cb ab lb pb D).fp, cellC b2 36 (hc x), rowC 45 35 (.slice (some ⟨b22, 0, none⟩) 1 1) 1 (([(.int .i64 (3)), (.int .i64 (D.s.round)), (.int .i64 (-1))] : List Value) ++ hc x)] w23)
 have S25 := H24.pick [0, 1, 2, 3, 4] (by decide)
 refine hK21 _ _ S25 ?_
 clear hK21 K21
 refine hv0 8 S25 4 (.slice (some ⟨b22, 0, none⟩) 1 1) ?_
 refine h_fin (by kernel_rfl) ?_
 refine then_normal ?_
 refine w_ret ?_
 refine end1 rfl (res_tmp (v := (.slice (some ⟨b22, 0, none⟩) 1 1)) rfl) ?_
 exact ⟨_, rfl, (H24.pick [0, 1, 2, 5, 3] (by decide)).cast (by kernel_rfl)⟩

set_option maxRecDepth 100000 in
set_option maxHeartbeats 400000 in
theorem coreDecided_any (w : World) (k t hb cb ab lb pb : Nat) (D : CoreD) (hT : (coreC k t hb cb ab lb pb D).ok w) (h : CI D) :
  Calls Try.prog 63 #[(.pointer (some ⟨k, 0, none⟩))] w fun e w' => e = .returned (.int .i64 (leastV D.f D.L D.P)) ∧ Upd [] w w' := by
 obtain ⟨hcell, htal, hmap⟩ := coreC_parts hT
 have H := Sat.start0 w
 have hf := h.f
 have hrd := h.rd
 refine calls_fr Try.func63 rfl 45 rfl (Nat.le_of_ble_eq_true rfl) ?_
 refine w_seq ?_
 refine w_lit ?_
 refine wv 2 (.int .i64 (0)) ?_
 refine w_nil ?_
 refine then_normal ?_
 refine w_seq ?_
 refine w_lit ?_
 refine wv 3 (.int .i64 (-1)) ?_
 refine w_nil ?_
 refine then_normal ?_
 iterate 2 refine w_seq ?_
 refine w_lit ?_
 refine wv 6 (pt k 0) ?_
 refine wv 7 (pt k 0) ?_
 refine wv 8 (pt k 106) ?_
 refine wv 9 (.map (some pb)) ?_ (hr := e_load1 rfl (by kernel_rfl) (H.roCell 0 rfl hcell (fun h => h) (by kernel_rfl)))
 refine wl_do (wants0 rfl) (fun K1 hK1 => ?_)
 refine d_rangeR (kt := 3) (et := 96) rfl H 0 rfl hmap (fun h => h) (by kernel_rfl) rfl ?_
 intro r2 w3 (H4 : Sat w [restC w (fun _ => False), iterR w r2 pb (Value.int .i64) propV D.P []] w3)
 refine hK1 _ _ ?_
 clear hK1 K1
 refine w_nil ?_
 refine then_normal ?_
 refine w_block ?_
 refine wp_round [3, 4, 5, 11, 12, 13, 14, 15, 16, 17, 18, 19, 20, 21, 22, 23, 24, 25, 26, 27, 28, 29, 30, 31, 32, 33, 34, 35, 36, 37, 38, 39, 40, 41, 42, 43] (fun F_ W_ m_ => ∃ (seen rest : List (Int × PropD)), F_ 3 = (.int .i64 (leastV D.f D.L seen)) ∧ ((D.P).Perm (seen ++ rest)) ∧ Sat w [restC w (fun _ => False), iterR w r2 pb (Value.int .i64) propV D.P seen] W_ ∧ m_ = rest.length) _ ⟨[], D.P, (by first | rfl | go_num), (List.Perm.refl _), H4, rfl⟩ ?_
 rintro g5 w6 _ ⟨seen, rest, v8, hperm, H7, rfl⟩
 refine wp_know 3 _ v8 ?_
 refine w_seq ?_
 refine w_lit ?_
 refine wl_do (wants0 rfl) (fun K10 hK10 => ?_)
 refine d_nextR rfl H7 1 rfl 0 rfl (fun h => h) rfl ?_ ?_
 ·intro p11
  refine hK10 _ _ ?_
  clear hK10 K10
  refine wv 12 (.bool false) ?_
  refine w_nil ?_
  refine then_normal ?_
  refine w_seq ?_
  refine wp_iff rfl ?_
  refine w_exit ?_
  refine then_exit ?_
  refine back_exit ?_
  refine blk_hit ?_
  refine then_normal ?_
  refine w_seq ?_
  refine w_lit ?_
  refine wv 44 (.int .i64 (leastV D.f D.L seen)) ?_
  refine wv 2 (.int .i64 (leastV D.f D.L seen)) ?_
  refine w_nil ?_
  refine then_normal ?_
  refine w_ret ?_
  refine end1 rfl (res_tmp (v := (.int .i64 (leastV D.f D.L seen))) rfl) ?_
  exact ⟨by rw [leastV_perm D.f D.L p11 (fun x hx => (h.pr x hx).1)], H7.upd 0 rfl [] (fun _ h => h.elim)⟩
 ·intro y12 t13 w14 p15 (H16 : Sat w [restC w (fun _ => False), iterR w r2 pb (Value.int .i64) propV D.P (seen ++ [y12])] w14)
  refine hK10 _ _ ?_
  clear hK10 K10
  refine wv 12 (.bool true) ?_
  refine w_nil ?_
  refine then_normal ?_
  refine w_seq ?_
  refine wp_ift rfl ?_
  refine w_skip ?_
  refine then_normal ?_
  refine w_block ?_
  refine w_seq ?_
  refine w_lit ?_
  refine wv 13 (.tuple #[(.int .i64 (y12.1)), (.agg ⟨(([(.int .i64 (y12.2.valid))] : List Value) ++ hc y12.2.h ++ ([(.bool (y12.2.ok))] : List Value))⟩)]) ?_ (hr := H16.entryR 1 rfl 0 rfl (fun h => h) rfl)
  refine wv 14 (.int .i64 (y12.1)) ?_
  refine wv 15 (.agg ⟨(([(.int .i64 (y12.2.valid))] : List Value) ++ hc y12.2.h ++ ([(.bool (y12.2.ok))] : List Value))⟩) ?_
  refine wl_do (wants0 rfl) (fun K17 hK17 => ?_)
  refine d_alloc (zs := (([(.int .i64 (0))] : List Value) ++ hc hash0 ++ ([(.bool false)] : List Value))) (z := (.agg ⟨(([(.int .i64 (0))] : List Value) ++ hc hash0 ++ ([(.bool false)] : List Value))⟩)) rfl H16 (by kernel_rfl) (by kernel_rfl) ?_
  intro b18 w19 (H20 : Sat w [restC w (fun _ => False), iterR w r2 pb (Value.int .i64) propV D.P (seen ++ [y12]), cellC b18 96 (([(.int .i64 (0))] : List Value) ++ hc hash0 ++ ([(.bool false)] : List Value))] w19)
  refine hK17 _ _ ?_
  clear hK17 K17
  refine wv 4 (.int .i64 (y12.1)) ?_
  refine wl_do (wants0 rfl) (fun K21 hK21 => ?_)
  refine d_storeX (vs := (([(.int .i64 (y12.2.valid))] : List Value) ++ hc y12.2.h ++ ([(.bool (y12.2.ok))] : List Value))) (cs' := (([(.int .i64 (y12.2.valid))] : List Value) ++ hc y12.2.h ++ ([(.bool (y12.2.ok))] : List Value))) rfl H20 2 rfl rfl rfl rfl (by kernel_rfl) (Nat.le_of_ble_eq_true (by kernel_rfl)) (Nat.le_of_ble_eq_true (by kernel_rfl)) (by kernel_rfl) (by kernel_rfl) ?_
  intro w22 (H23 : Sat w [restC w (fun _ => False), iterR w r2 pb (Value.int .i64) propV D.P (seen ++ [y12]), cellC b18 96 (([(.int .i64 (y12.2.valid))] : List Value) ++ hc y12.2.h ++ ([(.bool (y12.2.ok))] : List Value))] w22)
  refine hK21 _ _ ?_
  clear hK21 K21
  refine w_nil ?_
  refine then_normal ?_
  refine wp_meetR [16, 17, 18, 19, 20, 21, 22, 23, 24, 25, 26, 27, 28, 29, 30, 31, 32, 33, 34, 35, 36, 37, 38, 39, 40, 41, 42] (fun G_ W_ => G_ 42 = (.bool (y12.2.ok && (decide (leastV D.f D.L seen < 0) || decide (y12.1 < leastV D.f D.L seen)) && decide (forV D.L 2 y12.1 y12.2.h ≥ 2 * D.f + 1))) ∧ Sat w [restC w (fun _ => False), iterR w r2 pb (Value.int .i64) propV D.P (seen ++ [y12]), cellC b18 96 (([(.int .i64 (y12.2.valid))] : List Value) ++ hc y12.2.h ++ ([(.bool (y12.2.ok))] : List Value))] W_) ?_ ?_
  ·refine q_start H23 (by kernel_rfl) (by kernel_rfl) ?_
   refine qv 16 (pt b18 33) ?_
   refine qv 17 (.bool (y12.2.ok)) ?_ (hr := fun _ H' => (e_load1 rfl (by kernel_rfl) (H'.cell 2 rfl (by kernel_rfl))))
   refine qv 18 (.bool (y12.2.ok)) ?_
   refine (bsplit (y12.2.ok)).elim (fun b26 => ?_) (fun b26 => ?_)
   ·refine q_know 18 (.bool true) (congrArg Value.bool b26) ?_
    refine qy 2 18 true 19 (.int .i64 (leastV D.f D.L seen)) ?_
    refine qy 2 18 true 20 (.bool (decide ((leastV D.f D.L seen) < 0))) ?_
    refine qy 2 18 true 21 (.bool (decide ((leastV D.f D.L seen) < 0))) ?_
    refine (bsplit (decide ((leastV D.f D.L seen) < 0))).elim (fun b27 => ?_) (fun b27 => ?_)
    ·have g28 := of_decide_eq_true b27
     refine q_know 21 (.bool true) (congrArg Value.bool b27) ?_
     iterate 3 refine qn 5 21 false ?_
     refine qy 2 18 true 25 (.bool true) ?_
     refine qv 26 (.bool true) ?_
     refine qv 27 (.bool true) ?_
     refine qy 11 27 true 28 (pt k 0) ?_
     refine qy 11 27 true 29 (pt k 0) ?_
     refine qy 11 27 true 30 (pt k 105) ?_
     refine qy 11 27 true 31 (pt t 0) ?_ (hr := fun _ H' => (e_load1 rfl (by kernel_rfl) (H'.roCell 0 rfl hcell (fun h => h) (by kernel_rfl))))
     refine qy 11 27 true 32 (.int .i64 (y12.1)) ?_
     refine qy 11 27 true 33 (pt b18 1) ?_
     refine qy 11 27 true 34 (.agg ⟨(hc y12.2.h)⟩) ?_ (hr := fun _ H' => (e_loadN (vs := (hc y12.2.h)) rfl (by kernel_rfl) (by kernel_rfl) (by exact Nat.le_of_ble_eq_true (by kernel_rfl)) (H'.at 2 rfl) (by kernel_rfl)))
     refine q_call (wantsY 11 27 true rfl (by kernel_rfl) rfl (by kernel_rfl)) (d := 35) (v := (.int .i64 (forV D.L 2 y12.1 y12.2.h))) rfl (fun _ _ => by kernel_rfl) (fun w' H' => (talFor_any w' t hb cb ab lb D.f D.c D.L (H'.roCk 0 rfl htal (fun _ _ h => h)) 2 y12.1 y12.2.h).mono fun _ _ h => ⟨h.1, H'.keepU h.2⟩) ?_
     refine qy 11 27 true 36 (pt k 0) ?_
     refine qy 11 27 true 37 (pt k 0) ?_
     refine qy 11 27 true 38 (pt k 0) ?_
     refine qy 11 27 true 39 (.agg ⟨([(.int .i64 (D.f)), (.int .i64 (D.c))] : List Value)⟩) ?_ (hr := fun _ H' => (e_loadN (vs := ([(.int .i64 (D.f)), (.int .i64 (D.c))] : List Value)) rfl (by kernel_rfl) (by kernel_rfl) (by exact Nat.le_of_ble_eq_true (by kernel_rfl)) (H'.roCells 0 rfl hcell (fun h => h)) (by kernel_rfl)))
     refine q_call (wantsY 11 27 true rfl (by kernel_rfl) rfl (by kernel_rfl)) (d := 40) (v := (.int .i64 (2 * D.f + 1))) rfl (fun _ _ => by kernel_rfl) (fun w' H' => (wireQuorum_any w' D.f D.c (by omega)).mono fun _ _ h => ⟨h.1, H'.keepU h.2⟩) ?_
     refine qy 11 27 true 41 (.bool (decide ((forV D.L 2 y12.1 y12.2.h) ≥ (2 * D.f + 1)))) ?_
     refine qv 42 (.bool (decide ((forV D.L 2 y12.1 y12.2.h) ≥ (2 * D.f + 1)))) ?_
     refine q_end ?_
     intro w29 H30
     refine meetR_at ?_ ⟨(congrArg Value.bool (show (decide ((forV D.L 2 y12.1 y12.2.h) ≥ (2 * D.f + 1))) = (y12.2.ok && (decide (leastV D.f D.L seen < 0) || decide (y12.1 < leastV D.f D.L seen)) && decide (forV D.L 2 y12.1 y12.2.h ≥ 2 * D.f + 1)) by simp [b26, b27])), H30⟩
     exact (same_upd rfl (same_upd rfl (same_upd rfl (same_upd rfl (same_upd rfl (same_upd rfl (same_upd rfl (same_upd rfl (same_upd rfl (same_upd rfl (same_upd rfl (same_upd rfl (same_upd rfl (same_upd rfl (same_upd rfl (same_upd rfl (same_upd rfl (same_upd rfl (same_upd rfl (same_upd rfl (same_upd rfl (same_upd rfl (same_upd rfl (same_upd rfl (same_upd rfl (same_upd rfl (same_upd rfl (same_upd rfl (same_upd rfl (same_refl))))))))))))))))))))))))))))))
    ·have g31 := of_decide_eq_false b27
     refine q_know 21 (.bool false) (congrArg Value.bool b27) ?_
     refine qy 5 21 false 22 (.int .i64 (y12.1)) ?_
     refine qy 5 21 false 23 (.int .i64 (leastV D.f D.L seen)) ?_
     refine qy 5 21 false 24 (.bool (decide (y12.1 < (leastV D.f D.L seen)))) ?_
     refine qy 2 18 true 25 (.bool (decide (y12.1 < (leastV D.f D.L seen)))) ?_
     refine qv 26 (.bool (decide (y12.1 < (leastV D.f D.L seen)))) ?_
     refine qv 27 (.bool (decide (y12.1 < (leastV D.f D.L seen)))) ?_
     refine (bsplit (decide (y12.1 < (leastV D.f D.L seen)))).elim (fun b32 => ?_) (fun b32 => ?_)
     ·have g33 := of_decide_eq_true b32
      refine q_know 27 (.bool true) (congrArg Value.bool b32) ?_
      refine qy 11 27 true 28 (pt k 0) ?_
      refine qy 11 27 true 29 (pt k 0) ?_
      refine qy 11 27 true 30 (pt k 105) ?_
      refine qy 11 27 true 31 (pt t 0) ?_ (hr := fun _ H' => (e_load1 rfl (by kernel_rfl) (H'.roCell 0 rfl hcell (fun h => h) (by kernel_rfl))))
      refine qy 11 27 true 32 (.int .i64 (y12.1)) ?_
      refine qy 11 27 true 33 (pt b18 1) ?_
      refine qy 11 27 true 34 (.agg ⟨(hc y12.2.h)⟩) ?_ (hr := fun _ H' => (e_loadN (vs := (hc y12.2.h)) rfl (by kernel_rfl) (by kernel_rfl) (by exact Nat.le_of_ble_eq_true (by kernel_rfl)) (H'.at 2 rfl) (by kernel_rfl)))
      refine q_call (wantsY 11 27 true rfl (by kernel_rfl) rfl (by kernel_rfl)) (d := 35) (v := (.int .i64 (forV D.L 2 y12.1 y12.2.h))) rfl (fun _ _ => by kernel_rfl) (fun w' H' => (talFor_any w' t hb cb ab lb D.f D.c D.L (H'.roCk 0 rfl htal (fun _ _ h => h)) 2 y12.1 y12.2.h).mono fun _ _ h => ⟨h.1, H'.keepU h.2⟩) ?_
      refine qy 11 27 true 36 (pt k 0) ?_
      refine qy 11 27 true 37 (pt k 0) ?_
      refine qy 11 27 true 38 (pt k 0) ?_
      refine qy 11 27 true 39 (.agg ⟨([(.int .i64 (D.f)), (.int .i64 (D.c))] : List Value)⟩) ?_ (hr := fun _ H' => (e_loadN (vs := ([(.int .i64 (D.f)), (.int .i64 (D.c))] : List Value)) rfl (by kernel_rfl) (by kernel_rfl) (by exact Nat.le_of_ble_eq_true (by kernel_rfl)) (H'.roCells 0 rfl hcell (fun h => h)) (by kernel_rfl)))
      refine q_call (wantsY 11 27 true rfl (by kernel_rfl) rfl (by kernel_rfl)) (d := 40) (v := (.int .i64 (2 * D.f + 1))) rfl (fun _ _ => by kernel_rfl) (fun w' H' => (wireQuorum_any w' D.f D.c (by omega)).mono fun _ _ h => ⟨h.1, H'.keepU h.2⟩) ?_
      refine qy 11 27 true 41 (.bool (decide ((forV D.L 2 y12.1 y12.2.h) ≥ (2 * D.f + 1)))) ?_
      refine qv 42 (.bool (decide ((forV D.L 2 y12.1 y12.2.h) ≥ (2 * D.f + 1)))) ?_
      refine q_end ?_
      intro w34 H35
      refine meetR_at ?_ ⟨(congrArg Value.bool (show (decide ((forV D.L 2 y12.1 y12.2.h) ≥ (2 * D.f + 1))) = (y12.2.ok && (decide (leastV D.f D.L seen < 0) || decide (y12.1 < leastV D.f D.L seen)) && decide (forV D.L 2 y12.1 y12.2.h ≥ 2 * D.f + 1)) by simp [b26, b27, b32])), H35⟩
      exact (same_upd rfl (same_upd rfl (same_upd rfl (same_upd rfl (same_upd rfl (same_upd rfl (same_upd rfl (same_upd rfl (same_upd rfl (same_upd rfl (same_upd rfl (same_upd rfl (same_upd rfl (same_upd rfl (same_upd rfl (same_upd rfl (same_upd rfl (same_upd rfl (same_upd rfl (same_upd rfl (same_upd rfl (same_upd rfl (same_upd rfl (same_upd rfl (same_upd rfl (same_upd rfl (same_upd rfl (same_upd rfl (same_upd rfl (same_upd rfl (same_refl)))))))))))))))))))))))))))))))
     ·have g36 := of_decide_eq_false b32
      refine q_know 27 (.bool false) (congrArg Value.bool b32) ?_
      iterate 14 refine qn 11 27 true ?_
      refine qv 42 (.bool false) ?_
      refine q_end ?_
      intro w37 H38
      refine meetR_at ?_ ⟨(congrArg Value.bool (show false = (y12.2.ok && (decide (leastV D.f D.L seen < 0) || decide (y12.1 < leastV D.f D.L seen)) && decide (forV D.L 2 y12.1 y12.2.h ≥ 2 * D.f + 1)) by simp [b26, b27, b32])), H38⟩
      exact (same_upd rfl (same_upd rfl (same_upd rfl (same_upd rfl (same_upd rfl (same_upd rfl (same_upd rfl (same_upd rfl (same_upd rfl (same_upd rfl (same_upd rfl (same_upd rfl (same_upd rfl (same_upd rfl (same_upd rfl (same_upd rfl (same_upd rfl (same_upd rfl (same_upd rfl (same_upd rfl (same_upd rfl (same_upd rfl (same_upd rfl (same_upd rfl (same_upd rfl (same_upd rfl (same_upd rfl (same_upd rfl (same_upd rfl (same_upd rfl (same_refl)))))))))))))))))))))))))))))))
   ·refine q_know 18 (.bool false) (congrArg Value.bool b26) ?_
    iterate 3 refine qn 2 18 true ?_
    iterate 3 refine qu 5 21 false ?_
    refine qn 2 18 true ?_
    refine qv 26 (.bool false) ?_
    refine qv 27 (.bool false) ?_
    iterate 14 refine qn 11 27 true ?_
    refine qv 42 (.bool false) ?_
    refine q_end ?_
    intro w39 H40
    refine meetR_at ?_ ⟨(congrArg Value.bool (show false = (y12.2.ok && (decide (leastV D.f D.L seen < 0) || decide (y12.1 < leastV D.f D.L seen)) && decide (forV D.L 2 y12.1 y12.2.h ≥ 2 * D.f + 1)) by simp [b26])), H40⟩
    exact (same_upd rfl (same_upd rfl (same_upd rfl (same_upd rfl (same_upd rfl (same_upd rfl (same_upd rfl (same_upd rfl (same_upd rfl (same_upd rfl (same_upd rfl (same_upd rfl (same_upd rfl (same_upd rfl (same_upd rfl (same_upd rfl (same_upd rfl (same_upd rfl (same_upd rfl (same_upd rfl (same_upd rfl (same_upd rfl (same_upd rfl (same_upd rfl (same_upd rfl (same_upd rfl (same_upd rfl (same_upd rfl (same_refl)))))))))))))))))))))))))))))
  ·rintro f41 w42 ⟨v44, H43⟩
   refine wp_know 42 _ v44 ?_
   refine (bsplit (y12.2.ok && (decide (leastV D.f D.L seen < 0) || decide (y12.1 < leastV D.f D.L seen)) && decide (forV D.L 2 y12.1 y12.2.h ≥ 2 * D.f + 1))).elim (fun b45 => ?_) (fun b45 => ?_)
   ·refine wp_know 42 (.bool true) (congrArg Value.bool b45) ?_
    refine wp_ift rfl ?_
    refine w_lit ?_
    refine wv 43 (.int .i64 (y12.1)) ?_
    refine wv 3 (.int .i64 (y12.1)) ?_
    refine w_nil ?_
    refine blk_normal ?_
    have H46 : Sat w [restC w (fun _ => False), iterR w r2 pb (Value.int .i64) propV D.P (seen ++ [y12])] w42 := H43.pick [0, 1] (by decide)
    refine round_back ?_ _ ⟨(seen ++ [y12]), t13, (show ((.int .i64 (y12.1)) : Value) = _ by rw [least_snoc, b45]; rfl), p15, H46, rfl⟩ (by have h1 := hperm.length_eq; have h2 := p15.length_eq; simp only [List.length_append, List.length_cons, List.length_nil] at h1 h2; omega)
    exact (same_upd rfl (same_upd rfl (same_upd rfl (same_upd rfl (same_ovr2 rfl (same_upd rfl (same_upd rfl (same_upd rfl (same_upd rfl (same_upd rfl (same_upd rfl (same_upd rfl (same_upd rfl (same_ovr))))))))))))))
   ·refine wp_know 42 (.bool false) (congrArg Value.bool b45) ?_
    refine wp_iff rfl ?_
    refine w_skip ?_
    refine blk_normal ?_
    have H47 : Sat w [restC w (fun _ => False), iterR w r2 pb (Value.int .i64) propV D.P (seen ++ [y12])] w42 := H43.pick [0, 1] (by decide)
    refine round_back ?_ _ ⟨(seen ++ [y12]), t13, (show ((.int .i64 (leastV D.f D.L seen)) : Value) = _ by rw [least_snoc, b45]; rfl), p15, H47, rfl⟩ (by have h1 := hperm.length_eq; have h2 := p15.length_eq; simp only [List.length_append, List.length_cons, List.length_nil] at h1 h2; omega)
    exact (same_upd rfl (same_upd rfl (same_ovr2 rfl (same_upd rfl (same_upd rfl (same_upd rfl (same_upd rfl (same_upd rfl (same_upd rfl (same_upd rfl (same_upd rfl (same_ovr))))))))))))

set_option maxRecDepth 100000 in
set_option maxHeartbeats 400000 in
theorem coreChoose_any (w : World) (k t hb cb ab lb pb : Nat) (D : CoreD) (hT : (coreC k t hb cb ab lb pb D).ok w) (h : CI D) (p : PropD) :
  Calls Try.prog 65 #[(.pointer (some ⟨k, 0, none⟩)), (.agg ⟨(([(.int .i64 (p.valid))] : List Value) ++ hc p.h ++ ([(.bool (p.ok))] : List Value))⟩)] w fun e w' => e = .returned (.tuple #[.agg ⟨hc (chooseD D p).1⟩, .bool (chooseD D p).2]) ∧ Upd [] w w' := by
 obtain ⟨hcell, htal, hmap⟩ := coreC_parts hT
 have H := Sat.start0 w
 have hf := h.f
 have hrd := h.rd
 refine calls_fr Try.func65 rfl 58 rfl (Nat.le_of_ble_eq_true rfl) ?_
 refine w_seq ?_
 refine w_lit ?_
 refine wl_do (wants0 rfl) (fun K1 hK1 => ?_)
 refine d_box (vs := (([(.int .i64 (p.valid))] : List Value) ++ hc p.h ++ ([(.bool (p.ok))] : List Value))) rfl H rfl rfl ?_
 intro b2 w3 (H4 : Sat w [restC w (fun _ => False), cellC b2 96 (([(.int .i64 (p.valid))] : List Value) ++ hc p.h ++ ([(.bool (p.ok))] : List Value))] w3)
 refine hK1 _ _ ?_
 clear hK1 K1
 refine wl_do (wants0 rfl) (fun K5 hK5 => ?_)
 refine d_alloc (zs := (hc hash0)) (z := (.agg ⟨(hc hash0)⟩)) rfl H4 (by kernel_rfl) (by kernel_rfl) ?_
 intro b6 w7 (H8 : Sat w [restC w (fun _ => False), cellC b2 96 (([(.int .i64 (p.valid))] : List Value) ++ hc p.h ++ ([(.bool (p.ok))] : List Value)), cellC b6 36 (hc hash0)] w7)
 refine hK5 _ _ ?_
 clear hK5 K5
 refine wv 5 (.bool false) ?_
 refine w_nil ?_
 refine then_normal ?_
 refine w_seq ?_
 refine w_lit ?_
 refine wv 7 (pt k 0) ?_
 refine wv 8 (pt k 0) ?_
 refine wv 9 (pt k 4) ?_
 refine wv 10 (pt k 6) ?_
 refine wv 11 (.int .i64 (D.s.lr)) ?_ (hr := e_load1 rfl (by kernel_rfl) (H8.roCell 0 rfl hcell (fun h => h) (by kernel_rfl)))
 refine wv 12 (.bool (decide (D.s.lr < 0))) ?_
 refine wv 6 (.bool (decide (D.s.lr < 0))) ?_
 refine w_nil ?_
 refine then_normal ?_
 iterate 2 refine w_seq ?_
 refine w_lit ?_
 refine wv 13 (pt b2 0) ?_
 refine wv 14 (.int .i64 (p.valid)) ?_ (hr := e_load1 rfl (by kernel_rfl) (H8.cell 1 rfl (by kernel_rfl)))
 refine wv 15 (.bool (decide (p.valid ≥ 0))) ?_
 refine w_nil ?_
 refine then_normal ?_
 refine (bsplit (decide (p.valid ≥ 0))).elim (fun b9 => ?_) (fun b9 => ?_)
 ·have g10 := of_decide_eq_true b9
  refine wp_know 15 (.bool true) (congrArg Value.bool b9) ?_
  refine wp_ift rfl ?_
  iterate 2 refine w_seq ?_
  refine q_start H8 (by kernel_rfl) (by kernel_rfl) ?_
  refine qv 16 (pt k 0) ?_
  refine qv 17 (pt k 0) ?_
  refine qv 18 (pt k 105) ?_
  refine qv 19 (pt t 0) ?_ (hr := fun _ H' => (e_load1 rfl (by kernel_rfl) (H'.roCell 0 rfl hcell (fun h => h) (by kernel_rfl))))
  refine qv 20 (pt b2 0) ?_
  refine qv 21 (.int .i64 (p.valid)) ?_ (hr := fun _ H' => (e_load1 rfl (by kernel_rfl) (H'.cell 1 rfl (by kernel_rfl))))
  refine qv 22 (pt b2 1) ?_
  refine qv 23 (.agg ⟨(hc p.h)⟩) ?_ (hr := fun _ H' => (e_loadN (vs := (hc p.h)) rfl (by kernel_rfl) (by kernel_rfl) (by exact Nat.le_of_ble_eq_true (by kernel_rfl)) (H'.at 1 rfl) (by kernel_rfl)))
  refine q_call (wants0 rfl) (d := 24) (v := (.int .i64 (forV D.L 1 p.valid p.h))) rfl (fun _ _ => by kernel_rfl) (fun w' H' => (talFor_any w' t hb cb ab lb D.f D.c D.L (H'.roCk 0 rfl htal (fun _ _ h => h)) 1 p.valid p.h).mono fun _ _ h => ⟨h.1, H'.keepU h.2⟩) ?_
  refine qv 25 (pt k 0) ?_
  refine qv 26 (pt k 0) ?_
  refine qv 27 (pt k 0) ?_
  refine qv 28 (.agg ⟨([(.int .i64 (D.f)), (.int .i64 (D.c))] : List Value)⟩) ?_ (hr := fun _ H' => (e_loadN (vs := ([(.int .i64 (D.f)), (.int .i64 (D.c))] : List Value)) rfl (by kernel_rfl) (by kernel_rfl) (by exact Nat.le_of_ble_eq_true (by kernel_rfl)) (H'.roCells 0 rfl hcell (fun h => h)) (by kernel_rfl)))
  refine q_call (wants0 rfl) (d := 29) (v := (.int .i64 (2 * D.f + 1))) rfl (fun _ _ => by kernel_rfl) (fun w' H' => (wireQuorum_any w' D.f D.c (by omega)).mono fun _ _ h => ⟨h.1, H'.keepU h.2⟩) ?_
  refine qv 30 (.bool (decide ((forV D.L 1 p.valid p.h) < (2 * D.f + 1)))) ?_
  refine q_end ?_
  intro w11 H12
  refine then_normal ?_
  refine (bsplit (decide ((forV D.L 1 p.valid p.h) < (2 * D.f + 1)))).elim (fun b13 => ?_) (fun b13 => ?_)
  ·have g14 := of_decide_eq_true b13
   refine wp_know 30 (.bool true) (congrArg Value.bool b13) ?_
   refine wp_ift rfl ?_
   refine w_seq ?_
   refine w_lit ?_
   refine wv 31 (.agg ⟨(hc hash0)⟩) ?_
   refine wl_do (wants0 rfl) (fun K15 hK15 => ?_)
   refine d_storeX (vs := (hc hash0)) (cs' := (hc hash0)) rfl H12 2 rfl rfl rfl rfl (by kernel_rfl) (Nat.le_of_ble_eq_true (by kernel_rfl)) (Nat.le_of_ble_eq_true (by kernel_rfl)) (by kernel_rfl) (by kernel_rfl) ?_
   intro w16 (H17 : Sat w [restC w (fun _ => False), cellC b2 96 (([(.int .i64 (p.valid))] : List Value) ++ hc p.h ++ ([(.bool (p.ok))] : List Value)), cellC b6 36 (hc hash0)] w16)
   refine hK15 _ _ ?_
   clear hK15 K15
   refine wv 5 (.bool false) ?_
   refine w_nil ?_
   refine then_normal ?_
   refine w_ret ?_
   iterate 2 refine then_ret ?_
   refine end2 rfl (res_cellN (vs := (hc hash0)) rfl (by kernel_rfl) (by kernel_rfl) (by exact Nat.le_of_ble_eq_true (by kernel_rfl)) (H17.at 2 rfl) (by kernel_rfl)) (res_tmp (v := (.bool false)) rfl) ?_
   have hC : chooseD D p = (hash0, false) := by simp [chooseD, mayB, of_decide_eq_true b9, of_decide_eq_true b13] <;> omega
   rw [hC]
   exact ⟨rfl, H17.upd 0 rfl [] (fun _ h => h.elim)⟩
  ·have g19 := of_decide_eq_false b13
   refine wp_know 30 (.bool false) (congrArg Value.bool b13) ?_
   refine wp_iff rfl ?_
   refine w_skip ?_
   refine then_normal ?_
   refine q_start H12 (by kernel_rfl) (by kernel_rfl) ?_
   refine qv 32 (pt k 0) ?_
   refine qv 33 (pt k 0) ?_
   refine qv 34 (pt k 4) ?_
   refine qv 35 (pt k 6) ?_
   refine qv 36 (.int .i64 (D.s.lr)) ?_ (hr := fun _ H' => (e_load1 rfl (by kernel_rfl) (H'.roCell 0 rfl hcell (fun h => h) (by kernel_rfl))))
   refine qv 37 (pt b2 0) ?_
   refine qv 38 (.int .i64 (p.valid)) ?_ (hr := fun _ H' => (e_load1 rfl (by kernel_rfl) (H'.cell 1 rfl (by kernel_rfl))))
   refine qv 39 (.bool (decide (D.s.lr ≤ p.valid))) ?_
   refine qv 6 (.bool (decide (D.s.lr ≤ p.valid))) ?_
   refine q_end ?_
   intro w20 H21
   refine then_normal ?_
   iterate 2 refine w_seq ?_
   refine q_start H21 (by kernel_rfl) (by kernel_rfl) ?_
   refine qv 40 (pt b2 33) ?_
   refine qv 41 (.bool (p.ok)) ?_ (hr := fun _ H' => (e_load1 rfl (by kernel_rfl) (H'.cell 1 rfl (by kernel_rfl))))
   refine qv 42 (.bool (p.ok)) ?_
   refine (bsplit (p.ok)).elim (fun b22 => ?_) (fun b22 => ?_)
   ·refine q_know 42 (.bool true) (congrArg Value.bool b22) ?_
    refine qy 2 42 true 43 (.bool (decide (D.s.lr ≤ p.valid))) ?_
    refine qy 2 42 true 44 (.bool (decide (D.s.lr ≤ p.valid))) ?_
    refine (bsplit (decide (D.s.lr ≤ p.valid))).elim (fun b23 => ?_) (fun b23 => ?_)
    ·have g24 := of_decide_eq_true b23
     refine q_know 44 (.bool true) (congrArg Value.bool b23) ?_
     iterate 8 refine qn 4 44 false ?_
     refine qy 2 42 true 53 (.bool true) ?_
     refine qv 54 (.bool true) ?_
     refine q_end ?_
     intro w25 H26
     refine then_normal ?_
     refine wp_ift rfl ?_
     refine w_seq ?_
     refine w_lit ?_
     refine wv 55 (pt b2 1) ?_
     refine wv 56 (.agg ⟨(hc p.h)⟩) ?_ (hr := e_loadN (vs := (hc p.h)) rfl (by kernel_rfl) (by kernel_rfl) (by exact Nat.le_of_ble_eq_true (by kernel_rfl)) (H26.at 1 rfl) (by kernel_rfl))
     refine wl_do (wants0 rfl) (fun K27 hK27 => ?_)
     refine d_storeX (vs := (hc p.h)) (cs' := (hc p.h)) rfl H26 2 rfl rfl rfl rfl (by kernel_rfl) (Nat.le_of_ble_eq_true (by kernel_rfl)) (Nat.le_of_ble_eq_true (by kernel_rfl)) (by kernel_rfl) (by kernel_rfl) ?_
     intro w28 (H29 : Sat w [restC w (fun _ => False), cellC b2 96 (([(.int .i64 (p.valid))] : List Value) ++ hc p.h ++ ([(.bool (p.ok))] : List Value)), cellC b6 36 (hc p.h)] w28)
     refine hK27 _ _ ?_
     clear hK27 K27
     refine wv 5 (.bool true) ?_
     refine w_nil ?_
     refine then_normal ?_
     refine w_ret ?_
     refine then_ret ?_
     refine end2 rfl (res_cellN (vs := (hc p.h)) rfl (by kernel_rfl) (by kernel_rfl) (by exact Nat.le_of_ble_eq_true (by kernel_rfl)) (H29.at 2 rfl) (by kernel_rfl)) (res_tmp (v := (.bool true)) rfl) ?_
     have hC : chooseD D p = (p.h, true) := by simp [chooseD, mayB, of_decide_eq_true b9, of_decide_eq_false b13, b22, of_decide_eq_true b23] <;> omega
     rw [hC]
     exact ⟨rfl, H29.upd 0 rfl [] (fun _ h => h.elim)⟩
    ·have g31 := of_decide_eq_false b23
     refine q_know 44 (.bool false) (congrArg Value.bool b23) ?_
     refine qy 4 44 false 45 (pt k 0) ?_
     refine qy 4 44 false 46 (pt k 0) ?_
     refine qy 4 44 false 47 (pt k 4) ?_
     refine qy 4 44 false 48 (pt k 8) ?_
     refine qy 4 44 false 49 (.agg ⟨(hc D.s.locked)⟩) ?_ (hr := fun _ H' => (e_loadN (vs := (hc D.s.locked)) rfl (by kernel_rfl) (by kernel_rfl) (by exact Nat.le_of_ble_eq_true (by kernel_rfl)) (H'.roCells 0 rfl hcell (fun h => h)) (by kernel_rfl)))
     refine qy 4 44 false 50 (pt b2 1) ?_
     refine qy 4 44 false 51 (.agg ⟨(hc p.h)⟩) ?_ (hr := fun _ H' => (e_loadN (vs := (hc p.h)) rfl (by kernel_rfl) (by kernel_rfl) (by exact Nat.le_of_ble_eq_true (by kernel_rfl)) (H'.at 1 rfl) (by kernel_rfl)))
     refine qy 4 44 false 52 (.bool (decide (D.s.locked = p.h))) ?_ (hr := fun _ H' => (e_eqHash D.s.locked p.h rfl rfl))
     refine qy 2 42 true 53 (.bool (decide (D.s.locked = p.h))) ?_
     refine qv 54 (.bool (decide (D.s.locked = p.h))) ?_
     refine q_end ?_
     intro w32 H33
     refine then_normal ?_
     refine (bsplit (decide (D.s.locked = p.h))).elim (fun b34 => ?_) (fun b34 => ?_)
     ·have g35 := of_decide_eq_true b34
      refine wp_know 54 (.bool true) (congrArg Value.bool b34) ?_
      refine wp_ift rfl ?_
      refine w_seq ?_
      refine w_lit ?_
      refine wv 55 (pt b2 1) ?_
      refine wv 56 (.agg ⟨(hc p.h)⟩) ?_ (hr := e_loadN (vs := (hc p.h)) rfl (by kernel_rfl) (by kernel_rfl) (by exact Nat.le_of_ble_eq_true (by kernel_rfl)) (H33.at 1 rfl) (by kernel_rfl))
      refine wl_do (wants0 rfl) (fun K36 hK36 => ?_)
      refine d_storeX (vs := (hc p.h)) (cs' := (hc p.h)) rfl H33 2 rfl rfl rfl rfl (by kernel_rfl) (Nat.le_of_ble_eq_true (by kernel_rfl)) (Nat.le_of_ble_eq_true (by kernel_rfl)) (by kernel_rfl) (by kernel_rfl) ?_
      intro w37 (H38 : Sat w [restC w (fun _ => False), cellC b2 96 (([(.int .i64 (p.valid))] : List Value) ++ hc p.h ++ ([(.bool (p.ok))] : List Value)), cellC b6 36 (hc p.h)] w37)
      refine hK36 _ _ ?_
      clear hK36 K36
      refine wv 5 (.bool true) ?_
      refine w_nil ?_
      refine then_normal ?_
      refine w_ret ?_
      refine then_ret ?_
      refine end2 rfl (res_cellN (vs := (hc p.h)) rfl (by kernel_rfl) (by kernel_rfl) (by exact Nat.le_of_ble_eq_true (by kernel_rfl)) (H38.at 2 rfl) (by kernel_rfl)) (res_tmp (v := (.bool true)) rfl) ?_
      have hC : chooseD D p = (p.h, true) := by simp [chooseD, mayB, of_decide_eq_true b9, of_decide_eq_false b13, b22, of_decide_eq_false b23, of_decide_eq_true b34] <;> omega
      rw [hC]
      exact ⟨rfl, H38.upd 0 rfl [] (fun _ h => h.elim)⟩
     ·have g40 := of_decide_eq_false b34
      refine wp_know 54 (.bool false) (congrArg Value.bool b34) ?_
      refine wp_iff rfl ?_
      refine w_skip ?_
      refine then_normal ?_
      refine w_seq ?_
      refine w_lit ?_
      refine wv 57 (.agg ⟨(hc hash0)⟩) ?_
      refine wl_do (wants0 rfl) (fun K41 hK41 => ?_)
      refine d_storeX (vs := (hc hash0)) (cs' := (hc hash0)) rfl H33 2 rfl rfl rfl rfl (by kernel_rfl) (Nat.le_of_ble_eq_true (by kernel_rfl)) (Nat.le_of_ble_eq_true (by kernel_rfl)) (by kernel_rfl) (by kernel_rfl) ?_
      intro w42 (H43 : Sat w [restC w (fun _ => False), cellC b2 96 (([(.int .i64 (p.valid))] : List Value) ++ hc p.h ++ ([(.bool (p.ok))] : List Value)), cellC b6 36 (hc hash0)] w42)
      refine hK41 _ _ ?_
      clear hK41 K41
      refine wv 5 (.bool true) ?_
      refine w_nil ?_
      refine then_normal ?_
      refine w_ret ?_
      refine end2 rfl (res_cellN (vs := (hc hash0)) rfl (by kernel_rfl) (by kernel_rfl) (by exact Nat.le_of_ble_eq_true (by kernel_rfl)) (H43.at 2 rfl) (by kernel_rfl)) (res_tmp (v := (.bool true)) rfl) ?_
      have hC : chooseD D p = (hash0, true) := by simp [chooseD, mayB, of_decide_eq_true b9, of_decide_eq_false b13, b22, of_decide_eq_false b23, of_decide_eq_false b34] <;> omega
      rw [hC]
      exact ⟨rfl, H43.upd 0 rfl [] (fun _ h => h.elim)⟩
   ·refine q_know 42 (.bool false) (congrArg Value.bool b22) ?_
    iterate 2 refine qn 2 42 true ?_
    iterate 8 refine qu 4 44 false ?_
    refine qn 2 42 true ?_
    refine qv 54 (.bool false) ?_
    refine q_end ?_
    intro w45 H46
    refine then_normal ?_
    refine wp_iff rfl ?_
    refine w_skip ?_
    refine then_normal ?_
    refine w_seq ?_
    refine w_lit ?_
    refine wv 57 (.agg ⟨(hc hash0)⟩) ?_
    refine wl_do (wants0 rfl) (fun K47 hK47 => ?_)
    refine d_storeX (vs := (hc hash0)) (cs' := (hc hash0)) rfl H46 2 rfl rfl rfl rfl (by kernel_rfl) (Nat.le_of_ble_eq_true (by kernel_rfl)) (Nat.le_of_ble_eq_true (by kernel_rfl)) (by kernel_rfl) (by kernel_rfl) ?_
    intro w48 (H49 : Sat w [restC w (fun _ => False), cellC b2 96 (([(.int .i64 (p.valid))] : List Value) ++ hc p.h ++ ([(.bool (p.ok))] : List Value)), cellC b6 36 (hc hash0)] w48)
    refine hK47 _ _ ?_
    clear hK47 K47
    refine wv 5 (.bool true) ?_
    refine w_nil ?_
    refine then_normal ?_
    refine w_ret ?_
    refine end2 rfl (res_cellN (vs := (hc hash0)) rfl (by kernel_rfl) (by kernel_rfl) (by exact Nat.le_of_ble_eq_true (by kernel_rfl)) (H49.at 2 rfl) (by kernel_rfl)) (res_tmp (v := (.bool true)) rfl) ?_
    have hC : chooseD D p = (hash0, true) := by simp [chooseD, mayB, of_decide_eq_true b9, of_decide_eq_false b13, b22] <;> omega
    rw [hC]
    exact ⟨rfl, H49.upd 0 rfl [] (fun _ h => h.elim)⟩
 ·have g51 := of_decide_eq_false b9
  refine wp_know 15 (.bool false) (congrArg Value.bool b9) ?_
  refine wp_iff rfl ?_
  refine w_skip ?_
  refine then_normal ?_
  iterate 2 refine w_seq ?_
  refine q_start H8 (by kernel_rfl) (by kernel_rfl) ?_
  refine qv 40 (pt b2 33) ?_
  refine qv 41 (.bool (p.ok)) ?_ (hr := fun _ H' => (e_load1 rfl (by kernel_rfl) (H'.cell 1 rfl (by kernel_rfl))))
  refine qv 42 (.bool (p.ok)) ?_
  refine (bsplit (p.ok)).elim (fun b52 => ?_) (fun b52 => ?_)
  ·refine q_know 42 (.bool true) (congrArg Value.bool b52) ?_
   refine qy 2 42 true 43 (.bool (decide (D.s.lr < 0))) ?_
   refine qy 2 42 true 44 (.bool (decide (D.s.lr < 0))) ?_
   refine (bsplit (decide (D.s.lr < 0))).elim (fun b53 => ?_) (fun b53 => ?_)
   ·have g54 := of_decide_eq_true b53
    refine q_know 44 (.bool true) (congrArg Value.bool b53) ?_
    iterate 8 refine qn 4 44 false ?_
    refine qy 2 42 true 53 (.bool true) ?_
    refine qv 54 (.bool true) ?_
    refine q_end ?_
    intro w55 H56
    refine then_normal ?_
    refine wp_ift rfl ?_
    refine w_seq ?_
    refine w_lit ?_
    refine wv 55 (pt b2 1) ?_
    refine wv 56 (.agg ⟨(hc p.h)⟩) ?_ (hr := e_loadN (vs := (hc p.h)) rfl (by kernel_rfl) (by kernel_rfl) (by exact Nat.le_of_ble_eq_true (by kernel_rfl)) (H56.at 1 rfl) (by kernel_rfl))
    refine wl_do (wants0 rfl) (fun K57 hK57 => ?_)
    refine d_storeX (vs := (hc p.h)) (cs' := (hc p.h)) rfl H56 2 rfl rfl rfl rfl (by kernel_rfl) (Nat.le_of_ble_eq_true (by kernel_rfl)) (Nat.le_of_ble_eq_true (by kernel_rfl)) (by kernel_rfl) (by kernel_rfl) ?_
    intro w58 (H59 : Sat w [restC w (fun _ => False), cellC b2 96 (([(.int .i64 (p.valid))] : List Value) ++ hc p.h ++ ([(.bool (p.ok))] : List Value)), cellC b6 36 (hc p.h)] w58)
    refine hK57 _ _ ?_
    clear hK57 K57
    refine wv 5 (.bool true) ?_
    refine w_nil ?_
    refine then_normal ?_
    refine w_ret ?_
    refine then_ret ?_
    refine end2 rfl (res_cellN (vs := (hc p.h)) rfl (by kernel_rfl) (by kernel_rfl) (by exact Nat.le_of_ble_eq_true (by kernel_rfl)) (H59.at 2 rfl) (by kernel_rfl)) (res_tmp (v := (.bool true)) rfl) ?_
    have hC : chooseD D p = (p.h, true) := by simp [chooseD, mayB, of_decide_eq_false b9, b52, of_decide_eq_true b53] <;> omega
    rw [hC]
    exact ⟨rfl, H59.upd 0 rfl [] (fun _ h => h.elim)⟩
   ·have g61 := of_decide_eq_false b53
    refine q_know 44 (.bool false) (congrArg Value.bool b53) ?_
    refine qy 4 44 false 45 (pt k 0) ?_
    refine qy 4 44 false 46 (pt k 0) ?_
    refine qy 4 44 false 47 (pt k 4) ?_
    refine qy 4 44 false 48 (pt k 8) ?_
    refine qy 4 44 false 49 (.agg ⟨(hc D.s.locked)⟩) ?_ (hr := fun _ H' => (e_loadN (vs := (hc D.s.locked)) rfl (by kernel_rfl) (by kernel_rfl) (by exact Nat.le_of_ble_eq_true (by kernel_rfl)) (H'.roCells 0 rfl hcell (fun h => h)) (by kernel_rfl)))
    refine qy 4 44 false 50 (pt b2 1) ?_
    refine qy 4 44 false 51 (.agg ⟨(hc p.h)⟩) ?_ (hr := fun _ H' => (e_loadN (vs := (hc p.h)) rfl (by kernel_rfl) (by kernel_rfl) (by exact Nat.le_of_ble_eq_true (by kernel_rfl)) (H'.at 1 rfl) (by kernel_rfl)))
    refine qy 4 44 false 52 (.bool (decide (D.s.locked = p.h))) ?_ (hr := fun _ H' => (e_eqHash D.s.locked p.h rfl rfl))
    refine qy 2 42 true 53 (.bool (decide (D.s.locked = p.h))) ?_
    refine qv 54 (.bool (decide (D.s.locked = p.h))) ?_
    refine q_end ?_
    intro w62 H63
    refine then_normal ?_
    refine (bsplit (decide (D.s.locked = p.h))).elim (fun b64 => ?_) (fun b64 => ?_)
    ·have g65 := of_decide_eq_true b64
     refine wp_know 54 (.bool true) (congrArg Value.bool b64) ?_
     refine wp_ift rfl ?_
     refine w_seq ?_
     refine w_lit ?_
     refine wv 55 (pt b2 1) ?_
     refine wv 56 (.agg ⟨(hc p.h)⟩) ?_ (hr := e_loadN (vs := (hc p.h)) rfl (by kernel_rfl) (by kernel_rfl) (by exact Nat.le_of_ble_eq_true (by kernel_rfl)) (H63.at 1 rfl) (by kernel_rfl))
     refine wl_do (wants0 rfl) (fun K66 hK66 => ?_)
     refine d_storeX (vs := (hc p.h)) (cs' := (hc p.h)) rfl H63 2 rfl rfl rfl rfl (by kernel_rfl) (Nat.le_of_ble_eq_true (by kernel_rfl)) (Nat.le_of_ble_eq_true (by kernel_rfl)) (by kernel_rfl) (by kernel_rfl) ?_
     intro w67 (H68 : Sat w [restC w (fun _ => False), cellC b2 96 (([(.int .i64 (p.valid))] : List Value) ++ hc p.h ++ ([(.bool (p.ok))] : List Value)), cellC b6 36 (hc p.h)] w67)
     refine hK66 _ _ ?_
     clear hK66 K66
     refine wv 5 (.bool true) ?_
     refine w_nil ?_
     refine then_normal ?_
     refine w_ret ?_
     refine then_ret ?_
     refine end2 rfl (res_cellN (vs := (hc p.h)) rfl (by kernel_rfl) (by kernel_rfl) (by exact Nat.le_of_ble_eq_true (by kernel_rfl)) (H68.at 2 rfl) (by kernel_rfl)) (res_tmp (v := (.bool true)) rfl) ?_
     have hC : chooseD D p = (p.h, true) := by simp [chooseD, mayB, of_decide_eq_false b9, b52, of_decide_eq_false b53, of_decide_eq_true b64] <;> omega
     rw [hC]
     exact ⟨rfl, H68.upd 0 rfl [] (fun _ h => h.elim)⟩
    ·have g70 := of_decide_eq_false b64
     refine wp_know 54 (.bool false) (congrArg Value.bool b64) ?_
     refine wp_iff rfl ?_
     refine w_skip ?_
     refine then_normal ?_
     refine w_seq ?_
     refine w_lit ?_
     refine wv 57 (.agg ⟨(hc hash0)⟩) ?_
     refine wl_do (wants0 rfl) (fun K71 hK71 => ?_)
     refine d_storeX (vs := (hc hash0)) (cs' := (hc hash0)) rfl H63 2 rfl rfl rfl rfl (by kernel_rfl) (Nat.le_of_ble_eq_true (by kernel_rfl)) (Nat.le_of_ble_eq_true (by kernel_rfl)) (by kernel_rfl) (by kernel_rfl) ?_
     intro w72 (H73 : Sat w [restC w (fun _ => False), cellC b2 96 (([(.int .i64 (p.valid))] : List Value) ++ hc p.h ++ ([(.bool (p.ok))] : List Value)), cellC b6 36 (hc hash0)] w72)
     refine hK71 _ _ ?_
     clear hK71 K71
     refine wv 5 (.bool true) ?_
     refine w_nil ?_
     refine then_normal ?_
     refine w_ret ?_
     refine end2 rfl (res_cellN (vs := (hc hash0)) rfl (by kernel_rfl) (by kernel_rfl) (by exact Nat.le_of_ble_eq_true (by kernel_rfl)) (H73.at 2 rfl) (by kernel_rfl)) (res_tmp (v := (.bool true)) rfl) ?_
     have hC : chooseD D p = (hash0, true) := by simp [chooseD, mayB, of_decide_eq_false b9, b52, of_decide_eq_false b53, of_decide_eq_false b64] <;> omega
     rw [hC]
     exact ⟨rfl, H73.upd 0 rfl [] (fun _ h => h.elim)⟩
  ·refine q_know 42 (.bool false) (congrArg Value.bool b52) ?_
   iterate 2 refine qn 2 42 true ?_
   iterate 8 refine qu 4 44 false ?_
   refine qn 2 42 true ?_
   refine qv 54 (.bool false) ?_
   refine q_end ?_
   intro w75 H76
   refine then_normal ?_
   refine wp_iff rfl ?_
   refine w_skip ?_
   refine then_normal ?_
   refine w_seq ?_
   refine w_lit ?_
   refine wv 57 (.agg ⟨(hc hash0)⟩) ?_
   refine wl_do (wants0 rfl) (fun K77 hK77 => ?_)
   refine d_storeX (vs := (hc hash0)) (cs' := (hc hash0)) rfl H76 2 rfl rfl rfl rfl (by kernel_rfl) (Nat.le_of_ble_eq_true (by kernel_rfl)) (Nat.le_of_ble_eq_true (by kernel_rfl)) (by kernel_rfl) (by kernel_rfl) ?_
   intro w78 (H79 : Sat w [restC w (fun _ => False), cellC b2 96 (([(.int .i64 (p.valid))] : List Value) ++ hc p.h ++ ([(.bool (p.ok))] : List Value)), cellC b6 36 (hc hash0)] w78)
   refine hK77 _ _ ?_
   clear hK77 K77
   refine wv 5 (.bool true) ?_
   refine w_nil ?_
   refine then_normal ?_
   refine w_ret ?_
   refine end2 rfl (res_cellN (vs := (hc hash0)) rfl (by kernel_rfl) (by kernel_rfl) (by exact Nat.le_of_ble_eq_true (by kernel_rfl)) (H79.at 2 rfl) (by kernel_rfl)) (res_tmp (v := (.bool true)) rfl) ?_
   have hC : chooseD D p = (hash0, true) := by simp [chooseD, mayB, of_decide_eq_false b9, b52] <;> omega
   rw [hC]
   exact ⟨rfl, H79.upd 0 rfl [] (fun _ h => h.elim)⟩

end Go.Proofs.Ythjmbhneifjeeaa
