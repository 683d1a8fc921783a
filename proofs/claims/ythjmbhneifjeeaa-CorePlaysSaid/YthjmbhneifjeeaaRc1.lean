/- WHAT IS PROVED: the contracts of the small functions of the document's core. Conditions: stated with each. -/
import Derived.Test.YthjmbhneifjeeaaShort
import Derived.Test.YthjmbhneifjeeaaRcMem
import Derived.Test.YthjmbhneifjeeaaRef14
namespace Go.Proofs.Ythjmbhneifjeeaa
open Go.RowKit

set_option maxRecDepth 100000 in
set_option maxHeartbeats 400000 in
theorem rcProposer_any (w : World) (f c : Int) (hf : 1 ≤ f ∧ f ≤ 1000000) (ep r : Int) :
  Calls Try.prog 52 #[(.agg ⟨([(.int .i64 (f)), (.int .i64 (c))] : List Value)⟩), (.int .i64 (ep)), (.int .i64 (r))] w fun e w' => e = .returned (.int .i64 (proposerV f ep r)) ∧ Upd [] w w' := by
 have H := Sat.start0 w
 have q1 := Int.emod_nonneg (max ep 0) (show (3 * f + 1) ≠ 0 by omega)
 have q2 := Int.emod_lt_of_pos (max ep 0) (show 0 < (3 * f + 1) by omega)
 have q3 := Int.emod_nonneg (max r 0) (show (3 * f + 1) ≠ 0 by omega)
 have q4 := Int.emod_lt_of_pos (max r 0) (show 0 < (3 * f + 1) by omega)
 refine calls_fr Try.func52 rfl 21 rfl (Nat.le_of_ble_eq_true rfl) ?_
 refine w_seq ?_
 refine w_lit ?_
 refine wl_do (wants0 rfl) (fun K1 hK1 => ?_)
 refine d_box (vs := ([(.int .i64 (f)), (.int .i64 (c))] : List Value)) rfl H rfl rfl ?_
 intro b2 w3 (H4 : Sat w [restC w (fun _ => False), cellC b2 25 ([(.int .i64 (f)), (.int .i64 (c))] : List Value)] w3)
 refine hK1 _ _ ?_
 clear hK1 K1
 refine wv 6 (.int .i64 (0)) ?_
 refine w_nil ?_
 refine then_normal ?_
 refine w_seq ?_
 refine q_start H4 (by kernel_rfl) (by kernel_rfl) ?_
 refine qv 7 (.int .i64 (ep)) ?_
 refine qv 8 (.int .i64 (max ep 0)) ?_ (hr := fun _ H' => (e_maxI (k := .i64) (a := ep) (b := 0) (z := max ep 0) rfl rfl rfl))
 refine qv 9 (.agg ⟨([(.int .i64 (f)), (.int .i64 (c))] : List Value)⟩) ?_ (hr := fun _ H' => (e_loadN (vs := ([(.int .i64 (f)), (.int .i64 (c))] : List Value)) rfl (by kernel_rfl) (by kernel_rfl) (by exact Nat.le_of_ble_eq_true (by kernel_rfl)) (H'.at 1 rfl) (by kernel_rfl)))
 refine q_call (wants0 rfl) (d := 10) (v := (.int .i64 (3 * f + 1))) rfl (fun _ _ => by kernel_rfl) (fun w' H' => (refN_any w' f c (by omega)).mono fun _ _ h => ⟨h.1, H'.keepU h.2⟩) ?_
 refine qv 11 (.int .i64 ((max ep 0) % (3 * f + 1))) ?_ (hr := fun _ H' => (e_rem (by kernel_rfl) (by omega) (by omega)))
 refine qv 12 (.int .i64 (r)) ?_
 refine qv 13 (.int .i64 (max r 0)) ?_ (hr := fun _ H' => (e_maxI (k := .i64) (a := r) (b := 0) (z := max r 0) rfl rfl rfl))
 refine qv 14 (.agg ⟨([(.int .i64 (f)), (.int .i64 (c))] : List Value)⟩) ?_ (hr := fun _ H' => (e_loadN (vs := ([(.int .i64 (f)), (.int .i64 (c))] : List Value)) rfl (by kernel_rfl) (by kernel_rfl) (by exact Nat.le_of_ble_eq_true (by kernel_rfl)) (H'.at 1 rfl) (by kernel_rfl)))
 refine q_call (wants0 rfl) (d := 15) (v := (.int .i64 (3 * f + 1))) rfl (fun _ _ => by kernel_rfl) (fun w' H' => (refN_any w' f c (by omega)).mono fun _ _ h => ⟨h.1, H'.keepU h.2⟩) ?_
 refine qv 16 (.int .i64 ((max r 0) % (3 * f + 1))) ?_ (hr := fun _ H' => (e_rem (by kernel_rfl) (by omega) (by omega)))
 refine qv 17 (.int .i64 (((max ep 0) % (3 * f + 1)) + ((max r 0) % (3 * f + 1)))) ?_ (hr := fun _ H' => (e_int (z := ((max ep 0) % (3 * f + 1)) + ((max r 0) % (3 * f + 1))) (by kernel_rfl) (IntWalk.i64_in _ (by omega))))
 refine qv 18 (.agg ⟨([(.int .i64 (f)), (.int .i64 (c))] : List Value)⟩) ?_ (hr := fun _ H' => (e_loadN (vs := ([(.int .i64 (f)), (.int .i64 (c))] : List Value)) rfl (by kernel_rfl) (by kernel_rfl) (by exact Nat.le_of_ble_eq_true (by kernel_rfl)) (H'.at 1 rfl) (by kernel_rfl)))
 refine q_call (wants0 rfl) (d := 19) (v := (.int .i64 (3 * f + 1))) rfl (fun _ _ => by kernel_rfl) (fun w' H' => (refN_any w' f c (by omega)).mono fun _ _ h => ⟨h.1, H'.keepU h.2⟩) ?_
 refine qv 20 (.int .i64 ((((max ep 0) % (3 * f + 1)) + ((max r 0) % (3 * f + 1))) % (3 * f + 1))) ?_ (hr := fun _ H' => (e_rem (by kernel_rfl) (by omega) (by omega)))
 refine qv 6 (.int .i64 ((((max ep 0) % (3 * f + 1)) + ((max r 0) % (3 * f + 1))) % (3 * f + 1))) ?_
 refine q_end ?_
 intro w5 H6
 refine then_normal ?_
 refine w_ret ?_
 refine end1 rfl (res_tmp (v := (.int .i64 ((((max ep 0) % (3 * f + 1)) + ((max r 0) % (3 * f + 1))) % (3 * f + 1)))) rfl) ?_
 exact ⟨by unfold proposerV; rw [Int.max_comm 0 ep, Int.max_comm 0 r], H6.upd 0 rfl [] (fun _ h => h.elim)⟩

set_option maxRecDepth 100000 in
set_option maxHeartbeats 400000 in
theorem rcEnter_any (w : World) (p t : Nat) (v u : Value) (D : CoreD) (hT : (rcC p t v u D).ok w) (h : CI D) (r : Int) :
  Calls Try.prog 42 #[(.pointer (some ⟨p, 0, none⟩)), (.int .i64 (r))] w fun e w' => ∃ v' u' z', e = .returned z' ∧ Sat w [cellC p 83 (rcL t u' (nextD D r)), cellC t 101 ([(.int .i64 ((nextD D r).f)), (.int .i64 ((nextD D r).c)), v'] : List Value), rowC 143 35 (v') (((nextD D r).L).length) (((nextD D r).L).flatMap encV), rowC 129 35 (u') (((nextD D r).P).length) (((nextD D r).P).flatMap encQ), rowC 102 35 z' (nextA D r).length ((nextA D r).flatMap encA), restC w (rcC p t v u D).fp] w' := by
 obtain ⟨va, vc, rfl⟩ := ownsRow_shape (rcC_parts hT).2.2.1
 obtain ⟨ua, uc, rfl⟩ := ownsRow_shape (rcC_parts hT).2.2.2
 have H : Sat w [cellC p 83 (rcL t (.slice ua D.P.length uc) D), cellC t 101 ([(.int .i64 (D.f)), (.int .i64 (D.c)), (.slice va D.L.length vc)] : List Value), rowC 143 35 (.slice va D.L.length vc) D.L.length (D.L.flatMap encV), rowC 129 35 (.slice ua D.P.length uc) D.P.length (D.P.flatMap encQ), restC w (rcC p t (.slice va D.L.length vc) (.slice ua D.P.length uc) D).fp] w := Sat.start _ hT
 have hf := h.f
 have hep := h.ep
 have hrp := h.rp
 have hrd := h.rd
 have hst := h.st
 have hvo := h.votes
 have hpo := props_few h
 refine calls_fr Try.func42 rfl 51 rfl (Nat.le_of_ble_eq_true rfl) ?_
 refine w_seq ?_
 refine w_lit ?_
 refine wv 4 (.slice none 0 0) ?_
 refine w_nil ?_
 refine then_normal ?_
 iterate 2 refine w_seq ?_
 refine w_lit ?_
 refine wv 5 (.int .i64 (r)) ?_
 refine wv 6 (.bool (decide (r > 1048576))) ?_
 refine w_nil ?_
 refine then_normal ?_
 refine (bsplit (decide (r > 1048576))).elim (fun b1 => ?_) (fun b1 => ?_)
 ·have g2 := of_decide_eq_true b1
  refine wp_know 6 (.bool true) (congrArg Value.bool b1) ?_
  refine wp_ift rfl ?_
  refine w_seq ?_
  refine w_lit ?_
  refine wv 4 (.slice none 0 0) ?_
  refine w_nil ?_
  refine then_normal ?_
  refine w_ret ?_
  refine then_ret ?_
  refine end1 rfl (res_tmp (v := (.slice none 0 0)) rfl) ?_
  rw [show nextD D r = D by unfold nextD; rw [if_neg (by have := of_decide_eq_true b1; omega)], show nextA D r = [] by unfold nextA; rw [if_neg (by have := of_decide_eq_true b1; omega)]]
  have Hn := H.addNil 102 35
  exact ⟨(.slice va D.L.length vc), (.slice ua D.P.length uc), _, rfl, (Hn.pick [0, 1, 2, 3, 5, 4] (by decide)).cast (by kernel_rfl)⟩
 ·have g3 := of_decide_eq_false b1
  refine wp_know 6 (.bool false) (congrArg Value.bool b1) ?_
  refine wp_iff rfl ?_
  refine w_skip ?_
  refine then_normal ?_
  refine w_seq ?_
  refine w_lit ?_
  refine wv 7 (pt p 0) ?_
  refine wv 8 (pt p 0) ?_
  refine wv 9 (.int .i64 (r)) ?_
  refine wv 10 (pt p 0) ?_
  refine wv 11 (pt p 4) ?_
  refine wv 12 (pt p 4) ?_
  refine wl_do (wants0 rfl) (fun K4 hK4 => ?_)
  refine d_storeX (vs := ([(.int .i64 (r))] : List Value)) (cs' := (rcW D.f D.c D.epoch D.replica r D.s.step D.s.lr D.s.vr D.s.locked D.s.valid D.s.decided D.s.decision t (.slice ua D.P.length uc) D.wv D.sp D.sc)) rfl H 0 rfl rfl rfl rfl (by kernel_rfl) (Nat.le_of_ble_eq_true (by kernel_rfl)) (Nat.le_of_ble_eq_true (by kernel_rfl)) (by kernel_rfl) (by kernel_rfl) ?_
  intro w5 (H6 : Sat w [cellC p 83 (rcW D.f D.c D.epoch D.replica r D.s.step D.s.lr D.s.vr D.s.locked D.s.valid D.s.decided D.s.decision t (.slice ua D.P.length uc) D.wv D.sp D.sc), cellC t 101 ([(.int .i64 (D.f)), (.int .i64 (D.c)), (.slice va D.L.length vc)] : List Value), rowC 143 35 (.slice va D.L.length vc) D.L.length (D.L.flatMap encV), rowC 129 35 (.slice ua D.P.length uc) D.P.length (D.P.flatMap encQ), restC w (rcC p t (.slice va D.L.length vc) (.slice ua D.P.length uc) D).fp] w5)
  refine hK4 _ _ ?_
  clear hK4 K4
  refine wv 13 (pt p 0) ?_
  refine wv 14 (pt p 4) ?_
  refine wv 15 (pt p 5) ?_
  refine wl_do (wants0 rfl) (fun K8 hK8 => ?_)
  refine d_storeX (vs := ([(.int .i64 (1))] : List Value)) (cs' := (rcW D.f D.c D.epoch D.replica r 1 D.s.lr D.s.vr D.s.locked D.s.valid D.s.decided D.s.decision t (.slice ua D.P.length uc) D.wv D.sp D.sc)) rfl H6 0 rfl rfl rfl rfl (by kernel_rfl) (Nat.le_of_ble_eq_true (by kernel_rfl)) (Nat.le_of_ble_eq_true (by kernel_rfl)) (by kernel_rfl) (by kernel_rfl) ?_
  intro w9 (H10 : Sat w [cellC p 83 (rcW D.f D.c D.epoch D.replica r 1 D.s.lr D.s.vr D.s.locked D.s.valid D.s.decided D.s.decision t (.slice ua D.P.length uc) D.wv D.sp D.sc), cellC t 101 ([(.int .i64 (D.f)), (.int .i64 (D.c)), (.slice va D.L.length vc)] : List Value), rowC 143 35 (.slice va D.L.length vc) D.L.length (D.L.flatMap encV), rowC 129 35 (.slice ua D.P.length uc) D.P.length (D.P.flatMap encQ), restC w (rcC p t (.slice va D.L.length vc) (.slice ua D.P.length uc) D).fp] w9)
  refine hK8 _ _ ?_
  clear hK8 K8
  refine w_nil ?_
  refine then_normal ?_
  refine w_seq ?_
  refine w_lit ?_
  refine wv 16 (pt p 0) ?_
  refine wv 17 (.agg ⟨([(.bool false), (.bool false), (.bool false)] : List Value)⟩) ?_
  refine wv 18 (pt p 0) ?_
  refine wv 19 (pt p 107) ?_
  refine wl_do (wants0 rfl) (fun K12 hK12 => ?_)
  refine d_storeX (vs := ([(.bool false), (.bool false), (.bool false)] : List Value)) (cs' := (rcW D.f D.c D.epoch D.replica r 1 D.s.lr D.s.vr D.s.locked D.s.valid D.s.decided D.s.decision t (.slice ua D.P.length uc) false false false)) rfl H10 0 rfl rfl rfl rfl (by kernel_rfl) (Nat.le_of_ble_eq_true (by kernel_rfl)) (Nat.le_of_ble_eq_true (by kernel_rfl)) (by kernel_rfl) (by kernel_rfl) ?_
  intro w13 (H14 : Sat w [cellC p 83 (rcW D.f D.c D.epoch D.replica r 1 D.s.lr D.s.vr D.s.locked D.s.valid D.s.decided D.s.decision t (.slice ua D.P.length uc) false false false), cellC t 101 ([(.int .i64 (D.f)), (.int .i64 (D.c)), (.slice va D.L.length vc)] : List Value), rowC 143 35 (.slice va D.L.length vc) D.L.length (D.L.flatMap encV), rowC 129 35 (.slice ua D.P.length uc) D.P.length (D.P.flatMap encQ), restC w (rcC p t (.slice va D.L.length vc) (.slice ua D.P.length uc) D).fp] w13)
  refine hK12 _ _ ?_
  clear hK12 K12
  refine w_nil ?_
  refine then_normal ?_
  iterate 2 refine w_seq ?_
  refine q_start H14 (by kernel_rfl) (by kernel_rfl) ?_
  refine qv 20 (pt p 0) ?_
  refine qv 21 (pt p 0) ?_
  refine qv 22 (pt p 0) ?_
  refine qv 23 (.agg ⟨([(.int .i64 (D.f)), (.int .i64 (D.c))] : List Value)⟩) ?_ (hr := fun _ H' => (e_loadN (vs := ([(.int .i64 (D.f)), (.int .i64 (D.c))] : List Value)) rfl (by kernel_rfl) (by kernel_rfl) (by exact Nat.le_of_ble_eq_true (by kernel_rfl)) (H'.at 0 rfl) (by kernel_rfl)))
  refine qv 24 (pt p 0) ?_
  refine qv 25 (pt p 0) ?_
  refine qv 26 (pt p 2) ?_
  refine qv 27 (.int .i64 (D.epoch)) ?_ (hr := fun _ H' => (e_load1 rfl (by kernel_rfl) (H'.cell 0 rfl (by kernel_rfl))))
  refine qv 28 (.int .i64 (r)) ?_
  refine q_call (wants0 rfl) (d := 29) (v := (.int .i64 (proposerV D.f D.epoch r))) rfl (fun _ _ => by kernel_rfl) (fun w' H' => (rcProposer_any w' D.f D.c (by omega) D.epoch r).mono fun _ _ h => ⟨h.1, H'.keepU h.2⟩) ?_
  refine qv 30 (pt p 0) ?_
  refine qv 31 (pt p 0) ?_
  refine qv 32 (pt p 3) ?_
  refine qv 33 (.int .i64 (D.replica)) ?_ (hr := fun _ H' => (e_load1 rfl (by kernel_rfl) (H'.cell 0 rfl (by kernel_rfl))))
  refine qv 34 (.bool (decide ((proposerV D.f D.epoch r) = D.replica))) ?_
  refine q_end ?_
  intro w16 H17
  refine then_normal ?_
  refine (bsplit (decide ((proposerV D.f D.epoch r) = D.replica))).elim (fun b18 => ?_) (fun b18 => ?_)
  ·have g19 := of_decide_eq_true b18
   refine wp_know 34 (.bool true) (congrArg Value.bool b18) ?_
   refine wp_ift rfl ?_
   refine w_seq ?_
   refine h_start H17 [cellC p 83 (rcW D.f D.c D.epoch D.replica r 1 D.s.lr D.s.vr D.s.locked D.s.valid D.s.decided D.s.decision t (.slice ua D.P.length uc) false false false), cellC t 101 ([(.int .i64 (D.f)), (.int .i64 (D.c)), (.slice va D.L.length vc)] : List Value), rowC 143 35 (.slice va D.L.length vc) D.L.length (D.L.flatMap encV), rowC 129 35 (.slice ua D.P.length uc) D.P.length (D.P.flatMap encQ), restC w (rcC p t (.slice va D.L.length vc) (.slice ua D.P.length uc) D).fp] 14 rfl (by kernel_rfl) (fun Hx => (Hx.pick [0, 1, 2, 3, 4] (by decide))) ?_
   intro w20 H21 S22
   refine hv0 0 S22 35 (.int .i64 (r)) ?_
   refine hv0 1 S22 36 (pt p 0) ?_
   refine hv0 2 S22 37 (pt p 0) ?_
   refine hv0 3 S22 38 (pt p 4) ?_
   refine hv0 4 S22 39 (pt p 7) ?_
   refine hv0 5 S22 40 (.int .i64 (D.s.vr)) ?_ (he := fun _ H' => (e_load1 rfl (by kernel_rfl) (H'.cell 0 rfl (by kernel_rfl))))
   refine hv0 6 S22 41 (pt p 0) ?_
   refine hv0 7 S22 42 (pt p 0) ?_
   refine hv0 8 S22 43 (pt p 4) ?_
   refine hv0 9 S22 44 (pt p 40) ?_
   refine hv0 10 S22 45 (.agg ⟨(hc D.s.valid)⟩) ?_ (he := fun _ H' => (e_loadN (vs := (hc D.s.valid)) rfl (by kernel_rfl) (by kernel_rfl) (by exact Nat.le_of_ble_eq_true (by kernel_rfl)) (H'.at 0 rfl) (by kernel_rfl)))
   refine h_val 11 rfl (by kernel_rfl) (by kernel_rfl) (by kernel_rfl) (fun _ _ _ h => h) S22 (wants0 rfl) (d := 46) (v := (.agg ⟨(([(.int .i64 (1)), (.int .i64 (r)), (.int .i64 (D.s.vr))] : List Value) ++ hc D.s.valid)⟩)) rfl (fun _ H' => (by kernel_rfl)) ?_
   refine h_do 12 rfl (by kernel_rfl) (wants0 rfl) (fun K23 hK23 => ?_)
   refine d_buildSlice (e := 102) (size := 35) (bytes := 56) (z := (.agg ⟨(([(.int .i64 (0)), (.int .i64 (0)), (.int .i64 (0))] : List Value) ++ hc hash0)⟩)) (pvs := [(0, (.agg ⟨(([(.int .i64 (1)), (.int .i64 (r)), (.int .i64 (D.s.vr))] : List Value) ++ hc D.s.valid)⟩))]) (vs := (([(.int .i64 (1)), (.int .i64 (r)), (.int .i64 (D.s.vr))] : List Value) ++ hc D.s.valid)) rfl H21 (by kernel_rfl) (by kernel_rfl) (by kernel_rfl) (by kernel_rfl) (by kernel_rfl) rfl rfl ?_
   intro b24 w25 (H26 : Sat w [cellC p 83 (rcW D.f D.c D.epoch D.replica r 1 D.s.lr D.s.vr D.s.locked D.s.valid D.s.decided D.s.decision t (.slice ua D.P.length uc) false false false), cellC t 101 ([(.int .i64 (D.f)), (.int .i64 (D.c)), (.slice va D.L.length vc)] : List Value), rowC 143 35 (.slice va D.L.length vc) D.L.length (D.L.flatMap encV), rowC 129 35 (.slice ua D.P.length uc) D.P.length (D.P.flatMap encQ), restC w (rcC p t (.slice va D.L.length vc) (.slice ua D.P.length uc) D).fp, rowC 102 35 (.slice (some ⟨b24, 0, none⟩) 1 1) 1 (([(.int .i64 (1)), (.int .i64 (r)), (.int .i64 (D.s.vr))] : List Value) ++ hc D.s.valid)] w25)
   have S27 := H26.pick [0, 1, 2, 3, 4] (by decide)
   refine hK23 _ _ S27 ?_
   clear hK23 K23
   refine hv0 13 S27 4 (.slice (some ⟨b24, 0, none⟩) 1 1) ?_
   refine h_fin (by kernel_rfl) ?_
   refine then_normal ?_
   refine w_ret ?_
   refine then_ret ?_
   refine end1 rfl (res_tmp (v := (.slice (some ⟨b24, 0, none⟩) 1 1)) rfl) ?_
   rw [show nextD D r = toD D r by unfold nextD; rw [if_pos (by have := of_decide_eq_false b1; omega)], show nextA D r = enterA D r by unfold nextA; rw [if_pos (by have := of_decide_eq_false b1; omega)]]
   rw [show enterA D r = [⟨1, r, D.s.vr, D.s.valid⟩] from if_pos (of_decide_eq_true b18)]
   exact ⟨(.slice va D.L.length vc), (.slice ua D.P.length uc), _, rfl, (H26.pick [0, 1, 2, 3, 5, 4] (by decide)).cast (by kernel_rfl)⟩
  ·have g28 := of_decide_eq_false b18
   refine wp_know 34 (.bool false) (congrArg Value.bool b18) ?_
   refine wp_iff rfl ?_
   refine w_skip ?_
   refine then_normal ?_
   refine w_seq ?_
   refine w_lit ?_
   refine wv 48 (.int .i64 (r)) ?_
   refine wv 49 (.agg ⟨(([(.int .i64 (4)), (.int .i64 (r)), (.int .i64 (1))] : List Value) ++ hc hash0)⟩) ?_
   refine wl_do (wants0 rfl) (fun K29 hK29 => ?_)
   refine d_buildSlice (e := 102) (size := 35) (bytes := 56) (z := (.agg ⟨(([(.int .i64 (0)), (.int .i64 (0)), (.int .i64 (0))] : List Value) ++ hc hash0)⟩)) (pvs := [(0, (.agg ⟨(([(.int .i64 (4)), (.int .i64 (r)), (.int .i64 (1))] : List Value) ++ hc hash0)⟩))]) (vs := (([(.int .i64 (4)), (.int .i64 (r)), (.int .i64 (1))] : List Value) ++ hc hash0)) rfl H17 (by kernel_rfl) (by kernel_rfl) (by kernel_rfl) (by kernel_rfl) (by kernel_rfl) rfl rfl ?_
   intro b30 w31 (H32 : Sat w [cellC p 83 (rcW D.f D.c D.epoch D.replica r 1 D.s.lr D.s.vr D.s.locked D.s.valid D.s.decided D.s.decision t (.slice ua D.P.length uc) false false false), cellC t 101 ([(.int .i64 (D.f)), (.int .i64 (D.c)), (.slice va D.L.length vc)] : List Value), rowC 143 35 (.slice va D.L.length vc) D.L.length (D.L.flatMap encV), rowC 129 35 (.slice ua D.P.length uc) D.P.length (D.P.flatMap encQ), restC w (rcC p t (.slice va D.L.length vc) (.slice ua D.P.length uc) D).fp, rowC 102 35 (.slice (some ⟨b30, 0, none⟩) 1 1) 1 (([(.int .i64 (4)), (.int .i64 (r)), (.int .i64 (1))] : List Value) ++ hc hash0)] w31)
   refine hK29 _ _ ?_
   clear hK29 K29
   refine wv 4 (.slice (some ⟨b30, 0, none⟩) 1 1) ?_
   refine w_nil ?_
   refine then_normal ?_
   refine w_ret ?_
   refine end1 rfl (res_tmp (v := (.slice (some ⟨b30, 0, none⟩) 1 1)) rfl) ?_
   rw [show nextD D r = toD D r by unfold nextD; rw [if_pos (by have := of_decide_eq_false b1; omega)], show nextA D r = enterA D r by unfold nextA; rw [if_pos (by have := of_decide_eq_false b1; omega)]]
   rw [show enterA D r = [⟨4, r, 1, hash0⟩] from if_neg (of_decide_eq_false b18)]
   exact ⟨(.slice va D.L.length vc), (.slice ua D.P.length uc), _, rfl, (H32.pick [0, 1, 2, 3, 5, 4] (by decide)).cast (by kernel_rfl)⟩

set_option maxRecDepth 100000 in
set_option maxHeartbeats 400000 in
theorem rcPrevote_any (w : World) (p t : Nat) (v u : Value) (D : CoreD) (hT : (rcC p t v u D).ok w) (h : CI D) (x : Hash) :
  Calls Try.prog 55 #[(.pointer (some ⟨p, 0, none⟩)), (.agg ⟨(hc x)⟩)] w fun e w' => ∃ v' u' z', e = .returned z' ∧ Sat w [cellC p 83 (rcL t u' (ownV D 1 2 x)), cellC t 101 ([(.int .i64 ((ownV D 1 2 x).f)), (.int .i64 ((ownV D 1 2 x).c)), v'] : List Value), rowC 143 35 (v') (((ownV D 1 2 x).L).length) (((ownV D 1 2 x).L).flatMap encV), rowC 129 35 (u') (((ownV D 1 2 x).P).length) (((ownV D 1 2 x).P).flatMap encQ), rowC 102 35 z' (ownA D 2 x).length ((ownA D 2 x).flatMap encA), restC w (rcC p t v u D).fp] w' := by
 obtain ⟨va, vc, rfl⟩ := ownsRow_shape (rcC_parts hT).2.2.1
 obtain ⟨ua, uc, rfl⟩ := ownsRow_shape (rcC_parts hT).2.2.2
 have H : Sat w [cellC p 83 (rcL t (.slice ua D.P.length uc) D), cellC t 101 ([(.int .i64 (D.f)), (.int .i64 (D.c)), (.slice va D.L.length vc)] : List Value), rowC 143 35 (.slice va D.L.length vc) D.L.length (D.L.flatMap encV), rowC 129 35 (.slice ua D.P.length uc) D.P.length (D.P.flatMap encQ), restC w (rcC p t (.slice va D.L.length vc) (.slice ua D.P.length uc) D).fp] w := Sat.start _ hT
 have hf := h.f
 have hep := h.ep
 have hrp := h.rp
 have hrd := h.rd
 have hst := h.st
 have hvo := h.votes
 have hpo := props_few h
 refine calls_fr Try.func55 rfl 32 rfl (Nat.le_of_ble_eq_true rfl) ?_
 refine w_seq ?_
 refine w_lit ?_
 refine wl_do (wants0 rfl) (fun K1 hK1 => ?_)
 refine d_box (vs := (hc x)) rfl H rfl rfl ?_
 intro b2 w3 (H4 : Sat w [cellC p 83 (rcL t (.slice ua D.P.length uc) D), cellC t 101 ([(.int .i64 (D.f)), (.int .i64 (D.c)), (.slice va D.L.length vc)] : List Value), rowC 143 35 (.slice va D.L.length vc) D.L.length (D.L.flatMap encV), rowC 129 35 (.slice ua D.P.length uc) D.P.length (D.P.flatMap encQ), restC w (rcC p t (.slice va D.L.length vc) (.slice ua D.P.length uc) D).fp, cellC b2 36 (hc x)] w3)
 refine hK1 _ _ ?_
 clear hK1 K1
 refine wv 4 (.slice none 0 0) ?_
 refine w_nil ?_
 refine then_normal ?_
 refine w_seq ?_
 refine w_lit ?_
 refine wv 5 (pt p 0) ?_
 refine wv 6 (pt p 0) ?_
 refine wv 7 (pt p 4) ?_
 refine wv 8 (pt p 5) ?_
 refine wl_do (wants0 rfl) (fun K5 hK5 => ?_)
 refine d_storeX (vs := ([(.int .i64 (2))] : List Value)) (cs' := (rcW D.f D.c D.epoch D.replica D.s.round 2 D.s.lr D.s.vr D.s.locked D.s.valid D.s.decided D.s.decision t (.slice ua D.P.length uc) D.wv D.sp D.sc)) rfl H4 0 rfl rfl rfl rfl (by kernel_rfl) (Nat.le_of_ble_eq_true (by kernel_rfl)) (Nat.le_of_ble_eq_true (by kernel_rfl)) (by kernel_rfl) (by kernel_rfl) ?_
 intro w6 (H7 : Sat w [cellC p 83 (rcW D.f D.c D.epoch D.replica D.s.round 2 D.s.lr D.s.vr D.s.locked D.s.valid D.s.decided D.s.decision t (.slice ua D.P.length uc) D.wv D.sp D.sc), cellC t 101 ([(.int .i64 (D.f)), (.int .i64 (D.c)), (.slice va D.L.length vc)] : List Value), rowC 143 35 (.slice va D.L.length vc) D.L.length (D.L.flatMap encV), rowC 129 35 (.slice ua D.P.length uc) D.P.length (D.P.flatMap encQ), restC w (rcC p t (.slice va D.L.length vc) (.slice ua D.P.length uc) D).fp, cellC b2 36 (hc x)] w6)
 refine hK5 _ _ ?_
 clear hK5 K5
 refine w_nil ?_
 refine then_normal ?_
 refine w_seq ?_
 refine h_start H7 [cellC p 83 (rcW D.f D.c D.epoch D.replica D.s.round 2 D.s.lr D.s.vr D.s.locked D.s.valid D.s.decided D.s.decision t (.slice ua D.P.length uc) D.wv D.sp D.sc), rowC 129 35 (.slice ua D.P.length uc) D.P.length (D.P.flatMap encQ), restC w (rcC p t (.slice va D.L.length vc) (.slice ua D.P.length uc) D).fp, cellC b2 36 (hc x)] 15 rfl (by kernel_rfl) (fun Hx => (Hx.pick [0, 3, 4, 5] (by decide))) ?_
 intro w9 H10 S11
 refine hv0 0 S11 9 (pt p 0) ?_
 refine hv0 1 S11 10 (pt p 0) ?_
 refine hv0 2 S11 11 (pt p 105) ?_
 refine hv0 3 S11 12 (pt t 0) ?_ (he := fun _ H' => (e_load1 rfl (by kernel_rfl) (H'.cell 0 rfl (by kernel_rfl))))
 refine hv0 4 S11 13 (pt p 0) ?_
 refine hv0 5 S11 14 (pt p 0) ?_
 refine hv0 6 S11 15 (pt p 4) ?_
 refine hv0 7 S11 16 (pt p 4) ?_
 refine hv0 8 S11 17 (.int .i64 (D.s.round)) ?_ (he := fun _ H' => (e_load1 rfl (by kernel_rfl) (H'.cell 0 rfl (by kernel_rfl))))
 refine hv0 9 S11 18 (pt p 0) ?_
 refine hv0 10 S11 19 (pt p 0) ?_
 refine hv0 11 S11 20 (pt p 3) ?_
 refine hv0 12 S11 21 (.int .i64 (D.replica)) ?_ (he := fun _ H' => (e_load1 rfl (by kernel_rfl) (H'.cell 0 rfl (by kernel_rfl))))
 refine hv0 13 S11 22 (.agg ⟨(hc x)⟩) ?_ (he := fun _ H' => (e_loadN (vs := (hc x)) rfl (by kernel_rfl) (by kernel_rfl) (by exact Nat.le_of_ble_eq_true (by kernel_rfl)) (H'.at 3 rfl) (by kernel_rfl)))
 refine h_do 14 rfl (by kernel_rfl) (wants0 rfl) (fun K12 hK12 => ?_)
 refine d_call (d := 23) rfl (by kernel_rfl) (refAdd_any w9 t (.slice va D.L.length vc) D.f D.c D.L (ok_of (by kernel_rfl) (H10.fin [1, 2] (by decide) rfl)) (by omega) hf 1 D.s.round D.replica x) ?_
 rintro _ w13 ⟨rfl, v14, k15, u16, q17⟩
 have S18 := rt_sat (ok_of (by kernel_rfl) (H10.fin [1, 2] (by decide) rfl)) k15 u16 q17
 have H19 : Sat w [cellC p 83 (rcW D.f D.c D.epoch D.replica D.s.round 2 D.s.lr D.s.vr D.s.locked D.s.valid D.s.decided D.s.decision t (.slice ua D.P.length uc) D.wv D.sp D.sc), cellC t 101 ([(.int .i64 (D.f)), (.int .i64 (D.c)), v14] : List Value), rowC 143 35 v14 ((addV D.f D.L ⟨1, D.s.round, D.replica, x⟩).length) ((addV D.f D.L ⟨1, D.s.round, D.replica, x⟩).flatMap encV), rowC 129 35 (.slice ua D.P.length uc) D.P.length (D.P.flatMap encQ), restC w (rcC p t (.slice va D.L.length vc) (.slice ua D.P.length uc) D).fp, cellC b2 36 (hc x)] w13 := (Sat.turnL (L' := [cellC t 101 ([(.int .i64 (D.f)), (.int .i64 (D.c)), v14] : List Value), rowC 143 35 v14 ((addV D.f D.L ⟨1, D.s.round, D.replica, x⟩).length) ((addV D.f D.L ⟨1, D.s.round, D.replica, x⟩).flatMap encV)]) (R := [cellC p 83 (rcW D.f D.c D.epoch D.replica D.s.round 2 D.s.lr D.s.vr D.s.locked D.s.valid D.s.decided D.s.decision t (.slice ua D.P.length uc) D.wv D.sp D.sc), rowC 129 35 (.slice ua D.P.length uc) D.P.length (D.P.flatMap encQ), restC w (rcC p t (.slice va D.L.length vc) (.slice ua D.P.length uc) D).fp, cellC b2 36 (hc x)]) H10 [1, 2] [0, 3, 4, 5] (by decide) (by kernel_rfl) rfl S18).pick [2, 0, 1, 3, 4, 5] (by decide)
 obtain ⟨a20, c21, rfl⟩ := ownsRow_shape (H19.at 2 rfl)
 refine ⟨_, rfl, ?_⟩
 have S22 := H19.pick [0, 3, 4, 5] (by decide)
 refine hK12 _ _ S22 ?_
 clear hK12 K12
 refine h_fin (by kernel_rfl) ?_
 refine then_normal ?_
 refine w_seq ?_
 refine h_start H19 [cellC p 83 (rcW D.f D.c D.epoch D.replica D.s.round 2 D.s.lr D.s.vr D.s.locked D.s.valid D.s.decided D.s.decision t (.slice ua D.P.length uc) D.wv D.sp D.sc), cellC t 101 ([(.int .i64 (D.f)), (.int .i64 (D.c)), (.slice a20 ((addV D.f D.L ⟨1, D.s.round, D.replica, x⟩).length) c21)] : List Value), rowC 143 35 (.slice a20 ((addV D.f D.L ⟨1, D.s.round, D.replica, x⟩).length) c21) ((addV D.f D.L ⟨1, D.s.round, D.replica, x⟩).length) ((addV D.f D.L ⟨1, D.s.round, D.replica, x⟩).flatMap encV), rowC 129 35 (.slice ua D.P.length uc) D.P.length (D.P.flatMap encQ), restC w (rcC p t (.slice va D.L.length vc) (.slice ua D.P.length uc) D).fp, cellC b2 36 (hc x)] 9 rfl (by kernel_rfl) (fun Hx => (Hx.pick [0, 1, 2, 3, 4, 5] (by decide))) ?_
 intro w23 H24 S25
 refine hv0 0 S25 24 (pt p 0) ?_
 refine hv0 1 S25 25 (pt p 0) ?_
 refine hv0 2 S25 26 (pt p 4) ?_
 refine hv0 3 S25 27 (pt p 4) ?_
 refine hv0 4 S25 28 (.int .i64 (D.s.round)) ?_ (he := fun _ H' => (e_load1 rfl (by kernel_rfl) (H'.cell 0 rfl (by kernel_rfl))))
 refine hv0 5 S25 29 (.agg ⟨(hc x)⟩) ?_ (he := fun _ H' => (e_loadN (vs := (hc x)) rfl (by kernel_rfl) (by kernel_rfl) (by exact Nat.le_of_ble_eq_true (by kernel_rfl)) (H'.at 5 rfl) (by kernel_rfl)))
 refine h_val 6 rfl (by kernel_rfl) (by kernel_rfl) (by kernel_rfl) (fun _ _ _ h => h) S25 (wants0 rfl) (d := 30) (v := (.agg ⟨(([(.int .i64 (2)), (.int .i64 (D.s.round)), (.int .i64 (-1))] : List Value) ++ hc x)⟩)) rfl (fun _ H' => (by kernel_rfl)) ?_
 refine h_do 7 rfl (by kernel_rfl) (wants0 rfl) (fun K26 hK26 => ?_)
 refine d_buildSlice (e := 102) (size := 35) (bytes := 56) (z := (.agg ⟨(([(.int .i64 (0)), (.int .i64 (0)), (.int .i64 (0))] : List Value) ++ hc hash0)⟩)) (pvs := [(0, (.agg ⟨(([(.int .i64 (2)), (.int .i64 (D.s.round)), (.int .i64 (-1))] : List Value) ++ hc x)⟩))]) (vs := (([(.int .i64 (2)), (.int .i64 (D.s.round)), (.int .i64 (-1))] : List Value) ++ hc x)) rfl H24 (by kernel_rfl) (by kernel_rfl) (by kernel_rfl) (by kernel_rfl) (by kernel_rfl) rfl rfl ?_
 intro b27 w28 (H29 : Sat w [cellC p 83 (rcW D.f D.c D.epoch D.replica D.s.round 2 D.s.lr D.s.vr D.s.locked D.s.valid D.s.decided D.s.decision t (.slice ua D.P.length uc) D.wv D.sp D.sc), cellC t 101 ([(.int .i64 (D.f)), (.int .i64 (D.c)), (.slice a20 ((addV D.f D.L ⟨1, D.s.round, D.replica, x⟩).length) c21)] : List Value), rowC 143 35 (.slice a20 ((addV D.f D.L ⟨1, D.s.round, D.replica, x⟩).length) c21) ((addV D.f D.L ⟨1, D.s.round, D.replica, x⟩).length) ((addV D.f D.L ⟨1, D.s.round, D.replica, x⟩).flatMap encV), rowC 129 35 (.slice ua D.P.length uc) D.P.length (D.P.flatMap encQ), restC w (rcC p t (.slice va D.L.length vc) (.slice ua D.P.length uc) D).fp, cellC b2 36 (hc x), rowC 102 35 (.slice (some ⟨b27, 0, none⟩) 1 1) 1 (([(.int .i64 (2)), (.int .i64 (D.s.round)), (.int .i64 (-1))] : List Value) ++ hc x)] w28)
 have S30 := H29.pick [0, 1, 2, 3, 4, 5] (by decide)
 refine hK26 _ _ S30 ?_
 clear hK26 K26
 refine hv0 8 S30 4 (.slice (some ⟨b27, 0, none⟩) 1 1) ?_
 refine h_fin (by kernel_rfl) ?_
 refine then_normal ?_
 refine w_ret ?_
 refine end1 rfl (res_tmp (v := (.slice (some ⟨b27, 0, none⟩) 1 1)) rfl) ?_
 exact ⟨(.slice a20 ((addV D.f D.L ⟨1, D.s.round, D.replica, x⟩).length) c21), (.slice ua D.P.length uc), _, rfl, (H29.pick [0, 1, 2, 3, 6, 4] (by decide)).cast (by kernel_rfl)⟩

set_option maxRecDepth 100000 in
set_option maxHeartbeats 400000 in
theorem rcPrecommit_any (w : World) (p t : Nat) (v u : Value) (D : CoreD) (hT : (rcC p t v u D).ok w) (h : CI D) (x : Hash) :
  Calls Try.prog 56 #[(.pointer (some ⟨p, 0, none⟩)), (.agg ⟨(hc x)⟩)] w fun e w' => ∃ v' u' z', e = .returned z' ∧ Sat w [cellC p 83 (rcL t u' (ownV D 2 3 x)), cellC t 101 ([(.int .i64 ((ownV D 2 3 x).f)), (.int .i64 ((ownV D 2 3 x).c)), v'] : List Value), rowC 143 35 (v') (((ownV D 2 3 x).L).length) (((ownV D 2 3 x).L).flatMap encV), rowC 129 35 (u') (((ownV D 2 3 x).P).length) (((ownV D 2 3 x).P).flatMap encQ), rowC 102 35 z' (ownA D 3 x).length ((ownA D 3 x).flatMap encA), restC w (rcC p t v u D).fp] w' := by
 obtain ⟨va, vc, rfl⟩ := ownsRow_shape (rcC_parts hT).2.2.1
 obtain ⟨ua, uc, rfl⟩ := ownsRow_shape (rcC_parts hT).2.2.2
 have H : Sat w [cellC p 83 (rcL t (.slice ua D.P.length uc) D), cellC t 101 ([(.int .i64 (D.f)), (.int .i64 (D.c)), (.slice va D.L.length vc)] : List Value), rowC 143 35 (.slice va D.L.length vc) D.L.length (D.L.flatMap encV), rowC 129 35 (.slice ua D.P.length uc) D.P.length (D.P.flatMap encQ), restC w (rcC p t (.slice va D.L.length vc) (.slice ua D.P.length uc) D).fp] w := Sat.start _ hT
 have hf := h.f
 have hep := h.ep
 have hrp := h.rp
 have hrd := h.rd
 have hst := h.st
 have hvo := h.votes
 have hpo := props_few h
 refine calls_fr Try.func56 rfl 32 rfl (Nat.le_of_ble_eq_true rfl) ?_
 refine w_seq ?_
 refine w_lit ?_
 refine wl_do (wants0 rfl) (fun K1 hK1 => ?_)
 refine d_box (vs := (hc x)) rfl H rfl rfl ?_
 intro b2 w3 (H4 : Sat w [cellC p 83 (rcL t (.slice ua D.P.length uc) D), cellC t 101 ([(.int .i64 (D.f)), (.int .i64 (D.c)), (.slice va D.L.length vc)] : List Value), rowC 143 35 (.slice va D.L.length vc) D.L.length (D.L.flatMap encV), rowC 129 35 (.slice ua D.P.length uc) D.P.length (D.P.flatMap encQ), restC w (rcC p t (.slice va D.L.length vc) (.slice ua D.P.length uc) D).fp, cellC b2 36 (hc x)] w3)
 refine hK1 _ _ ?_
 clear hK1 K1
 refine wv 4 (.slice none 0 0) ?_
 refine w_nil ?_
 refine then_normal ?_
 refine w_seq ?_
 refine w_lit ?_
 refine wv 5 (pt p 0) ?_
 refine wv 6 (pt p 0) ?_
 refine wv 7 (pt p 4) ?_
 refine wv 8 (pt p 5) ?_
 refine wl_do (wants0 rfl) (fun K5 hK5 => ?_)
 refine d_storeX (vs := ([(.int .i64 (3))] : List Value)) (cs' := (rcW D.f D.c D.epoch D.replica D.s.round 3 D.s.lr D.s.vr D.s.locked D.s.valid D.s.decided D.s.decision t (.slice ua D.P.length uc) D.wv D.sp D.sc)) rfl H4 0 rfl rfl rfl rfl (by kernel_rfl) (Nat.le_of_ble_eq_true (by kernel_rfl)) (Nat.le_of_ble_eq_true (by kernel_rfl)) (by kernel_rfl) (by kernel_rfl) ?_
 intro w6 (H7 : Sat w [cellC p 83 (rcW D.f D.c D.epoch D.replica D.s.round 3 D.s.lr D.s.vr D.s.locked D.s.valid D.s.decided D.s.decision t (.slice ua D.P.length uc) D.wv D.sp D.sc), cellC t 101 ([(.int .i64 (D.f)), (.int .i64 (D.c)), (.slice va D.L.length vc)] : List Value), rowC 143 35 (.slice va D.L.length vc) D.L.length (D.L.flatMap encV), rowC 129 35 (.slice ua D.P.length uc) D.P.length (D.P.flatMap encQ), restC w (rcC p t (.slice va D.L.length vc) (.slice ua D.P.length uc) D).fp, cellC b2 36 (hc x)] w6)
 refine hK5 _ _ ?_
 clear hK5 K5
 refine w_nil ?_
 refine then_normal ?_
 refine w_seq ?_
 refine h_start H7 [cellC p 83 (rcW D.f D.c D.epoch D.replica D.s.round 3 D.s.lr D.s.vr D.s.locked D.s.valid D.s.decided D.s.decision t (.slice ua D.P.length uc) D.wv D.sp D.sc), rowC 129 35 (.slice ua D.P.length uc) D.P.length (D.P.flatMap encQ), restC w (rcC p t (.slice va D.L.length vc) (.slice ua D.P.length uc) D).fp, cellC b2 36 (hc x)] 15 rfl (by kernel_rfl) (fun Hx => (Hx.pick [0, 3, 4, 5] (by decide))) ?_
 intro w9 H10 S11
 refine hv0 0 S11 9 (pt p 0) ?_
 refine hv0 1 S11 10 (pt p 0) ?_
 refine hv0 2 S11 11 (pt p 105) ?_
 refine hv0 3 S11 12 (pt t 0) ?_ (he := fun _ H' => (e_load1 rfl (by kernel_rfl) (H'.cell 0 rfl (by kernel_rfl))))
 refine hv0 4 S11 13 (pt p 0) ?_
 refine hv0 5 S11 14 (pt p 0) ?_
 refine hv0 6 S11 15 (pt p 4) ?_
 refine hv0 7 S11 16 (pt p 4) ?_
 refine hv0 8 S11 17 (.int .i64 (D.s.round)) ?_ (he := fun _ H' => (e_load1 rfl (by kernel_rfl) (H'.cell 0 rfl (by kernel_rfl))))
 refine hv0 9 S11 18 (pt p 0) ?_
 refine hv0 10 S11 19 (pt p 0) ?_
 refine hv0 11 S11 20 (pt p 3) ?_
 refine hv0 12 S11 21 (.int .i64 (D.replica)) ?_ (he := fun _ H' => (e_load1 rfl (by kernel_rfl) (H'.cell 0 rfl (by kernel_rfl))))
 refine hv0 13 S11 22 (.agg ⟨(hc x)⟩) ?_ (he := fun _ H' => (e_loadN (vs := (hc x)) rfl (by kernel_rfl) (by kernel_rfl) (by exact Nat.le_of_ble_eq_true (by kernel_rfl)) (H'.at 3 rfl) (by kernel_rfl)))
 refine h_do 14 rfl (by kernel_rfl) (wants0 rfl) (fun K12 hK12 => ?_)
 refine d_call (d := 23) rfl (by kernel_rfl) (refAdd_any w9 t (.slice va D.L.length vc) D.f D.c D.L (ok_of (by kernel_rfl) (H10.fin [1, 2] (by decide) rfl)) (by omega) hf 2 D.s.round D.replica x) ?_
 rintro _ w13 ⟨rfl, v14, k15, u16, q17⟩
 have S18 := rt_sat (ok_of (by kernel_rfl) (H10.fin [1, 2] (by decide) rfl)) k15 u16 q17
 have H19 : Sat w [cellC p 83 (rcW D.f D.c D.epoch D.replica D.s.round 3 D.s.lr D.s.vr D.s.locked D.s.valid D.s.decided D.s.decision t (.slice ua D.P.length uc) D.wv D.sp D.sc), cellC t 101 ([(.int .i64 (D.f)), (.int .i64 (D.c)), v14] : List Value), rowC 143 35 v14 ((addV D.f D.L ⟨2, D.s.round, D.replica, x⟩).length) ((addV D.f D.L ⟨2, D.s.round, D.replica, x⟩).flatMap encV), rowC 129 35 (.slice ua D.P.length uc) D.P.length (D.P.flatMap encQ), restC w (rcC p t (.slice va D.L.length vc) (.slice ua D.P.length uc) D).fp, cellC b2 36 (hc x)] w13 := (Sat.turnL (L' := [cellC t 101 ([(.int .i64 (D.f)), (.int .i64 (D.c)), v14] : List Value), rowC 143 35 v14 ((addV D.f D.L ⟨2, D.s.round, D.replica, x⟩).length) ((addV D.f D.L ⟨2, D.s.round, D.replica, x⟩).flatMap encV)]) (R := [cellC p 83 (rcW D.f D.c D.epoch D.replica D.s.round 3 D.s.lr D.s.vr D.s.locked D.s.valid D.s.decided D.s.decision t (.slice ua D.P.length uc) D.wv D.sp D.sc), rowC 129 35 (.slice ua D.P.length uc) D.P.length (D.P.flatMap encQ), restC w (rcC p t (.slice va D.L.length vc) (.slice ua D.P.length uc) D).fp, cellC b2 36 (hc x)]) H10 [1, 2] [0, 3, 4, 5] (by decide) (by kernel_rfl) rfl S18).pick [2, 0, 1, 3, 4, 5] (by decide)
 obtain ⟨a20, c21, rfl⟩ := ownsRow_shape (H19.at 2 rfl)
 refine ⟨_, rfl, ?_⟩
 have S22 := H19.pick [0, 3, 4, 5] (by decide)
 refine hK12 _ _ S22 ?_
 clear hK12 K12
 refine h_fin (by kernel_rfl) ?_
 refine then_normal ?_
 refine w_seq ?_
 refine h_start H19 [cellC p 83 (rcW D.f D.c D.epoch D.replica D.s.round 3 D.s.lr D.s.vr D.s.locked D.s.valid D.s.decided D.s.decision t (.slice ua D.P.length uc) D.wv D.sp D.sc), cellC t 101 ([(.int .i64 (D.f)), (.int .i64 (D.c)), (.slice a20 ((addV D.f D.L ⟨2, D.s.round, D.replica, x⟩).length) c21)] : List Value), rowC 143 35 (.slice a20 ((addV D.f D.L ⟨2, D.s.round, D.replica, x⟩).length) c21) ((addV D.f D.L ⟨2, D.s.round, D.replica, x⟩).length) ((addV D.f D.L ⟨2, D.s.round, D.replica, x⟩).flatMap encV), rowC 129 35 (.slice ua D.P.length uc) D.P.length (D.P.flatMap encQ), restC w (rcC p t (.slice va D.L.length vc) (.slice ua D.P.length uc) D).fp, cellC b2 36 (hc x)] 9 rfl (by kernel_rfl) (fun Hx => (Hx.pick [0, 1, 2, 3, 4, 5] (by decide))) ?_
 intro w23 H24 S25
 refine hv0 0 S25 24 (pt p 0) ?_
 refine hv0 1 S25 25 (pt p 0) ?_
 refine hv0 2 S25 26 (pt p 4) ?_
 refine hv0 3 S25 27 (pt p 4) ?_
 refine hv0 4 S25 28 (.int .i64 (D.s.round)) ?_ (he := fun _ H' => (e_load1 rfl (by kernel_rfl) (H'.cell 0 rfl (by kernel_rfl))))
 refine hv0 5 S25 29 (.agg ⟨(hc x)⟩) ?_ (he := fun _ H' => (e_loadN (vs := (hc x)) rfl (by kernel_rfl) (by kernel_rfl) (by exact Nat.le_of_ble_eq_true (by kernel_rfl)) (H'.at 5 rfl) (by kernel_rfl)))
 refine h_val 6 rfl (by kernel_rfl) (by kernel_rfl) (by kernel_rfl) (fun _ _ _ h => h) S25 (wants0 rfl) (d := 30) (v := (.agg ⟨(([(.int .i64 (3)), (.int .i64 (D.s.round)), (.int .i64 (-1))] : List Value) ++ hc x)⟩)) rfl (fun _ H' => (by kernel_rfl)) ?_
 refine h_do 7 rfl (by kernel_rfl) (wants0 rfl) (fun K26 hK26 => ?_)
 refine d_buildSlice (e := 102) (size := 35) (bytes := 56) (z := (.agg ⟨(([(.int .i64 (0)), (.int .i64 (0)), (.int .i64 (0))] : List Value) ++ hc hash0)⟩)) (pvs := [(0, (.agg ⟨(([(.int .i64 (3)), (.int .i64 (D.s.round)), (.int .i64 (-1))] : List Value) ++ hc x)⟩))]) (vs := (([(.int .i64 (3)), (.int .i64 (D.s.round)), (.int .i64 (-1))] : List Value) ++ hc x)) rfl H24 (by kernel_rfl) (by kernel_rfl) (by kernel_rfl) (by kernel_rfl) (by kernel_rfl) rfl rfl ?_
 intro b27 w28 (H29 : Sat w [cellC p 83 (rcW D.f D.c D.epoch D.replica D.s.round 3 D.s.lr D.s.vr D.s.locked D.s.valid D.s.decided D.s.decision t (.slice ua D.P.length uc) D.wv D.sp D.sc), cellC t 101 ([(.int .i64 (D.f)), (.int .i64 (D.c)), (.slice a20 ((addV D.f D.L ⟨2, D.s.round, D.replica, x⟩).length) c21)] : List Value), rowC 143 35 (.slice a20 ((addV D.f D.L ⟨2, D.s.round, D.replica, x⟩).length) c21) ((addV D.f D.L ⟨2, D.s.round, D.replica, x⟩).length) ((addV D.f D.L ⟨2, D.s.round, D.replica, x⟩).flatMap encV), rowC 129 35 (.slice ua D.P.length uc) D.P.length (D.P.flatMap encQ), restC w (rcC p t (.slice va D.L.length vc) (.slice ua D.P.length uc) D).fp, cellC b2 36 (hc x), rowC 102 35 (.slice (some ⟨b27, 0, none⟩) 1 1) 1 (([(.int .i64 (3)), (.int .i64 (D.s.round)), (.int .i64 (-1))] : List Value) ++ hc x)] w28)
 have S30 := H29.pick [0, 1, 2, 3, 4, 5] (by decide)
 refine hK26 _ _ S30 ?_
 clear hK26 K26
 refine hv0 8 S30 4 (.slice (some ⟨b27, 0, none⟩) 1 1) ?_
 refine h_fin (by kernel_rfl) ?_
 refine then_normal ?_
 refine w_ret ?_
 refine end1 rfl (res_tmp (v := (.slice (some ⟨b27, 0, none⟩) 1 1)) rfl) ?_
 exact ⟨(.slice a20 ((addV D.f D.L ⟨2, D.s.round, D.replica, x⟩).length) c21), (.slice ua D.P.length uc), _, rfl, (H29.pick [0, 1, 2, 3, 6, 4] (by decide)).cast (by kernel_rfl)⟩

set_option maxRecDepth 100000 in
set_option maxHeartbeats 400000 in
theorem rcProposal_any (w : World) (p t : Nat) (v u : Value) (D : CoreD) (hT : (rcC p t v u D).ok w) (h : CI D) (r : Int) :
  Calls Try.prog 54 #[(.pointer (some ⟨p, 0, none⟩)), (.int .i64 (r))] w fun e w' => e = .returned (.tuple #[.agg ⟨[.int .i64 (zP D.P r), .int .i64 (getP D.P r).valid] ++ hc (getP D.P r).h ++ [.bool (getP D.P r).ok]⟩, .bool (hasP D.P r)]) ∧ Upd [] w w' := by
 obtain ⟨va, vc, rfl⟩ := ownsRow_shape (rcC_parts hT).2.2.1
 obtain ⟨ua, uc, rfl⟩ := ownsRow_shape (rcC_parts hT).2.2.2
 obtain ⟨hcell, htal, hvrow, hprow⟩ := rcC_parts hT
 have H := Sat.start0 w
 have hf := h.f
 have hrd := h.rd
 have hvo := h.votes
 have hpo := props_few h
 refine calls_fr Try.func54 rfl 34 rfl (Nat.le_of_ble_eq_true rfl) ?_
 refine w_seq ?_
 refine w_lit ?_
 refine wl_do (wants0 rfl) (fun K1 hK1 => ?_)
 refine d_alloc (zs := (([(.int .i64 (0)), (.int .i64 (0))] : List Value) ++ hc hash0 ++ ([(.bool false)] : List Value))) (z := (.agg ⟨(([(.int .i64 (0)), (.int .i64 (0))] : List Value) ++ hc hash0 ++ ([(.bool false)] : List Value))⟩)) rfl H (by kernel_rfl) (by kernel_rfl) ?_
 intro b2 w3 (H4 : Sat w [restC w (fun _ => False), cellC b2 129 (([(.int .i64 (0)), (.int .i64 (0))] : List Value) ++ hc hash0 ++ ([(.bool false)] : List Value))] w3)
 refine hK1 _ _ ?_
 clear hK1 K1
 refine wv 5 (.bool false) ?_
 refine w_nil ?_
 refine then_normal ?_
 iterate 2 refine w_seq ?_
 refine w_lit ?_
 refine wv 7 (pt p 0) ?_
 refine wv 8 (pt p 0) ?_
 refine wv 9 (pt p 106) ?_
 refine wv 10 (.slice ua D.P.length uc) ?_ (hr := e_load1 rfl (by kernel_rfl) (H4.roCell 0 rfl hcell (fun h => h) (by kernel_rfl)))
 refine wv 11 (.int .i64 ((D.P.length : Int))) ?_
 refine wv 12 (.int .i64 (0)) ?_
 refine w_nil ?_
 refine then_normal ?_
 refine w_block ?_
 refine wp_round [5, 6, 12, 13, 14, 15, 16, 17, 18, 19, 20, 21, 22, 23, 24, 25, 26, 27, 28, 29, 30, 31, 32] (fun F_ W_ m_ => ∃ (i : Nat), F_ 12 = (.int .i64 ((i : Int))) ∧ (i ≤ D.P.length) ∧ (∀ y ∈ D.P.take i, y.1 ≠ r) ∧ Sat w [restC w (fun _ => False), cellC b2 129 (([(.int .i64 (0)), (.int .i64 (0))] : List Value) ++ hc hash0 ++ ([(.bool false)] : List Value))] W_ ∧ m_ = D.P.length - i) _ ⟨0, (show ((.int .i64 (0)) : Value) = _ by first | rfl | go_num), (Nat.zero_le _), (by simp), H4, rfl⟩ ?_
 rintro g5 w6 _ ⟨i, v8, hi, hno, H7, rfl⟩
 refine wp_know 12 _ v8 ?_
 refine w_seq ?_
 refine w_lit ?_
 refine wv 13 (.bool (decide ((i : Int) < (D.P.length : Int)))) ?_
 refine w_nil ?_
 refine then_normal ?_
 refine w_seq ?_
 refine (bsplit (decide ((i : Int) < (D.P.length : Int)))).elim (fun b10 => ?_) (fun b10 => ?_)
 ·have g11 := of_decide_eq_true b10
  refine wp_know 13 (.bool true) (congrArg Value.bool b10) ?_
  have g12 := of_decide_eq_true b10
  refine wp_ift rfl ?_
  refine w_skip ?_
  refine then_normal ?_
  refine w_seq ?_
  refine w_block ?_
  refine w_seq ?_
  refine w_lit ?_
  refine wv 14 (.int .i64 ((i : Int))) ?_
  refine wv 6 (.int .i64 ((i : Int))) ?_
  refine w_nil ?_
  refine then_normal ?_
  refine w_seq ?_
  refine w_lit ?_
  refine wv 15 (pt p 0) ?_
  refine wv 16 (pt p 0) ?_
  refine wv 17 (pt p 106) ?_
  refine wv 18 (.slice ua D.P.length uc) ?_ (hr := e_load1 rfl (by kernel_rfl) (H7.roCell 0 rfl hcell (fun h => h) (by kernel_rfl)))
  refine wv 19 (.int .i64 ((i : Int))) ?_
  obtain ⟨g13, c14, e15⟩ := row_shape hprow (by omega)
  obtain ⟨x16, h17⟩ := get_at (show i < D.P.length by omega)
  refine wv 20 (.pointer (some ⟨g13, 0 + ((i : Int)).toNat * 35, none⟩)) ?_ (hr := e_indexAddrV (E := 129) (by kernel_rfl) (by kernel_rfl) (Nat.le_of_ble_eq_true rfl) rfl e15 rfl (by omega) (by omega))
  refine wv 21 (.pointer (some ⟨g13, 0 + ((i : Int)).toNat * 35, none⟩)) ?_
  refine wv 22 (.int .i64 (x16.1)) ?_ (hr := e_load1 rfl (by kernel_rfl) (rows_cell (H7.roCk 0 rfl hprow (fun _ _ h => h)) e15 encQ_len h17 0 rfl (show 0 + ((i : Int)).toNat * 35 = i * 35 + 0 by omega) (by kernel_rfl)))
  refine wv 23 (.int .i64 (r)) ?_
  refine wv 24 (.bool (decide (x16.1 = r))) ?_
  refine w_nil ?_
  refine then_normal ?_
  refine (bsplit (decide (x16.1 = r))).elim (fun b18 => ?_) (fun b18 => ?_)
  ·have g19 := of_decide_eq_true b18
   refine wp_know 24 (.bool true) (congrArg Value.bool b18) ?_
   have g20 := of_decide_eq_true b18
   refine wp_ift rfl ?_
   refine w_seq ?_
   refine w_lit ?_
   refine wv 25 (pt p 0) ?_
   refine wv 26 (pt p 0) ?_
   refine wv 27 (pt p 106) ?_
   refine wv 28 (.slice ua D.P.length uc) ?_ (hr := e_load1 rfl (by kernel_rfl) (H7.roCell 0 rfl hcell (fun h => h) (by kernel_rfl)))
   refine wv 29 (.int .i64 ((i : Int))) ?_
   refine wv 30 (.pointer (some ⟨g13, 0 + ((i : Int)).toNat * 35, none⟩)) ?_ (hr := e_indexAddrV (E := 129) (by kernel_rfl) (by kernel_rfl) (Nat.le_of_ble_eq_true rfl) rfl e15 rfl (by omega) (by omega))
   refine wv 31 (.agg ⟨(([(.int .i64 (x16.1)), (.int .i64 (x16.2.valid))] : List Value) ++ hc x16.2.h ++ ([(.bool (x16.2.ok))] : List Value))⟩) ?_ (hr := e_loadRun (vs := (([(.int .i64 (x16.1)), (.int .i64 (x16.2.valid))] : List Value) ++ hc x16.2.h ++ ([(.bool (x16.2.ok))] : List Value))) rfl (by kernel_rfl) (by kernel_rfl) (Nat.le_of_ble_eq_true (by kernel_rfl)) (rows_run (H7.roCk 0 rfl hprow (fun _ _ h => h)) e15 encQ_len h17 0 (show 0 + ((i : Int)).toNat * 35 = i * 35 + 0 by omega) (by kernel_rfl) (by kernel_rfl)))
   refine wl_do (wants0 rfl) (fun K21 hK21 => ?_)
   refine d_storeX (vs := (([(.int .i64 (x16.1)), (.int .i64 (x16.2.valid))] : List Value) ++ hc x16.2.h ++ ([(.bool (x16.2.ok))] : List Value))) (cs' := (([(.int .i64 (x16.1)), (.int .i64 (x16.2.valid))] : List Value) ++ hc x16.2.h ++ ([(.bool (x16.2.ok))] : List Value))) rfl H7 1 rfl rfl rfl rfl (by kernel_rfl) (Nat.le_of_ble_eq_true (by kernel_rfl)) (Nat.le_of_ble_eq_true (by kernel_rfl)) (by kernel_rfl) (by kernel_rfl) ?_
   intro w22 (H23 : Sat w [restC w (fun _ => False), cellC b2 129 (([(.int .i64 (x16.1)), (.int .i64 (x16.2.valid))] : List Value) ++ hc x16.2.h ++ ([(.bool (x16.2.ok))] : List Value))] w22)
   refine hK21 _ _ ?_
   clear hK21 K21
   refine wv 5 (.bool true) ?_
   refine w_nil ?_
   refine then_normal ?_
   refine w_ret ?_
   refine blk_ret ?_
   refine then_ret ?_
   refine back_ret ?_
   refine blk_ret ?_
   refine then_ret ?_
   refine end2 rfl (res_cellN (vs := (([(.int .i64 (x16.1)), (.int .i64 (x16.2.valid))] : List Value) ++ hc x16.2.h ++ ([(.bool (x16.2.ok))] : List Value))) rfl (by kernel_rfl) (by kernel_rfl) (by exact Nat.le_of_ble_eq_true (by kernel_rfl)) (H23.at 1 rfl) (by kernel_rfl)) (res_tmp (v := (.bool true)) rfl) ?_
   have e0 : x16.1 = r := of_decide_eq_true b18
   obtain ⟨e1, e2, e3⟩ := prop_at h h17
   rw [e0] at e1 e2 e3
   exact ⟨by rw [e1, e2, e3]; rw [e0] <;> rfl, H23.upd 0 rfl [] (fun _ h => h.elim)⟩
  ·have g25 := of_decide_eq_false b18
   refine wp_know 24 (.bool false) (congrArg Value.bool b18) ?_
   have g26 := of_decide_eq_false b18
   refine wp_iff rfl ?_
   refine w_skip ?_
   refine blk_normal ?_
   refine then_normal ?_
   refine w_lit ?_
   refine wv 32 (.int .i64 ((i : Int) + 1)) ?_ (hr := e_int (z := (i : Int) + 1) (by kernel_rfl) (IntWalk.i64_in _ (by omega)))
   refine wv 12 (.int .i64 ((i : Int) + 1)) ?_
   refine w_nil ?_
   refine round_back ?_ _ ⟨(i + 1), (show ((.int .i64 ((i : Int) + 1)) : Value) = _ by first | rfl | go_num), (by omega), (take_no hno h17 (of_decide_eq_false b18)), H7, rfl⟩ (by omega)
   iterate 18 refine same_upd rfl ?_
   exact same_ovr
 ·have g27 := of_decide_eq_false b10
  refine wp_know 13 (.bool false) (congrArg Value.bool b10) ?_
  have g28 := of_decide_eq_false b10
  refine wp_iff rfl ?_
  refine w_exit ?_
  refine then_exit ?_
  refine back_exit ?_
  refine blk_hit ?_
  refine then_normal ?_
  refine w_seq ?_
  refine w_lit ?_
  refine wv 33 (.agg ⟨(([(.int .i64 (0)), (.int .i64 (0))] : List Value) ++ hc hash0 ++ ([(.bool false)] : List Value))⟩) ?_
  refine wl_do (wants0 rfl) (fun K29 hK29 => ?_)
  refine d_storeX (vs := (([(.int .i64 (0)), (.int .i64 (0))] : List Value) ++ hc hash0 ++ ([(.bool false)] : List Value))) (cs' := (([(.int .i64 (0)), (.int .i64 (0))] : List Value) ++ hc hash0 ++ ([(.bool false)] : List Value))) rfl H7 1 rfl rfl rfl rfl (by kernel_rfl) (Nat.le_of_ble_eq_true (by kernel_rfl)) (Nat.le_of_ble_eq_true (by kernel_rfl)) (by kernel_rfl) (by kernel_rfl) ?_
  intro w30 (H31 : Sat w [restC w (fun _ => False), cellC b2 129 (([(.int .i64 (0)), (.int .i64 (0))] : List Value) ++ hc hash0 ++ ([(.bool false)] : List Value))] w30)
  refine hK29 _ _ ?_
  clear hK29 K29
  refine wv 5 (.bool false) ?_
  refine w_nil ?_
  refine then_normal ?_
  refine w_ret ?_
  refine end2 rfl (res_cellN (vs := (([(.int .i64 (0)), (.int .i64 (0))] : List Value) ++ hc hash0 ++ ([(.bool false)] : List Value))) rfl (by kernel_rfl) (by kernel_rfl) (by exact Nat.le_of_ble_eq_true (by kernel_rfl)) (H31.at 1 rfl) (by kernel_rfl)) (res_tmp (v := (.bool false)) rfl) ?_
  rw [List.take_of_length_le (by omega)] at hno
  obtain ⟨e1, e2, e3⟩ := prop_no h hno
  exact ⟨by rw [e1, e2, e3] <;> rfl, H31.upd 0 rfl [] (fun _ h => h.elim)⟩

end Go.Proofs.Ythjmbhneifjeeaa
