/- WHAT IS PROVED: the contracts of a core's rules and of settling. Conditions: stated with each. -/
import Derived.Test.YthjmbhneifjeeaaShort
import Derived.Test.YthjmbhneifjeeaaCore1
namespace Go.Proofs.Ythjmbhneifjeeaa
open Go.RowKit

set_option maxRecDepth 100000 in
set_option maxHeartbeats 1000000 in
theorem coreRule_any (w : World) (k t hb cb ab lb pb : Nat) (D : CoreD) (hT : (coreC k t hb cb ab lb pb D).ok w) (h : CI D) :
  Calls Try.prog 51 #[(.pointer (some ⟨k, 0, none⟩))] w fun e w' => (∃ v E A, e = .returned (.tuple #[v, .bool true]) ∧ ruleD D = some (E, A) ∧ Sat w [cellC k 92 (coreL t pb E), talC t hb cb ab lb E.f E.c E.L, mapC pb (Value.int .i64) propV E.P, rowC 45 35 v A.length (A.flatMap encA), restC w (coreC k t hb cb ab lb pb D).fp] w') ∨ (∃ v, e = .returned (.tuple #[v, .bool false]) ∧ ruleD D = none ∧ Sat w [cellC k 92 (coreL t pb D), talC t hb cb ab lb D.f D.c D.L, mapC pb (Value.int .i64) propV D.P, rowC 45 35 v 0 [], restC w (coreC k t hb cb ab lb pb D).fp] w') := by
 have H : Sat w [cellC k 92 (coreL t pb D), talC t hb cb ab lb D.f D.c D.L, mapC pb (Value.int .i64) propV D.P, restC w (coreC k t hb cb ab lb pb D).fp] w := Sat.start _ hT
 have hf := h.f
 have hep := h.ep
 have hrp := h.rp
 have hrd := h.rd
 have hst := h.st
 have hvo := h.votes
 refine calls_fr Try.func51 rfl 241 rfl (Nat.le_of_ble_eq_true rfl) ?_
 refine w_seq ?_
 refine w_lit ?_
 refine wv 2 (.slice none 0 0) ?_
 refine wv 3 (.bool false) ?_
 refine w_nil ?_
 refine then_normal ?_
 iterate 2 refine w_seq ?_
 refine w_lit ?_
 refine wv 13 (pt k 0) ?_
 refine wl_do (wants0 rfl) (fun K1 hK1 => ?_)
 refine d_call (d := 14) rfl (by kernel_rfl) (coreDecided_any w k t hb cb ab lb pb D (ok_of (by kernel_rfl) (H.fin [0, 1, 2] (by decide) rfl)) h) ?_
 rintro _ w2 ⟨rfl, u4⟩
 have H3 := H.keepU u4
 refine ⟨_, rfl, ?_⟩
 refine hK1 _ _ ?_
 clear hK1 K1
 refine wv 4 (.int .i64 (leastV D.f D.L D.P)) ?_
 refine w_nil ?_
 refine then_normal ?_
 refine w_seq ?_
 refine w_lit ?_
 refine wv 15 (.int .i64 (leastV D.f D.L D.P)) ?_
 refine wv 16 (.bool (decide ((leastV D.f D.L D.P) ≥ 0))) ?_
 refine w_nil ?_
 refine then_normal ?_
 refine (bsplit (decide ((leastV D.f D.L D.P) ≥ 0))).elim (fun b5 => ?_) (fun b5 => ?_)
 ·have g6 := of_decide_eq_true b5
  refine wp_know 16 (.bool true) (congrArg Value.bool b5) ?_
  refine wp_ift rfl ?_
  refine w_seq ?_
  refine w_lit ?_
  refine wv 17 (pt k 0) ?_
  refine wv 18 (pt k 0) ?_
  refine wv 19 (pt k 0) ?_
  refine wv 20 (pt k 0) ?_
  refine wv 21 (pt k 106) ?_
  refine wv 22 (.map (some pb)) ?_ (hr := e_load1 rfl (by kernel_rfl) (H3.cell 0 rfl (by kernel_rfl)))
  refine wv 23 (.int .i64 (leastV D.f D.L D.P)) ?_
  refine wv 24 (.agg ⟨(([(.int .i64 ((getP D.P (leastV D.f D.L D.P : Int)).valid))] : List Value) ++ hc (getP D.P (leastV D.f D.L D.P : Int)).h ++ ([(.bool ((getP D.P (leastV D.f D.L D.P : Int)).ok))] : List Value))⟩) ?_ (hr := e_lookup (kt := 3) (et := 96) (KeyTy.int (by kernel_rfl)) (by kernel_rfl) (fun w => by kernel_rfl) rfl (leastV D.f D.L D.P : Int) rfl (H3.at 2 rfl) (optD propV (lookM D.P (leastV D.f D.L D.P : Int)) ⟨0, hash0, false⟩))
  refine wv 25 (.agg ⟨(hc (getP D.P (leastV D.f D.L D.P : Int)).h)⟩) ?_
  refine wv 26 (pt k 0) ?_
  refine wv 27 (pt k 4) ?_
  refine wv 28 (pt k 72) ?_
  refine wl_do (wants0 rfl) (fun K7 hK7 => ?_)
  refine d_storeX (vs := ([(.bool true)] : List Value)) (cs' := (coreW D.f D.c D.epoch D.replica D.s.round D.s.step D.s.lr D.s.vr D.s.locked D.s.valid true D.s.decision t pb D.wv D.sp D.sc)) rfl H3 0 rfl rfl rfl rfl (by kernel_rfl) (Nat.le_of_ble_eq_true (by kernel_rfl)) (Nat.le_of_ble_eq_true (by kernel_rfl)) (by kernel_rfl) (by kernel_rfl) ?_
  intro w8 (H9 : Sat w [cellC k 92 (coreW D.f D.c D.epoch D.replica D.s.round D.s.step D.s.lr D.s.vr D.s.locked D.s.valid true D.s.decision t pb D.wv D.sp D.sc), talC t hb cb ab lb D.f D.c D.L, mapC pb (Value.int .i64) propV D.P, restC w (coreC k t hb cb ab lb pb D).fp] w8)
  refine hK7 _ _ ?_
  clear hK7 K7
  refine wv 29 (pt k 0) ?_
  refine wv 30 (pt k 4) ?_
  refine wv 31 (pt k 73) ?_
  refine wl_do (wants0 rfl) (fun K11 hK11 => ?_)
  refine d_storeX (vs := (hc (getP D.P (leastV D.f D.L D.P : Int)).h)) (cs' := (coreW D.f D.c D.epoch D.replica D.s.round D.s.step D.s.lr D.s.vr D.s.locked D.s.valid true ((getP D.P (leastV D.f D.L D.P : Int)).h) t pb D.wv D.sp D.sc)) rfl H9 0 rfl rfl rfl rfl (by kernel_rfl) (Nat.le_of_ble_eq_true (by kernel_rfl)) (Nat.le_of_ble_eq_true (by kernel_rfl)) (by kernel_rfl) (by kernel_rfl) ?_
  intro w12 (H13 : Sat w [cellC k 92 (coreW D.f D.c D.epoch D.replica D.s.round D.s.step D.s.lr D.s.vr D.s.locked D.s.valid true ((getP D.P (leastV D.f D.L D.P : Int)).h) t pb D.wv D.sp D.sc), talC t hb cb ab lb D.f D.c D.L, mapC pb (Value.int .i64) propV D.P, restC w (coreC k t hb cb ab lb pb D).fp] w12)
  refine hK11 _ _ ?_
  clear hK11 K11
  refine w_nil ?_
  refine then_normal ?_
  refine w_seq ?_
  refine w_lit ?_
  refine wv 32 (.int .i64 (leastV D.f D.L D.P)) ?_
  refine wv 33 (pt k 0) ?_
  refine wv 34 (pt k 0) ?_
  refine wv 35 (pt k 4) ?_
  refine wv 36 (pt k 73) ?_
  refine wv 37 (.agg ⟨(hc (getP D.P (leastV D.f D.L D.P : Int)).h)⟩) ?_ (hr := e_loadN (vs := (hc (getP D.P (leastV D.f D.L D.P : Int)).h)) rfl (by kernel_rfl) (by kernel_rfl) (by exact Nat.le_of_ble_eq_true (by kernel_rfl)) (H13.at 0 rfl) (by kernel_rfl))
  refine wv 38 (.agg ⟨(([(.int .i64 (5)), (.int .i64 (leastV D.f D.L D.P)), (.int .i64 (-1))] : List Value) ++ hc (getP D.P (leastV D.f D.L D.P : Int)).h)⟩) ?_
  refine wl_do (wants0 rfl) (fun K15 hK15 => ?_)
  refine d_buildSlice (e := 45) (size := 35) (bytes := 56) (z := (.agg ⟨(([(.int .i64 (0)), (.int .i64 (0)), (.int .i64 (0))] : List Value) ++ hc hash0)⟩)) (pvs := [(0, (.agg ⟨(([(.int .i64 (5)), (.int .i64 (leastV D.f D.L D.P)), (.int .i64 (-1))] : List Value) ++ hc (getP D.P (leastV D.f D.L D.P : Int)).h)⟩))]) (vs := (([(.int .i64 (5)), (.int .i64 (leastV D.f D.L D.P)), (.int .i64 (-1))] : List Value) ++ hc (getP D.P (leastV D.f D.L D.P : Int)).h)) rfl H13 (by kernel_rfl) (by kernel_rfl) (by kernel_rfl) (by kernel_rfl) (by kernel_rfl) rfl rfl ?_
  intro b16 w17 (H18 : Sat w [cellC k 92 (coreW D.f D.c D.epoch D.replica D.s.round D.s.step D.s.lr D.s.vr D.s.locked D.s.valid true ((getP D.P (leastV D.f D.L D.P : Int)).h) t pb D.wv D.sp D.sc), talC t hb cb ab lb D.f D.c D.L, mapC pb (Value.int .i64) propV D.P, restC w (coreC k t hb cb ab lb pb D).fp, rowC 45 35 (.slice (some ⟨b16, 0, none⟩) 1 1) 1 (([(.int .i64 (5)), (.int .i64 (leastV D.f D.L D.P)), (.int .i64 (-1))] : List Value) ++ hc (getP D.P (leastV D.f D.L D.P : Int)).h)] w17)
  refine hK15 _ _ ?_
  clear hK15 K15
  refine wv 2 (.slice (some ⟨b16, 0, none⟩) 1 1) ?_
  refine wv 3 (.bool true) ?_
  refine w_nil ?_
  refine then_normal ?_
  refine w_ret ?_
  refine then_ret ?_
  refine end2 rfl (res_tmp (v := (.slice (some ⟨b16, 0, none⟩) 1 1)) rfl) (res_tmp (v := (.bool true)) rfl) ?_
  exact .inl ⟨_, decideD D (leastV D.f D.L D.P), [⟨5, leastV D.f D.L D.P, -1, (getP D.P (leastV D.f D.L D.P)).h⟩], rfl, by rw [ruleD_b, if_pos (of_decide_eq_true b5)], (H18.pick [0, 1, 2, 4, 3] (by decide)).cast (by kernel_rfl)⟩
 ·have g19 := of_decide_eq_false b5
  refine wp_know 16 (.bool false) (congrArg Value.bool b5) ?_
  refine wp_iff rfl ?_
  refine w_skip ?_
  refine then_normal ?_
  iterate 2 refine w_seq ?_
  refine q_start H3 (by kernel_rfl) (by kernel_rfl) ?_
  refine qv 40 (pt k 0) ?_
  refine qv 41 (pt k 0) ?_
  refine qv 42 (pt k 105) ?_
  refine qv 43 (pt t 0) ?_ (hr := fun _ H' => (e_load1 rfl (by kernel_rfl) (H'.cell 0 rfl (by kernel_rfl))))
  refine qv 44 (pt k 0) ?_
  refine qv 45 (pt k 0) ?_
  refine qv 46 (pt k 4) ?_
  refine qv 47 (pt k 4) ?_
  refine qv 48 (.int .i64 (D.s.round)) ?_ (hr := fun _ H' => (e_load1 rfl (by kernel_rfl) (H'.cell 0 rfl (by kernel_rfl))))
  refine qv 49 (pt k 0) ?_
  refine qv 50 (pt k 0) ?_
  refine qv 51 (pt k 0) ?_
  refine qv 52 (pt k 0) ?_
  refine qv 53 (.int .i64 (D.f)) ?_ (hr := fun _ H' => (e_load1 rfl (by kernel_rfl) (H'.cell 0 rfl (by kernel_rfl))))
  refine qv 54 (.int .i64 (D.f + 1)) ?_ (hr := fun _ H' => (e_int (z := D.f + 1) (by kernel_rfl) (IntWalk.i64_in _ (by omega))))
  refine q_call (wants0 rfl) (d := 55) (v := (.int .i64 (farV D.f D.L D.s.round (D.f + 1)))) rfl (fun _ _ => by kernel_rfl) (fun w' H' => (talFar_any w' t hb cb ab lb D.f D.c D.L (H'.at 1 rfl) D.s.round (D.f + 1) (by omega) (by omega)).mono fun _ _ h => ⟨h.1, H'.keepU h.2⟩) ?_
  refine qv 5 (.int .i64 (farV D.f D.L D.s.round (D.f + 1))) ?_
  refine q_end ?_
  intro w20 H21
  refine then_normal ?_
  refine w_seq ?_
  refine w_lit ?_
  refine wv 56 (.int .i64 (farV D.f D.L D.s.round (D.f + 1))) ?_
  refine wv 57 (.bool (decide ((farV D.f D.L D.s.round (D.f + 1)) ≥ 0))) ?_
  refine w_nil ?_
  refine then_normal ?_
  refine (bsplit (decide ((farV D.f D.L D.s.round (D.f + 1)) ≥ 0))).elim (fun b22 => ?_) (fun b22 => ?_)
  ·have g23 := of_decide_eq_true b22
   refine wp_know 57 (.bool true) (congrArg Value.bool b22) ?_
   refine wp_ift rfl ?_
   refine w_seq ?_
   refine w_lit ?_
   refine wv 58 (pt k 0) ?_
   refine wv 59 (.int .i64 (farV D.f D.L D.s.round (D.f + 1))) ?_
   refine wl_do (wants0 rfl) (fun K24 hK24 => ?_)
   refine d_call (d := 60) rfl (by kernel_rfl) (coreEnter_any w20 k t hb cb ab lb pb D (ok_of (by kernel_rfl) (H21.fin [0, 1, 2] (by decide) rfl)) h (farV D.f D.L D.s.round (D.f + 1)) ) ?_
   rintro _ w26 ⟨v25, rfl, S27⟩
   have H28 : Sat w [cellC k 92 (coreL t pb (nextD D (farV D.f D.L D.s.round (D.f + 1)))), talC t hb cb ab lb (nextD D (farV D.f D.L D.s.round (D.f + 1))).f (nextD D (farV D.f D.L D.s.round (D.f + 1))).c (nextD D (farV D.f D.L D.s.round (D.f + 1))).L, mapC pb (Value.int .i64) propV (nextD D (farV D.f D.L D.s.round (D.f + 1))).P, restC w (coreC k t hb cb ab lb pb D).fp, rowC 45 35 v25 ((nextA D (farV D.f D.L D.s.round (D.f + 1))).length) ((nextA D (farV D.f D.L D.s.round (D.f + 1))).flatMap encA)] w26 := (Sat.turnL (L' := [cellC k 92 (coreL t pb (nextD D (farV D.f D.L D.s.round (D.f + 1)))), talC t hb cb ab lb (nextD D (farV D.f D.L D.s.round (D.f + 1))).f (nextD D (farV D.f D.L D.s.round (D.f + 1))).c (nextD D (farV D.f D.L D.s.round (D.f + 1))).L, mapC pb (Value.int .i64) propV (nextD D (farV D.f D.L D.s.round (D.f + 1))).P, rowC 45 35 v25 ((nextA D (farV D.f D.L D.s.round (D.f + 1))).length) ((nextA D (farV D.f D.L D.s.round (D.f + 1))).flatMap encA)]) (R := [restC w (coreC k t hb cb ab lb pb D).fp]) H21 [0, 1, 2] [3] (by decide) (by kernel_rfl) rfl S27).pick [0, 1, 2, 4, 3] (by decide)
   obtain ⟨a29, c30, rfl⟩ := ownsRow_shape (H28.at 4 rfl)
   refine ⟨_, rfl, ?_⟩
   refine hK24 _ _ ?_
   clear hK24 K24
   refine wv 2 (.slice a29 ((nextA D (farV D.f D.L D.s.round (D.f + 1))).length) c30) ?_
   refine wv 3 (.bool true) ?_
   refine w_nil ?_
   refine then_normal ?_
   refine w_ret ?_
   refine then_ret ?_
   refine end2 rfl (res_tmp (v := (.slice a29 ((nextA D (farV D.f D.L D.s.round (D.f + 1))).length) c30)) rfl) (res_tmp (v := (.bool true)) rfl) ?_
   have hlim := (farV_lim h (of_decide_eq_true b22)).2
   exact .inl ⟨_, nextD D (farV D.f D.L D.s.round (D.f + 1)), nextA D (farV D.f D.L D.s.round (D.f + 1)), rfl, by rw [ruleD_b, if_neg (of_decide_eq_false b5), if_pos (of_decide_eq_true b22), show nextD D (farV D.f D.L D.s.round (D.f + 1)) = toD D (farV D.f D.L D.s.round (D.f + 1)) from if_pos hlim, show nextA D (farV D.f D.L D.s.round (D.f + 1)) = enterA D (farV D.f D.L D.s.round (D.f + 1)) from if_pos hlim], (H28.pick [0, 1, 2, 4, 3] (by decide)).cast (by kernel_rfl)⟩
  ·have g31 := of_decide_eq_false b22
   refine wp_know 57 (.bool false) (congrArg Value.bool b22) ?_
   refine wp_iff rfl ?_
   refine w_skip ?_
   refine then_normal ?_
   refine w_seq ?_
   refine h_start H21 [cellC k 92 (coreL t pb D), talC t hb cb ab lb D.f D.c D.L, mapC pb (Value.int .i64) propV D.P, restC w (coreC k t hb cb ab lb pb D).fp] 16 rfl (by kernel_rfl) (fun Hx => (Hx.pick [0, 1, 2, 3] (by decide))) ?_
   intro w32 H33 S34
   refine hv0 0 S34 62 (pt k 0) ?_
   refine hv0 1 S34 63 (pt k 0) ?_
   refine hv0 2 S34 64 (pt k 106) ?_
   refine hv0 3 S34 65 (.map (some pb)) ?_ (he := fun _ H' => (e_load1 rfl (by kernel_rfl) (H'.cell 0 rfl (by kernel_rfl))))
   refine hv0 4 S34 66 (pt k 0) ?_
   refine hv0 5 S34 67 (pt k 0) ?_
   refine hv0 6 S34 68 (pt k 4) ?_
   refine hv0 7 S34 69 (pt k 4) ?_
   refine hv0 8 S34 70 (.int .i64 (D.s.round)) ?_ (he := fun _ H' => (e_load1 rfl (by kernel_rfl) (H'.cell 0 rfl (by kernel_rfl))))
   refine hv0 9 S34 71 (.tuple #[(.agg ⟨(([(.int .i64 ((getP D.P (D.s.round : Int)).valid))] : List Value) ++ hc (getP D.P (D.s.round : Int)).h ++ ([(.bool ((getP D.P (D.s.round : Int)).ok))] : List Value))⟩), (.bool (hasP D.P (D.s.round : Int)))]) ?_ (he := fun _ H' => (e_lookup2 (kt := 3) (et := 96) (KeyTy.int (by kernel_rfl)) (by kernel_rfl) (fun w => by kernel_rfl) rfl (D.s.round : Int) rfl (H'.at 2 rfl) (optD propV (lookM D.P (D.s.round : Int)) ⟨0, hash0, false⟩) rfl))
   refine hv0 10 S34 61 (.tuple #[(.agg ⟨(([(.int .i64 ((getP D.P (D.s.round : Int)).valid))] : List Value) ++ hc (getP D.P (D.s.round : Int)).h ++ ([(.bool ((getP D.P (D.s.round : Int)).ok))] : List Value))⟩), (.bool (hasP D.P (D.s.round : Int)))]) ?_
   refine hv0 11 S34 72 (.agg ⟨(([(.int .i64 ((getP D.P (D.s.round : Int)).valid))] : List Value) ++ hc (getP D.P (D.s.round : Int)).h ++ ([(.bool ((getP D.P (D.s.round : Int)).ok))] : List Value))⟩) ?_
   refine hv0 12 S34 73 (.bool (hasP D.P (D.s.round : Int))) ?_
   refine h_do 13 rfl (by kernel_rfl) (wants0 rfl) (fun K35 hK35 => ?_)
   refine d_alloc (zs := (([(.int .i64 (0))] : List Value) ++ hc hash0 ++ ([(.bool false)] : List Value))) (z := (.agg ⟨(([(.int .i64 (0))] : List Value) ++ hc hash0 ++ ([(.bool false)] : List Value))⟩)) rfl H33 (by kernel_rfl) (by kernel_rfl) ?_
   intro b36 w37 (H38 : Sat w [cellC k 92 (coreL t pb D), talC t hb cb ab lb D.f D.c D.L, mapC pb (Value.int .i64) propV D.P, restC w (coreC k t hb cb ab lb pb D).fp, cellC b36 96 (([(.int .i64 (0))] : List Value) ++ hc hash0 ++ ([(.bool false)] : List Value))] w37)
   have S39 := H38.pick [0, 1, 2, 3] (by decide)
   refine hK35 _ _ S39 ?_
   clear hK35 K35
   refine h_do 14 rfl (by kernel_rfl) (wants0 rfl) (fun K40 hK40 => ?_)
   refine d_storeX (vs := (([(.int .i64 ((getP D.P (D.s.round : Int)).valid))] : List Value) ++ hc (getP D.P (D.s.round : Int)).h ++ ([(.bool ((getP D.P (D.s.round : Int)).ok))] : List Value))) (cs' := (([(.int .i64 ((getP D.P (D.s.round : Int)).valid))] : List Value) ++ hc (getP D.P (D.s.round : Int)).h ++ ([(.bool ((getP D.P (D.s.round : Int)).ok))] : List Value))) rfl H38 4 rfl rfl rfl rfl (by kernel_rfl) (Nat.le_of_ble_eq_true (by kernel_rfl)) (Nat.le_of_ble_eq_true (by kernel_rfl)) (by kernel_rfl) (by kernel_rfl) ?_
   intro w41 (H42 : Sat w [cellC k 92 (coreL t pb D), talC t hb cb ab lb D.f D.c D.L, mapC pb (Value.int .i64) propV D.P, restC w (coreC k t hb cb ab lb pb D).fp, cellC b36 96 (([(.int .i64 ((getP D.P (D.s.round : Int)).valid))] : List Value) ++ hc (getP D.P (D.s.round : Int)).h ++ ([(.bool ((getP D.P (D.s.round : Int)).ok))] : List Value))] w41)
   have S44 := H42.pick [0, 1, 2, 3] (by decide)
   refine hK40 _ _ S44 ?_
   clear hK40 K40
   refine hv0 15 S44 7 (.bool (hasP D.P (D.s.round : Int))) ?_
   refine h_fin (by kernel_rfl) ?_
   refine then_normal ?_
   refine w_seq ?_
   refine wp_meetR [74, 75, 76, 77, 78, 79, 80, 81, 82] (fun G_ W_ => G_ 82 = (.bool (c3 D)) ∧ Sat w [cellC k 92 (coreL t pb D), talC t hb cb ab lb D.f D.c D.L, mapC pb (Value.int .i64) propV D.P, restC w (coreC k t hb cb ab lb pb D).fp, cellC b36 96 (([(.int .i64 ((getP D.P (D.s.round : Int)).valid))] : List Value) ++ hc (getP D.P (D.s.round : Int)).h ++ ([(.bool ((getP D.P (D.s.round : Int)).ok))] : List Value))] W_) ?_ ?_
   ·refine w_lit ?_
    refine wv 74 (pt k 0) ?_
    refine wv 75 (pt k 0) ?_
    refine wv 76 (pt k 4) ?_
    refine wv 77 (pt k 5) ?_
    refine wv 78 (.int .i64 (D.s.step)) ?_ (hr := e_load1 rfl (by kernel_rfl) (H42.cell 0 rfl (by kernel_rfl)))
    refine wv 79 (.bool (decide (D.s.step = 1))) ?_
    refine wv 80 (.bool (decide (D.s.step = 1))) ?_
    refine (bsplit (decide (D.s.step = 1))).elim (fun b46 => ?_) (fun b46 => ?_)
    ·have g47 := of_decide_eq_true b46
     refine wl_know 80 (.bool true) (congrArg Value.bool b46) ?_
     refine wy 6 80 true 81 (.bool (hasP D.P (D.s.round : Int))) ?_
     refine wv 82 (.bool (hasP D.P (D.s.round : Int))) ?_
     refine w_nil ?_
     refine meetR_at ?_ ⟨(congrArg Value.bool (show (hasP D.P (D.s.round : Int)) = (c3 D) by simp [c3, b46])), H42⟩
     exact (same_upd rfl (same_upd rfl (same_upd rfl (same_upd rfl (same_upd rfl (same_upd rfl (same_upd rfl (same_upd rfl (same_upd rfl (same_upd rfl (same_refl)))))))))))
    ·have g48 := of_decide_eq_false b46
     refine wl_know 80 (.bool false) (congrArg Value.bool b46) ?_
     refine wn 6 80 true ?_
     refine wv 82 (.bool false) ?_
     refine w_nil ?_
     refine meetR_at ?_ ⟨(congrArg Value.bool (show false = (c3 D) by simp [c3, b46])), H42⟩
     exact (same_upd rfl (same_upd rfl (same_upd rfl (same_upd rfl (same_upd rfl (same_upd rfl (same_upd rfl (same_upd rfl (same_upd rfl (same_upd rfl (same_refl)))))))))))
   ·rintro f49 w50 ⟨v52, H51⟩
    refine wp_know 82 _ v52 ?_
    refine (bsplit (c3 D)).elim (fun b53 => ?_) (fun b53 => ?_)
    ·refine wp_know 82 (.bool true) (congrArg Value.bool b53) ?_
     refine wp_ift rfl ?_
     refine w_seq ?_
     refine w_lit ?_
     refine wv 84 (pt k 0) ?_
     refine wv 85 (.agg ⟨(([(.int .i64 ((getP D.P (D.s.round : Int)).valid))] : List Value) ++ hc (getP D.P (D.s.round : Int)).h ++ ([(.bool ((getP D.P (D.s.round : Int)).ok))] : List Value))⟩) ?_ (hr := e_loadN (vs := (([(.int .i64 ((getP D.P (D.s.round : Int)).valid))] : List Value) ++ hc (getP D.P (D.s.round : Int)).h ++ ([(.bool ((getP D.P (D.s.round : Int)).ok))] : List Value))) rfl (by kernel_rfl) (by kernel_rfl) (by exact Nat.le_of_ble_eq_true (by kernel_rfl)) (H51.at 4 rfl) (by kernel_rfl))
     refine wl_do (wants0 rfl) (fun K54 hK54 => ?_)
     refine d_call (d := 86) rfl (by kernel_rfl) (coreChoose_any w50 k t hb cb ab lb pb D (ok_of (by kernel_rfl) (H51.fin [0, 1, 2] (by decide) rfl)) h (getP D.P (D.s.round : Int))) ?_
     rintro _ w55 ⟨rfl, u57⟩
     have H56 := H51.keepU u57
     refine ⟨_, rfl, ?_⟩
     refine hK54 _ _ ?_
     clear hK54 K54
     refine wv 83 (.tuple #[(.agg ⟨(hc (chooseD D (getP D.P (D.s.round : Int))).1)⟩), (.bool ((chooseD D (getP D.P (D.s.round : Int))).2))]) ?_
     refine wv 87 (.agg ⟨(hc (chooseD D (getP D.P (D.s.round : Int))).1)⟩) ?_
     refine wv 88 (.bool ((chooseD D (getP D.P (D.s.round : Int))).2)) ?_
     refine wl_do (wants0 rfl) (fun K58 hK58 => ?_)
     refine d_alloc (zs := (hc hash0)) (z := (.agg ⟨(hc hash0)⟩)) rfl H56 (by kernel_rfl) (by kernel_rfl) ?_
     intro b59 w60 (H61 : Sat w [cellC k 92 (coreL t pb D), talC t hb cb ab lb D.f D.c D.L, mapC pb (Value.int .i64) propV D.P, restC w (coreC k t hb cb ab lb pb D).fp, cellC b36 96 (([(.int .i64 ((getP D.P (D.s.round : Int)).valid))] : List Value) ++ hc (getP D.P (D.s.round : Int)).h ++ ([(.bool ((getP D.P (D.s.round : Int)).ok))] : List Value)), cellC b59 36 (hc hash0)] w60)
     refine hK58 _ _ ?_
     clear hK58 K58
     refine wl_do (wants0 rfl) (fun K62 hK62 => ?_)
     refine d_storeX (vs := (hc (chooseD D (getP D.P (D.s.round : Int))).1)) (cs' := (hc (chooseD D (getP D.P (D.s.round : Int))).1)) rfl H61 5 rfl rfl rfl rfl (by kernel_rfl) (Nat.le_of_ble_eq_true (by kernel_rfl)) (Nat.le_of_ble_eq_true (by kernel_rfl)) (by kernel_rfl) (by kernel_rfl) ?_
     intro w63 (H64 : Sat w [cellC k 92 (coreL t pb D), talC t hb cb ab lb D.f D.c D.L, mapC pb (Value.int .i64) propV D.P, restC w (coreC k t hb cb ab lb pb D).fp, cellC b36 96 (([(.int .i64 ((getP D.P (D.s.round : Int)).valid))] : List Value) ++ hc (getP D.P (D.s.round : Int)).h ++ ([(.bool ((getP D.P (D.s.round : Int)).ok))] : List Value)), cellC b59 36 (hc (chooseD D (getP D.P (D.s.round : Int))).1)] w63)
     refine hK62 _ _ ?_
     clear hK62 K62
     refine wv 9 (.bool ((chooseD D (getP D.P (D.s.round : Int))).2)) ?_
     refine w_nil ?_
     refine then_normal ?_
     refine w_seq ?_
     refine w_lit ?_
     refine wv 89 (.bool ((chooseD D (getP D.P (D.s.round : Int))).2)) ?_
     refine w_nil ?_
     refine then_normal ?_
     refine (bsplit ((chooseD D (getP D.P (D.s.round : Int))).2)).elim (fun b66 => ?_) (fun b66 => ?_)
     ·refine wp_know 89 (.bool true) (congrArg Value.bool b66) ?_
      refine wp_ift rfl ?_
      refine w_seq ?_
      refine w_lit ?_
      refine wv 90 (pt k 0) ?_
      refine wv 91 (.agg ⟨(hc (chooseD D (getP D.P (D.s.round : Int))).1)⟩) ?_ (hr := e_loadN (vs := (hc (chooseD D (getP D.P (D.s.round : Int))).1)) rfl (by kernel_rfl) (by kernel_rfl) (by exact Nat.le_of_ble_eq_true (by kernel_rfl)) (H64.at 5 rfl) (by kernel_rfl))
      refine wl_do (wants0 rfl) (fun K67 hK67 => ?_)
      refine d_call (d := 92) rfl (by kernel_rfl) (corePrevote_any w63 k t hb cb ab lb pb D (ok_of (by kernel_rfl) (H64.fin [0, 1, 2] (by decide) rfl)) h ((chooseD D (getP D.P (D.s.round : Int))).1) ) ?_
      rintro _ w69 ⟨v68, rfl, S70⟩
      have H71 : Sat w [cellC k 92 (coreL t pb (ownV D 1 2 ((chooseD D (getP D.P (D.s.round : Int))).1))), talC t hb cb ab lb (ownV D 1 2 ((chooseD D (getP D.P (D.s.round : Int))).1)).f (ownV D 1 2 ((chooseD D (getP D.P (D.s.round : Int))).1)).c (ownV D 1 2 ((chooseD D (getP D.P (D.s.round : Int))).1)).L, mapC pb (Value.int .i64) propV (ownV D 1 2 ((chooseD D (getP D.P (D.s.round : Int))).1)).P, restC w (coreC k t hb cb ab lb pb D).fp, cellC b36 96 (([(.int .i64 ((getP D.P (D.s.round : Int)).valid))] : List Value) ++ hc (getP D.P (D.s.round : Int)).h ++ ([(.bool ((getP D.P (D.s.round : Int)).ok))] : List Value)), cellC b59 36 (hc (chooseD D (getP D.P (D.s.round : Int))).1), rowC 45 35 v68 ((ownA D 2 ((chooseD D (getP D.P (D.s.round : Int))).1)).length) ((ownA D 2 ((chooseD D (getP D.P (D.s.round : Int))).1)).flatMap encA)] w69 := (Sat.turnL (L' := [cellC k 92 (coreL t pb (ownV D 1 2 ((chooseD D (getP D.P (D.s.round : Int))).1))), talC t hb cb ab lb (ownV D 1 2 ((chooseD D (getP D.P (D.s.round : Int))).1)).f (ownV D 1 2 ((chooseD D (getP D.P (D.s.round : Int))).1)).c (ownV D 1 2 ((chooseD D (getP D.P (D.s.round : Int))).1)).L, mapC pb (Value.int .i64) propV (ownV D 1 2 ((chooseD D (getP D.P (D.s.round : Int))).1)).P, rowC 45 35 v68 ((ownA D 2 ((chooseD D (getP D.P (D.s.round : Int))).1)).length) ((ownA D 2 ((chooseD D (getP D.P (D.s.round : Int))).1)).flatMap encA)]) (R := [restC w (coreC k t hb cb ab lb pb D).fp, cellC b36 96 (([(.int .i64 ((getP D.P (D.s.round : Int)).valid))] : List Value) ++ hc (getP D.P (D.s.round : Int)).h ++ ([(.bool ((getP D.P (D.s.round : Int)).ok))] : List Value)), cellC b59 36 (hc (chooseD D (getP D.P (D.s.round : Int))).1)]) H64 [0, 1, 2] [3, 4, 5] (by decide) (by kernel_rfl) rfl S70).pick [0, 1, 2, 4, 5, 6, 3] (by decide)
      obtain ⟨a72, c73, rfl⟩ := ownsRow_shape (H71.at 6 rfl)
      refine ⟨_, rfl, ?_⟩
      refine hK67 _ _ ?_
      clear hK67 K67
      refine wv 2 (.slice a72 ((ownA D 2 ((chooseD D (getP D.P (D.s.round : Int))).1)).length) c73) ?_
      refine wv 3 (.bool true) ?_
      refine w_nil ?_
      refine then_normal ?_
      refine w_ret ?_
      refine then_ret ?_
      refine end2 rfl (res_tmp (v := (.slice a72 ((ownA D 2 ((chooseD D (getP D.P (D.s.round : Int))).1)).length) c73)) rfl) (res_tmp (v := (.bool true)) rfl) ?_
      exact .inl ⟨_, ownV D 1 2 (chooseD D (getP D.P D.s.round)).1, ownA D 2 (chooseD D (getP D.P D.s.round)).1, rfl, by rw [ruleD_b, if_neg (of_decide_eq_false b5), if_neg (of_decide_eq_false b22), if_pos (by rw [b53, b66]; rfl)], (H71.pick [0, 1, 2, 6, 3] (by decide)).cast (by kernel_rfl)⟩
     ·refine wp_know 89 (.bool false) (congrArg Value.bool b66) ?_
      refine wp_iff rfl ?_
      refine w_skip ?_
      refine then_normal ?_
      refine w_seq ?_
      refine q_start H64 (by kernel_rfl) (by kernel_rfl) ?_
      refine qv 93 (pt k 0) ?_
      refine qv 94 (pt k 0) ?_
      refine qv 95 (pt k 0) ?_
      refine qv 96 (.agg ⟨([(.int .i64 (D.f)), (.int .i64 (D.c))] : List Value)⟩) ?_ (hr := fun _ H' => (e_loadN (vs := ([(.int .i64 (D.f)), (.int .i64 (D.c))] : List Value)) rfl (by kernel_rfl) (by kernel_rfl) (by exact Nat.le_of_ble_eq_true (by kernel_rfl)) (H'.at 0 rfl) (by kernel_rfl)))
      refine q_call (wants0 rfl) (d := 97) (v := (.int .i64 (2 * D.f + 1))) rfl (fun _ _ => by kernel_rfl) (fun w' H' => (wireQuorum_any w' D.f D.c (by omega)).mono fun _ _ h => ⟨h.1, H'.keepU h.2⟩) ?_
      refine qv 98 (pt k 0) ?_
      refine qv 99 (pt k 0) ?_
      refine qv 100 (pt k 4) ?_
      refine qv 101 (pt k 4) ?_
      refine qv 102 (.int .i64 (D.s.round)) ?_ (hr := fun _ H' => (e_load1 rfl (by kernel_rfl) (H'.cell 0 rfl (by kernel_rfl))))
      refine qv 10 (.int .i64 (2 * D.f + 1)) ?_
      refine qv 11 (.int .i64 (D.s.round)) ?_
      refine q_end ?_
      intro w74 H75
      refine then_normal ?_
      refine w_seq ?_
      refine wp_meetR [103, 104, 105, 106, 107, 108, 109, 110, 111, 112, 113, 114, 115, 116, 117, 118, 119, 120, 121, 122, 123, 124, 125, 126, 127, 128, 129, 130, 131, 132, 133, 134] (fun G_ W_ => G_ 134 = (.bool (c4 D)) ∧ Sat w [cellC k 92 (coreL t pb D), talC t hb cb ab lb D.f D.c D.L, mapC pb (Value.int .i64) propV D.P, restC w (coreC k t hb cb ab lb pb D).fp, cellC b36 96 (([(.int .i64 ((getP D.P (D.s.round : Int)).valid))] : List Value) ++ hc (getP D.P (D.s.round : Int)).h ++ ([(.bool ((getP D.P (D.s.round : Int)).ok))] : List Value)), cellC b59 36 (hc (chooseD D (getP D.P (D.s.round : Int))).1)] W_) ?_ ?_
      ·refine q_start H75 (by kernel_rfl) (by kernel_rfl) ?_
       refine qv 103 (pt k 0) ?_
       refine qv 104 (pt k 0) ?_
       refine qv 105 (pt k 4) ?_
       refine qv 106 (pt k 5) ?_
       refine qv 107 (.int .i64 (D.s.step)) ?_ (hr := fun _ H' => (e_load1 rfl (by kernel_rfl) (H'.cell 0 rfl (by kernel_rfl))))
       refine qv 108 (.bool (decide (D.s.step ≥ 2))) ?_
       refine qv 109 (.bool (decide (D.s.step ≥ 2))) ?_
       refine (bsplit (decide (D.s.step ≥ 2))).elim (fun b77 => ?_) (fun b77 => ?_)
       ·have g78 := of_decide_eq_true b77
        refine q_know 109 (.bool true) (congrArg Value.bool b77) ?_
        refine qy 6 109 true 110 (.bool (hasP D.P (D.s.round : Int))) ?_
        refine qv 111 (.bool (hasP D.P (D.s.round : Int))) ?_
        refine qv 112 (.bool (hasP D.P (D.s.round : Int))) ?_
        refine (bsplit (hasP D.P (D.s.round : Int))).elim (fun b79 => ?_) (fun b79 => ?_)
        ·refine q_know 112 (.bool true) (congrArg Value.bool b79) ?_
         refine qy 9 112 true 113 (pt b36 33) ?_
         refine qy 9 112 true 114 (.bool ((getP D.P (D.s.round : Int)).ok)) ?_ (hr := fun _ H' => (e_load1 rfl (by kernel_rfl) (H'.cell 4 rfl (by kernel_rfl))))
         refine qv 115 (.bool ((getP D.P (D.s.round : Int)).ok)) ?_
         refine qv 116 (.bool ((getP D.P (D.s.round : Int)).ok)) ?_
         refine (bsplit ((getP D.P (D.s.round : Int)).ok)).elim (fun b80 => ?_) (fun b80 => ?_)
         ·refine q_know 116 (.bool true) (congrArg Value.bool b80) ?_
          refine qy 13 116 true 117 (pt k 0) ?_
          refine qy 13 116 true 118 (pt k 0) ?_
          refine qy 13 116 true 119 (pt k 107) ?_
          refine qy 13 116 true 120 (.bool (D.wv)) ?_ (hr := fun _ H' => (e_load1 rfl (by kernel_rfl) (H'.cell 0 rfl (by kernel_rfl))))
          refine qy 13 116 true 121 (.bool (!(D.wv))) ?_
          refine qv 122 (.bool (!(D.wv))) ?_
          refine qv 123 (.bool (!(D.wv))) ?_
          refine (bsplit (!(D.wv))).elim (fun b81 => ?_) (fun b81 => ?_)
          ·have g82 := bnot_true b81
           refine q_know 123 (.bool true) (congrArg Value.bool b81) ?_
           refine qy 20 123 true 124 (pt k 0) ?_
           refine qy 20 123 true 125 (pt k 0) ?_
           refine qy 20 123 true 126 (pt k 105) ?_
           refine qy 20 123 true 127 (pt t 0) ?_ (hr := fun _ H' => (e_load1 rfl (by kernel_rfl) (H'.cell 0 rfl (by kernel_rfl))))
           refine qy 20 123 true 128 (.int .i64 (D.s.round)) ?_
           refine qy 20 123 true 129 (pt b36 1) ?_
           refine qy 20 123 true 130 (.agg ⟨(hc (getP D.P (D.s.round : Int)).h)⟩) ?_ (hr := fun _ H' => (e_loadN (vs := (hc (getP D.P (D.s.round : Int)).h)) rfl (by kernel_rfl) (by kernel_rfl) (by exact Nat.le_of_ble_eq_true (by kernel_rfl)) (H'.at 4 rfl) (by kernel_rfl)))
           refine q_call (wantsY 20 123 true rfl (by kernel_rfl) rfl (by kernel_rfl)) (d := 131) (v := (.int .i64 (forV D.L 1 D.s.round ((getP D.P (D.s.round : Int)).h)))) rfl (fun _ _ => by kernel_rfl) (fun w' H' => (talFor_any w' t hb cb ab lb D.f D.c D.L (H'.at 1 rfl) 1 D.s.round ((getP D.P (D.s.round : Int)).h)).mono fun _ _ h => ⟨h.1, H'.keepU h.2⟩) ?_
           refine qy 20 123 true 132 (.int .i64 (2 * D.f + 1)) ?_
           refine qy 20 123 true 133 (.bool (decide ((forV D.L 1 D.s.round ((getP D.P (D.s.round : Int)).h)) ≥ (2 * D.f + 1)))) ?_
           refine qv 134 (.bool (decide ((forV D.L 1 D.s.round ((getP D.P (D.s.round : Int)).h)) ≥ (2 * D.f + 1)))) ?_
           refine q_end ?_
           intro w83 H84
           refine meetR_at ?_ ⟨(congrArg Value.bool (show (decide ((forV D.L 1 D.s.round ((getP D.P (D.s.round : Int)).h)) ≥ (2 * D.f + 1))) = (c4 D) by simp [c4, b77, b79, b80, b81])), H84⟩
           exact (same_upd rfl (same_upd rfl (same_upd rfl (same_upd rfl (same_upd rfl (same_upd rfl (same_upd rfl (same_upd rfl (same_upd rfl (same_upd rfl (same_upd rfl (same_upd rfl (same_upd rfl (same_upd rfl (same_upd rfl (same_upd rfl (same_upd rfl (same_upd rfl (same_upd rfl (same_upd rfl (same_upd rfl (same_upd rfl (same_upd rfl (same_upd rfl (same_upd rfl (same_upd rfl (same_upd rfl (same_upd rfl (same_upd rfl (same_upd rfl (same_upd rfl (same_upd rfl (same_upd rfl (same_upd rfl (same_upd rfl (same_upd rfl (same_refl)))))))))))))))))))))))))))))))))))))
          ·have g85 := bnot_false b81
           refine q_know 123 (.bool false) (congrArg Value.bool b81) ?_
           iterate 10 refine qn 20 123 true ?_
           refine qv 134 (.bool false) ?_
           refine q_end ?_
           intro w86 H87
           refine meetR_at ?_ ⟨(congrArg Value.bool (show false = (c4 D) by simp [c4, b77, b79, b80, b81])), H87⟩
           exact (same_upd rfl (same_upd rfl (same_upd rfl (same_upd rfl (same_upd rfl (same_upd rfl (same_upd rfl (same_upd rfl (same_upd rfl (same_upd rfl (same_upd rfl (same_upd rfl (same_upd rfl (same_upd rfl (same_upd rfl (same_upd rfl (same_upd rfl (same_upd rfl (same_upd rfl (same_upd rfl (same_upd rfl (same_upd rfl (same_upd rfl (same_upd rfl (same_upd rfl (same_upd rfl (same_upd rfl (same_upd rfl (same_upd rfl (same_upd rfl (same_upd rfl (same_upd rfl (same_upd rfl (same_upd rfl (same_upd rfl (same_upd rfl (same_refl)))))))))))))))))))))))))))))))))))))
         ·refine q_know 116 (.bool false) (congrArg Value.bool b80) ?_
          iterate 5 refine qn 13 116 true ?_
          refine qv 122 (.bool false) ?_
          refine qv 123 (.bool false) ?_
          iterate 10 refine qn 20 123 true ?_
          refine qv 134 (.bool false) ?_
          refine q_end ?_
          intro w88 H89
          refine meetR_at ?_ ⟨(congrArg Value.bool (show false = (c4 D) by simp [c4, b77, b79, b80])), H89⟩
          exact (same_upd rfl (same_upd rfl (same_upd rfl (same_upd rfl (same_upd rfl (same_upd rfl (same_upd rfl (same_upd rfl (same_upd rfl (same_upd rfl (same_upd rfl (same_upd rfl (same_upd rfl (same_upd rfl (same_upd rfl (same_upd rfl (same_upd rfl (same_upd rfl (same_upd rfl (same_upd rfl (same_upd rfl (same_upd rfl (same_upd rfl (same_upd rfl (same_upd rfl (same_upd rfl (same_upd rfl (same_upd rfl (same_upd rfl (same_upd rfl (same_upd rfl (same_upd rfl (same_upd rfl (same_upd rfl (same_upd rfl (same_refl))))))))))))))))))))))))))))))))))))
        ·refine q_know 112 (.bool false) (congrArg Value.bool b79) ?_
         iterate 2 refine qn 9 112 true ?_
         refine qv 115 (.bool false) ?_
         refine qv 116 (.bool false) ?_
         iterate 5 refine qn 13 116 true ?_
         refine qv 122 (.bool false) ?_
         refine qv 123 (.bool false) ?_
         iterate 10 refine qn 20 123 true ?_
         refine qv 134 (.bool false) ?_
         refine q_end ?_
         intro w90 H91
         refine meetR_at ?_ ⟨(congrArg Value.bool (show false = (c4 D) by simp [c4, b77, b79])), H91⟩
         exact (same_upd rfl (same_upd rfl (same_upd rfl (same_upd rfl (same_upd rfl (same_upd rfl (same_upd rfl (same_upd rfl (same_upd rfl (same_upd rfl (same_upd rfl (same_upd rfl (same_upd rfl (same_upd rfl (same_upd rfl (same_upd rfl (same_upd rfl (same_upd rfl (same_upd rfl (same_upd rfl (same_upd rfl (same_upd rfl (same_upd rfl (same_upd rfl (same_upd rfl (same_upd rfl (same_upd rfl (same_upd rfl (same_upd rfl (same_upd rfl (same_upd rfl (same_upd rfl (same_upd rfl (same_upd rfl (same_refl)))))))))))))))))))))))))))))))))))
       ·have g92 := of_decide_eq_false b77
        refine q_know 109 (.bool false) (congrArg Value.bool b77) ?_
        refine qn 6 109 true ?_
        refine qv 111 (.bool false) ?_
        refine qv 112 (.bool false) ?_
        iterate 2 refine qn 9 112 true ?_
        refine qv 115 (.bool false) ?_
        refine qv 116 (.bool false) ?_
        iterate 5 refine qn 13 116 true ?_
        refine qv 122 (.bool false) ?_
        refine qv 123 (.bool false) ?_
        iterate 10 refine qn 20 123 true ?_
        refine qv 134 (.bool false) ?_
        refine q_end ?_
        intro w93 H94
        refine meetR_at ?_ ⟨(congrArg Value.bool (show false = (c4 D) by simp [c4, b77])), H94⟩
        exact (same_upd rfl (same_upd rfl (same_upd rfl (same_upd rfl (same_upd rfl (same_upd rfl (same_upd rfl (same_upd rfl (same_upd rfl (same_upd rfl (same_upd rfl (same_upd rfl (same_upd rfl (same_upd rfl (same_upd rfl (same_upd rfl (same_upd rfl (same_upd rfl (same_upd rfl (same_upd rfl (same_upd rfl (same_upd rfl (same_upd rfl (same_upd rfl (same_upd rfl (same_upd rfl (same_upd rfl (same_upd rfl (same_upd rfl (same_upd rfl (same_upd rfl (same_upd rfl (same_upd rfl (same_refl))))))))))))))))))))))))))))))))))
      ·rintro f95 w96 ⟨v98, H97⟩
       refine wp_know 134 _ v98 ?_
       refine (bsplit (c4 D)).elim (fun b99 => ?_) (fun b99 => ?_)
       ·refine wp_know 134 (.bool true) (congrArg Value.bool b99) ?_
        refine wp_ift rfl ?_
        refine w_seq ?_
        refine w_lit ?_
        refine wv 135 (pt k 0) ?_
        refine wv 136 (pt k 0) ?_
        refine wv 137 (pt k 107) ?_
        refine wl_do (wants0 rfl) (fun K100 hK100 => ?_)
        refine d_storeX (vs := ([(.bool true)] : List Value)) (cs' := (coreW D.f D.c D.epoch D.replica D.s.round D.s.step D.s.lr D.s.vr D.s.locked D.s.valid D.s.decided D.s.decision t pb true D.sp D.sc)) rfl H97 0 rfl rfl rfl rfl (by kernel_rfl) (Nat.le_of_ble_eq_true (by kernel_rfl)) (Nat.le_of_ble_eq_true (by kernel_rfl)) (by kernel_rfl) (by kernel_rfl) ?_
        intro w101 (H102 : Sat w [cellC k 92 (coreW D.f D.c D.epoch D.replica D.s.round D.s.step D.s.lr D.s.vr D.s.locked D.s.valid D.s.decided D.s.decision t pb true D.sp D.sc), talC t hb cb ab lb D.f D.c D.L, mapC pb (Value.int .i64) propV D.P, restC w (coreC k t hb cb ab lb pb D).fp, cellC b36 96 (([(.int .i64 ((getP D.P (D.s.round : Int)).valid))] : List Value) ++ hc (getP D.P (D.s.round : Int)).h ++ ([(.bool ((getP D.P (D.s.round : Int)).ok))] : List Value)), cellC b59 36 (hc (chooseD D (getP D.P (D.s.round : Int))).1)] w101)
        refine hK100 _ _ ?_
        clear hK100 K100
        refine w_nil ?_
        refine then_normal ?_
        refine w_seq ?_
        refine w_lit ?_
        refine wv 12 (.slice none 0 0) ?_
        refine w_nil ?_
        refine then_normal ?_
        iterate 2 refine w_seq ?_
        refine w_lit ?_
        refine wv 138 (pt k 0) ?_
        refine wv 139 (pt k 0) ?_
        refine wv 140 (pt k 4) ?_
        refine wv 141 (pt k 5) ?_
        refine wv 142 (.int .i64 (D.s.step)) ?_ (hr := e_load1 rfl (by kernel_rfl) (H102.cell 0 rfl (by kernel_rfl)))
        refine wv 143 (.bool (decide (D.s.step = 2))) ?_
        refine w_nil ?_
        refine then_normal ?_
        refine (bsplit (decide (D.s.step = 2))).elim (fun b104 => ?_) (fun b104 => ?_)
        ·have g105 := of_decide_eq_true b104
         refine wp_know 143 (.bool true) (congrArg Value.bool b104) ?_
         refine wp_ift rfl ?_
         refine w_seq ?_
         refine w_lit ?_
         refine wv 144 (pt k 0) ?_
         refine wv 145 (pt k 0) ?_
         refine wv 146 (pt b36 1) ?_
         refine wv 147 (.agg ⟨(hc (getP D.P (D.s.round : Int)).h)⟩) ?_ (hr := e_loadN (vs := (hc (getP D.P (D.s.round : Int)).h)) rfl (by kernel_rfl) (by kernel_rfl) (by exact Nat.le_of_ble_eq_true (by kernel_rfl)) (H102.at 4 rfl) (by kernel_rfl))
         refine wv 148 (.int .i64 (D.s.round)) ?_
         refine wv 149 (pt k 0) ?_
         refine wv 150 (pt k 4) ?_
         refine wv 151 (pt k 8) ?_
         refine wl_do (wants0 rfl) (fun K106 hK106 => ?_)
         refine d_storeX (vs := (hc (getP D.P (D.s.round : Int)).h)) (cs' := (coreW D.f D.c D.epoch D.replica D.s.round D.s.step D.s.lr D.s.vr ((getP D.P (D.s.round : Int)).h) D.s.valid D.s.decided D.s.decision t pb true D.sp D.sc)) rfl H102 0 rfl rfl rfl rfl (by kernel_rfl) (Nat.le_of_ble_eq_true (by kernel_rfl)) (Nat.le_of_ble_eq_true (by kernel_rfl)) (by kernel_rfl) (by kernel_rfl) ?_
         intro w107 (H108 : Sat w [cellC k 92 (coreW D.f D.c D.epoch D.replica D.s.round D.s.step D.s.lr D.s.vr ((getP D.P (D.s.round : Int)).h) D.s.valid D.s.decided D.s.decision t pb true D.sp D.sc), talC t hb cb ab lb D.f D.c D.L, mapC pb (Value.int .i64) propV D.P, restC w (coreC k t hb cb ab lb pb D).fp, cellC b36 96 (([(.int .i64 ((getP D.P (D.s.round : Int)).valid))] : List Value) ++ hc (getP D.P (D.s.round : Int)).h ++ ([(.bool ((getP D.P (D.s.round : Int)).ok))] : List Value)), cellC b59 36 (hc (chooseD D (getP D.P (D.s.round : Int))).1)] w107)
         refine hK106 _ _ ?_
         clear hK106 K106
         refine wv 152 (pt k 0) ?_
         refine wv 153 (pt k 4) ?_
         refine wv 154 (pt k 6) ?_
         refine wl_do (wants0 rfl) (fun K110 hK110 => ?_)
         refine d_storeX (vs := ([(.int .i64 (D.s.round))] : List Value)) (cs' := (coreW D.f D.c D.epoch D.replica D.s.round D.s.step D.s.round D.s.vr ((getP D.P (D.s.round : Int)).h) D.s.valid D.s.decided D.s.decision t pb true D.sp D.sc)) rfl H108 0 rfl rfl rfl rfl (by kernel_rfl) (Nat.le_of_ble_eq_true (by kernel_rfl)) (Nat.le_of_ble_eq_true (by kernel_rfl)) (by kernel_rfl) (by kernel_rfl) ?_
         intro w111 (H112 : Sat w [cellC k 92 (coreW D.f D.c D.epoch D.replica D.s.round D.s.step D.s.round D.s.vr ((getP D.P (D.s.round : Int)).h) D.s.valid D.s.decided D.s.decision t pb true D.sp D.sc), talC t hb cb ab lb D.f D.c D.L, mapC pb (Value.int .i64) propV D.P, restC w (coreC k t hb cb ab lb pb D).fp, cellC b36 96 (([(.int .i64 ((getP D.P (D.s.round : Int)).valid))] : List Value) ++ hc (getP D.P (D.s.round : Int)).h ++ ([(.bool ((getP D.P (D.s.round : Int)).ok))] : List Value)), cellC b59 36 (hc (chooseD D (getP D.P (D.s.round : Int))).1)] w111)
         refine hK110 _ _ ?_
         clear hK110 K110
         refine w_nil ?_
         refine then_normal ?_
         refine w_lit ?_
         refine wv 155 (pt k 0) ?_
         refine wv 156 (pt b36 1) ?_
         refine wv 157 (.agg ⟨(hc (getP D.P (D.s.round : Int)).h)⟩) ?_ (hr := e_loadN (vs := (hc (getP D.P (D.s.round : Int)).h)) rfl (by kernel_rfl) (by kernel_rfl) (by exact Nat.le_of_ble_eq_true (by kernel_rfl)) (H112.at 4 rfl) (by kernel_rfl))
         refine wl_do (wants0 rfl) (fun K114 hK114 => ?_)
         refine d_call (d := 158) rfl (by kernel_rfl) (corePrecommit_any w111 k t hb cb ab lb pb (⟨D.f, D.c, D.epoch, D.replica, ⟨D.s.round, D.s.step, D.s.round, D.s.vr, (getP D.P (D.s.round : Int)).h, D.s.valid, (D.s.decided), D.s.decision⟩, D.L, D.P, true, (D.sp), (D.sc)⟩ : CoreD) (ok_of (by kernel_rfl) (H112.fin [0, 1, 2] (by decide) rfl)) (⟨h.f, h.ep, h.rp, h.rd, h.st, h.V, h.R, h.pk, h.pr⟩) ((getP D.P (D.s.round : Int)).h) ) ?_
         rintro _ w116 ⟨v115, rfl, S117⟩
         have H118 : Sat w [cellC k 92 (coreL t pb (ownV (⟨D.f, D.c, D.epoch, D.replica, ⟨D.s.round, D.s.step, D.s.round, D.s.vr, (getP D.P (D.s.round : Int)).h, D.s.valid, (D.s.decided), D.s.decision⟩, D.L, D.P, true, (D.sp), (D.sc)⟩ : CoreD) 2 3 ((getP D.P (D.s.round : Int)).h))), talC t hb cb ab lb (ownV (⟨D.f, D.c, D.epoch, D.replica, ⟨D.s.round, D.s.step, D.s.round, D.s.vr, (getP D.P (D.s.round : Int)).h, D.s.valid, (D.s.decided), D.s.decision⟩, D.L, D.P, true, (D.sp), (D.sc)⟩ : CoreD) 2 3 ((getP D.P (D.s.round : Int)).h)).f (ownV (⟨D.f, D.c, D.epoch, D.replica, ⟨D.s.round, D.s.step, D.s.round, D.s.vr, (getP D.P (D.s.round : Int)).h, D.s.valid, (D.s.decided), D.s.decision⟩, D.L, D.P, true, (D.sp), (D.sc)⟩ : CoreD) 2 3 ((getP D.P (D.s.round : Int)).h)).c (ownV (⟨D.f, D.c, D.epoch, D.replica, ⟨D.s.round, D.s.step, D.s.round, D.s.vr, (getP D.P (D.s.round : Int)).h, D.s.valid, (D.s.decided), D.s.decision⟩, D.L, D.P, true, (D.sp), (D.sc)⟩ : CoreD) 2 3 ((getP D.P (D.s.round : Int)).h)).L, mapC pb (Value.int .i64) propV (ownV (⟨D.f, D.c, D.epoch, D.replica, ⟨D.s.round, D.s.step, D.s.round, D.s.vr, (getP D.P (D.s.round : Int)).h, D.s.valid, (D.s.decided), D.s.decision⟩, D.L, D.P, true, (D.sp), (D.sc)⟩ : CoreD) 2 3 ((getP D.P (D.s.round : Int)).h)).P, restC w (coreC k t hb cb ab lb pb D).fp, cellC b36 96 (([(.int .i64 ((getP D.P (D.s.round : Int)).valid))] : List Value) ++ hc (getP D.P (D.s.round : Int)).h ++ ([(.bool ((getP D.P (D.s.round : Int)).ok))] : List Value)), cellC b59 36 (hc (chooseD D (getP D.P (D.s.round : Int))).1), rowC 45 35 v115 ((ownA (⟨D.f, D.c, D.epoch, D.replica, ⟨D.s.round, D.s.step, D.s.round, D.s.vr, (getP D.P (D.s.round : Int)).h, D.s.valid, (D.s.decided), D.s.decision⟩, D.L, D.P, true, (D.sp), (D.sc)⟩ : CoreD) 3 ((getP D.P (D.s.round : Int)).h)).length) ((ownA (⟨D.f, D.c, D.epoch, D.replica, ⟨D.s.round, D.s.step, D.s.round, D.s.vr, (getP D.P (D.s.round : Int)).h, D.s.valid, (D.s.decided), D.s.decision⟩, D.L, D.P, true, (D.sp), (D.sc)⟩ : CoreD) 3 ((getP D.P (D.s.round : Int)).h)).flatMap encA)] w116 := (Sat.turnL (L' := [cellC k 92 (coreL t pb (ownV (⟨D.f, D.c, D.epoch, D.replica, ⟨D.s.round, D.s.step, D.s.round, D.s.vr, (getP D.P (D.s.round : Int)).h, D.s.valid, (D.s.decided), D.s.decision⟩, D.L, D.P, true, (D.sp), (D.sc)⟩ : CoreD) 2 3 ((getP D.P (D.s.round : Int)).h))), talC t hb cb ab lb (ownV (⟨D.f, D.c, D.epoch, D.replica, ⟨D.s.round, D.s.step, D.s.round, D.s.vr, (getP D.P (D.s.round : Int)).h, D.s.valid, (D.s.decided), D.s.decision⟩, D.L, D.P, true, (D.sp), (D.sc)⟩ : CoreD) 2 3 ((getP D.P (D.s.round : Int)).h)).f (ownV (⟨D.f, D.c, D.epoch, D.replica, ⟨D.s.round, D.s.step, D.s.round, D.s.vr, (getP D.P (D.s.round : Int)).h, D.s.valid, (D.s.decided), D.s.decision⟩, D.L, D.P, true, (D.sp), (D.sc)⟩ : CoreD) 2 3 ((getP D.P (D.s.round : Int)).h)).c (ownV (⟨D.f, D.c, D.epoch, D.replica, ⟨D.s.round, D.s.step, D.s.round, D.s.vr, (getP D.P (D.s.round : Int)).h, D.s.valid, (D.s.decided), D.s.decision⟩, D.L, D.P, true, (D.sp), (D.sc)⟩ : CoreD) 2 3 ((getP D.P (D.s.round : Int)).h)).L, mapC pb (Value.int .i64) propV (ownV (⟨D.f, D.c, D.epoch, D.replica, ⟨D.s.round, D.s.step, D.s.round, D.s.vr, (getP D.P (D.s.round : Int)).h, D.s.valid, (D.s.decided), D.s.decision⟩, D.L, D.P, true, (D.sp), (D.sc)⟩ : CoreD) 2 3 ((getP D.P (D.s.round : Int)).h)).P, rowC 45 35 v115 ((ownA (⟨D.f, D.c, D.epoch, D.replica, ⟨D.s.round, D.s.step, D.s.round, D.s.vr, (getP D.P (D.s.round : Int)).h, D.s.valid, (D.s.decided), D.s.decision⟩, D.L, D.P, true, (D.sp), (D.sc)⟩ : CoreD) 3 ((getP D.P (D.s.round : Int)).h)).length) ((ownA (⟨D.f, D.c, D.epoch, D.replica, ⟨D.s.round, D.s.step, D.s.round, D.s.vr, (getP D.P (D.s.round : Int)).h, D.s.valid, (D.s.decided), D.s.decision⟩, D.L, D.P, true, (D.sp), (D.sc)⟩ : CoreD) 3 ((getP D.P (D.s.round : Int)).h)).flatMap encA)]) (R := [restC w (coreC k t hb cb ab lb pb D).fp, cellC b36 96 (([(.int .i64 ((getP D.P (D.s.round : Int)).valid))] : List Value) ++ hc (getP D.P (D.s.round : Int)).h ++ ([(.bool ((getP D.P (D.s.round : Int)).ok))] : List Value)), cellC b59 36 (hc (chooseD D (getP D.P (D.s.round : Int))).1)]) H112 [0, 1, 2] [3, 4, 5] (by decide) (by kernel_rfl) rfl S117).pick [0, 1, 2, 4, 5, 6, 3] (by decide)
         obtain ⟨a119, c120, rfl⟩ := ownsRow_shape (H118.at 6 rfl)
         refine ⟨_, rfl, ?_⟩
         refine hK114 _ _ ?_
         clear hK114 K114
         refine wv 12 (.slice a119 ((ownA (⟨D.f, D.c, D.epoch, D.replica, ⟨D.s.round, D.s.step, D.s.round, D.s.vr, (getP D.P (D.s.round : Int)).h, D.s.valid, (D.s.decided), D.s.decision⟩, D.L, D.P, true, (D.sp), (D.sc)⟩ : CoreD) 3 ((getP D.P (D.s.round : Int)).h)).length) c120) ?_
         refine w_nil ?_
         refine then_normal ?_
         refine w_seq ?_
         refine w_lit ?_
         refine wv 159 (pt k 0) ?_
         refine wv 160 (pt k 0) ?_
         refine wv 161 (pt b36 1) ?_
         refine wv 162 (.agg ⟨(hc (getP D.P (D.s.round : Int)).h)⟩) ?_ (hr := e_loadN (vs := (hc (getP D.P (D.s.round : Int)).h)) rfl (by kernel_rfl) (by kernel_rfl) (by exact Nat.le_of_ble_eq_true (by kernel_rfl)) (H118.at 4 rfl) (by kernel_rfl))
         refine wv 163 (.int .i64 (D.s.round)) ?_
         refine wv 164 (pt k 0) ?_
         refine wv 165 (pt k 4) ?_
         refine wv 166 (pt k 40) ?_
         refine wl_do (wants0 rfl) (fun K121 hK121 => ?_)
         refine d_storeX (vs := (hc (getP D.P (D.s.round : Int)).h)) (cs' := (coreW ((ownV (⟨D.f, D.c, D.epoch, D.replica, ⟨D.s.round, D.s.step, D.s.round, D.s.vr, (getP D.P (D.s.round : Int)).h, D.s.valid, (D.s.decided), D.s.decision⟩, D.L, D.P, true, (D.sp), (D.sc)⟩ : CoreD) 2 3 ((getP D.P (D.s.round : Int)).h)).f) ((ownV (⟨D.f, D.c, D.epoch, D.replica, ⟨D.s.round, D.s.step, D.s.round, D.s.vr, (getP D.P (D.s.round : Int)).h, D.s.valid, (D.s.decided), D.s.decision⟩, D.L, D.P, true, (D.sp), (D.sc)⟩ : CoreD) 2 3 ((getP D.P (D.s.round : Int)).h)).c) ((ownV (⟨D.f, D.c, D.epoch, D.replica, ⟨D.s.round, D.s.step, D.s.round, D.s.vr, (getP D.P (D.s.round : Int)).h, D.s.valid, (D.s.decided), D.s.decision⟩, D.L, D.P, true, (D.sp), (D.sc)⟩ : CoreD) 2 3 ((getP D.P (D.s.round : Int)).h)).epoch) ((ownV (⟨D.f, D.c, D.epoch, D.replica, ⟨D.s.round, D.s.step, D.s.round, D.s.vr, (getP D.P (D.s.round : Int)).h, D.s.valid, (D.s.decided), D.s.decision⟩, D.L, D.P, true, (D.sp), (D.sc)⟩ : CoreD) 2 3 ((getP D.P (D.s.round : Int)).h)).replica) ((ownV (⟨D.f, D.c, D.epoch, D.replica, ⟨D.s.round, D.s.step, D.s.round, D.s.vr, (getP D.P (D.s.round : Int)).h, D.s.valid, (D.s.decided), D.s.decision⟩, D.L, D.P, true, (D.sp), (D.sc)⟩ : CoreD) 2 3 ((getP D.P (D.s.round : Int)).h)).s.round) ((ownV (⟨D.f, D.c, D.epoch, D.replica, ⟨D.s.round, D.s.step, D.s.round, D.s.vr, (getP D.P (D.s.round : Int)).h, D.s.valid, (D.s.decided), D.s.decision⟩, D.L, D.P, true, (D.sp), (D.sc)⟩ : CoreD) 2 3 ((getP D.P (D.s.round : Int)).h)).s.step) ((ownV (⟨D.f, D.c, D.epoch, D.replica, ⟨D.s.round, D.s.step, D.s.round, D.s.vr, (getP D.P (D.s.round : Int)).h, D.s.valid, (D.s.decided), D.s.decision⟩, D.L, D.P, true, (D.sp), (D.sc)⟩ : CoreD) 2 3 ((getP D.P (D.s.round : Int)).h)).s.lr) ((ownV (⟨D.f, D.c, D.epoch, D.replica, ⟨D.s.round, D.s.step, D.s.round, D.s.vr, (getP D.P (D.s.round : Int)).h, D.s.valid, (D.s.decided), D.s.decision⟩, D.L, D.P, true, (D.sp), (D.sc)⟩ : CoreD) 2 3 ((getP D.P (D.s.round : Int)).h)).s.vr) ((ownV (⟨D.f, D.c, D.epoch, D.replica, ⟨D.s.round, D.s.step, D.s.round, D.s.vr, (getP D.P (D.s.round : Int)).h, D.s.valid, (D.s.decided), D.s.decision⟩, D.L, D.P, true, (D.sp), (D.sc)⟩ : CoreD) 2 3 ((getP D.P (D.s.round : Int)).h)).s.locked) ((getP D.P (D.s.round : Int)).h) ((ownV (⟨D.f, D.c, D.epoch, D.replica, ⟨D.s.round, D.s.step, D.s.round, D.s.vr, (getP D.P (D.s.round : Int)).h, D.s.valid, (D.s.decided), D.s.decision⟩, D.L, D.P, true, (D.sp), (D.sc)⟩ : CoreD) 2 3 ((getP D.P (D.s.round : Int)).h)).s.decided) ((ownV (⟨D.f, D.c, D.epoch, D.replica, ⟨D.s.round, D.s.step, D.s.round, D.s.vr, (getP D.P (D.s.round : Int)).h, D.s.valid, (D.s.decided), D.s.decision⟩, D.L, D.P, true, (D.sp), (D.sc)⟩ : CoreD) 2 3 ((getP D.P (D.s.round : Int)).h)).s.decision) t pb ((ownV (⟨D.f, D.c, D.epoch, D.replica, ⟨D.s.round, D.s.step, D.s.round, D.s.vr, (getP D.P (D.s.round : Int)).h, D.s.valid, (D.s.decided), D.s.decision⟩, D.L, D.P, true, (D.sp), (D.sc)⟩ : CoreD) 2 3 ((getP D.P (D.s.round : Int)).h)).wv) ((ownV (⟨D.f, D.c, D.epoch, D.replica, ⟨D.s.round, D.s.step, D.s.round, D.s.vr, (getP D.P (D.s.round : Int)).h, D.s.valid, (D.s.decided), D.s.decision⟩, D.L, D.P, true, (D.sp), (D.sc)⟩ : CoreD) 2 3 ((getP D.P (D.s.round : Int)).h)).sp) ((ownV (⟨D.f, D.c, D.epoch, D.replica, ⟨D.s.round, D.s.step, D.s.round, D.s.vr, (getP D.P (D.s.round : Int)).h, D.s.valid, (D.s.decided), D.s.decision⟩, D.L, D.P, true, (D.sp), (D.sc)⟩ : CoreD) 2 3 ((getP D.P (D.s.round : Int)).h)).sc))) rfl H118 0 rfl rfl rfl rfl (by kernel_rfl) (Nat.le_of_ble_eq_true (by kernel_rfl)) (Nat.le_of_ble_eq_true (by kernel_rfl)) (by kernel_rfl) (by kernel_rfl) ?_
         intro w122 (H123 : Sat w [cellC k 92 (coreW ((ownV (⟨D.f, D.c, D.epoch, D.replica, ⟨D.s.round, D.s.step, D.s.round, D.s.vr, (getP D.P (D.s.round : Int)).h, D.s.valid, (D.s.decided), D.s.decision⟩, D.L, D.P, true, (D.sp), (D.sc)⟩ : CoreD) 2 3 ((getP D.P (D.s.round : Int)).h)).f) ((ownV (⟨D.f, D.c, D.epoch, D.replica, ⟨D.s.round, D.s.step, D.s.round, D.s.vr, (getP D.P (D.s.round : Int)).h, D.s.valid, (D.s.decided), D.s.decision⟩, D.L, D.P, true, (D.sp), (D.sc)⟩ : CoreD) 2 3 ((getP D.P (D.s.round : Int)).h)).c) ((ownV (⟨D.f, D.c, D.epoch, D.replica, ⟨D.s.round, D.s.step, D.s.round, D.s.vr, (getP D.P (D.s.round : Int)).h, D.s.valid, (D.s.decided), D.s.decision⟩, D.L, D.P, true, (D.sp), (D.sc)⟩ : CoreD) 2 3 ((getP D.P (D.s.round : Int)).h)).epoch) ((ownV (⟨D.f, D.c, D.epoch, D.replica, ⟨D.s.round, D.s.step, D.s.round, D.s.vr, (getP D.P (D.s.round : Int)).h, D.s.valid, (D.s.decided), D.s.decision⟩, D.L, D.P, true, (D.sp), (D.sc)⟩ : CoreD) 2 3 ((getP D.P (D.s.round : Int)).h)).replica) ((ownV (⟨D.f, D.c, D.epoch, D.replica, ⟨D.s.round, D.s.step, D.s.round, D.s.vr, (getP D.P (D.s.round : Int)).h, D.s.valid, (D.s.decided), D.s.decision⟩, D.L, D.P, true, (D.sp), (D.sc)⟩ : CoreD) 2 3 ((getP D.P (D.s.round : Int)).h)).s.round) ((ownV (⟨D.f, D.c, D.epoch, D.replica, ⟨D.s.round, D.s.step, D.s.round, D.s.vr, (getP D.P (D.s.round : Int)).h, D.s.valid, (D.s.decided), D.s.decision⟩, D.L, D.P, true, (D.sp), (D.sc)⟩ : CoreD) 2 3 ((getP D.P (D.s.round : Int)).h)).s.step) ((ownV (⟨D.f, D.c, D.epoch, D.replica, ⟨D.s.round, D.s.step, D.s.round, D.s.vr, (getP D.P (D.s.round : Int)).h, D.s.valid, (D.s.decided), D.s.decision⟩, D.L, D.P, true, (D.sp), (D.sc)⟩ : CoreD) 2 3 ((getP D.P (D.s.round : Int)).h)).s.lr) ((ownV (⟨D.f, D.c, D.epoch, D.replica, ⟨D.s.round, D.s.step, D.s.round, D.s.vr, (getP D.P (D.s.round : Int)).h, D.s.valid, (D.s.decided), D.s.decision⟩, D.L, D.P, true, (D.sp), (D.sc)⟩ : CoreD) 2 3 ((getP D.P (D.s.round : Int)).h)).s.vr) ((ownV (⟨D.f, D.c, D.epoch, D.replica, ⟨D.s.round, D.s.step, D.s.round, D.s.vr, (getP D.P (D.s.round : Int)).h, D.s.valid, (D.s.decided), D.s.decision⟩, D.L, D.P, true, (D.sp), (D.sc)⟩ : CoreD) 2 3 ((getP D.P (D.s.round : Int)).h)).s.locked) ((getP D.P (D.s.round : Int)).h) ((ownV (⟨D.f, D.c, D.epoch, D.replica, ⟨D.s.round, D.s.step, D.s.round, D.s.vr, (getP D.P (D.s.round : Int)).h, D.s.valid, (D.s.decided), D.s.decision⟩, D.L, D.P, true, (D.sp), (D.sc)⟩ : CoreD) 2 3 ((getP D.P (D.s.round : Int)).h)).s.decided) ((ownV (⟨D.f, D.c, D.epoch, D.replica, ⟨D.s.round, D.s.step, D.s.round, D.s.vr, (getP D.P (D.s.round : Int)).h, D.s.valid, (D.s.decided), D.s.decision⟩, D.L, D.P, true, (D.sp), (D.sc)⟩ : CoreD) 2 3 ((getP D.P (D.s.round : Int)).h)).s.decision) t pb ((ownV (⟨D.f, D.c, D.epoch, D.replica, ⟨D.s.round, D.s.step, D.s.round, D.s.vr, (getP D.P (D.s.round : Int)).h, D.s.valid, (D.s.decided), D.s.decision⟩, D.L, D.P, true, (D.sp), (D.sc)⟩ : CoreD) 2 3 ((getP D.P (D.s.round : Int)).h)).wv) ((ownV (⟨D.f, D.c, D.epoch, D.replica, ⟨D.s.round, D.s.step, D.s.round, D.s.vr, (getP D.P (D.s.round : Int)).h, D.s.valid, (D.s.decided), D.s.decision⟩, D.L, D.P, true, (D.sp), (D.sc)⟩ : CoreD) 2 3 ((getP D.P (D.s.round : Int)).h)).sp) ((ownV (⟨D.f, D.c, D.epoch, D.replica, ⟨D.s.round, D.s.step, D.s.round, D.s.vr, (getP D.P (D.s.round : Int)).h, D.s.valid, (D.s.decided), D.s.decision⟩, D.L, D.P, true, (D.sp), (D.sc)⟩ : CoreD) 2 3 ((getP D.P (D.s.round : Int)).h)).sc)), talC t hb cb ab lb (ownV (⟨D.f, D.c, D.epoch, D.replica, ⟨D.s.round, D.s.step, D.s.round, D.s.vr, (getP D.P (D.s.round : Int)).h, D.s.valid, (D.s.decided), D.s.decision⟩, D.L, D.P, true, (D.sp), (D.sc)⟩ : CoreD) 2 3 ((getP D.P (D.s.round : Int)).h)).f (ownV (⟨D.f, D.c, D.epoch, D.replica, ⟨D.s.round, D.s.step, D.s.round, D.s.vr, (getP D.P (D.s.round : Int)).h, D.s.valid, (D.s.decided), D.s.decision⟩, D.L, D.P, true, (D.sp), (D.sc)⟩ : CoreD) 2 3 ((getP D.P (D.s.round : Int)).h)).c (ownV (⟨D.f, D.c, D.epoch, D.replica, ⟨D.s.round, D.s.step, D.s.round, D.s.vr, (getP D.P (D.s.round : Int)).h, D.s.valid, (D.s.decided), D.s.decision⟩, D.L, D.P, true, (D.sp), (D.sc)⟩ : CoreD) 2 3 ((getP D.P (D.s.round : Int)).h)).L, mapC pb (Value.int .i64) propV (ownV (⟨D.f, D.c, D.epoch, D.replica, ⟨D.s.round, D.s.step, D.s.round, D.s.vr, (getP D.P (D.s.round : Int)).h, D.s.valid, (D.s.decided), D.s.decision⟩, D.L, D.P, true, (D.sp), (D.sc)⟩ : CoreD) 2 3 ((getP D.P (D.s.round : Int)).h)).P, restC w (coreC k t hb cb ab lb pb D).fp, cellC b36 96 (([(.int .i64 ((getP D.P (D.s.round : Int)).valid))] : List Value) ++ hc (getP D.P (D.s.round : Int)).h ++ ([(.bool ((getP D.P (D.s.round : Int)).ok))] : List Value)), cellC b59 36 (hc (chooseD D (getP D.P (D.s.round : Int))).1), rowC 45 35 (.slice a119 ((ownA (⟨D.f, D.c, D.epoch, D.replica, ⟨D.s.round, D.s.step, D.s.round, D.s.vr, (getP D.P (D.s.round : Int)).h, D.s.valid, (D.s.decided), D.s.decision⟩, D.L, D.P, true, (D.sp), (D.sc)⟩ : CoreD) 3 ((getP D.P (D.s.round : Int)).h)).length) c120) ((ownA (⟨D.f, D.c, D.epoch, D.replica, ⟨D.s.round, D.s.step, D.s.round, D.s.vr, (getP D.P (D.s.round : Int)).h, D.s.valid, (D.s.decided), D.s.decision⟩, D.L, D.P, true, (D.sp), (D.sc)⟩ : CoreD) 3 ((getP D.P (D.s.round : Int)).h)).length) ((ownA (⟨D.f, D.c, D.epoch, D.replica, ⟨D.s.round, D.s.step, D.s.round, D.s.vr, (getP D.P (D.s.round : Int)).h, D.s.valid, (D.s.decided), D.s.decision⟩, D.L, D.P, true, (D.sp), (D.sc)⟩ : CoreD) 3 ((getP D.P (D.s.round : Int)).h)).flatMap encA)] w122)
         refine hK121 _ _ ?_
         clear hK121 K121
         refine wv 167 (pt k 0) ?_
         refine wv 168 (pt k 4) ?_
         refine wv 169 (pt k 7) ?_
         refine wl_do (wants0 rfl) (fun K125 hK125 => ?_)
         refine d_storeX (vs := ([(.int .i64 (D.s.round))] : List Value)) (cs' := (coreW ((ownV (⟨D.f, D.c, D.epoch, D.replica, ⟨D.s.round, D.s.step, D.s.round, D.s.vr, (getP D.P (D.s.round : Int)).h, D.s.valid, (D.s.decided), D.s.decision⟩, D.L, D.P, true, (D.sp), (D.sc)⟩ : CoreD) 2 3 ((getP D.P (D.s.round : Int)).h)).f) ((ownV (⟨D.f, D.c, D.epoch, D.replica, ⟨D.s.round, D.s.step, D.s.round, D.s.vr, (getP D.P (D.s.round : Int)).h, D.s.valid, (D.s.decided), D.s.decision⟩, D.L, D.P, true, (D.sp), (D.sc)⟩ : CoreD) 2 3 ((getP D.P (D.s.round : Int)).h)).c) ((ownV (⟨D.f, D.c, D.epoch, D.replica, ⟨D.s.round, D.s.step, D.s.round, D.s.vr, (getP D.P (D.s.round : Int)).h, D.s.valid, (D.s.decided), D.s.decision⟩, D.L, D.P, true, (D.sp), (D.sc)⟩ : CoreD) 2 3 ((getP D.P (D.s.round : Int)).h)).epoch) ((ownV (⟨D.f, D.c, D.epoch, D.replica, ⟨D.s.round, D.s.step, D.s.round, D.s.vr, (getP D.P (D.s.round : Int)).h, D.s.valid, (D.s.decided), D.s.decision⟩, D.L, D.P, true, (D.sp), (D.sc)⟩ : CoreD) 2 3 ((getP D.P (D.s.round : Int)).h)).replica) ((ownV (⟨D.f, D.c, D.epoch, D.replica, ⟨D.s.round, D.s.step, D.s.round, D.s.vr, (getP D.P (D.s.round : Int)).h, D.s.valid, (D.s.decided), D.s.decision⟩, D.L, D.P, true, (D.sp), (D.sc)⟩ : CoreD) 2 3 ((getP D.P (D.s.round : Int)).h)).s.round) ((ownV (⟨D.f, D.c, D.epoch, D.replica, ⟨D.s.round, D.s.step, D.s.round, D.s.vr, (getP D.P (D.s.round : Int)).h, D.s.valid, (D.s.decided), D.s.decision⟩, D.L, D.P, true, (D.sp), (D.sc)⟩ : CoreD) 2 3 ((getP D.P (D.s.round : Int)).h)).s.step) ((ownV (⟨D.f, D.c, D.epoch, D.replica, ⟨D.s.round, D.s.step, D.s.round, D.s.vr, (getP D.P (D.s.round : Int)).h, D.s.valid, (D.s.decided), D.s.decision⟩, D.L, D.P, true, (D.sp), (D.sc)⟩ : CoreD) 2 3 ((getP D.P (D.s.round : Int)).h)).s.lr) D.s.round ((ownV (⟨D.f, D.c, D.epoch, D.replica, ⟨D.s.round, D.s.step, D.s.round, D.s.vr, (getP D.P (D.s.round : Int)).h, D.s.valid, (D.s.decided), D.s.decision⟩, D.L, D.P, true, (D.sp), (D.sc)⟩ : CoreD) 2 3 ((getP D.P (D.s.round : Int)).h)).s.locked) ((getP D.P (D.s.round : Int)).h) ((ownV (⟨D.f, D.c, D.epoch, D.replica, ⟨D.s.round, D.s.step, D.s.round, D.s.vr, (getP D.P (D.s.round : Int)).h, D.s.valid, (D.s.decided), D.s.decision⟩, D.L, D.P, true, (D.sp), (D.sc)⟩ : CoreD) 2 3 ((getP D.P (D.s.round : Int)).h)).s.decided) ((ownV (⟨D.f, D.c, D.epoch, D.replica, ⟨D.s.round, D.s.step, D.s.round, D.s.vr, (getP D.P (D.s.round : Int)).h, D.s.valid, (D.s.decided), D.s.decision⟩, D.L, D.P, true, (D.sp), (D.sc)⟩ : CoreD) 2 3 ((getP D.P (D.s.round : Int)).h)).s.decision) t pb ((ownV (⟨D.f, D.c, D.epoch, D.replica, ⟨D.s.round, D.s.step, D.s.round, D.s.vr, (getP D.P (D.s.round : Int)).h, D.s.valid, (D.s.decided), D.s.decision⟩, D.L, D.P, true, (D.sp), (D.sc)⟩ : CoreD) 2 3 ((getP D.P (D.s.round : Int)).h)).wv) ((ownV (⟨D.f, D.c, D.epoch, D.replica, ⟨D.s.round, D.s.step, D.s.round, D.s.vr, (getP D.P (D.s.round : Int)).h, D.s.valid, (D.s.decided), D.s.decision⟩, D.L, D.P, true, (D.sp), (D.sc)⟩ : CoreD) 2 3 ((getP D.P (D.s.round : Int)).h)).sp) ((ownV (⟨D.f, D.c, D.epoch, D.replica, ⟨D.s.round, D.s.step, D.s.round, D.s.vr, (getP D.P (D.s.round : Int)).h, D.s.valid, (D.s.decided), D.s.decision⟩, D.L, D.P, true, (D.sp), (D.sc)⟩ : CoreD) 2 3 ((getP D.P (D.s.round : Int)).h)).sc))) rfl H123 0 rfl rfl rfl rfl (by kernel_rfl) (Nat.le_of_ble_eq_true (by kernel_rfl)) (Nat.le_of_ble_eq_true (by kernel_rfl)) (by kernel_rfl) (by kernel_rfl) ?_
         intro w126 (H127 : Sat w [cellC k 92 (coreW ((ownV (⟨D.f, D.c, D.epoch, D.replica, ⟨D.s.round, D.s.step, D.s.round, D.s.vr, (getP D.P (D.s.round : Int)).h, D.s.valid, (D.s.decided), D.s.decision⟩, D.L, D.P, true, (D.sp), (D.sc)⟩ : CoreD) 2 3 ((getP D.P (D.s.round : Int)).h)).f) ((ownV (⟨D.f, D.c, D.epoch, D.replica, ⟨D.s.round, D.s.step, D.s.round, D.s.vr, (getP D.P (D.s.round : Int)).h, D.s.valid, (D.s.decided), D.s.decision⟩, D.L, D.P, true, (D.sp), (D.sc)⟩ : CoreD) 2 3 ((getP D.P (D.s.round : Int)).h)).c) ((ownV (⟨D.f, D.c, D.epoch, D.replica, ⟨D.s.round, D.s.step, D.s.round, D.s.vr, (getP D.P (D.s.round : Int)).h, D.s.valid, (D.s.decided), D.s.decision⟩, D.L, D.P, true, (D.sp), (D.sc)⟩ : CoreD) 2 3 ((getP D.P (D.s.round : Int)).h)).epoch) ((ownV (⟨D.f, D.c, D.epoch, D.replica, ⟨D.s.round, D.s.step, D.s.round, D.s.vr, (getP D.P (D.s.round : Int)).h, D.s.valid, (D.s.decided), D.s.decision⟩, D.L, D.P, true, (D.sp), (D.sc)⟩ : CoreD) 2 3 ((getP D.P (D.s.round : Int)).h)).replica) ((ownV (⟨D.f, D.c, D.epoch, D.replica, ⟨D.s.round, D.s.step, D.s.round, D.s.vr, (getP D.P (D.s.round : Int)).h, D.s.valid, (D.s.decided), D.s.decision⟩, D.L, D.P, true, (D.sp), (D.sc)⟩ : CoreD) 2 3 ((getP D.P (D.s.round : Int)).h)).s.round) ((ownV (⟨D.f, D.c, D.epoch, D.replica, ⟨D.s.round, D.s.step, D.s.round, D.s.vr, (getP D.P (D.s.round : Int)).h, D.s.valid, (D.s.decided), D.s.decision⟩, D.L, D.P, true, (D.sp), (D.sc)⟩ : CoreD) 2 3 ((getP D.P (D.s.round : Int)).h)).s.step) ((ownV (⟨D.f, D.c, D.epoch, D.replica, ⟨D.s.round, D.s.step, D.s.round, D.s.vr, (getP D.P (D.s.round : Int)).h, D.s.valid, (D.s.decided), D.s.decision⟩, D.L, D.P, true, (D.sp), (D.sc)⟩ : CoreD) 2 3 ((getP D.P (D.s.round : Int)).h)).s.lr) D.s.round ((ownV (⟨D.f, D.c, D.epoch, D.replica, ⟨D.s.round, D.s.step, D.s.round, D.s.vr, (getP D.P (D.s.round : Int)).h, D.s.valid, (D.s.decided), D.s.decision⟩, D.L, D.P, true, (D.sp), (D.sc)⟩ : CoreD) 2 3 ((getP D.P (D.s.round : Int)).h)).s.locked) ((getP D.P (D.s.round : Int)).h) ((ownV (⟨D.f, D.c, D.epoch, D.replica, ⟨D.s.round, D.s.step, D.s.round, D.s.vr, (getP D.P (D.s.round : Int)).h, D.s.valid, (D.s.decided), D.s.decision⟩, D.L, D.P, true, (D.sp), (D.sc)⟩ : CoreD) 2 3 ((getP D.P (D.s.round : Int)).h)).s.decided) ((ownV (⟨D.f, D.c, D.epoch, D.replica, ⟨D.s.round, D.s.step, D.s.round, D.s.vr, (getP D.P (D.s.round : Int)).h, D.s.valid, (D.s.decided), D.s.decision⟩, D.L, D.P, true, (D.sp), (D.sc)⟩ : CoreD) 2 3 ((getP D.P (D.s.round : Int)).h)).s.decision) t pb ((ownV (⟨D.f, D.c, D.epoch, D.replica, ⟨D.s.round, D.s.step, D.s.round, D.s.vr, (getP D.P (D.s.round : Int)).h, D.s.valid, (D.s.decided), D.s.decision⟩, D.L, D.P, true, (D.sp), (D.sc)⟩ : CoreD) 2 3 ((getP D.P (D.s.round : Int)).h)).wv) ((ownV (⟨D.f, D.c, D.epoch, D.replica, ⟨D.s.round, D.s.step, D.s.round, D.s.vr, (getP D.P (D.s.round : Int)).h, D.s.valid, (D.s.decided), D.s.decision⟩, D.L, D.P, true, (D.sp), (D.sc)⟩ : CoreD) 2 3 ((getP D.P (D.s.round : Int)).h)).sp) ((ownV (⟨D.f, D.c, D.epoch, D.replica, ⟨D.s.round, D.s.step, D.s.round, D.s.vr, (getP D.P (D.s.round : Int)).h, D.s.valid, (D.s.decided), D.s.decision⟩, D.L, D.P, true, (D.sp), (D.sc)⟩ : CoreD) 2 3 ((getP D.P (D.s.round : Int)).h)).sc)), talC t hb cb ab lb (ownV (⟨D.f, D.c, D.epoch, D.replica, ⟨D.s.round, D.s.step, D.s.round, D.s.vr, (getP D.P (D.s.round : Int)).h, D.s.valid, (D.s.decided), D.s.decision⟩, D.L, D.P, true, (D.sp), (D.sc)⟩ : CoreD) 2 3 ((getP D.P (D.s.round : Int)).h)).f (ownV (⟨D.f, D.c, D.epoch, D.replica, ⟨D.s.round, D.s.step, D.s.round, D.s.vr, (getP D.P (D.s.round : Int)).h, D.s.valid, (D.s.decided), D.s.decision⟩, D.L, D.P, true, (D.sp), (D.sc)⟩ : CoreD) 2 3 ((getP D.P (D.s.round : Int)).h)).c (ownV (⟨D.f, D.c, D.epoch, D.replica, ⟨D.s.round, D.s.step, D.s.round, D.s.vr, (getP D.P (D.s.round : Int)).h, D.s.valid, (D.s.decided), D.s.decision⟩, D.L, D.P, true, (D.sp), (D.sc)⟩ : CoreD) 2 3 ((getP D.P (D.s.round : Int)).h)).L, mapC pb (Value.int .i64) propV (ownV (⟨D.f, D.c, D.epoch, D.replica, ⟨D.s.round, D.s.step, D.s.round, D.s.vr, (getP D.P (D.s.round : Int)).h, D.s.valid, (D.s.decided), D.s.decision⟩, D.L, D.P, true, (D.sp), (D.sc)⟩ : CoreD) 2 3 ((getP D.P (D.s.round : Int)).h)).P, restC w (coreC k t hb cb ab lb pb D).fp, cellC b36 96 (([(.int .i64 ((getP D.P (D.s.round : Int)).valid))] : List Value) ++ hc (getP D.P (D.s.round : Int)).h ++ ([(.bool ((getP D.P (D.s.round : Int)).ok))] : List Value)), cellC b59 36 (hc (chooseD D (getP D.P (D.s.round : Int))).1), rowC 45 35 (.slice a119 ((ownA (⟨D.f, D.c, D.epoch, D.replica, ⟨D.s.round, D.s.step, D.s.round, D.s.vr, (getP D.P (D.s.round : Int)).h, D.s.valid, (D.s.decided), D.s.decision⟩, D.L, D.P, true, (D.sp), (D.sc)⟩ : CoreD) 3 ((getP D.P (D.s.round : Int)).h)).length) c120) ((ownA (⟨D.f, D.c, D.epoch, D.replica, ⟨D.s.round, D.s.step, D.s.round, D.s.vr, (getP D.P (D.s.round : Int)).h, D.s.valid, (D.s.decided), D.s.decision⟩, D.L, D.P, true, (D.sp), (D.sc)⟩ : CoreD) 3 ((getP D.P (D.s.round : Int)).h)).length) ((ownA (⟨D.f, D.c, D.epoch, D.replica, ⟨D.s.round, D.s.step, D.s.round, D.s.vr, (getP D.P (D.s.round : Int)).h, D.s.valid, (D.s.decided), D.s.decision⟩, D.L, D.P, true, (D.sp), (D.sc)⟩ : CoreD) 3 ((getP D.P (D.s.round : Int)).h)).flatMap encA)] w126)
         refine hK125 _ _ ?_
         clear hK125 K125
         refine w_nil ?_
         refine then_normal ?_
         refine w_seq ?_
         refine w_lit ?_
         refine wv 170 (.slice a119 ((ownA (⟨D.f, D.c, D.epoch, D.replica, ⟨D.s.round, D.s.step, D.s.round, D.s.vr, (getP D.P (D.s.round : Int)).h, D.s.valid, (D.s.decided), D.s.decision⟩, D.L, D.P, true, (D.sp), (D.sc)⟩ : CoreD) 3 ((getP D.P (D.s.round : Int)).h)).length) c120) ?_
         refine wv 2 (.slice a119 ((ownA (⟨D.f, D.c, D.epoch, D.replica, ⟨D.s.round, D.s.step, D.s.round, D.s.vr, (getP D.P (D.s.round : Int)).h, D.s.valid, (D.s.decided), D.s.decision⟩, D.L, D.P, true, (D.sp), (D.sc)⟩ : CoreD) 3 ((getP D.P (D.s.round : Int)).h)).length) c120) ?_
         refine wv 3 (.bool true) ?_
         refine w_nil ?_
         refine then_normal ?_
         refine w_ret ?_
         refine then_ret ?_
         refine end2 rfl (res_tmp (v := (.slice a119 ((ownA (⟨D.f, D.c, D.epoch, D.replica, ⟨D.s.round, D.s.step, D.s.round, D.s.vr, (getP D.P (D.s.round : Int)).h, D.s.valid, (D.s.decided), D.s.decision⟩, D.L, D.P, true, (D.sp), (D.sc)⟩ : CoreD) 3 ((getP D.P (D.s.round : Int)).h)).length) c120)) rfl) (res_tmp (v := (.bool true)) rfl) ?_
         exact .inl ⟨_, validD (ownV (lockD (wvD D) (getP D.P D.s.round).h) 2 3 (getP D.P D.s.round).h) (getP D.P D.s.round).h, ownA D 3 (getP D.P D.s.round).h, rfl, by rw [ruleD_b, if_neg (of_decide_eq_false b5), if_neg (of_decide_eq_false b22), if_neg (by rw [b53, b66]; simp), if_pos b99, if_pos (of_decide_eq_true b104)], (H127.pick [0, 1, 2, 6, 3] (by decide)).cast (by kernel_rfl)⟩
        ·have g129 := of_decide_eq_false b104
         refine wp_know 143 (.bool false) (congrArg Value.bool b104) ?_
         refine wp_iff rfl ?_
         refine w_skip ?_
         refine then_normal ?_
         refine w_seq ?_
         refine w_lit ?_
         refine wv 159 (pt k 0) ?_
         refine wv 160 (pt k 0) ?_
         refine wv 161 (pt b36 1) ?_
         refine wv 162 (.agg ⟨(hc (getP D.P (D.s.round : Int)).h)⟩) ?_ (hr := e_loadN (vs := (hc (getP D.P (D.s.round : Int)).h)) rfl (by kernel_rfl) (by kernel_rfl) (by exact Nat.le_of_ble_eq_true (by kernel_rfl)) (H102.at 4 rfl) (by kernel_rfl))
         refine wv 163 (.int .i64 (D.s.round)) ?_
         refine wv 164 (pt k 0) ?_
         refine wv 165 (pt k 4) ?_
         refine wv 166 (pt k 40) ?_
         refine wl_do (wants0 rfl) (fun K130 hK130 => ?_)
         refine d_storeX (vs := (hc (getP D.P (D.s.round : Int)).h)) (cs' := (coreW D.f D.c D.epoch D.replica D.s.round D.s.step D.s.lr D.s.vr D.s.locked ((getP D.P (D.s.round : Int)).h) D.s.decided D.s.decision t pb true D.sp D.sc)) rfl H102 0 rfl rfl rfl rfl (by kernel_rfl) (Nat.le_of_ble_eq_true (by kernel_rfl)) (Nat.le_of_ble_eq_true (by kernel_rfl)) (by kernel_rfl) (by kernel_rfl) ?_
         intro w131 (H132 : Sat w [cellC k 92 (coreW D.f D.c D.epoch D.replica D.s.round D.s.step D.s.lr D.s.vr D.s.locked ((getP D.P (D.s.round : Int)).h) D.s.decided D.s.decision t pb true D.sp D.sc), talC t hb cb ab lb D.f D.c D.L, mapC pb (Value.int .i64) propV D.P, restC w (coreC k t hb cb ab lb pb D).fp, cellC b36 96 (([(.int .i64 ((getP D.P (D.s.round : Int)).valid))] : List Value) ++ hc (getP D.P (D.s.round : Int)).h ++ ([(.bool ((getP D.P (D.s.round : Int)).ok))] : List Value)), cellC b59 36 (hc (chooseD D (getP D.P (D.s.round : Int))).1)] w131)
         refine hK130 _ _ ?_
         clear hK130 K130
         refine wv 167 (pt k 0) ?_
         refine wv 168 (pt k 4) ?_
         refine wv 169 (pt k 7) ?_
         refine wl_do (wants0 rfl) (fun K134 hK134 => ?_)
         refine d_storeX (vs := ([(.int .i64 (D.s.round))] : List Value)) (cs' := (coreW D.f D.c D.epoch D.replica D.s.round D.s.step D.s.lr D.s.round D.s.locked ((getP D.P (D.s.round : Int)).h) D.s.decided D.s.decision t pb true D.sp D.sc)) rfl H132 0 rfl rfl rfl rfl (by kernel_rfl) (Nat.le_of_ble_eq_true (by kernel_rfl)) (Nat.le_of_ble_eq_true (by kernel_rfl)) (by kernel_rfl) (by kernel_rfl) ?_
         intro w135 (H136 : Sat w [cellC k 92 (coreW D.f D.c D.epoch D.replica D.s.round D.s.step D.s.lr D.s.round D.s.locked ((getP D.P (D.s.round : Int)).h) D.s.decided D.s.decision t pb true D.sp D.sc), talC t hb cb ab lb D.f D.c D.L, mapC pb (Value.int .i64) propV D.P, restC w (coreC k t hb cb ab lb pb D).fp, cellC b36 96 (([(.int .i64 ((getP D.P (D.s.round : Int)).valid))] : List Value) ++ hc (getP D.P (D.s.round : Int)).h ++ ([(.bool ((getP D.P (D.s.round : Int)).ok))] : List Value)), cellC b59 36 (hc (chooseD D (getP D.P (D.s.round : Int))).1)] w135)
         refine hK134 _ _ ?_
         clear hK134 K134
         refine w_nil ?_
         refine then_normal ?_
         refine w_seq ?_
         refine w_lit ?_
         refine wv 170 (.slice none 0 0) ?_
         refine wv 2 (.slice none 0 0) ?_
         refine wv 3 (.bool true) ?_
         refine w_nil ?_
         refine then_normal ?_
         refine w_ret ?_
         refine then_ret ?_
         refine end2 rfl (res_tmp (v := (.slice none 0 0)) rfl) (res_tmp (v := (.bool true)) rfl) ?_
         have Hn := H136.addNil 45 35
         exact .inl ⟨_, validD (wvD D) (getP D.P D.s.round).h, [], rfl, by rw [ruleD_b, if_neg (of_decide_eq_false b5), if_neg (of_decide_eq_false b22), if_neg (by rw [b53, b66]; simp), if_pos b99, if_neg (of_decide_eq_false b104)], (Hn.pick [0, 1, 2, 6, 3] (by decide)).cast (by kernel_rfl)⟩
       ·refine wp_know 134 (.bool false) (congrArg Value.bool b99) ?_
        refine wp_iff rfl ?_
        refine w_skip ?_
        refine then_normal ?_
        refine w_seq ?_
        refine wp_meetR [171, 172, 173, 174, 175, 176, 177, 178, 179, 180, 181, 182, 183, 184, 185, 186, 187] (fun G_ W_ => G_ 187 = (.bool (c5 D)) ∧ Sat w [cellC k 92 (coreL t pb D), talC t hb cb ab lb D.f D.c D.L, mapC pb (Value.int .i64) propV D.P, restC w (coreC k t hb cb ab lb pb D).fp, cellC b36 96 (([(.int .i64 ((getP D.P (D.s.round : Int)).valid))] : List Value) ++ hc (getP D.P (D.s.round : Int)).h ++ ([(.bool ((getP D.P (D.s.round : Int)).ok))] : List Value)), cellC b59 36 (hc (chooseD D (getP D.P (D.s.round : Int))).1)] W_) ?_ ?_
        ·refine w_lit ?_
         refine wv 171 (pt k 0) ?_
         refine wv 172 (pt k 0) ?_
         refine wv 173 (pt k 4) ?_
         refine wv 174 (pt k 5) ?_
         refine wv 175 (.int .i64 (D.s.step)) ?_ (hr := e_load1 rfl (by kernel_rfl) (H97.cell 0 rfl (by kernel_rfl)))
         refine wv 176 (.bool (decide (D.s.step = 2))) ?_
         refine wv 177 (.bool (decide (D.s.step = 2))) ?_
         refine (bsplit (decide (D.s.step = 2))).elim (fun b139 => ?_) (fun b139 => ?_)
         ·have g140 := of_decide_eq_true b139
          refine wl_know 177 (.bool true) (congrArg Value.bool b139) ?_
          refine wy 6 177 true 178 (pt k 0) ?_
          refine wy 6 177 true 179 (pt k 0) ?_
          refine wy 6 177 true 180 (pt k 105) ?_
          refine wy 6 177 true 181 (pt t 0) ?_ (hr := e_load1 rfl (by kernel_rfl) (H97.cell 0 rfl (by kernel_rfl)))
          refine wy 6 177 true 182 (.int .i64 (D.s.round)) ?_
          refine wy 6 177 true 183 (.agg ⟨(hc hash0)⟩) ?_
          refine wl_do (wantsY 6 177 true rfl (by kernel_rfl) rfl (by kernel_rfl)) (fun K141 hK141 => ?_)
          refine d_call (d := 184) rfl (by kernel_rfl) (talFor_any w96 t hb cb ab lb D.f D.c D.L (H97.at 1 rfl) 1 D.s.round hash0) ?_
          rintro _ w142 ⟨rfl, u144⟩
          have H143 := H97.keepU u144
          refine ⟨_, rfl, ?_⟩
          refine hK141 _ _ ?_
          clear hK141 K141
          refine wy 6 177 true 185 (.int .i64 (2 * D.f + 1)) ?_
          refine wy 6 177 true 186 (.bool (decide ((forV D.L 1 D.s.round hash0) ≥ (2 * D.f + 1)))) ?_
          refine wv 187 (.bool (decide ((forV D.L 1 D.s.round hash0) ≥ (2 * D.f + 1)))) ?_
          refine w_nil ?_
          refine meetR_at ?_ ⟨(congrArg Value.bool (show (decide ((forV D.L 1 D.s.round hash0) ≥ (2 * D.f + 1))) = (c5 D) by simp [c5, b139])), H143⟩
          exact (same_upd rfl (same_upd rfl (same_upd rfl (same_upd rfl (same_upd rfl (same_upd rfl (same_upd rfl (same_upd rfl (same_upd rfl (same_upd rfl (same_upd rfl (same_upd rfl (same_upd rfl (same_upd rfl (same_upd rfl (same_upd rfl (same_upd rfl (same_upd rfl (same_refl)))))))))))))))))))
         ·have g145 := of_decide_eq_false b139
          refine wl_know 177 (.bool false) (congrArg Value.bool b139) ?_
          iterate 9 refine wn 6 177 true ?_
          refine wv 187 (.bool false) ?_
          refine w_nil ?_
          refine meetR_at ?_ ⟨(congrArg Value.bool (show false = (c5 D) by simp [c5, b139])), H97⟩
          exact (same_upd rfl (same_upd rfl (same_upd rfl (same_upd rfl (same_upd rfl (same_upd rfl (same_upd rfl (same_upd rfl (same_upd rfl (same_upd rfl (same_upd rfl (same_upd rfl (same_upd rfl (same_upd rfl (same_upd rfl (same_upd rfl (same_upd rfl (same_upd rfl (same_refl)))))))))))))))))))
        ·rintro f146 w147 ⟨v149, H148⟩
         refine wp_know 187 _ v149 ?_
         refine (bsplit (c5 D)).elim (fun b150 => ?_) (fun b150 => ?_)
         ·refine wp_know 187 (.bool true) (congrArg Value.bool b150) ?_
          refine wp_ift rfl ?_
          refine w_seq ?_
          refine w_lit ?_
          refine wv 188 (pt k 0) ?_
          refine wv 189 (.agg ⟨(hc hash0)⟩) ?_
          refine wl_do (wants0 rfl) (fun K151 hK151 => ?_)
          refine d_call (d := 190) rfl (by kernel_rfl) (corePrecommit_any w147 k t hb cb ab lb pb D (ok_of (by kernel_rfl) (H148.fin [0, 1, 2] (by decide) rfl)) h hash0 ) ?_
          rintro _ w153 ⟨v152, rfl, S154⟩
          have H155 : Sat w [cellC k 92 (coreL t pb (ownV D 2 3 hash0)), talC t hb cb ab lb (ownV D 2 3 hash0).f (ownV D 2 3 hash0).c (ownV D 2 3 hash0).L, mapC pb (Value.int .i64) propV (ownV D 2 3 hash0).P, restC w (coreC k t hb cb ab lb pb D).fp, cellC b36 96 (([(.int .i64 ((getP D.P (D.s.round : Int)).valid))] : List Value) ++ hc (getP D.P (D.s.round : Int)).h ++ ([(.bool ((getP D.P (D.s.round : Int)).ok))] : List Value)), cellC b59 36 (hc (chooseD D (getP D.P (D.s.round : Int))).1), rowC 45 35 v152 ((ownA D 3 hash0).length) ((ownA D 3 hash0).flatMap encA)] w153 := (Sat.turnL (L' := [cellC k 92 (coreL t pb (ownV D 2 3 hash0)), talC t hb cb ab lb (ownV D 2 3 hash0).f (ownV D 2 3 hash0).c (ownV D 2 3 hash0).L, mapC pb (Value.int .i64) propV (ownV D 2 3 hash0).P, rowC 45 35 v152 ((ownA D 3 hash0).length) ((ownA D 3 hash0).flatMap encA)]) (R := [restC w (coreC k t hb cb ab lb pb D).fp, cellC b36 96 (([(.int .i64 ((getP D.P (D.s.round : Int)).valid))] : List Value) ++ hc (getP D.P (D.s.round : Int)).h ++ ([(.bool ((getP D.P (D.s.round : Int)).ok))] : List Value)), cellC b59 36 (hc (chooseD D (getP D.P (D.s.round : Int))).1)]) H148 [0, 1, 2] [3, 4, 5] (by decide) (by kernel_rfl) rfl S154).pick [0, 1, 2, 4, 5, 6, 3] (by decide)
          obtain ⟨a156, c157, rfl⟩ := ownsRow_shape (H155.at 6 rfl)
          refine ⟨_, rfl, ?_⟩
          refine hK151 _ _ ?_
          clear hK151 K151
          refine wv 2 (.slice a156 ((ownA D 3 hash0).length) c157) ?_
          refine wv 3 (.bool true) ?_
          refine w_nil ?_
          refine then_normal ?_
          refine w_ret ?_
          refine then_ret ?_
          refine end2 rfl (res_tmp (v := (.slice a156 ((ownA D 3 hash0).length) c157)) rfl) (res_tmp (v := (.bool true)) rfl) ?_
          exact .inl ⟨_, ownV D 2 3 hash0, ownA D 3 hash0, rfl, by rw [ruleD_b, if_neg (of_decide_eq_false b5), if_neg (of_decide_eq_false b22), if_neg (by rw [b53, b66]; simp), if_neg (by rw [b99]; simp), if_pos b150], (H155.pick [0, 1, 2, 6, 3] (by decide)).cast (by kernel_rfl)⟩
         ·refine wp_know 187 (.bool false) (congrArg Value.bool b150) ?_
          refine wp_iff rfl ?_
          refine w_skip ?_
          refine then_normal ?_
          refine w_seq ?_
          refine wp_meetR [191, 192, 193, 194, 195, 196, 197, 198, 199, 200, 201, 202, 203, 204, 205, 206, 207, 208, 209, 210, 211, 212, 213] (fun G_ W_ => G_ 213 = (.bool (c6 D)) ∧ Sat w [cellC k 92 (coreL t pb D), talC t hb cb ab lb D.f D.c D.L, mapC pb (Value.int .i64) propV D.P, restC w (coreC k t hb cb ab lb pb D).fp, cellC b36 96 (([(.int .i64 ((getP D.P (D.s.round : Int)).valid))] : List Value) ++ hc (getP D.P (D.s.round : Int)).h ++ ([(.bool ((getP D.P (D.s.round : Int)).ok))] : List Value)), cellC b59 36 (hc (chooseD D (getP D.P (D.s.round : Int))).1)] W_) ?_ ?_
          ·refine w_lit ?_
           refine wv 191 (pt k 0) ?_
           refine wv 192 (pt k 0) ?_
           refine wv 193 (pt k 4) ?_
           refine wv 194 (pt k 5) ?_
           refine wv 195 (.int .i64 (D.s.step)) ?_ (hr := e_load1 rfl (by kernel_rfl) (H148.cell 0 rfl (by kernel_rfl)))
           refine wv 196 (.bool (decide (D.s.step = 2))) ?_
           refine wv 197 (.bool (decide (D.s.step = 2))) ?_
           refine (bsplit (decide (D.s.step = 2))).elim (fun b159 => ?_) (fun b159 => ?_)
           ·have g160 := of_decide_eq_true b159
            refine wl_know 197 (.bool true) (congrArg Value.bool b159) ?_
            refine wy 6 197 true 198 (pt k 0) ?_
            refine wy 6 197 true 199 (pt k 0) ?_
            refine wy 6 197 true 200 (pt k 108) ?_
            refine wy 6 197 true 201 (.bool (D.sp)) ?_ (hr := e_load1 rfl (by kernel_rfl) (H148.cell 0 rfl (by kernel_rfl)))
            refine wy 6 197 true 202 (.bool (!(D.sp))) ?_
            refine wv 203 (.bool (!(D.sp))) ?_
            refine wv 204 (.bool (!(D.sp))) ?_
            refine (bsplit (!(D.sp))).elim (fun b161 => ?_) (fun b161 => ?_)
            ·have g162 := bnot_true b161
             refine wl_know 204 (.bool true) (congrArg Value.bool b161) ?_
             refine wy 13 204 true 205 (pt k 0) ?_
             refine wy 13 204 true 206 (pt k 0) ?_
             refine wy 13 204 true 207 (pt k 105) ?_
             refine wy 13 204 true 208 (pt t 0) ?_ (hr := e_load1 rfl (by kernel_rfl) (H148.cell 0 rfl (by kernel_rfl)))
             refine wy 13 204 true 209 (.int .i64 (D.s.round)) ?_
             refine wl_do (wantsY 13 204 true rfl (by kernel_rfl) rfl (by kernel_rfl)) (fun K163 hK163 => ?_)
             refine d_call (d := 210) rfl (by kernel_rfl) (talAll_any w147 t hb cb ab lb D.f D.c D.L (H148.at 1 rfl) 1 D.s.round) ?_
             rintro _ w164 ⟨rfl, u166⟩
             have H165 := H148.keepU u166
             refine ⟨_, rfl, ?_⟩
             refine hK163 _ _ ?_
             clear hK163 K163
             refine wy 13 204 true 211 (.int .i64 (2 * D.f + 1)) ?_
             refine wy 13 204 true 212 (.bool (decide ((allV D.L 1 D.s.round) ≥ (2 * D.f + 1)))) ?_
             refine wv 213 (.bool (decide ((allV D.L 1 D.s.round) ≥ (2 * D.f + 1)))) ?_
             refine w_nil ?_
             refine meetR_at ?_ ⟨(congrArg Value.bool (show (decide ((allV D.L 1 D.s.round) ≥ (2 * D.f + 1))) = (c6 D) by simp [c6, b159, b161])), H165⟩
             exact (same_upd rfl (same_upd rfl (same_upd rfl (same_upd rfl (same_upd rfl (same_upd rfl (same_upd rfl (same_upd rfl (same_upd rfl (same_upd rfl (same_upd rfl (same_upd rfl (same_upd rfl (same_upd rfl (same_upd rfl (same_upd rfl (same_upd rfl (same_upd rfl (same_upd rfl (same_upd rfl (same_upd rfl (same_upd rfl (same_upd rfl (same_upd rfl (same_upd rfl (same_refl))))))))))))))))))))))))))
            ·have g167 := bnot_false b161
             refine wl_know 204 (.bool false) (congrArg Value.bool b161) ?_
             iterate 8 refine wn 13 204 true ?_
             refine wv 213 (.bool false) ?_
             refine w_nil ?_
             refine meetR_at ?_ ⟨(congrArg Value.bool (show false = (c6 D) by simp [c6, b159, b161])), H148⟩
             exact (same_upd rfl (same_upd rfl (same_upd rfl (same_upd rfl (same_upd rfl (same_upd rfl (same_upd rfl (same_upd rfl (same_upd rfl (same_upd rfl (same_upd rfl (same_upd rfl (same_upd rfl (same_upd rfl (same_upd rfl (same_upd rfl (same_upd rfl (same_upd rfl (same_upd rfl (same_upd rfl (same_upd rfl (same_upd rfl (same_upd rfl (same_upd rfl (same_upd rfl (same_refl))))))))))))))))))))))))))
           ·have g168 := of_decide_eq_false b159
            refine wl_know 197 (.bool false) (congrArg Value.bool b159) ?_
            iterate 5 refine wn 6 197 true ?_
            refine wv 203 (.bool false) ?_
            refine wv 204 (.bool false) ?_
            iterate 8 refine wn 13 204 true ?_
            refine wv 213 (.bool false) ?_
            refine w_nil ?_
            refine meetR_at ?_ ⟨(congrArg Value.bool (show false = (c6 D) by simp [c6, b159])), H148⟩
            exact (same_upd rfl (same_upd rfl (same_upd rfl (same_upd rfl (same_upd rfl (same_upd rfl (same_upd rfl (same_upd rfl (same_upd rfl (same_upd rfl (same_upd rfl (same_upd rfl (same_upd rfl (same_upd rfl (same_upd rfl (same_upd rfl (same_upd rfl (same_upd rfl (same_upd rfl (same_upd rfl (same_upd rfl (same_upd rfl (same_upd rfl (same_upd rfl (same_refl)))))))))))))))))))))))))
          ·rintro f169 w170 ⟨v172, H171⟩
           refine wp_know 213 _ v172 ?_
           refine (bsplit (c6 D)).elim (fun b173 => ?_) (fun b173 => ?_)
           ·refine wp_know 213 (.bool true) (congrArg Value.bool b173) ?_
            refine wp_ift rfl ?_
            refine w_seq ?_
            refine w_lit ?_
            refine wv 214 (pt k 0) ?_
            refine wv 215 (pt k 0) ?_
            refine wv 216 (pt k 108) ?_
            refine wl_do (wants0 rfl) (fun K174 hK174 => ?_)
            refine d_storeX (vs := ([(.bool true)] : List Value)) (cs' := (coreW D.f D.c D.epoch D.replica D.s.round D.s.step D.s.lr D.s.vr D.s.locked D.s.valid D.s.decided D.s.decision t pb D.wv true D.sc)) rfl H171 0 rfl rfl rfl rfl (by kernel_rfl) (Nat.le_of_ble_eq_true (by kernel_rfl)) (Nat.le_of_ble_eq_true (by kernel_rfl)) (by kernel_rfl) (by kernel_rfl) ?_
            intro w175 (H176 : Sat w [cellC k 92 (coreW D.f D.c D.epoch D.replica D.s.round D.s.step D.s.lr D.s.vr D.s.locked D.s.valid D.s.decided D.s.decision t pb D.wv true D.sc), talC t hb cb ab lb D.f D.c D.L, mapC pb (Value.int .i64) propV D.P, restC w (coreC k t hb cb ab lb pb D).fp, cellC b36 96 (([(.int .i64 ((getP D.P (D.s.round : Int)).valid))] : List Value) ++ hc (getP D.P (D.s.round : Int)).h ++ ([(.bool ((getP D.P (D.s.round : Int)).ok))] : List Value)), cellC b59 36 (hc (chooseD D (getP D.P (D.s.round : Int))).1)] w175)
            refine hK174 _ _ ?_
            clear hK174 K174
            refine w_nil ?_
            refine then_normal ?_
            refine w_seq ?_
            refine w_lit ?_
            refine wv 217 (pt k 0) ?_
            refine wl_do (wants0 rfl) (fun K178 hK178 => ?_)
            refine d_call (d := 218) rfl (by kernel_rfl) (coreTimer_any w175 k _ _ D.s.round (H176.at 0 rfl) 2) ?_
            rintro _ w179 ⟨rfl, u181⟩
            have H180 := H176.keepU u181
            refine ⟨_, rfl, ?_⟩
            refine hK178 _ _ ?_
            clear hK178 K178
            refine wl_do (wants0 rfl) (fun K182 hK182 => ?_)
            refine d_buildSlice (e := 45) (size := 35) (bytes := 56) (z := (.agg ⟨(([(.int .i64 (0)), (.int .i64 (0)), (.int .i64 (0))] : List Value) ++ hc hash0)⟩)) (pvs := [(0, (.agg ⟨(([(.int .i64 (4)), (.int .i64 (D.s.round)), (.int .i64 (2))] : List Value) ++ hc hash0)⟩))]) (vs := (([(.int .i64 (4)), (.int .i64 (D.s.round)), (.int .i64 (2))] : List Value) ++ hc hash0)) rfl H180 (by kernel_rfl) (by kernel_rfl) (by kernel_rfl) (by kernel_rfl) (by kernel_rfl) rfl rfl ?_
            intro b183 w184 (H185 : Sat w [cellC k 92 (coreW D.f D.c D.epoch D.replica D.s.round D.s.step D.s.lr D.s.vr D.s.locked D.s.valid D.s.decided D.s.decision t pb D.wv true D.sc), talC t hb cb ab lb D.f D.c D.L, mapC pb (Value.int .i64) propV D.P, restC w (coreC k t hb cb ab lb pb D).fp, cellC b36 96 (([(.int .i64 ((getP D.P (D.s.round : Int)).valid))] : List Value) ++ hc (getP D.P (D.s.round : Int)).h ++ ([(.bool ((getP D.P (D.s.round : Int)).ok))] : List Value)), cellC b59 36 (hc (chooseD D (getP D.P (D.s.round : Int))).1), rowC 45 35 (.slice (some ⟨b183, 0, none⟩) 1 1) 1 (([(.int .i64 (4)), (.int .i64 (D.s.round)), (.int .i64 (2))] : List Value) ++ hc hash0)] w184)
            refine hK182 _ _ ?_
            clear hK182 K182
            refine wv 2 (.slice (some ⟨b183, 0, none⟩) 1 1) ?_
            refine wv 3 (.bool true) ?_
            refine w_nil ?_
            refine then_normal ?_
            refine w_ret ?_
            refine then_ret ?_
            refine end2 rfl (res_tmp (v := (.slice (some ⟨b183, 0, none⟩) 1 1)) rfl) (res_tmp (v := (.bool true)) rfl) ?_
            exact .inl ⟨_, { D with sp := true }, [⟨4, D.s.round, 2, hash0⟩], rfl, by rw [ruleD_b, if_neg (of_decide_eq_false b5), if_neg (of_decide_eq_false b22), if_neg (by rw [b53, b66]; simp), if_neg (by rw [b99]; simp), if_neg (by rw [b150]; simp), if_pos b173], (H185.pick [0, 1, 2, 6, 3] (by decide)).cast (by kernel_rfl)⟩
           ·refine wp_know 213 (.bool false) (congrArg Value.bool b173) ?_
            refine wp_iff rfl ?_
            refine w_skip ?_
            refine then_normal ?_
            refine w_seq ?_
            refine wp_meetR [220, 221, 222, 223, 224, 225, 226, 227, 228, 229, 230, 231, 232, 233, 234] (fun G_ W_ => G_ 234 = (.bool (c7 D)) ∧ Sat w [cellC k 92 (coreL t pb D), talC t hb cb ab lb D.f D.c D.L, mapC pb (Value.int .i64) propV D.P, restC w (coreC k t hb cb ab lb pb D).fp, cellC b36 96 (([(.int .i64 ((getP D.P (D.s.round : Int)).valid))] : List Value) ++ hc (getP D.P (D.s.round : Int)).h ++ ([(.bool ((getP D.P (D.s.round : Int)).ok))] : List Value)), cellC b59 36 (hc (chooseD D (getP D.P (D.s.round : Int))).1)] W_) ?_ ?_
            ·refine w_lit ?_
             refine wv 220 (pt k 0) ?_
             refine wv 221 (pt k 0) ?_
             refine wv 222 (pt k 109) ?_
             refine wv 223 (.bool (D.sc)) ?_ (hr := e_load1 rfl (by kernel_rfl) (H171.cell 0 rfl (by kernel_rfl)))
             refine wv 224 (.bool (!(D.sc))) ?_
             refine wv 225 (.bool (!(D.sc))) ?_
             refine (bsplit (!(D.sc))).elim (fun b187 => ?_) (fun b187 => ?_)
             ·have g188 := bnot_true b187
              refine wl_know 225 (.bool true) (congrArg Value.bool b187) ?_
              refine wy 5 225 true 226 (pt k 0) ?_
              refine wy 5 225 true 227 (pt k 0) ?_
              refine wy 5 225 true 228 (pt k 105) ?_
              refine wy 5 225 true 229 (pt t 0) ?_ (hr := e_load1 rfl (by kernel_rfl) (H171.cell 0 rfl (by kernel_rfl)))
              refine wy 5 225 true 230 (.int .i64 (D.s.round)) ?_
              refine wl_do (wantsY 5 225 true rfl (by kernel_rfl) rfl (by kernel_rfl)) (fun K189 hK189 => ?_)
              refine d_call (d := 231) rfl (by kernel_rfl) (talAll_any w170 t hb cb ab lb D.f D.c D.L (H171.at 1 rfl) 2 D.s.round) ?_
              rintro _ w190 ⟨rfl, u192⟩
              have H191 := H171.keepU u192
              refine ⟨_, rfl, ?_⟩
              refine hK189 _ _ ?_
              clear hK189 K189
              refine wy 5 225 true 232 (.int .i64 (2 * D.f + 1)) ?_
              refine wy 5 225 true 233 (.bool (decide ((allV D.L 2 D.s.round) ≥ (2 * D.f + 1)))) ?_
              refine wv 234 (.bool (decide ((allV D.L 2 D.s.round) ≥ (2 * D.f + 1)))) ?_
              refine w_nil ?_
              refine meetR_at ?_ ⟨(congrArg Value.bool (show (decide ((allV D.L 2 D.s.round) ≥ (2 * D.f + 1))) = (c7 D) by simp [c7, b187])), H191⟩
              exact (same_upd rfl (same_upd rfl (same_upd rfl (same_upd rfl (same_upd rfl (same_upd rfl (same_upd rfl (same_upd rfl (same_upd rfl (same_upd rfl (same_upd rfl (same_upd rfl (same_upd rfl (same_upd rfl (same_upd rfl (same_upd rfl (same_refl)))))))))))))))))
             ·have g193 := bnot_false b187
              refine wl_know 225 (.bool false) (congrArg Value.bool b187) ?_
              iterate 8 refine wn 5 225 true ?_
              refine wv 234 (.bool false) ?_
              refine w_nil ?_
              refine meetR_at ?_ ⟨(congrArg Value.bool (show false = (c7 D) by simp [c7, b187])), H171⟩
              exact (same_upd rfl (same_upd rfl (same_upd rfl (same_upd rfl (same_upd rfl (same_upd rfl (same_upd rfl (same_upd rfl (same_upd rfl (same_upd rfl (same_upd rfl (same_upd rfl (same_upd rfl (same_upd rfl (same_upd rfl (same_upd rfl (same_refl)))))))))))))))))
            ·rintro f194 w195 ⟨v197, H196⟩
             refine wp_know 234 _ v197 ?_
             refine (bsplit (c7 D)).elim (fun b198 => ?_) (fun b198 => ?_)
             ·refine wp_know 234 (.bool true) (congrArg Value.bool b198) ?_
              refine wp_ift rfl ?_
              refine w_seq ?_
              refine w_lit ?_
              refine wv 235 (pt k 0) ?_
              refine wv 236 (pt k 0) ?_
              refine wv 237 (pt k 109) ?_
              refine wl_do (wants0 rfl) (fun K199 hK199 => ?_)
              refine d_storeX (vs := ([(.bool true)] : List Value)) (cs' := (coreW D.f D.c D.epoch D.replica D.s.round D.s.step D.s.lr D.s.vr D.s.locked D.s.valid D.s.decided D.s.decision t pb D.wv D.sp true)) rfl H196 0 rfl rfl rfl rfl (by kernel_rfl) (Nat.le_of_ble_eq_true (by kernel_rfl)) (Nat.le_of_ble_eq_true (by kernel_rfl)) (by kernel_rfl) (by kernel_rfl) ?_
              intro w200 (H201 : Sat w [cellC k 92 (coreW D.f D.c D.epoch D.replica D.s.round D.s.step D.s.lr D.s.vr D.s.locked D.s.valid D.s.decided D.s.decision t pb D.wv D.sp true), talC t hb cb ab lb D.f D.c D.L, mapC pb (Value.int .i64) propV D.P, restC w (coreC k t hb cb ab lb pb D).fp, cellC b36 96 (([(.int .i64 ((getP D.P (D.s.round : Int)).valid))] : List Value) ++ hc (getP D.P (D.s.round : Int)).h ++ ([(.bool ((getP D.P (D.s.round : Int)).ok))] : List Value)), cellC b59 36 (hc (chooseD D (getP D.P (D.s.round : Int))).1)] w200)
              refine hK199 _ _ ?_
              clear hK199 K199
              refine w_nil ?_
              refine then_normal ?_
              refine w_seq ?_
              refine w_lit ?_
              refine wv 238 (pt k 0) ?_
              refine wl_do (wants0 rfl) (fun K203 hK203 => ?_)
              refine d_call (d := 239) rfl (by kernel_rfl) (coreTimer_any w200 k _ _ D.s.round (H201.at 0 rfl) 3) ?_
              rintro _ w204 ⟨rfl, u206⟩
              have H205 := H201.keepU u206
              refine ⟨_, rfl, ?_⟩
              refine hK203 _ _ ?_
              clear hK203 K203
              refine wl_do (wants0 rfl) (fun K207 hK207 => ?_)
              refine d_buildSlice (e := 45) (size := 35) (bytes := 56) (z := (.agg ⟨(([(.int .i64 (0)), (.int .i64 (0)), (.int .i64 (0))] : List Value) ++ hc hash0)⟩)) (pvs := [(0, (.agg ⟨(([(.int .i64 (4)), (.int .i64 (D.s.round)), (.int .i64 (3))] : List Value) ++ hc hash0)⟩))]) (vs := (([(.int .i64 (4)), (.int .i64 (D.s.round)), (.int .i64 (3))] : List Value) ++ hc hash0)) rfl H205 (by kernel_rfl) (by kernel_rfl) (by kernel_rfl) (by kernel_rfl) (by kernel_rfl) rfl rfl ?_
              intro b208 w209 (H210 : Sat w [cellC k 92 (coreW D.f D.c D.epoch D.replica D.s.round D.s.step D.s.lr D.s.vr D.s.locked D.s.valid D.s.decided D.s.decision t pb D.wv D.sp true), talC t hb cb ab lb D.f D.c D.L, mapC pb (Value.int .i64) propV D.P, restC w (coreC k t hb cb ab lb pb D).fp, cellC b36 96 (([(.int .i64 ((getP D.P (D.s.round : Int)).valid))] : List Value) ++ hc (getP D.P (D.s.round : Int)).h ++ ([(.bool ((getP D.P (D.s.round : Int)).ok))] : List Value)), cellC b59 36 (hc (chooseD D (getP D.P (D.s.round : Int))).1), rowC 45 35 (.slice (some ⟨b208, 0, none⟩) 1 1) 1 (([(.int .i64 (4)), (.int .i64 (D.s.round)), (.int .i64 (3))] : List Value) ++ hc hash0)] w209)
              refine hK207 _ _ ?_
              clear hK207 K207
              refine wv 2 (.slice (some ⟨b208, 0, none⟩) 1 1) ?_
              refine wv 3 (.bool true) ?_
              refine w_nil ?_
              refine then_normal ?_
              refine w_ret ?_
              refine then_ret ?_
              refine end2 rfl (res_tmp (v := (.slice (some ⟨b208, 0, none⟩) 1 1)) rfl) (res_tmp (v := (.bool true)) rfl) ?_
              exact .inl ⟨_, { D with sc := true }, [⟨4, D.s.round, 3, hash0⟩], rfl, by rw [ruleD_b, if_neg (of_decide_eq_false b5), if_neg (of_decide_eq_false b22), if_neg (by rw [b53, b66]; simp), if_neg (by rw [b99]; simp), if_neg (by rw [b150]; simp), if_neg (by rw [b173]; simp), if_pos b198], (H210.pick [0, 1, 2, 6, 3] (by decide)).cast (by kernel_rfl)⟩
             ·refine wp_know 234 (.bool false) (congrArg Value.bool b198) ?_
              refine wp_iff rfl ?_
              refine w_skip ?_
              refine then_normal ?_
              refine w_seq ?_
              refine w_lit ?_
              refine wv 2 (.slice none 0 0) ?_
              refine wv 3 (.bool false) ?_
              refine w_nil ?_
              refine then_normal ?_
              refine w_ret ?_
              refine end2 rfl (res_tmp (v := (.slice none 0 0)) rfl) (res_tmp (v := (.bool false)) rfl) ?_
              have Hn := H196.addNil 45 35
              exact .inr ⟨_, rfl, by rw [ruleD_b, if_neg (of_decide_eq_false b5), if_neg (of_decide_eq_false b22), if_neg (by rw [b53, b66]; simp), if_neg (by rw [b99]; simp), if_neg (by rw [b150]; simp), if_neg (by rw [b173]; simp), if_neg (by rw [b198]; simp)], (Hn.pick [0, 1, 2, 6, 3] (by decide)).cast (by kernel_rfl)⟩
    ·refine wp_know 82 (.bool false) (congrArg Value.bool b53) ?_
     refine wp_iff rfl ?_
     refine w_skip ?_
     refine then_normal ?_
     refine w_seq ?_
     refine q_start H51 (by kernel_rfl) (by kernel_rfl) ?_
     refine qv 93 (pt k 0) ?_
     refine qv 94 (pt k 0) ?_
     refine qv 95 (pt k 0) ?_
     refine qv 96 (.agg ⟨([(.int .i64 (D.f)), (.int .i64 (D.c))] : List Value)⟩) ?_ (hr := fun _ H' => (e_loadN (vs := ([(.int .i64 (D.f)), (.int .i64 (D.c))] : List Value)) rfl (by kernel_rfl) (by kernel_rfl) (by exact Nat.le_of_ble_eq_true (by kernel_rfl)) (H'.at 0 rfl) (by kernel_rfl)))
     refine q_call (wants0 rfl) (d := 97) (v := (.int .i64 (2 * D.f + 1))) rfl (fun _ _ => by kernel_rfl) (fun w' H' => (wireQuorum_any w' D.f D.c (by omega)).mono fun _ _ h => ⟨h.1, H'.keepU h.2⟩) ?_
     refine qv 98 (pt k 0) ?_
     refine qv 99 (pt k 0) ?_
     refine qv 100 (pt k 4) ?_
     refine qv 101 (pt k 4) ?_
     refine qv 102 (.int .i64 (D.s.round)) ?_ (hr := fun _ H' => (e_load1 rfl (by kernel_rfl) (H'.cell 0 rfl (by kernel_rfl))))
     refine qv 10 (.int .i64 (2 * D.f + 1)) ?_
     refine qv 11 (.int .i64 (D.s.round)) ?_
     refine q_end ?_
     intro w211 H212
     refine then_normal ?_
     refine w_seq ?_
     refine wp_meetR [103, 104, 105, 106, 107, 108, 109, 110, 111, 112, 113, 114, 115, 116, 117, 118, 119, 120, 121, 122, 123, 124, 125, 126, 127, 128, 129, 130, 131, 132, 133, 134] (fun G_ W_ => G_ 134 = (.bool (c4 D)) ∧ Sat w [cellC k 92 (coreL t pb D), talC t hb cb ab lb D.f D.c D.L, mapC pb (Value.int .i64) propV D.P, restC w (coreC k t hb cb ab lb pb D).fp, cellC b36 96 (([(.int .i64 ((getP D.P (D.s.round : Int)).valid))] : List Value) ++ hc (getP D.P (D.s.round : Int)).h ++ ([(.bool ((getP D.P (D.s.round : Int)).ok))] : List Value))] W_) ?_ ?_
     ·refine q_start H212 (by kernel_rfl) (by kernel_rfl) ?_
      refine qv 103 (pt k 0) ?_
      refine qv 104 (pt k 0) ?_
      refine qv 105 (pt k 4) ?_
      refine qv 106 (pt k 5) ?_
      refine qv 107 (.int .i64 (D.s.step)) ?_ (hr := fun _ H' => (e_load1 rfl (by kernel_rfl) (H'.cell 0 rfl (by kernel_rfl))))
      refine qv 108 (.bool (decide (D.s.step ≥ 2))) ?_
      refine qv 109 (.bool (decide (D.s.step ≥ 2))) ?_
      refine (bsplit (decide (D.s.step ≥ 2))).elim (fun b214 => ?_) (fun b214 => ?_)
      ·have g215 := of_decide_eq_true b214
       refine q_know 109 (.bool true) (congrArg Value.bool b214) ?_
       refine qy 6 109 true 110 (.bool (hasP D.P (D.s.round : Int))) ?_
       refine qv 111 (.bool (hasP D.P (D.s.round : Int))) ?_
       refine qv 112 (.bool (hasP D.P (D.s.round : Int))) ?_
       refine (bsplit (hasP D.P (D.s.round : Int))).elim (fun b216 => ?_) (fun b216 => ?_)
       ·refine q_know 112 (.bool true) (congrArg Value.bool b216) ?_
        refine qy 9 112 true 113 (pt b36 33) ?_
        refine qy 9 112 true 114 (.bool ((getP D.P (D.s.round : Int)).ok)) ?_ (hr := fun _ H' => (e_load1 rfl (by kernel_rfl) (H'.cell 4 rfl (by kernel_rfl))))
        refine qv 115 (.bool ((getP D.P (D.s.round : Int)).ok)) ?_
        refine qv 116 (.bool ((getP D.P (D.s.round : Int)).ok)) ?_
        refine (bsplit ((getP D.P (D.s.round : Int)).ok)).elim (fun b217 => ?_) (fun b217 => ?_)
        ·refine q_know 116 (.bool true) (congrArg Value.bool b217) ?_
         refine qy 13 116 true 117 (pt k 0) ?_
         refine qy 13 116 true 118 (pt k 0) ?_
         refine qy 13 116 true 119 (pt k 107) ?_
         refine qy 13 116 true 120 (.bool (D.wv)) ?_ (hr := fun _ H' => (e_load1 rfl (by kernel_rfl) (H'.cell 0 rfl (by kernel_rfl))))
         refine qy 13 116 true 121 (.bool (!(D.wv))) ?_
         refine qv 122 (.bool (!(D.wv))) ?_
         refine qv 123 (.bool (!(D.wv))) ?_
         refine (bsplit (!(D.wv))).elim (fun b218 => ?_) (fun b218 => ?_)
         ·have g219 := bnot_true b218
          refine q_know 123 (.bool true) (congrArg Value.bool b218) ?_
          refine qy 20 123 true 124 (pt k 0) ?_
          refine qy 20 123 true 125 (pt k 0) ?_
          refine qy 20 123 true 126 (pt k 105) ?_
          refine qy 20 123 true 127 (pt t 0) ?_ (hr := fun _ H' => (e_load1 rfl (by kernel_rfl) (H'.cell 0 rfl (by kernel_rfl))))
          refine qy 20 123 true 128 (.int .i64 (D.s.round)) ?_
          refine qy 20 123 true 129 (pt b36 1) ?_
          refine qy 20 123 true 130 (.agg ⟨(hc (getP D.P (D.s.round : Int)).h)⟩) ?_ (hr := fun _ H' => (e_loadN (vs := (hc (getP D.P (D.s.round : Int)).h)) rfl (by kernel_rfl) (by kernel_rfl) (by exact Nat.le_of_ble_eq_true (by kernel_rfl)) (H'.at 4 rfl) (by kernel_rfl)))
          refine q_call (wantsY 20 123 true rfl (by kernel_rfl) rfl (by kernel_rfl)) (d := 131) (v := (.int .i64 (forV D.L 1 D.s.round ((getP D.P (D.s.round : Int)).h)))) rfl (fun _ _ => by kernel_rfl) (fun w' H' => (talFor_any w' t hb cb ab lb D.f D.c D.L (H'.at 1 rfl) 1 D.s.round ((getP D.P (D.s.round : Int)).h)).mono fun _ _ h => ⟨h.1, H'.keepU h.2⟩) ?_
          refine qy 20 123 true 132 (.int .i64 (2 * D.f + 1)) ?_
          refine qy 20 123 true 133 (.bool (decide ((forV D.L 1 D.s.round ((getP D.P (D.s.round : Int)).h)) ≥ (2 * D.f + 1)))) ?_
          refine qv 134 (.bool (decide ((forV D.L 1 D.s.round ((getP D.P (D.s.round : Int)).h)) ≥ (2 * D.f + 1)))) ?_
          refine q_end ?_
          intro w220 H221
          refine meetR_at ?_ ⟨(congrArg Value.bool (show (decide ((forV D.L 1 D.s.round ((getP D.P (D.s.round : Int)).h)) ≥ (2 * D.f + 1))) = (c4 D) by simp [c4, b214, b216, b217, b218])), H221⟩
          exact (same_upd rfl (same_upd rfl (same_upd rfl (same_upd rfl (same_upd rfl (same_upd rfl (same_upd rfl (same_upd rfl (same_upd rfl (same_upd rfl (same_upd rfl (same_upd rfl (same_upd rfl (same_upd rfl (same_upd rfl (same_upd rfl (same_upd rfl (same_upd rfl (same_upd rfl (same_upd rfl (same_upd rfl (same_upd rfl (same_upd rfl (same_upd rfl (same_upd rfl (same_upd rfl (same_upd rfl (same_upd rfl (same_upd rfl (same_upd rfl (same_upd rfl (same_upd rfl (same_upd rfl (same_upd rfl (same_upd rfl (same_upd rfl (same_refl)))))))))))))))))))))))))))))))))))))
         ·have g222 := bnot_false b218
          refine q_know 123 (.bool false) (congrArg Value.bool b218) ?_
          iterate 10 refine qn 20 123 true ?_
          refine qv 134 (.bool false) ?_
          refine q_end ?_
          intro w223 H224
          refine meetR_at ?_ ⟨(congrArg Value.bool (show false = (c4 D) by simp [c4, b214, b216, b217, b218])), H224⟩
          exact (same_upd rfl (same_upd rfl (same_upd rfl (same_upd rfl (same_upd rfl (same_upd rfl (same_upd rfl (same_upd rfl (same_upd rfl (same_upd rfl (same_upd rfl (same_upd rfl (same_upd rfl (same_upd rfl (same_upd rfl (same_upd rfl (same_upd rfl (same_upd rfl (same_upd rfl (same_upd rfl (same_upd rfl (same_upd rfl (same_upd rfl (same_upd rfl (same_upd rfl (same_upd rfl (same_upd rfl (same_upd rfl (same_upd rfl (same_upd rfl (same_upd rfl (same_upd rfl (same_upd rfl (same_upd rfl (same_upd rfl (same_upd rfl (same_refl)))))))))))))))))))))))))))))))))))))
        ·refine q_know 116 (.bool false) (congrArg Value.bool b217) ?_
         iterate 5 refine qn 13 116 true ?_
         refine qv 122 (.bool false) ?_
         refine qv 123 (.bool false) ?_
         iterate 10 refine qn 20 123 true ?_
         refine qv 134 (.bool false) ?_
         refine q_end ?_
         intro w225 H226
         refine meetR_at ?_ ⟨(congrArg Value.bool (show false = (c4 D) by simp [c4, b214, b216, b217])), H226⟩
         exact (same_upd rfl (same_upd rfl (same_upd rfl (same_upd rfl (same_upd rfl (same_upd rfl (same_upd rfl (same_upd rfl (same_upd rfl (same_upd rfl (same_upd rfl (same_upd rfl (same_upd rfl (same_upd rfl (same_upd rfl (same_upd rfl (same_upd rfl (same_upd rfl (same_upd rfl (same_upd rfl (same_upd rfl (same_upd rfl (same_upd rfl (same_upd rfl (same_upd rfl (same_upd rfl (same_upd rfl (same_upd rfl (same_upd rfl (same_upd rfl (same_upd rfl (same_upd rfl (same_upd rfl (same_upd rfl (same_upd rfl (same_refl))))))))))))))))))))))))))))))))))))
       ·refine q_know 112 (.bool false) (congrArg Value.bool b216) ?_
        iterate 2 refine qn 9 112 true ?_
        refine qv 115 (.bool false) ?_
        refine qv 116 (.bool false) ?_
        iterate 5 refine qn 13 116 true ?_
        refine qv 122 (.bool false) ?_
        refine qv 123 (.bool false) ?_
        iterate 10 refine qn 20 123 true ?_
        refine qv 134 (.bool false) ?_
        refine q_end ?_
        intro w227 H228
        refine meetR_at ?_ ⟨(congrArg Value.bool (show false = (c4 D) by simp [c4, b214, b216])), H228⟩
        exact (same_upd rfl (same_upd rfl (same_upd rfl (same_upd rfl (same_upd rfl (same_upd rfl (same_upd rfl (same_upd rfl (same_upd rfl (same_upd rfl (same_upd rfl (same_upd rfl (same_upd rfl (same_upd rfl (same_upd rfl (same_upd rfl (same_upd rfl (same_upd rfl (same_upd rfl (same_upd rfl (same_upd rfl (same_upd rfl (same_upd rfl (same_upd rfl (same_upd rfl (same_upd rfl (same_upd rfl (same_upd rfl (same_upd rfl (same_upd rfl (same_upd rfl (same_upd rfl (same_upd rfl (same_upd rfl (same_refl)))))))))))))))))))))))))))))))))))
      ·have g229 := of_decide_eq_false b214
       refine q_know 109 (.bool false) (congrArg Value.bool b214) ?_
       refine qn 6 109 true ?_
       refine qv 111 (.bool false) ?_
       refine qv 112 (.bool false) ?_
       iterate 2 refine qn 9 112 true ?_
       refine qv 115 (.bool false) ?_
       refine qv 116 (.bool false) ?_
       iterate 5 refine qn 13 116 true ?_
       refine qv 122 (.bool false) ?_
       refine qv 123 (.bool false) ?_
       iterate 10 refine qn 20 123 true ?_
       refine qv 134 (.bool false) ?_
       refine q_end ?_
       intro w230 H231
       refine meetR_at ?_ ⟨(congrArg Value.bool (show false = (c4 D) by simp [c4, b214])), H231⟩
       exact (same_upd rfl (same_upd rfl (same_upd rfl (same_upd rfl (same_upd rfl (same_upd rfl (same_upd rfl (same_upd rfl (same_upd rfl (same_upd rfl (same_upd rfl (same_upd rfl (same_upd rfl (same_upd rfl (same_upd rfl (same_upd rfl (same_upd rfl (same_upd rfl (same_upd rfl (same_upd rfl (same_upd rfl (same_upd rfl (same_upd rfl (same_upd rfl (same_upd rfl (same_upd rfl (same_upd rfl (same_upd rfl (same_upd rfl (same_upd rfl (same_upd rfl (same_upd rfl (same_upd rfl (same_refl))))))))))))))))))))))))))))))))))
     ·rintro f232 w233 ⟨v235, H234⟩
      refine wp_know 134 _ v235 ?_
      refine (bsplit (c4 D)).elim (fun b236 => ?_) (fun b236 => ?_)
      ·refine wp_know 134 (.bool true) (congrArg Value.bool b236) ?_
       refine wp_ift rfl ?_
       refine w_seq ?_
       refine w_lit ?_
       refine wv 135 (pt k 0) ?_
       refine wv 136 (pt k 0) ?_
       refine wv 137 (pt k 107) ?_
       refine wl_do (wants0 rfl) (fun K237 hK237 => ?_)
       refine d_storeX (vs := ([(.bool true)] : List Value)) (cs' := (coreW D.f D.c D.epoch D.replica D.s.round D.s.step D.s.lr D.s.vr D.s.locked D.s.valid D.s.decided D.s.decision t pb true D.sp D.sc)) rfl H234 0 rfl rfl rfl rfl (by kernel_rfl) (Nat.le_of_ble_eq_true (by kernel_rfl)) (Nat.le_of_ble_eq_true (by kernel_rfl)) (by kernel_rfl) (by kernel_rfl) ?_
       intro w238 (H239 : Sat w [cellC k 92 (coreW D.f D.c D.epoch D.replica D.s.round D.s.step D.s.lr D.s.vr D.s.locked D.s.valid D.s.decided D.s.decision t pb true D.sp D.sc), talC t hb cb ab lb D.f D.c D.L, mapC pb (Value.int .i64) propV D.P, restC w (coreC k t hb cb ab lb pb D).fp, cellC b36 96 (([(.int .i64 ((getP D.P (D.s.round : Int)).valid))] : List Value) ++ hc (getP D.P (D.s.round : Int)).h ++ ([(.bool ((getP D.P (D.s.round : Int)).ok))] : List Value))] w238)
       refine hK237 _ _ ?_
       clear hK237 K237
       refine w_nil ?_
       refine then_normal ?_
       refine w_seq ?_
       refine w_lit ?_
       refine wv 12 (.slice none 0 0) ?_
       refine w_nil ?_
       refine then_normal ?_
       iterate 2 refine w_seq ?_
       refine w_lit ?_
       refine wv 138 (pt k 0) ?_
       refine wv 139 (pt k 0) ?_
       refine wv 140 (pt k 4) ?_
       refine wv 141 (pt k 5) ?_
       refine wv 142 (.int .i64 (D.s.step)) ?_ (hr := e_load1 rfl (by kernel_rfl) (H239.cell 0 rfl (by kernel_rfl)))
       refine wv 143 (.bool (decide (D.s.step = 2))) ?_
       refine w_nil ?_
       refine then_normal ?_
       refine (bsplit (decide (D.s.step = 2))).elim (fun b241 => ?_) (fun b241 => ?_)
       ·have g242 := of_decide_eq_true b241
        refine wp_know 143 (.bool true) (congrArg Value.bool b241) ?_
        refine wp_ift rfl ?_
        refine w_seq ?_
        refine w_lit ?_
        refine wv 144 (pt k 0) ?_
        refine wv 145 (pt k 0) ?_
        refine wv 146 (pt b36 1) ?_
        refine wv 147 (.agg ⟨(hc (getP D.P (D.s.round : Int)).h)⟩) ?_ (hr := e_loadN (vs := (hc (getP D.P (D.s.round : Int)).h)) rfl (by kernel_rfl) (by kernel_rfl) (by exact Nat.le_of_ble_eq_true (by kernel_rfl)) (H239.at 4 rfl) (by kernel_rfl))
        refine wv 148 (.int .i64 (D.s.round)) ?_
        refine wv 149 (pt k 0) ?_
        refine wv 150 (pt k 4) ?_
        refine wv 151 (pt k 8) ?_
        refine wl_do (wants0 rfl) (fun K243 hK243 => ?_)
        refine d_storeX (vs := (hc (getP D.P (D.s.round : Int)).h)) (cs' := (coreW D.f D.c D.epoch D.replica D.s.round D.s.step D.s.lr D.s.vr ((getP D.P (D.s.round : Int)).h) D.s.valid D.s.decided D.s.decision t pb true D.sp D.sc)) rfl H239 0 rfl rfl rfl rfl (by kernel_rfl) (Nat.le_of_ble_eq_true (by kernel_rfl)) (Nat.le_of_ble_eq_true (by kernel_rfl)) (by kernel_rfl) (by kernel_rfl) ?_
        intro w244 (H245 : Sat w [cellC k 92 (coreW D.f D.c D.epoch D.replica D.s.round D.s.step D.s.lr D.s.vr ((getP D.P (D.s.round : Int)).h) D.s.valid D.s.decided D.s.decision t pb true D.sp D.sc), talC t hb cb ab lb D.f D.c D.L, mapC pb (Value.int .i64) propV D.P, restC w (coreC k t hb cb ab lb pb D).fp, cellC b36 96 (([(.int .i64 ((getP D.P (D.s.round : Int)).valid))] : List Value) ++ hc (getP D.P (D.s.round : Int)).h ++ ([(.bool ((getP D.P (D.s.round : Int)).ok))] : List Value))] w244)
        refine hK243 _ _ ?_
        clear hK243 K243
        refine wv 152 (pt k 0) ?_
        refine wv 153 (pt k 4) ?_
        refine wv 154 (pt k 6) ?_
        refine wl_do (wants0 rfl) (fun K247 hK247 => ?_)
        refine d_storeX (vs := ([(.int .i64 (D.s.round))] : List Value)) (cs' := (coreW D.f D.c D.epoch D.replica D.s.round D.s.step D.s.round D.s.vr ((getP D.P (D.s.round : Int)).h) D.s.valid D.s.decided D.s.decision t pb true D.sp D.sc)) rfl H245 0 rfl rfl rfl rfl (by kernel_rfl) (Nat.le_of_ble_eq_true (by kernel_rfl)) (Nat.le_of_ble_eq_true (by kernel_rfl)) (by kernel_rfl) (by kernel_rfl) ?_
        intro w248 (H249 : Sat w [cellC k 92 (coreW D.f D.c D.epoch D.replica D.s.round D.s.step D.s.round D.s.vr ((getP D.P (D.s.round : Int)).h) D.s.valid D.s.decided D.s.decision t pb true D.sp D.sc), talC t hb cb ab lb D.f D.c D.L, mapC pb (Value.int .i64) propV D.P, restC w (coreC k t hb cb ab lb pb D).fp, cellC b36 96 (([(.int .i64 ((getP D.P (D.s.round : Int)).valid))] : List Value) ++ hc (getP D.P (D.s.round : Int)).h ++ ([(.bool ((getP D.P (D.s.round : Int)).ok))] : List Value))] w248)
        refine hK247 _ _ ?_
        clear hK247 K247
        refine w_nil ?_
        refine then_normal ?_
        refine w_lit ?_
        refine wv 155 (pt k 0) ?_
        refine wv 156 (pt b36 1) ?_
        refine wv 157 (.agg ⟨(hc (getP D.P (D.s.round : Int)).h)⟩) ?_ (hr := e_loadN (vs := (hc (getP D.P (D.s.round : Int)).h)) rfl (by kernel_rfl) (by kernel_rfl) (by exact Nat.le_of_ble_eq_true (by kernel_rfl)) (H249.at 4 rfl) (by kernel_rfl))
        refine wl_do (wants0 rfl) (fun K251 hK251 => ?_)
        refine d_call (d := 158) rfl (by kernel_rfl) (corePrecommit_any w248 k t hb cb ab lb pb (⟨D.f, D.c, D.epoch, D.replica, ⟨D.s.round, D.s.step, D.s.round, D.s.vr, (getP D.P (D.s.round : Int)).h, D.s.valid, (D.s.decided), D.s.decision⟩, D.L, D.P, true, (D.sp), (D.sc)⟩ : CoreD) (ok_of (by kernel_rfl) (H249.fin [0, 1, 2] (by decide) rfl)) (⟨h.f, h.ep, h.rp, h.rd, h.st, h.V, h.R, h.pk, h.pr⟩) ((getP D.P (D.s.round : Int)).h) ) ?_
        rintro _ w253 ⟨v252, rfl, S254⟩
        have H255 : Sat w [cellC k 92 (coreL t pb (ownV (⟨D.f, D.c, D.epoch, D.replica, ⟨D.s.round, D.s.step, D.s.round, D.s.vr, (getP D.P (D.s.round : Int)).h, D.s.valid, (D.s.decided), D.s.decision⟩, D.L, D.P, true, (D.sp), (D.sc)⟩ : CoreD) 2 3 ((getP D.P (D.s.round : Int)).h))), talC t hb cb ab lb (ownV (⟨D.f, D.c, D.epoch, D.replica, ⟨D.s.round, D.s.step, D.s.round, D.s.vr, (getP D.P (D.s.round : Int)).h, D.s.valid, (D.s.decided), D.s.decision⟩, D.L, D.P, true, (D.sp), (D.sc)⟩ : CoreD) 2 3 ((getP D.P (D.s.round : Int)).h)).f (ownV (⟨D.f, D.c, D.epoch, D.replica, ⟨D.s.round, D.s.step, D.s.round, D.s.vr, (getP D.P (D.s.round : Int)).h, D.s.valid, (D.s.decided), D.s.decision⟩, D.L, D.P, true, (D.sp), (D.sc)⟩ : CoreD) 2 3 ((getP D.P (D.s.round : Int)).h)).c (ownV (⟨D.f, D.c, D.epoch, D.replica, ⟨D.s.round, D.s.step, D.s.round, D.s.vr, (getP D.P (D.s.round : Int)).h, D.s.valid, (D.s.decided), D.s.decision⟩, D.L, D.P, true, (D.sp), (D.sc)⟩ : CoreD) 2 3 ((getP D.P (D.s.round : Int)).h)).L, mapC pb (Value.int .i64) propV (ownV (⟨D.f, D.c, D.epoch, D.replica, ⟨D.s.round, D.s.step, D.s.round, D.s.vr, (getP D.P (D.s.round : Int)).h, D.s.valid, (D.s.decided), D.s.decision⟩, D.L, D.P, true, (D.sp), (D.sc)⟩ : CoreD) 2 3 ((getP D.P (D.s.round : Int)).h)).P, restC w (coreC k t hb cb ab lb pb D).fp, cellC b36 96 (([(.int .i64 ((getP D.P (D.s.round : Int)).valid))] : List Value) ++ hc (getP D.P (D.s.round : Int)).h ++ ([(.bool ((getP D.P (D.s.round : Int)).ok))] : List Value)), rowC 45 35 v252 ((ownA (⟨D.f, D.c, D.epoch, D.replica, ⟨D.s.round, D.s.step, D.s.round, D.s.vr, (getP D.P (D.s.round : Int)).h, D.s.valid, (D.s.decided), D.s.decision⟩, D.L, D.P, true, (D.sp), (D.sc)⟩ : CoreD) 3 ((getP D.P (D.s.round : Int)).h)).length) ((ownA (⟨D.f, D.c, D.epoch, D.replica, ⟨D.s.round, D.s.step, D.s.round, D.s.vr, (getP D.P (D.s.round : Int)).h, D.s.valid, (D.s.decided), D.s.decision⟩, D.L, D.P, true, (D.sp), (D.sc)⟩ : CoreD) 3 ((getP D.P (D.s.round : Int)).h)).flatMap encA)] w253 := (Sat.turnL (L' := [cellC k 92 (coreL t pb (ownV (⟨D.f, D.c, D.epoch, D.replica, ⟨D.s.round, D.s.step, D.s.round, D.s.vr, (getP D.P (D.s.round : Int)).h, D.s.valid, (D.s.decided), D.s.decision⟩, D.L, D.P, true, (D.sp), (D.sc)⟩ : CoreD) 2 3 ((getP D.P (D.s.round : Int)).h))), talC t hb cb ab lb (ownV (⟨D.f, D.c, D.epoch, D.replica, ⟨D.s.round, D.s.step, D.s.round, D.s.vr, (getP D.P (D.s.round : Int)).h, D.s.valid, (D.s.decided), D.s.decision⟩, D.L, D.P, true, (D.sp), (D.sc)⟩ : CoreD) 2 3 ((getP D.P (D.s.round : Int)).h)).f (ownV (⟨D.f, D.c, D.epoch, D.replica, ⟨D.s.round, D.s.step, D.s.round, D.s.vr, (getP D.P (D.s.round : Int)).h, D.s.valid, (D.s.decided), D.s.decision⟩, D.L, D.P, true, (D.sp), (D.sc)⟩ : CoreD) 2 3 ((getP D.P (D.s.round : Int)).h)).c (ownV (⟨D.f, D.c, D.epoch, D.replica, ⟨D.s.round, D.s.step, D.s.round, D.s.vr, (getP D.P (D.s.round : Int)).h, D.s.valid, (D.s.decided), D.s.decision⟩, D.L, D.P, true, (D.sp), (D.sc)⟩ : CoreD) 2 3 ((getP D.P (D.s.round : Int)).h)).L, mapC pb (Value.int .i64) propV (ownV (⟨D.f, D.c, D.epoch, D.replica, ⟨D.s.round, D.s.step, D.s.round, D.s.vr, (getP D.P (D.s.round : Int)).h, D.s.valid, (D.s.decided), D.s.decision⟩, D.L, D.P, true, (D.sp), (D.sc)⟩ : CoreD) 2 3 ((getP D.P (D.s.round : Int)).h)).P, rowC 45 35 v252 ((ownA (⟨D.f, D.c, D.epoch, D.replica, ⟨D.s.round, D.s.step, D.s.round, D.s.vr, (getP D.P (D.s.round : Int)).h, D.s.valid, (D.s.decided), D.s.decision⟩, D.L, D.P, true, (D.sp), (D.sc)⟩ : CoreD) 3 ((getP D.P (D.s.round : Int)).h)).length) ((ownA (⟨D.f, D.c, D.epoch, D.replica, ⟨D.s.round, D.s.step, D.s.round, D.s.vr, (getP D.P (D.s.round : Int)).h, D.s.valid, (D.s.decided), D.s.decision⟩, D.L, D.P, true, (D.sp), (D.sc)⟩ : CoreD) 3 ((getP D.P (D.s.round : Int)).h)).flatMap encA)]) (R := [restC w (coreC k t hb cb ab lb pb D).fp, cellC b36 96 (([(.int .i64 ((getP D.P (D.s.round : Int)).valid))] : List Value) ++ hc (getP D.P (D.s.round : Int)).h ++ ([(.bool ((getP D.P (D.s.round : Int)).ok))] : List Value))]) H249 [0, 1, 2] [3, 4] (by decide) (by kernel_rfl) rfl S254).pick [0, 1, 2, 4, 5, 3] (by decide)
        obtain ⟨a256, c257, rfl⟩ := ownsRow_shape (H255.at 5 rfl)
        refine ⟨_, rfl, ?_⟩
        refine hK251 _ _ ?_
        clear hK251 K251
        refine wv 12 (.slice a256 ((ownA (⟨D.f, D.c, D.epoch, D.replica, ⟨D.s.round, D.s.step, D.s.round, D.s.vr, (getP D.P (D.s.round : Int)).h, D.s.valid, (D.s.decided), D.s.decision⟩, D.L, D.P, true, (D.sp), (D.sc)⟩ : CoreD) 3 ((getP D.P (D.s.round : Int)).h)).length) c257) ?_
        refine w_nil ?_
        refine then_normal ?_
        refine w_seq ?_
        refine w_lit ?_
        refine wv 159 (pt k 0) ?_
        refine wv 160 (pt k 0) ?_
        refine wv 161 (pt b36 1) ?_
        refine wv 162 (.agg ⟨(hc (getP D.P (D.s.round : Int)).h)⟩) ?_ (hr := e_loadN (vs := (hc (getP D.P (D.s.round : Int)).h)) rfl (by kernel_rfl) (by kernel_rfl) (by exact Nat.le_of_ble_eq_true (by kernel_rfl)) (H255.at 4 rfl) (by kernel_rfl))
        refine wv 163 (.int .i64 (D.s.round)) ?_
        refine wv 164 (pt k 0) ?_
        refine wv 165 (pt k 4) ?_
        refine wv 166 (pt k 40) ?_
        refine wl_do (wants0 rfl) (fun K258 hK258 => ?_)
        refine d_storeX (vs := (hc (getP D.P (D.s.round : Int)).h)) (cs' := (coreW ((ownV (⟨D.f, D.c, D.epoch, D.replica, ⟨D.s.round, D.s.step, D.s.round, D.s.vr, (getP D.P (D.s.round : Int)).h, D.s.valid, (D.s.decided), D.s.decision⟩, D.L, D.P, true, (D.sp), (D.sc)⟩ : CoreD) 2 3 ((getP D.P (D.s.round : Int)).h)).f) ((ownV (⟨D.f, D.c, D.epoch, D.replica, ⟨D.s.round, D.s.step, D.s.round, D.s.vr, (getP D.P (D.s.round : Int)).h, D.s.valid, (D.s.decided), D.s.decision⟩, D.L, D.P, true, (D.sp), (D.sc)⟩ : CoreD) 2 3 ((getP D.P (D.s.round : Int)).h)).c) ((ownV (⟨D.f, D.c, D.epoch, D.replica, ⟨D.s.round, D.s.step, D.s.round, D.s.vr, (getP D.P (D.s.round : Int)).h, D.s.valid, (D.s.decided), D.s.decision⟩, D.L, D.P, true, (D.sp), (D.sc)⟩ : CoreD) 2 3 ((getP D.P (D.s.round : Int)).h)).epoch) ((ownV (⟨D.f, D.c, D.epoch, D.replica, ⟨D.s.round, D.s.step, D.s.round, D.s.vr, (getP D.P (D.s.round : Int)).h, D.s.valid, (D.s.decided), D.s.decision⟩, D.L, D.P, true, (D.sp), (D.sc)⟩ : CoreD) 2 3 ((getP D.P (D.s.round : Int)).h)).replica) ((ownV (⟨D.f, D.c, D.epoch, D.replica, ⟨D.s.round, D.s.step, D.s.round, D.s.vr, (getP D.P (D.s.round : Int)).h, D.s.valid, (D.s.decided), D.s.decision⟩, D.L, D.P, true, (D.sp), (D.sc)⟩ : CoreD) 2 3 ((getP D.P (D.s.round : Int)).h)).s.round) ((ownV (⟨D.f, D.c, D.epoch, D.replica, ⟨D.s.round, D.s.step, D.s.round, D.s.vr, (getP D.P (D.s.round : Int)).h, D.s.valid, (D.s.decided), D.s.decision⟩, D.L, D.P, true, (D.sp), (D.sc)⟩ : CoreD) 2 3 ((getP D.P (D.s.round : Int)).h)).s.step) ((ownV (⟨D.f, D.c, D.epoch, D.replica, ⟨D.s.round, D.s.step, D.s.round, D.s.vr, (getP D.P (D.s.round : Int)).h, D.s.valid, (D.s.decided), D.s.decision⟩, D.L, D.P, true, (D.sp), (D.sc)⟩ : CoreD) 2 3 ((getP D.P (D.s.round : Int)).h)).s.lr) ((ownV (⟨D.f, D.c, D.epoch, D.replica, ⟨D.s.round, D.s.step, D.s.round, D.s.vr, (getP D.P (D.s.round : Int)).h, D.s.valid, (D.s.decided), D.s.decision⟩, D.L, D.P, true, (D.sp), (D.sc)⟩ : CoreD) 2 3 ((getP D.P (D.s.round : Int)).h)).s.vr) ((ownV (⟨D.f, D.c, D.epoch, D.replica, ⟨D.s.round, D.s.step, D.s.round, D.s.vr, (getP D.P (D.s.round : Int)).h, D.s.valid, (D.s.decided), D.s.decision⟩, D.L, D.P, true, (D.sp), (D.sc)⟩ : CoreD) 2 3 ((getP D.P (D.s.round : Int)).h)).s.locked) ((getP D.P (D.s.round : Int)).h) ((ownV (⟨D.f, D.c, D.epoch, D.replica, ⟨D.s.round, D.s.step, D.s.round, D.s.vr, (getP D.P (D.s.round : Int)).h, D.s.valid, (D.s.decided), D.s.decision⟩, D.L, D.P, true, (D.sp), (D.sc)⟩ : CoreD) 2 3 ((getP D.P (D.s.round : Int)).h)).s.decided) ((ownV (⟨D.f, D.c, D.epoch, D.replica, ⟨D.s.round, D.s.step, D.s.round, D.s.vr, (getP D.P (D.s.round : Int)).h, D.s.valid, (D.s.decided), D.s.decision⟩, D.L, D.P, true, (D.sp), (D.sc)⟩ : CoreD) 2 3 ((getP D.P (D.s.round : Int)).h)).s.decision) t pb ((ownV (⟨D.f, D.c, D.epoch, D.replica, ⟨D.s.round, D.s.step, D.s.round, D.s.vr, (getP D.P (D.s.round : Int)).h, D.s.valid, (D.s.decided), D.s.decision⟩, D.L, D.P, true, (D.sp), (D.sc)⟩ : CoreD) 2 3 ((getP D.P (D.s.round : Int)).h)).wv) ((ownV (⟨D.f, D.c, D.epoch, D.replica, ⟨D.s.round, D.s.step, D.s.round, D.s.vr, (getP D.P (D.s.round : Int)).h, D.s.valid, (D.s.decided), D.s.decision⟩, D.L, D.P, true, (D.sp), (D.sc)⟩ : CoreD) 2 3 ((getP D.P (D.s.round : Int)).h)).sp) ((ownV (⟨D.f, D.c, D.epoch, D.replica, ⟨D.s.round, D.s.step, D.s.round, D.s.vr, (getP D.P (D.s.round : Int)).h, D.s.valid, (D.s.decided), D.s.decision⟩, D.L, D.P, true, (D.sp), (D.sc)⟩ : CoreD) 2 3 ((getP D.P (D.s.round : Int)).h)).sc))) rfl H255 0 rfl rfl rfl rfl (by kernel_rfl) (Nat.le_of_ble_eq_true (by kernel_rfl)) (Nat.le_of_ble_eq_true (by kernel_rfl)) (by kernel_rfl) (by kernel_rfl) ?_
        intro w259 (H260 : Sat w [cellC k 92 (coreW ((ownV (⟨D.f, D.c, D.epoch, D.replica, ⟨D.s.round, D.s.step, D.s.round, D.s.vr, (getP D.P (D.s.round : Int)).h, D.s.valid, (D.s.decided), D.s.decision⟩, D.L, D.P, true, (D.sp), (D.sc)⟩ : CoreD) 2 3 ((getP D.P (D.s.round : Int)).h)).f) ((ownV (⟨D.f, D.c, D.epoch, D.replica, ⟨D.s.round, D.s.step, D.s.round, D.s.vr, (getP D.P (D.s.round : Int)).h, D.s.valid, (D.s.decided), D.s.decision⟩, D.L, D.P, true, (D.sp), (D.sc)⟩ : CoreD) 2 3 ((getP D.P (D.s.round : Int)).h)).c) ((ownV (⟨D.f, D.c, D.epoch, D.replica, ⟨D.s.round, D.s.step, D.s.round, D.s.vr, (getP D.P (D.s.round : Int)).h, D.s.valid, (D.s.decided), D.s.decision⟩, D.L, D.P, true, (D.sp), (D.sc)⟩ : CoreD) 2 3 ((getP D.P (D.s.round : Int)).h)).epoch) ((ownV (⟨D.f, D.c, D.epoch, D.replica, ⟨D.s.round, D.s.step, D.s.round, D.s.vr, (getP D.P (D.s.round : Int)).h, D.s.valid, (D.s.decided), D.s.decision⟩, D.L, D.P, true, (D.sp), (D.sc)⟩ : CoreD) 2 3 ((getP D.P (D.s.round : Int)).h)).replica) ((ownV (⟨D.f, D.c, D.epoch, D.replica, ⟨D.s.round, D.s.step, D.s.round, D.s.vr, (getP D.P (D.s.round : Int)).h, D.s.valid, (D.s.decided), D.s.decision⟩, D.L, D.P, true, (D.sp), (D.sc)⟩ : CoreD) 2 3 ((getP D.P (D.s.round : Int)).h)).s.round) ((ownV (⟨D.f, D.c, D.epoch, D.replica, ⟨D.s.round, D.s.step, D.s.round, D.s.vr, (getP D.P (D.s.round : Int)).h, D.s.valid, (D.s.decided), D.s.decision⟩, D.L, D.P, true, (D.sp), (D.sc)⟩ : CoreD) 2 3 ((getP D.P (D.s.round : Int)).h)).s.step) ((ownV (⟨D.f, D.c, D.epoch, D.replica, ⟨D.s.round, D.s.step, D.s.round, D.s.vr, (getP D.P (D.s.round : Int)).h, D.s.valid, (D.s.decided), D.s.decision⟩, D.L, D.P, true, (D.sp), (D.sc)⟩ : CoreD) 2 3 ((getP D.P (D.s.round : Int)).h)).s.lr) ((ownV (⟨D.f, D.c, D.epoch, D.replica, ⟨D.s.round, D.s.step, D.s.round, D.s.vr, (getP D.P (D.s.round : Int)).h, D.s.valid, (D.s.decided), D.s.decision⟩, D.L, D.P, true, (D.sp), (D.sc)⟩ : CoreD) 2 3 ((getP D.P (D.s.round : Int)).h)).s.vr) ((ownV (⟨D.f, D.c, D.epoch, D.replica, ⟨D.s.round, D.s.step, D.s.round, D.s.vr, (getP D.P (D.s.round : Int)).h, D.s.valid, (D.s.decided), D.s.decision⟩, D.L, D.P, true, (D.sp), (D.sc)⟩ : CoreD) 2 3 ((getP D.P (D.s.round : Int)).h)).s.locked) ((getP D.P (D.s.round : Int)).h) ((ownV (⟨D.f, D.c, D.epoch, D.replica, ⟨D.s.round, D.s.step, D.s.round, D.s.vr, (getP D.P (D.s.round : Int)).h, D.s.valid, (D.s.decided), D.s.decision⟩, D.L, D.P, true, (D.sp), (D.sc)⟩ : CoreD) 2 3 ((getP D.P (D.s.round : Int)).h)).s.decided) ((ownV (⟨D.f, D.c, D.epoch, D.replica, ⟨D.s.round, D.s.step, D.s.round, D.s.vr, (getP D.P (D.s.round : Int)).h, D.s.valid, (D.s.decided), D.s.decision⟩, D.L, D.P, true, (D.sp), (D.sc)⟩ : CoreD) 2 3 ((getP D.P (D.s.round : Int)).h)).s.decision) t pb ((ownV (⟨D.f, D.c, D.epoch, D.replica, ⟨D.s.round, D.s.step, D.s.round, D.s.vr, (getP D.P (D.s.round : Int)).h, D.s.valid, (D.s.decided), D.s.decision⟩, D.L, D.P, true, (D.sp), (D.sc)⟩ : CoreD) 2 3 ((getP D.P (D.s.round : Int)).h)).wv) ((ownV (⟨D.f, D.c, D.epoch, D.replica, ⟨D.s.round, D.s.step, D.s.round, D.s.vr, (getP D.P (D.s.round : Int)).h, D.s.valid, (D.s.decided), D.s.decision⟩, D.L, D.P, true, (D.sp), (D.sc)⟩ : CoreD) 2 3 ((getP D.P (D.s.round : Int)).h)).sp) ((ownV (⟨D.f, D.c, D.epoch, D.replica, ⟨D.s.round, D.s.step, D.s.round, D.s.vr, (getP D.P (D.s.round : Int)).h, D.s.valid, (D.s.decided), D.s.decision⟩, D.L, D.P, true, (D.sp), (D.sc)⟩ : CoreD) 2 3 ((getP D.P (D.s.round : Int)).h)).sc)), talC t hb cb ab lb (ownV (⟨D.f, D.c, D.epoch, D.replica, ⟨D.s.round, D.s.step, D.s.round, D.s.vr, (getP D.P (D.s.round : Int)).h, D.s.valid, (D.s.decided), D.s.decision⟩, D.L, D.P, true, (D.sp), (D.sc)⟩ : CoreD) 2 3 ((getP D.P (D.s.round : Int)).h)).f (ownV (⟨D.f, D.c, D.epoch, D.replica, ⟨D.s.round, D.s.step, D.s.round, D.s.vr, (getP D.P (D.s.round : Int)).h, D.s.valid, (D.s.decided), D.s.decision⟩, D.L, D.P, true, (D.sp), (D.sc)⟩ : CoreD) 2 3 ((getP D.P (D.s.round : Int)).h)).c (ownV (⟨D.f, D.c, D.epoch, D.replica, ⟨D.s.round, D.s.step, D.s.round, D.s.vr, (getP D.P (D.s.round : Int)).h, D.s.valid, (D.s.decided), D.s.decision⟩, D.L, D.P, true, (D.sp), (D.sc)⟩ : CoreD) 2 3 ((getP D.P (D.s.round : Int)).h)).L, mapC pb (Value.int .i64) propV (ownV (⟨D.f, D.c, D.epoch, D.replica, ⟨D.s.round, D.s.step, D.s.round, D.s.vr, (getP D.P (D.s.round : Int)).h, D.s.valid, (D.s.decided), D.s.decision⟩, D.L, D.P, true, (D.sp), (D.sc)⟩ : CoreD) 2 3 ((getP D.P (D.s.round : Int)).h)).P, restC w (coreC k t hb cb ab lb pb D).fp, cellC b36 96 (([(.int .i64 ((getP D.P (D.s.round : Int)).valid))] : List Value) ++ hc (getP D.P (D.s.round : Int)).h ++ ([(.bool ((getP D.P (D.s.round : Int)).ok))] : List Value)), rowC 45 35 (.slice a256 ((ownA (⟨D.f, D.c, D.epoch, D.replica, ⟨D.s.round, D.s.step, D.s.round, D.s.vr, (getP D.P (D.s.round : Int)).h, D.s.valid, (D.s.decided), D.s.decision⟩, D.L, D.P, true, (D.sp), (D.sc)⟩ : CoreD) 3 ((getP D.P (D.s.round : Int)).h)).length) c257) ((ownA (⟨D.f, D.c, D.epoch, D.replica, ⟨D.s.round, D.s.step, D.s.round, D.s.vr, (getP D.P (D.s.round : Int)).h, D.s.valid, (D.s.decided), D.s.decision⟩, D.L, D.P, true, (D.sp), (D.sc)⟩ : CoreD) 3 ((getP D.P (D.s.round : Int)).h)).length) ((ownA (⟨D.f, D.c, D.epoch, D.replica, ⟨D.s.round, D.s.step, D.s.round, D.s.vr, (getP D.P (D.s.round : Int)).h, D.s.valid, (D.s.decided), D.s.decision⟩, D.L, D.P, true, (D.sp), (D.sc)⟩ : CoreD) 3 ((getP D.P (D.s.round : Int)).h)).flatMap encA)] w259)
        refine hK258 _ _ ?_
        clear hK258 K258
        refine wv 167 (pt k 0) ?_
        refine wv 168 (pt k 4) ?_
        refine wv 169 (pt k 7) ?_
        refine wl_do (wants0 rfl) (fun K262 hK262 => ?_)
        refine d_storeX (vs := ([(.int .i64 (D.s.round))] : List Value)) (cs' := (coreW ((ownV (⟨D.f, D.c, D.epoch, D.replica, ⟨D.s.round, D.s.step, D.s.round, D.s.vr, (getP D.P (D.s.round : Int)).h, D.s.valid, (D.s.decided), D.s.decision⟩, D.L, D.P, true, (D.sp), (D.sc)⟩ : CoreD) 2 3 ((getP D.P (D.s.round : Int)).h)).f) ((ownV (⟨D.f, D.c, D.epoch, D.replica, ⟨D.s.round, D.s.step, D.s.round, D.s.vr, (getP D.P (D.s.round : Int)).h, D.s.valid, (D.s.decided), D.s.decision⟩, D.L, D.P, true, (D.sp), (D.sc)⟩ : CoreD) 2 3 ((getP D.P (D.s.round : Int)).h)).c) ((ownV (⟨D.f, D.c, D.epoch, D.replica, ⟨D.s.round, D.s.step, D.s.round, D.s.vr, (getP D.P (D.s.round : Int)).h, D.s.valid, (D.s.decided), D.s.decision⟩, D.L, D.P, true, (D.sp), (D.sc)⟩ : CoreD) 2 3 ((getP D.P (D.s.round : Int)).h)).epoch) ((ownV (⟨D.f, D.c, D.epoch, D.replica, ⟨D.s.round, D.s.step, D.s.round, D.s.vr, (getP D.P (D.s.round : Int)).h, D.s.valid, (D.s.decided), D.s.decision⟩, D.L, D.P, true, (D.sp), (D.sc)⟩ : CoreD) 2 3 ((getP D.P (D.s.round : Int)).h)).replica) ((ownV (⟨D.f, D.c, D.epoch, D.replica, ⟨D.s.round, D.s.step, D.s.round, D.s.vr, (getP D.P (D.s.round : Int)).h, D.s.valid, (D.s.decided), D.s.decision⟩, D.L, D.P, true, (D.sp), (D.sc)⟩ : CoreD) 2 3 ((getP D.P (D.s.round : Int)).h)).s.round) ((ownV (⟨D.f, D.c, D.epoch, D.replica, ⟨D.s.round, D.s.step, D.s.round, D.s.vr, (getP D.P (D.s.round : Int)).h, D.s.valid, (D.s.decided), D.s.decision⟩, D.L, D.P, true, (D.sp), (D.sc)⟩ : CoreD) 2 3 ((getP D.P (D.s.round : Int)).h)).s.step) ((ownV (⟨D.f, D.c, D.epoch, D.replica, ⟨D.s.round, D.s.step, D.s.round, D.s.vr, (getP D.P (D.s.round : Int)).h, D.s.valid, (D.s.decided), D.s.decision⟩, D.L, D.P, true, (D.sp), (D.sc)⟩ : CoreD) 2 3 ((getP D.P (D.s.round : Int)).h)).s.lr) D.s.round ((ownV (⟨D.f, D.c, D.epoch, D.replica, ⟨D.s.round, D.s.step, D.s.round, D.s.vr, (getP D.P (D.s.round : Int)).h, D.s.valid, (D.s.decided), D.s.decision⟩, D.L, D.P, true, (D.sp), (D.sc)⟩ : CoreD) 2 3 ((getP D.P (D.s.round : Int)).h)).s.locked) ((getP D.P (D.s.round : Int)).h) ((ownV (⟨D.f, D.c, D.epoch, D.replica, ⟨D.s.round, D.s.step, D.s.round, D.s.vr, (getP D.P (D.s.round : Int)).h, D.s.valid, (D.s.decided), D.s.decision⟩, D.L, D.P, true, (D.sp), (D.sc)⟩ : CoreD) 2 3 ((getP D.P (D.s.round : Int)).h)).s.decided) ((ownV (⟨D.f, D.c, D.epoch, D.replica, ⟨D.s.round, D.s.step, D.s.round, D.s.vr, (getP D.P (D.s.round : Int)).h, D.s.valid, (D.s.decided), D.s.decision⟩, D.L, D.P, true, (D.sp), (D.sc)⟩ : CoreD) 2 3 ((getP D.P (D.s.round : Int)).h)).s.decision) t pb ((ownV (⟨D.f, D.c, D.epoch, D.replica, ⟨D.s.round, D.s.step, D.s.round, D.s.vr, (getP D.P (D.s.round : Int)).h, D.s.valid, (D.s.decided), D.s.decision⟩, D.L, D.P, true, (D.sp), (D.sc)⟩ : CoreD) 2 3 ((getP D.P (D.s.round : Int)).h)).wv) ((ownV (⟨D.f, D.c, D.epoch, D.replica, ⟨D.s.round, D.s.step, D.s.round, D.s.vr, (getP D.P (D.s.round : Int)).h, D.s.valid, (D.s.decided), D.s.decision⟩, D.L, D.P, true, (D.sp), (D.sc)⟩ : CoreD) 2 3 ((getP D.P (D.s.round : Int)).h)).sp) ((ownV (⟨D.f, D.c, D.epoch, D.replica, ⟨D.s.round, D.s.step, D.s.round, D.s.vr, (getP D.P (D.s.round : Int)).h, D.s.valid, (D.s.decided), D.s.decision⟩, D.L, D.P, true, (D.sp), (D.sc)⟩ : CoreD) 2 3 ((getP D.P (D.s.round : Int)).h)).sc))) rfl H260 0 rfl rfl rfl rfl (by kernel_rfl) (Nat.le_of_ble_eq_true (by kernel_rfl)) (Nat.le_of_ble_eq_true (by kernel_rfl)) (by kernel_rfl) (by kernel_rfl) ?_
        intro w263 (H264 : Sat w [cellC k 92 (coreW ((ownV (⟨D.f, D.c, D.epoch, D.replica, ⟨D.s.round, D.s.step, D.s.round, D.s.vr, (getP D.P (D.s.round : Int)).h, D.s.valid, (D.s.decided), D.s.decision⟩, D.L, D.P, true, (D.sp), (D.sc)⟩ : CoreD) 2 3 ((getP D.P (D.s.round : Int)).h)).f) ((ownV (⟨D.f, D.c, D.epoch, D.replica, ⟨D.s.round, D.s.step, D.s.round, D.s.vr, (getP D.P (D.s.round : Int)).h, D.s.valid, (D.s.decided), D.s.decision⟩, D.L, D.P, true, (D.sp), (D.sc)⟩ : CoreD) 2 3 ((getP D.P (D.s.round : Int)).h)).c) ((ownV (⟨D.f, D.c, D.epoch, D.replica, ⟨D.s.round, D.s.step, D.s.round, D.s.vr, (getP D.P (D.s.round : Int)).h, D.s.valid, (D.s.decided), D.s.decision⟩, D.L, D.P, true, (D.sp), (D.sc)⟩ : CoreD) 2 3 ((getP D.P (D.s.round : Int)).h)).epoch) ((ownV (⟨D.f, D.c, D.epoch, D.replica, ⟨D.s.round, D.s.step, D.s.round, D.s.vr, (getP D.P (D.s.round : Int)).h, D.s.valid, (D.s.decided), D.s.decision⟩, D.L, D.P, true, (D.sp), (D.sc)⟩ : CoreD) 2 3 ((getP D.P (D.s.round : Int)).h)).replica) ((ownV (⟨D.f, D.c, D.epoch, D.replica, ⟨D.s.round, D.s.step, D.s.round, D.s.vr, (getP D.P (D.s.round : Int)).h, D.s.valid, (D.s.decided), D.s.decision⟩, D.L, D.P, true, (D.sp), (D.sc)⟩ : CoreD) 2 3 ((getP D.P (D.s.round : Int)).h)).s.round) ((ownV (⟨D.f, D.c, D.epoch, D.replica, ⟨D.s.round, D.s.step, D.s.round, D.s.vr, (getP D.P (D.s.round : Int)).h, D.s.valid, (D.s.decided), D.s.decision⟩, D.L, D.P, true, (D.sp), (D.sc)⟩ : CoreD) 2 3 ((getP D.P (D.s.round : Int)).h)).s.step) ((ownV (⟨D.f, D.c, D.epoch, D.replica, ⟨D.s.round, D.s.step, D.s.round, D.s.vr, (getP D.P (D.s.round : Int)).h, D.s.valid, (D.s.decided), D.s.decision⟩, D.L, D.P, true, (D.sp), (D.sc)⟩ : CoreD) 2 3 ((getP D.P (D.s.round : Int)).h)).s.lr) D.s.round ((ownV (⟨D.f, D.c, D.epoch, D.replica, ⟨D.s.round, D.s.step, D.s.round, D.s.vr, (getP D.P (D.s.round : Int)).h, D.s.valid, (D.s.decided), D.s.decision⟩, D.L, D.P, true, (D.sp), (D.sc)⟩ : CoreD) 2 3 ((getP D.P (D.s.round : Int)).h)).s.locked) ((getP D.P (D.s.round : Int)).h) ((ownV (⟨D.f, D.c, D.epoch, D.replica, ⟨D.s.round, D.s.step, D.s.round, D.s.vr, (getP D.P (D.s.round : Int)).h, D.s.valid, (D.s.decided), D.s.decision⟩, D.L, D.P, true, (D.sp), (D.sc)⟩ : CoreD) 2 3 ((getP D.P (D.s.round : Int)).h)).s.decided) ((ownV (⟨D.f, D.c, D.epoch, D.replica, ⟨D.s.round, D.s.step, D.s.round, D.s.vr, (getP D.P (D.s.round : Int)).h, D.s.valid, (D.s.decided), D.s.decision⟩, D.L, D.P, true, (D.sp), (D.sc)⟩ : CoreD) 2 3 ((getP D.P (D.s.round : Int)).h)).s.decision) t pb ((ownV (⟨D.f, D.c, D.epoch, D.replica, ⟨D.s.round, D.s.step, D.s.round, D.s.vr, (getP D.P (D.s.round : Int)).h, D.s.valid, (D.s.decided), D.s.decision⟩, D.L, D.P, true, (D.sp), (D.sc)⟩ : CoreD) 2 3 ((getP D.P (D.s.round : Int)).h)).wv) ((ownV (⟨D.f, D.c, D.epoch, D.replica, ⟨D.s.round, D.s.step, D.s.round, D.s.vr, (getP D.P (D.s.round : Int)).h, D.s.valid, (D.s.decided), D.s.decision⟩, D.L, D.P, true, (D.sp), (D.sc)⟩ : CoreD) 2 3 ((getP D.P (D.s.round : Int)).h)).sp) ((ownV (⟨D.f, D.c, D.epoch, D.replica, ⟨D.s.round, D.s.step, D.s.round, D.s.vr, (getP D.P (D.s.round : Int)).h, D.s.valid, (D.s.decided), D.s.decision⟩, D.L, D.P, true, (D.sp), (D.sc)⟩ : CoreD) 2 3 ((getP D.P (D.s.round : Int)).h)).sc)), talC t hb cb ab lb (ownV (⟨D.f, D.c, D.epoch, D.replica, ⟨D.s.round, D.s.step, D.s.round, D.s.vr, (getP D.P (D.s.round : Int)).h, D.s.valid, (D.s.decided), D.s.decision⟩, D.L, D.P, true, (D.sp), (D.sc)⟩ : CoreD) 2 3 ((getP D.P (D.s.round : Int)).h)).f (ownV (⟨D.f, D.c, D.epoch, D.replica, ⟨D.s.round, D.s.step, D.s.round, D.s.vr, (getP D.P (D.s.round : Int)).h, D.s.valid, (D.s.decided), D.s.decision⟩, D.L, D.P, true, (D.sp), (D.sc)⟩ : CoreD) 2 3 ((getP D.P (D.s.round : Int)).h)).c (ownV (⟨D.f, D.c, D.epoch, D.replica, ⟨D.s.round, D.s.step, D.s.round, D.s.vr, (getP D.P (D.s.round : Int)).h, D.s.valid, (D.s.decided), D.s.decision⟩, D.L, D.P, true, (D.sp), (D.sc)⟩ : CoreD) 2 3 ((getP D.P (D.s.round : Int)).h)).L, mapC pb (Value.int .i64) propV (ownV (⟨D.f, D.c, D.epoch, D.replica, ⟨D.s.round, D.s.step, D.s.round, D.s.vr, (getP D.P (D.s.round : Int)).h, D.s.valid, (D.s.decided), D.s.decision⟩, D.L, D.P, true, (D.sp), (D.sc)⟩ : CoreD) 2 3 ((getP D.P (D.s.round : Int)).h)).P, restC w (coreC k t hb cb ab lb pb D).fp, cellC b36 96 (([(.int .i64 ((getP D.P (D.s.round : Int)).valid))] : List Value) ++ hc (getP D.P (D.s.round : Int)).h ++ ([(.bool ((getP D.P (D.s.round : Int)).ok))] : List Value)), rowC 45 35 (.slice a256 ((ownA (⟨D.f, D.c, D.epoch, D.replica, ⟨D.s.round, D.s.step, D.s.round, D.s.vr, (getP D.P (D.s.round : Int)).h, D.s.valid, (D.s.decided), D.s.decision⟩, D.L, D.P, true, (D.sp), (D.sc)⟩ : CoreD) 3 ((getP D.P (D.s.round : Int)).h)).length) c257) ((ownA (⟨D.f, D.c, D.epoch, D.replica, ⟨D.s.round, D.s.step, D.s.round, D.s.vr, (getP D.P (D.s.round : Int)).h, D.s.valid, (D.s.decided), D.s.decision⟩, D.L, D.P, true, (D.sp), (D.sc)⟩ : CoreD) 3 ((getP D.P (D.s.round : Int)).h)).length) ((ownA (⟨D.f, D.c, D.epoch, D.replica, ⟨D.s.round, D.s.step, D.s.round, D.s.vr, (getP D.P (D.s.round : Int)).h, D.s.valid, (D.s.decided), D.s.decision⟩, D.L, D.P, true, (D.sp), (D.sc)⟩ : CoreD) 3 ((getP D.P (D.s.round : Int)).h)).flatMap encA)] w263)
        refine hK262 _ _ ?_
        clear hK262 K262
        refine w_nil ?_
        refine then_normal ?_
        refine w_seq ?_
        refine w_lit ?_
        refine wv 170 (.slice a256 ((ownA (⟨D.f, D.c, D.epoch, D.replica, ⟨D.s.round, D.s.step, D.s.round, D.s.vr, (getP D.P (D.s.round : Int)).h, D.s.valid, (D.s.decided), D.s.decision⟩, D.L, D.P, true, (D.sp), (D.sc)⟩ : CoreD) 3 ((getP D.P (D.s.round : Int)).h)).length) c257) ?_
        refine wv 2 (.slice a256 ((ownA (⟨D.f, D.c, D.epoch, D.replica, ⟨D.s.round, D.s.step, D.s.round, D.s.vr, (getP D.P (D.s.round : Int)).h, D.s.valid, (D.s.decided), D.s.decision⟩, D.L, D.P, true, (D.sp), (D.sc)⟩ : CoreD) 3 ((getP D.P (D.s.round : Int)).h)).length) c257) ?_
        refine wv 3 (.bool true) ?_
        refine w_nil ?_
        refine then_normal ?_
        refine w_ret ?_
        refine then_ret ?_
        refine end2 rfl (res_tmp (v := (.slice a256 ((ownA (⟨D.f, D.c, D.epoch, D.replica, ⟨D.s.round, D.s.step, D.s.round, D.s.vr, (getP D.P (D.s.round : Int)).h, D.s.valid, (D.s.decided), D.s.decision⟩, D.L, D.P, true, (D.sp), (D.sc)⟩ : CoreD) 3 ((getP D.P (D.s.round : Int)).h)).length) c257)) rfl) (res_tmp (v := (.bool true)) rfl) ?_
        exact .inl ⟨_, validD (ownV (lockD (wvD D) (getP D.P D.s.round).h) 2 3 (getP D.P D.s.round).h) (getP D.P D.s.round).h, ownA D 3 (getP D.P D.s.round).h, rfl, by rw [ruleD_b, if_neg (of_decide_eq_false b5), if_neg (of_decide_eq_false b22), if_neg (by rw [b53]; simp), if_pos b236, if_pos (of_decide_eq_true b241)], (H264.pick [0, 1, 2, 5, 3] (by decide)).cast (by kernel_rfl)⟩
       ·have g266 := of_decide_eq_false b241
        refine wp_know 143 (.bool false) (congrArg Value.bool b241) ?_
        refine wp_iff rfl ?_
        refine w_skip ?_
        refine then_normal ?_
        refine w_seq ?_
        refine w_lit ?_
        refine wv 159 (pt k 0) ?_
        refine wv 160 (pt k 0) ?_
        refine wv 161 (pt b36 1) ?_
        refine wv 162 (.agg ⟨(hc (getP D.P (D.s.round : Int)).h)⟩) ?_ (hr := e_loadN (vs := (hc (getP D.P (D.s.round : Int)).h)) rfl (by kernel_rfl) (by kernel_rfl) (by exact Nat.le_of_ble_eq_true (by kernel_rfl)) (H239.at 4 rfl) (by kernel_rfl))
        refine wv 163 (.int .i64 (D.s.round)) ?_
        refine wv 164 (pt k 0) ?_
        refine wv 165 (pt k 4) ?_
        refine wv 166 (pt k 40) ?_
        refine wl_do (wants0 rfl) (fun K267 hK267 => ?_)
        refine d_storeX (vs := (hc (getP D.P (D.s.round : Int)).h)) (cs' := (coreW D.f D.c D.epoch D.replica D.s.round D.s.step D.s.lr D.s.vr D.s.locked ((getP D.P (D.s.round : Int)).h) D.s.decided D.s.decision t pb true D.sp D.sc)) rfl H239 0 rfl rfl rfl rfl (by kernel_rfl) (Nat.le_of_ble_eq_true (by kernel_rfl)) (Nat.le_of_ble_eq_true (by kernel_rfl)) (by kernel_rfl) (by kernel_rfl) ?_
        intro w268 (H269 : Sat w [cellC k 92 (coreW D.f D.c D.epoch D.replica D.s.round D.s.step D.s.lr D.s.vr D.s.locked ((getP D.P (D.s.round : Int)).h) D.s.decided D.s.decision t pb true D.sp D.sc), talC t hb cb ab lb D.f D.c D.L, mapC pb (Value.int .i64) propV D.P, restC w (coreC k t hb cb ab lb pb D).fp, cellC b36 96 (([(.int .i64 ((getP D.P (D.s.round : Int)).valid))] : List Value) ++ hc (getP D.P (D.s.round : Int)).h ++ ([(.bool ((getP D.P (D.s.round : Int)).ok))] : List Value))] w268)
        refine hK267 _ _ ?_
        clear hK267 K267
        refine wv 167 (pt k 0) ?_
        refine wv 168 (pt k 4) ?_
        refine wv 169 (pt k 7) ?_
        refine wl_do (wants0 rfl) (fun K271 hK271 => ?_)
        refine d_storeX (vs := ([(.int .i64 (D.s.round))] : List Value)) (cs' := (coreW D.f D.c D.epoch D.replica D.s.round D.s.step D.s.lr D.s.round D.s.locked ((getP D.P (D.s.round : Int)).h) D.s.decided D.s.decision t pb true D.sp D.sc)) rfl H269 0 rfl rfl rfl rfl (by kernel_rfl) (Nat.le_of_ble_eq_true (by kernel_rfl)) (Nat.le_of_ble_eq_true (by kernel_rfl)) (by kernel_rfl) (by kernel_rfl) ?_
        intro w272 (H273 : Sat w [cellC k 92 (coreW D.f D.c D.epoch D.replica D.s.round D.s.step D.s.lr D.s.round D.s.locked ((getP D.P (D.s.round : Int)).h) D.s.decided D.s.decision t pb true D.sp D.sc), talC t hb cb ab lb D.f D.c D.L, mapC pb (Value.int .i64) propV D.P, restC w (coreC k t hb cb ab lb pb D).fp, cellC b36 96 (([(.int .i64 ((getP D.P (D.s.round : Int)).valid))] : List Value) ++ hc (getP D.P (D.s.round : Int)).h ++ ([(.bool ((getP D.P (D.s.round : Int)).ok))] : List Value))] w272)
        refine hK271 _ _ ?_
        clear hK271 K271
        refine w_nil ?_
        refine then_normal ?_
        refine w_seq ?_
        refine w_lit ?_
        refine wv 170 (.slice none 0 0) ?_
        refine wv 2 (.slice none 0 0) ?_
        refine wv 3 (.bool true) ?_
        refine w_nil ?_
        refine then_normal ?_
        refine w_ret ?_
        refine then_ret ?_
        refine end2 rfl (res_tmp (v := (.slice none 0 0)) rfl) (res_tmp (v := (.bool true)) rfl) ?_
        have Hn := H273.addNil 45 35
        exact .inl ⟨_, validD (wvD D) (getP D.P D.s.round).h, [], rfl, by rw [ruleD_b, if_neg (of_decide_eq_false b5), if_neg (of_decide_eq_false b22), if_neg (by rw [b53]; simp), if_pos b236, if_neg (of_decide_eq_false b241)], (Hn.pick [0, 1, 2, 5, 3] (by decide)).cast (by kernel_rfl)⟩
      ·refine wp_know 134 (.bool false) (congrArg Value.bool b236) ?_
       refine wp_iff rfl ?_
       refine w_skip ?_
       refine then_normal ?_
       refine w_seq ?_
       refine wp_meetR [171, 172, 173, 174, 175, 176, 177, 178, 179, 180, 181, 182, 183, 184, 185, 186, 187] (fun G_ W_ => G_ 187 = (.bool (c5 D)) ∧ Sat w [cellC k 92 (coreL t pb D), talC t hb cb ab lb D.f D.c D.L, mapC pb (Value.int .i64) propV D.P, restC w (coreC k t hb cb ab lb pb D).fp, cellC b36 96 (([(.int .i64 ((getP D.P (D.s.round : Int)).valid))] : List Value) ++ hc (getP D.P (D.s.round : Int)).h ++ ([(.bool ((getP D.P (D.s.round : Int)).ok))] : List Value))] W_) ?_ ?_
       ·refine w_lit ?_
        refine wv 171 (pt k 0) ?_
        refine wv 172 (pt k 0) ?_
        refine wv 173 (pt k 4) ?_
        refine wv 174 (pt k 5) ?_
        refine wv 175 (.int .i64 (D.s.step)) ?_ (hr := e_load1 rfl (by kernel_rfl) (H234.cell 0 rfl (by kernel_rfl)))
        refine wv 176 (.bool (decide (D.s.step = 2))) ?_
        refine wv 177 (.bool (decide (D.s.step = 2))) ?_
        refine (bsplit (decide (D.s.step = 2))).elim (fun b276 => ?_) (fun b276 => ?_)
        ·have g277 := of_decide_eq_true b276
         refine wl_know 177 (.bool true) (congrArg Value.bool b276) ?_
         refine wy 6 177 true 178 (pt k 0) ?_
         refine wy 6 177 true 179 (pt k 0) ?_
         refine wy 6 177 true 180 (pt k 105) ?_
         refine wy 6 177 true 181 (pt t 0) ?_ (hr := e_load1 rfl (by kernel_rfl) (H234.cell 0 rfl (by kernel_rfl)))
         refine wy 6 177 true 182 (.int .i64 (D.s.round)) ?_
         refine wy 6 177 true 183 (.agg ⟨(hc hash0)⟩) ?_
         refine wl_do (wantsY 6 177 true rfl (by kernel_rfl) rfl (by kernel_rfl)) (fun K278 hK278 => ?_)
         refine d_call (d := 184) rfl (by kernel_rfl) (talFor_any w233 t hb cb ab lb D.f D.c D.L (H234.at 1 rfl) 1 D.s.round hash0) ?_
         rintro _ w279 ⟨rfl, u281⟩
         have H280 := H234.keepU u281
         refine ⟨_, rfl, ?_⟩
         refine hK278 _ _ ?_
         clear hK278 K278
         refine wy 6 177 true 185 (.int .i64 (2 * D.f + 1)) ?_
         refine wy 6 177 true 186 (.bool (decide ((forV D.L 1 D.s.round hash0) ≥ (2 * D.f + 1)))) ?_
         refine wv 187 (.bool (decide ((forV D.L 1 D.s.round hash0) ≥ (2 * D.f + 1)))) ?_
         refine w_nil ?_
         refine meetR_at ?_ ⟨(congrArg Value.bool (show (decide ((forV D.L 1 D.s.round hash0) ≥ (2 * D.f + 1))) = (c5 D) by simp [c5, b276])), H280⟩
         exact (same_upd rfl (same_upd rfl (same_upd rfl (same_upd rfl (same_upd rfl (same_upd rfl (same_upd rfl (same_upd rfl (same_upd rfl (same_upd rfl (same_upd rfl (same_upd rfl (same_upd rfl (same_upd rfl (same_upd rfl (same_upd rfl (same_upd rfl (same_upd rfl (same_refl)))))))))))))))))))
        ·have g282 := of_decide_eq_false b276
         refine wl_know 177 (.bool false) (congrArg Value.bool b276) ?_
         iterate 9 refine wn 6 177 true ?_
         refine wv 187 (.bool false) ?_
         refine w_nil ?_
         refine meetR_at ?_ ⟨(congrArg Value.bool (show false = (c5 D) by simp [c5, b276])), H234⟩
         exact (same_upd rfl (same_upd rfl (same_upd rfl (same_upd rfl (same_upd rfl (same_upd rfl (same_upd rfl (same_upd rfl (same_upd rfl (same_upd rfl (same_upd rfl (same_upd rfl (same_upd rfl (same_upd rfl (same_upd rfl (same_upd rfl (same_upd rfl (same_upd rfl (same_refl)))))))))))))))))))
       ·rintro f283 w284 ⟨v286, H285⟩
        refine wp_know 187 _ v286 ?_
        refine (bsplit (c5 D)).elim (fun b287 => ?_) (fun b287 => ?_)
        ·refine wp_know 187 (.bool true) (congrArg Value.bool b287) ?_
         refine wp_ift rfl ?_
         refine w_seq ?_
         refine w_lit ?_
         refine wv 188 (pt k 0) ?_
         refine wv 189 (.agg ⟨(hc hash0)⟩) ?_
         refine wl_do (wants0 rfl) (fun K288 hK288 => ?_)
         refine d_call (d := 190) rfl (by kernel_rfl) (corePrecommit_any w284 k t hb cb ab lb pb D (ok_of (by kernel_rfl) (H285.fin [0, 1, 2] (by decide) rfl)) h hash0 ) ?_
         rintro _ w290 ⟨v289, rfl, S291⟩
         have H292 : Sat w [cellC k 92 (coreL t pb (ownV D 2 3 hash0)), talC t hb cb ab lb (ownV D 2 3 hash0).f (ownV D 2 3 hash0).c (ownV D 2 3 hash0).L, mapC pb (Value.int .i64) propV (ownV D 2 3 hash0).P, restC w (coreC k t hb cb ab lb pb D).fp, cellC b36 96 (([(.int .i64 ((getP D.P (D.s.round : Int)).valid))] : List Value) ++ hc (getP D.P (D.s.round : Int)).h ++ ([(.bool ((getP D.P (D.s.round : Int)).ok))] : List Value)), rowC 45 35 v289 ((ownA D 3 hash0).length) ((ownA D 3 hash0).flatMap encA)] w290 := (Sat.turnL (L' := [cellC k 92 (coreL t pb (ownV D 2 3 hash0)), talC t hb cb ab lb (ownV D 2 3 hash0).f (ownV D 2 3 hash0).c (ownV D 2 3 hash0).L, mapC pb (Value.int .i64) propV (ownV D 2 3 hash0).P, rowC 45 35 v289 ((ownA D 3 hash0).length) ((ownA D 3 hash0).flatMap encA)]) (R := [restC w (coreC k t hb cb ab lb pb D).fp, cellC b36 96 (([(.int .i64 ((getP D.P (D.s.round : Int)).valid))] : List Value) ++ hc (getP D.P (D.s.round : Int)).h ++ ([(.bool ((getP D.P (D.s.round : Int)).ok))] : List Value))]) H285 [0, 1, 2] [3, 4] (by decide) (by kernel_rfl) rfl S291).pick [0, 1, 2, 4, 5, 3] (by decide)
         obtain ⟨a293, c294, rfl⟩ := ownsRow_shape (H292.at 5 rfl)
         refine ⟨_, rfl, ?_⟩
         refine hK288 _ _ ?_
         clear hK288 K288
         refine wv 2 (.slice a293 ((ownA D 3 hash0).length) c294) ?_
         refine wv 3 (.bool true) ?_
         refine w_nil ?_
         refine then_normal ?_
         refine w_ret ?_
         refine then_ret ?_
         refine end2 rfl (res_tmp (v := (.slice a293 ((ownA D 3 hash0).length) c294)) rfl) (res_tmp (v := (.bool true)) rfl) ?_
         exact .inl ⟨_, ownV D 2 3 hash0, ownA D 3 hash0, rfl, by rw [ruleD_b, if_neg (of_decide_eq_false b5), if_neg (of_decide_eq_false b22), if_neg (by rw [b53]; simp), if_neg (by rw [b236]; simp), if_pos b287], (H292.pick [0, 1, 2, 5, 3] (by decide)).cast (by kernel_rfl)⟩
        ·refine wp_know 187 (.bool false) (congrArg Value.bool b287) ?_
         refine wp_iff rfl ?_
         refine w_skip ?_
         refine then_normal ?_
         refine w_seq ?_
         refine wp_meetR [191, 192, 193, 194, 195, 196, 197, 198, 199, 200, 201, 202, 203, 204, 205, 206, 207, 208, 209, 210, 211, 212, 213] (fun G_ W_ => G_ 213 = (.bool (c6 D)) ∧ Sat w [cellC k 92 (coreL t pb D), talC t hb cb ab lb D.f D.c D.L, mapC pb (Value.int .i64) propV D.P, restC w (coreC k t hb cb ab lb pb D).fp, cellC b36 96 (([(.int .i64 ((getP D.P (D.s.round : Int)).valid))] : List Value) ++ hc (getP D.P (D.s.round : Int)).h ++ ([(.bool ((getP D.P (D.s.round : Int)).ok))] : List Value))] W_) ?_ ?_
         ·refine w_lit ?_
          refine wv 191 (pt k 0) ?_
          refine wv 192 (pt k 0) ?_
          refine wv 193 (pt k 4) ?_
          refine wv 194 (pt k 5) ?_
          refine wv 195 (.int .i64 (D.s.step)) ?_ (hr := e_load1 rfl (by kernel_rfl) (H285.cell 0 rfl (by kernel_rfl)))
          refine wv 196 (.bool (decide (D.s.step = 2))) ?_
          refine wv 197 (.bool (decide (D.s.step = 2))) ?_
          refine (bsplit (decide (D.s.step = 2))).elim (fun b296 => ?_) (fun b296 => ?_)
          ·have g297 := of_decide_eq_true b296
           refine wl_know 197 (.bool true) (congrArg Value.bool b296) ?_
           refine wy 6 197 true 198 (pt k 0) ?_
           refine wy 6 197 true 199 (pt k 0) ?_
           refine wy 6 197 true 200 (pt k 108) ?_
           refine wy 6 197 true 201 (.bool (D.sp)) ?_ (hr := e_load1 rfl (by kernel_rfl) (H285.cell 0 rfl (by kernel_rfl)))
           refine wy 6 197 true 202 (.bool (!(D.sp))) ?_
           refine wv 203 (.bool (!(D.sp))) ?_
           refine wv 204 (.bool (!(D.sp))) ?_
           refine (bsplit (!(D.sp))).elim (fun b298 => ?_) (fun b298 => ?_)
           ·have g299 := bnot_true b298
            refine wl_know 204 (.bool true) (congrArg Value.bool b298) ?_
            refine wy 13 204 true 205 (pt k 0) ?_
            refine wy 13 204 true 206 (pt k 0) ?_
            refine wy 13 204 true 207 (pt k 105) ?_
            refine wy 13 204 true 208 (pt t 0) ?_ (hr := e_load1 rfl (by kernel_rfl) (H285.cell 0 rfl (by kernel_rfl)))
            refine wy 13 204 true 209 (.int .i64 (D.s.round)) ?_
            refine wl_do (wantsY 13 204 true rfl (by kernel_rfl) rfl (by kernel_rfl)) (fun K300 hK300 => ?_)
            refine d_call (d := 210) rfl (by kernel_rfl) (talAll_any w284 t hb cb ab lb D.f D.c D.L (H285.at 1 rfl) 1 D.s.round) ?_
            rintro _ w301 ⟨rfl, u303⟩
            have H302 := H285.keepU u303
            refine ⟨_, rfl, ?_⟩
            refine hK300 _ _ ?_
            clear hK300 K300
            refine wy 13 204 true 211 (.int .i64 (2 * D.f + 1)) ?_
            refine wy 13 204 true 212 (.bool (decide ((allV D.L 1 D.s.round) ≥ (2 * D.f + 1)))) ?_
            refine wv 213 (.bool (decide ((allV D.L 1 D.s.round) ≥ (2 * D.f + 1)))) ?_
            refine w_nil ?_
            refine meetR_at ?_ ⟨(congrArg Value.bool (show (decide ((allV D.L 1 D.s.round) ≥ (2 * D.f + 1))) = (c6 D) by simp [c6, b296, b298])), H302⟩
            exact (same_upd rfl (same_upd rfl (same_upd rfl (same_upd rfl (same_upd rfl (same_upd rfl (same_upd rfl (same_upd rfl (same_upd rfl (same_upd rfl (same_upd rfl (same_upd rfl (same_upd rfl (same_upd rfl (same_upd rfl (same_upd rfl (same_upd rfl (same_upd rfl (same_upd rfl (same_upd rfl (same_upd rfl (same_upd rfl (same_upd rfl (same_upd rfl (same_upd rfl (same_refl))))))))))))))))))))))))))
           ·have g304 := bnot_false b298
            refine wl_know 204 (.bool false) (congrArg Value.bool b298) ?_
            iterate 8 refine wn 13 204 true ?_
            refine wv 213 (.bool false) ?_
            refine w_nil ?_
            refine meetR_at ?_ ⟨(congrArg Value.bool (show false = (c6 D) by simp [c6, b296, b298])), H285⟩
            exact (same_upd rfl (same_upd rfl (same_upd rfl (same_upd rfl (same_upd rfl (same_upd rfl (same_upd rfl (same_upd rfl (same_upd rfl (same_upd rfl (same_upd rfl (same_upd rfl (same_upd rfl (same_upd rfl (same_upd rfl (same_upd rfl (same_upd rfl (same_upd rfl (same_upd rfl (same_upd rfl (same_upd rfl (same_upd rfl (same_upd rfl (same_upd rfl (same_upd rfl (same_refl))))))))))))))))))))))))))
          ·have g305 := of_decide_eq_false b296
           refine wl_know 197 (.bool false) (congrArg Value.bool b296) ?_
           iterate 5 refine wn 6 197 true ?_
           refine wv 203 (.bool false) ?_
           refine wv 204 (.bool false) ?_
           iterate 8 refine wn 13 204 true ?_
           refine wv 213 (.bool false) ?_
           refine w_nil ?_
           refine meetR_at ?_ ⟨(congrArg Value.bool (show false = (c6 D) by simp [c6, b296])), H285⟩
           exact (same_upd rfl (same_upd rfl (same_upd rfl (same_upd rfl (same_upd rfl (same_upd rfl (same_upd rfl (same_upd rfl (same_upd rfl (same_upd rfl (same_upd rfl (same_upd rfl (same_upd rfl (same_upd rfl (same_upd rfl (same_upd rfl (same_upd rfl (same_upd rfl (same_upd rfl (same_upd rfl (same_upd rfl (same_upd rfl (same_upd rfl (same_upd rfl (same_refl)))))))))))))))))))))))))
         ·rintro f306 w307 ⟨v309, H308⟩
          refine wp_know 213 _ v309 ?_
          refine (bsplit (c6 D)).elim (fun b310 => ?_) (fun b310 => ?_)
          ·refine wp_know 213 (.bool true) (congrArg Value.bool b310) ?_
           refine wp_ift rfl ?_
           refine w_seq ?_
           refine w_lit ?_
           refine wv 214 (pt k 0) ?_
           refine wv 215 (pt k 0) ?_
           refine wv 216 (pt k 108) ?_
           refine wl_do (wants0 rfl) (fun K311 hK311 => ?_)
           refine d_storeX (vs := ([(.bool true)] : List Value)) (cs' := (coreW D.f D.c D.epoch D.replica D.s.round D.s.step D.s.lr D.s.vr D.s.locked D.s.valid D.s.decided D.s.decision t pb D.wv true D.sc)) rfl H308 0 rfl rfl rfl rfl (by kernel_rfl) (Nat.le_of_ble_eq_true (by kernel_rfl)) (Nat.le_of_ble_eq_true (by kernel_rfl)) (by kernel_rfl) (by kernel_rfl) ?_
           intro w312 (H313 : Sat w [cellC k 92 (coreW D.f D.c D.epoch D.replica D.s.round D.s.step D.s.lr D.s.vr D.s.locked D.s.valid D.s.decided D.s.decision t pb D.wv true D.sc), talC t hb cb ab lb D.f D.c D.L, mapC pb (Value.int .i64) propV D.P, restC w (coreC k t hb cb ab lb pb D).fp, cellC b36 96 (([(.int .i64 ((getP D.P (D.s.round : Int)).valid))] : List Value) ++ hc (getP D.P (D.s.round : Int)).h ++ ([(.bool ((getP D.P (D.s.round : Int)).ok))] : List Value))] w312)
           refine hK311 _ _ ?_
           clear hK311 K311
           refine w_nil ?_
           refine then_normal ?_
           refine w_seq ?_
           refine w_lit ?_
           refine wv 217 (pt k 0) ?_
           refine wl_do (wants0 rfl) (fun K315 hK315 => ?_)
           refine d_call (d := 218) rfl (by kernel_rfl) (coreTimer_any w312 k _ _ D.s.round (H313.at 0 rfl) 2) ?_
           rintro _ w316 ⟨rfl, u318⟩
           have H317 := H313.keepU u318
           refine ⟨_, rfl, ?_⟩
           refine hK315 _ _ ?_
           clear hK315 K315
           refine wl_do (wants0 rfl) (fun K319 hK319 => ?_)
           refine d_buildSlice (e := 45) (size := 35) (bytes := 56) (z := (.agg ⟨(([(.int .i64 (0)), (.int .i64 (0)), (.int .i64 (0))] : List Value) ++ hc hash0)⟩)) (pvs := [(0, (.agg ⟨(([(.int .i64 (4)), (.int .i64 (D.s.round)), (.int .i64 (2))] : List Value) ++ hc hash0)⟩))]) (vs := (([(.int .i64 (4)), (.int .i64 (D.s.round)), (.int .i64 (2))] : List Value) ++ hc hash0)) rfl H317 (by kernel_rfl) (by kernel_rfl) (by kernel_rfl) (by kernel_rfl) (by kernel_rfl) rfl rfl ?_
           intro b320 w321 (H322 : Sat w [cellC k 92 (coreW D.f D.c D.epoch D.replica D.s.round D.s.step D.s.lr D.s.vr D.s.locked D.s.valid D.s.decided D.s.decision t pb D.wv true D.sc), talC t hb cb ab lb D.f D.c D.L, mapC pb (Value.int .i64) propV D.P, restC w (coreC k t hb cb ab lb pb D).fp, cellC b36 96 (([(.int .i64 ((getP D.P (D.s.round : Int)).valid))] : List Value) ++ hc (getP D.P (D.s.round : Int)).h ++ ([(.bool ((getP D.P (D.s.round : Int)).ok))] : List Value)), rowC 45 35 (.slice (some ⟨b320, 0, none⟩) 1 1) 1 (([(.int .i64 (4)), (.int .i64 (D.s.round)), (.int .i64 (2))] : List Value) ++ hc hash0)] w321)
           refine hK319 _ _ ?_
           clear hK319 K319
           refine wv 2 (.slice (some ⟨b320, 0, none⟩) 1 1) ?_
           refine wv 3 (.bool true) ?_
           refine w_nil ?_
           refine then_normal ?_
           refine w_ret ?_
           refine then_ret ?_
           refine end2 rfl (res_tmp (v := (.slice (some ⟨b320, 0, none⟩) 1 1)) rfl) (res_tmp (v := (.bool true)) rfl) ?_
           exact .inl ⟨_, { D with sp := true }, [⟨4, D.s.round, 2, hash0⟩], rfl, by rw [ruleD_b, if_neg (of_decide_eq_false b5), if_neg (of_decide_eq_false b22), if_neg (by rw [b53]; simp), if_neg (by rw [b236]; simp), if_neg (by rw [b287]; simp), if_pos b310], (H322.pick [0, 1, 2, 5, 3] (by decide)).cast (by kernel_rfl)⟩
          ·refine wp_know 213 (.bool false) (congrArg Value.bool b310) ?_
           refine wp_iff rfl ?_
           refine w_skip ?_
           refine then_normal ?_
           refine w_seq ?_
           refine wp_meetR [220, 221, 222, 223, 224, 225, 226, 227, 228, 229, 230, 231, 232, 233, 234] (fun G_ W_ => G_ 234 = (.bool (c7 D)) ∧ Sat w [cellC k 92 (coreL t pb D), talC t hb cb ab lb D.f D.c D.L, mapC pb (Value.int .i64) propV D.P, restC w (coreC k t hb cb ab lb pb D).fp, cellC b36 96 (([(.int .i64 ((getP D.P (D.s.round : Int)).valid))] : List Value) ++ hc (getP D.P (D.s.round : Int)).h ++ ([(.bool ((getP D.P (D.s.round : Int)).ok))] : List Value))] W_) ?_ ?_
           ·refine w_lit ?_
            refine wv 220 (pt k 0) ?_
            refine wv 221 (pt k 0) ?_
            refine wv 222 (pt k 109) ?_
            refine wv 223 (.bool (D.sc)) ?_ (hr := e_load1 rfl (by kernel_rfl) (H308.cell 0 rfl (by kernel_rfl)))
            refine wv 224 (.bool (!(D.sc))) ?_
            refine wv 225 (.bool (!(D.sc))) ?_
            refine (bsplit (!(D.sc))).elim (fun b324 => ?_) (fun b324 => ?_)
            ·have g325 := bnot_true b324
             refine wl_know 225 (.bool true) (congrArg Value.bool b324) ?_
             refine wy 5 225 true 226 (pt k 0) ?_
             refine wy 5 225 true 227 (pt k 0) ?_
             refine wy 5 225 true 228 (pt k 105) ?_
             refine wy 5 225 true 229 (pt t 0) ?_ (hr := e_load1 rfl (by kernel_rfl) (H308.cell 0 rfl (by kernel_rfl)))
             refine wy 5 225 true 230 (.int .i64 (D.s.round)) ?_
             refine wl_do (wantsY 5 225 true rfl (by kernel_rfl) rfl (by kernel_rfl)) (fun K326 hK326 => ?_)
             refine d_call (d := 231) rfl (by kernel_rfl) (talAll_any w307 t hb cb ab lb D.f D.c D.L (H308.at 1 rfl) 2 D.s.round) ?_
             rintro _ w327 ⟨rfl, u329⟩
             have H328 := H308.keepU u329
             refine ⟨_, rfl, ?_⟩
             refine hK326 _ _ ?_
             clear hK326 K326
             refine wy 5 225 true 232 (.int .i64 (2 * D.f + 1)) ?_
             refine wy 5 225 true 233 (.bool (decide ((allV D.L 2 D.s.round) ≥ (2 * D.f + 1)))) ?_
             refine wv 234 (.bool (decide ((allV D.L 2 D.s.round) ≥ (2 * D.f + 1)))) ?_
             refine w_nil ?_
             refine meetR_at ?_ ⟨(congrArg Value.bool (show (decide ((allV D.L 2 D.s.round) ≥ (2 * D.f + 1))) = (c7 D) by simp [c7, b324])), H328⟩
             exact (same_upd rfl (same_upd rfl (same_upd rfl (same_upd rfl (same_upd rfl (same_upd rfl (same_upd rfl (same_upd rfl (same_upd rfl (same_upd rfl (same_upd rfl (same_upd rfl (same_upd rfl (same_upd rfl (same_upd rfl (same_upd rfl (same_refl)))))))))))))))))
            ·have g330 := bnot_false b324
             refine wl_know 225 (.bool false) (congrArg Value.bool b324) ?_
             iterate 8 refine wn 5 225 true ?_
             refine wv 234 (.bool false) ?_
             refine w_nil ?_
             refine meetR_at ?_ ⟨(congrArg Value.bool (show false = (c7 D) by simp [c7, b324])), H308⟩
             exact (same_upd rfl (same_upd rfl (same_upd rfl (same_upd rfl (same_upd rfl (same_upd rfl (same_upd rfl (same_upd rfl (same_upd rfl (same_upd rfl (same_upd rfl (same_upd rfl (same_upd rfl (same_upd rfl (same_upd rfl (same_upd rfl (same_refl)))))))))))))))))
           ·rintro f331 w332 ⟨v334, H333⟩
            refine wp_know 234 _ v334 ?_
            refine (bsplit (c7 D)).elim (fun b335 => ?_) (fun b335 => ?_)
            ·refine wp_know 234 (.bool true) (congrArg Value.bool b335) ?_
             refine wp_ift rfl ?_
             refine w_seq ?_
             refine w_lit ?_
             refine wv 235 (pt k 0) ?_
             refine wv 236 (pt k 0) ?_
             refine wv 237 (pt k 109) ?_
             refine wl_do (wants0 rfl) (fun K336 hK336 => ?_)
             refine d_storeX (vs := ([(.bool true)] : List Value)) (cs' := (coreW D.f D.c D.epoch D.replica D.s.round D.s.step D.s.lr D.s.vr D.s.locked D.s.valid D.s.decided D.s.decision t pb D.wv D.sp true)) rfl H333 0 rfl rfl rfl rfl (by kernel_rfl) (Nat.le_of_ble_eq_true (by kernel_rfl)) (Nat.le_of_ble_eq_true (by kernel_rfl)) (by kernel_rfl) (by kernel_rfl) ?_
             intro w337 (H338 : Sat w [cellC k 92 (coreW D.f D.c D.epoch D.replica D.s.round D.s.step D.s.lr D.s.vr D.s.locked D.s.valid D.s.decided D.s.decision t pb D.wv D.sp true), talC t hb cb ab lb D.f D.c D.L, mapC pb (Value.int .i64) propV D.P, restC w (coreC k t hb cb ab lb pb D).fp, cellC b36 96 (([(.int .i64 ((getP D.P (D.s.round : Int)).valid))] : List Value) ++ hc (getP D.P (D.s.round : Int)).h ++ ([(.bool ((getP D.P (D.s.round : Int)).ok))] : List Value))] w337)
             refine hK336 _ _ ?_
             clear hK336 K336
             refine w_nil ?_
             refine then_normal ?_
             refine w_seq ?_
             refine w_lit ?_
             refine wv 238 (pt k 0) ?_
             refine wl_do (wants0 rfl) (fun K340 hK340 => ?_)
             refine d_call (d := 239) rfl (by kernel_rfl) (coreTimer_any w337 k _ _ D.s.round (H338.at 0 rfl) 3) ?_
             rintro _ w341 ⟨rfl, u343⟩
             have H342 := H338.keepU u343
             refine ⟨_, rfl, ?_⟩
             refine hK340 _ _ ?_
             clear hK340 K340
             refine wl_do (wants0 rfl) (fun K344 hK344 => ?_)
             refine d_buildSlice (e := 45) (size := 35) (bytes := 56) (z := (.agg ⟨(([(.int .i64 (0)), (.int .i64 (0)), (.int .i64 (0))] : List Value) ++ hc hash0)⟩)) (pvs := [(0, (.agg ⟨(([(.int .i64 (4)), (.int .i64 (D.s.round)), (.int .i64 (3))] : List Value) ++ hc hash0)⟩))]) (vs := (([(.int .i64 (4)), (.int .i64 (D.s.round)), (.int .i64 (3))] : List Value) ++ hc hash0)) rfl H342 (by kernel_rfl) (by kernel_rfl) (by kernel_rfl) (by kernel_rfl) (by kernel_rfl) rfl rfl ?_
             intro b345 w346 (H347 : Sat w [cellC k 92 (coreW D.f D.c D.epoch D.replica D.s.round D.s.step D.s.lr D.s.vr D.s.locked D.s.valid D.s.decided D.s.decision t pb D.wv D.sp true), talC t hb cb ab lb D.f D.c D.L, mapC pb (Value.int .i64) propV D.P, restC w (coreC k t hb cb ab lb pb D).fp, cellC b36 96 (([(.int .i64 ((getP D.P (D.s.round : Int)).valid))] : List Value) ++ hc (getP D.P (D.s.round : Int)).h ++ ([(.bool ((getP D.P (D.s.round : Int)).ok))] : List Value)), rowC 45 35 (.slice (some ⟨b345, 0, none⟩) 1 1) 1 (([(.int .i64 (4)), (.int .i64 (D.s.round)), (.int .i64 (3))] : List Value) ++ hc hash0)] w346)
             refine hK344 _ _ ?_
             clear hK344 K344
             refine wv 2 (.slice (some ⟨b345, 0, none⟩) 1 1) ?_
             refine wv 3 (.bool true) ?_
             refine w_nil ?_
             refine then_normal ?_
             refine w_ret ?_
             refine then_ret ?_
             refine end2 rfl (res_tmp (v := (.slice (some ⟨b345, 0, none⟩) 1 1)) rfl) (res_tmp (v := (.bool true)) rfl) ?_
             exact .inl ⟨_, { D with sc := true }, [⟨4, D.s.round, 3, hash0⟩], rfl, by rw [ruleD_b, if_neg (of_decide_eq_false b5), if_neg (of_decide_eq_false b22), if_neg (by rw [b53]; simp), if_neg (by rw [b236]; simp), if_neg (by rw [b287]; simp), if_neg (by rw [b310]; simp), if_pos b335], (H347.pick [0, 1, 2, 5, 3] (by decide)).cast (by kernel_rfl)⟩
            ·refine wp_know 234 (.bool false) (congrArg Value.bool b335) ?_
             refine wp_iff rfl ?_
             refine w_skip ?_
             refine then_normal ?_
             refine w_seq ?_
             refine w_lit ?_
             refine wv 2 (.slice none 0 0) ?_
             refine wv 3 (.bool false) ?_
             refine w_nil ?_
             refine then_normal ?_
             refine w_ret ?_
             refine end2 rfl (res_tmp (v := (.slice none 0 0)) rfl) (res_tmp (v := (.bool false)) rfl) ?_
             have Hn := H333.addNil 45 35
             exact .inr ⟨_, rfl, by rw [ruleD_b, if_neg (of_decide_eq_false b5), if_neg (of_decide_eq_false b22), if_neg (by rw [b53]; simp), if_neg (by rw [b236]; simp), if_neg (by rw [b287]; simp), if_neg (by rw [b310]; simp), if_neg (by rw [b335]; simp)], (Hn.pick [0, 1, 2, 5, 3] (by decide)).cast (by kernel_rfl)⟩

set_option maxRecDepth 100000 in
set_option maxHeartbeats 1000000 in
theorem coreSettle_any (w : World) (k t hb cb ab lb pb : Nat) (D : CoreD) (hT : (coreC k t hb cb ab lb pb D).ok w) (h : CI D) :
  Calls Try.prog 36 #[(.pointer (some ⟨k, 0, none⟩))] w fun e w' => ∃ v, e = .returned v ∧ Sat w [cellC k 92 (coreL t pb ((settleD D).1)), talC t hb cb ab lb ((settleD D).1).f ((settleD D).1).c ((settleD D).1).L, mapC pb (Value.int .i64) propV ((settleD D).1).P, rowC 45 35 v ((settleD D).2).length (((settleD D).2).flatMap encA), restC w (coreC k t hb cb ab lb pb D).fp] w' := by
 have H : Sat w [cellC k 92 (coreL t pb D), talC t hb cb ab lb D.f D.c D.L, mapC pb (Value.int .i64) propV D.P, restC w (coreC k t hb cb ab lb pb D).fp] w := Sat.start _ hT
 have hf := h.f
 have hep := h.ep
 have hrp := h.rp
 have hrd := h.rd
 have hst := h.st
 have hvo := h.votes
 refine calls_fr Try.func36 rfl 31 rfl (Nat.le_of_ble_eq_true rfl) ?_
 refine w_seq ?_
 refine w_lit ?_
 refine wv 2 (.slice none 0 0) ?_
 refine w_nil ?_
 refine then_normal ?_
 refine w_seq ?_
 refine w_lit ?_
 refine wv 3 (.slice none 0 0) ?_
 refine w_nil ?_
 refine then_normal ?_
 refine w_seq ?_
 refine w_block ?_
 have Hn := H.addNil 45 35
 refine wp_round [3, 4, 5, 6, 7, 8, 9, 10, 11, 12, 13, 14, 15, 16, 17, 18, 19, 20, 21, 22, 23, 24, 25, 26, 27, 28, 29] (fun F_ W_ m_ => ∃ (D1 : CoreD) (A : List ActD) (a : Option Addr) (q : Nat), F_ 3 = (.slice a A.length q) ∧ (CI D1) ∧ (settleD D = ((settleD D1).1, A ++ (settleD D1).2)) ∧ (A.length + muD D1 ≤ muD D) ∧ Sat w [cellC k 92 (coreL t pb D1), talC t hb cb ab lb D1.f D1.c D1.L, mapC pb (Value.int .i64) propV D1.P, restC w (coreC k t hb cb ab lb pb D).fp, rowC 45 35 (.slice a A.length q) A.length (A.flatMap encA)] W_ ∧ m_ = muD D1) _ ⟨D, [], none, 0, (by first | rfl | go_num), h, (by simp), (by simp), Hn, rfl⟩ ?_
 rintro g1 w2 _ ⟨D1, A, a, q, v4, hC, hS, hL, H3, rfl⟩
 refine wp_know 3 _ v4 ?_
 have hmu := muD_le D h
 have hf := hC.f
 have hst := hC.st
 refine w_seq ?_
 refine wp_meetR [6, 7, 8, 9, 10, 11, 12, 13, 14, 15, 16, 17, 18, 19] (fun G_ W_ => G_ 19 = (.bool (goesB D1)) ∧ Sat w [cellC k 92 (coreL t pb D1), talC t hb cb ab lb D1.f D1.c D1.L, mapC pb (Value.int .i64) propV D1.P, restC w (coreC k t hb cb ab lb pb D).fp, rowC 45 35 (.slice a A.length q) A.length (A.flatMap encA)] W_) ?_ ?_
 ·refine w_lit ?_
  refine wv 6 (pt k 0) ?_
  refine wv 7 (pt k 0) ?_
  refine wv 8 (pt k 4) ?_
  refine wv 9 (pt k 5) ?_
  refine wv 10 (.int .i64 (D1.s.step)) ?_ (hr := e_load1 rfl (by kernel_rfl) (H3.cell 0 rfl (by kernel_rfl)))
  refine wv 11 (.bool (decide (D1.s.step > 0))) ?_
  refine wv 12 (.bool (decide (D1.s.step > 0))) ?_
  refine (bsplit (decide (D1.s.step > 0))).elim (fun b7 => ?_) (fun b7 => ?_)
  ·have g8 := of_decide_eq_true b7
   refine wl_know 12 (.bool true) (congrArg Value.bool b7) ?_
   refine wy 6 12 true 13 (pt k 0) ?_
   refine wy 6 12 true 14 (pt k 0) ?_
   refine wy 6 12 true 15 (pt k 4) ?_
   refine wy 6 12 true 16 (pt k 72) ?_
   refine wy 6 12 true 17 (.bool (D1.s.decided)) ?_ (hr := e_load1 rfl (by kernel_rfl) (H3.cell 0 rfl (by kernel_rfl)))
   refine wy 6 12 true 18 (.bool (!(D1.s.decided))) ?_
   refine wv 19 (.bool (!(D1.s.decided))) ?_
   refine w_nil ?_
   refine meetR_at ?_ ⟨(congrArg Value.bool (show (!(D1.s.decided)) = (goesB D1) by simp [goesB, of_decide_eq_true b7] <;> omega)), H3⟩
   exact (same_upd rfl (same_upd rfl (same_upd rfl (same_upd rfl (same_upd rfl (same_upd rfl (same_upd rfl (same_upd rfl (same_upd rfl (same_upd rfl (same_upd rfl (same_upd rfl (same_upd rfl (same_upd rfl (same_upd rfl (same_refl))))))))))))))))
  ·have g9 := of_decide_eq_false b7
   refine wl_know 12 (.bool false) (congrArg Value.bool b7) ?_
   iterate 6 refine wn 6 12 true ?_
   refine wv 19 (.bool false) ?_
   refine w_nil ?_
   refine meetR_at ?_ ⟨(congrArg Value.bool (show false = (goesB D1) by simp [goesB, of_decide_eq_false b7] <;> omega)), H3⟩
   exact (same_upd rfl (same_upd rfl (same_upd rfl (same_upd rfl (same_upd rfl (same_upd rfl (same_upd rfl (same_upd rfl (same_upd rfl (same_upd rfl (same_upd rfl (same_upd rfl (same_upd rfl (same_upd rfl (same_upd rfl (same_refl))))))))))))))))
 ·rintro f10 w11 ⟨v13, H12⟩
  refine wp_know 19 _ v13 ?_
  refine (bsplit (goesB D1)).elim (fun b14 => ?_) (fun b14 => ?_)
  ·refine wp_know 19 (.bool true) (congrArg Value.bool b14) ?_
   refine wp_ift rfl ?_
   refine w_skip ?_
   refine then_normal ?_
   refine w_block ?_
   refine w_seq ?_
   refine w_lit ?_
   refine wv 21 (pt k 0) ?_
   refine wl_do (wants0 rfl) (fun K15 hK15 => ?_)
   refine d_call (d := 22) rfl (by kernel_rfl) (coreRule_any w11 k t hb cb ab lb pb D1 (ok_of (by kernel_rfl) (H12.fin [0, 1, 2] (by decide) rfl)) hC) ?_
   rintro _ w17 (⟨v16, E19, A20, rfl, r21, S18⟩ | ⟨v16, rfl, r21, S18⟩)
   ·have H22 : Sat w [cellC k 92 (coreL t pb E19), talC t hb cb ab lb E19.f E19.c E19.L, mapC pb (Value.int .i64) propV E19.P, restC w (coreC k t hb cb ab lb pb D).fp, rowC 45 35 (.slice a A.length q) A.length (A.flatMap encA), rowC 45 35 v16 A20.length (A20.flatMap encA)] w17 := (Sat.turnL (L' := [cellC k 92 (coreL t pb E19), talC t hb cb ab lb E19.f E19.c E19.L, mapC pb (Value.int .i64) propV E19.P, rowC 45 35 v16 A20.length (A20.flatMap encA)]) (R := [restC w (coreC k t hb cb ab lb pb D).fp, rowC 45 35 (.slice a A.length q) A.length (A.flatMap encA)]) H12 [0, 1, 2] [3, 4] (by decide) (by kernel_rfl) rfl S18).pick [0, 1, 2, 4, 5, 3] (by decide)
    obtain ⟨a23, c24, rfl⟩ := ownsRow_shape (H22.at 5 rfl)
    refine ⟨_, rfl, ?_⟩
    have hlr := (muD_rule hC b14 r21).2
    refine hK15 _ _ ?_
    clear hK15 K15
    refine wv 20 (.tuple #[(.slice a23 A20.length c24), (.bool true)]) ?_
    refine wv 23 (.slice a23 A20.length c24) ?_
    refine wv 24 (.bool true) ?_
    refine wv 4 (.slice a23 A20.length c24) ?_
    refine wv 5 (.bool true) ?_
    refine w_nil ?_
    refine then_normal ?_
    iterate 2 refine w_seq ?_
    refine w_lit ?_
    refine wv 25 (.bool true) ?_
    refine wv 26 (.bool false) ?_
    refine w_nil ?_
    refine then_normal ?_
    refine wp_iff rfl ?_
    refine w_skip ?_
    refine then_normal ?_
    refine w_lit ?_
    refine wv 27 (.slice a A.length q) ?_
    refine wv 28 (.slice a23 A20.length c24) ?_
    refine wl_do (wants0 rfl) (fun K25 hK25 => ?_)
    refine d_append (T := 31) (e := 45) (size := 35) (bytes := 56) rfl H22 (by kernel_rfl) 4 5 rfl rfl rfl rfl (flat_one encA encA_one A20) (by omega) (by omega) ?_
    intro v26 w27 (H28 : Sat w [cellC k 92 (coreL t pb E19), talC t hb cb ab lb E19.f E19.c E19.L, mapC pb (Value.int .i64) propV E19.P, restC w (coreC k t hb cb ab lb pb D).fp, rowC 45 35 v26 (A.length + A20.length) ((A.flatMap encA) ++ (A20.flatMap encA)), rowC 45 35 (.slice a23 A20.length c24) A20.length (A20.flatMap encA)] w27)
    obtain ⟨a29, c30, rfl⟩ := ownsRow_shape (H28.at 4 rfl)
    refine hK25 _ _ ?_
    clear hK25 K25
    refine wv 3 (.slice a29 (A.length + A20.length) c30) ?_
    refine w_nil ?_
    refine blk_normal ?_
    have hg := b14
    have hst := settle_step hC hg r21
    have hlt := muD_rule hC hg r21
    have H31 : Sat w [cellC k 92 (coreL t pb E19), talC t hb cb ab lb E19.f E19.c E19.L, mapC pb (Value.int .i64) propV E19.P, restC w (coreC k t hb cb ab lb pb D).fp, rowC 45 35 (.slice a29 (A ++ A20).length c30) ((A ++ A20).length) ((A ++ A20).flatMap encA)] w27 := (H28.pick [0, 1, 2, 3, 4] (by decide)).cast (by rw [← rows_app]; rfl)
    refine round_back ?_ _ ⟨E19, (A ++ A20), a29, c30, (show ((.slice a29 (A.length + A20.length) c30) : Value) = _ by rw [List.length_append]), hC.rule r21, (by rw [hS, hst]; simp), (by simp only [List.length_append]; omega), H31, rfl⟩ (by omega)
    exact (same_upd rfl (same_upd rfl (same_upd rfl (same_upd rfl (same_upd rfl (same_upd rfl (same_upd rfl (same_upd rfl (same_upd rfl (same_upd rfl (same_upd rfl (same_upd rfl (same_upd rfl (same_upd rfl (same_upd rfl (same_ovr2 rfl (same_upd rfl (same_ovr))))))))))))))))))
   ·have H32 : Sat w [cellC k 92 (coreL t pb D1), talC t hb cb ab lb D1.f D1.c D1.L, mapC pb (Value.int .i64) propV D1.P, restC w (coreC k t hb cb ab lb pb D).fp, rowC 45 35 (.slice a A.length q) A.length (A.flatMap encA), rowC 45 35 v16 0 ([])] w17 := (Sat.turnL (L' := [cellC k 92 (coreL t pb D1), talC t hb cb ab lb D1.f D1.c D1.L, mapC pb (Value.int .i64) propV D1.P, rowC 45 35 v16 0 ([])]) (R := [restC w (coreC k t hb cb ab lb pb D).fp, rowC 45 35 (.slice a A.length q) A.length (A.flatMap encA)]) H12 [0, 1, 2] [3, 4] (by decide) (by kernel_rfl) rfl S18).pick [0, 1, 2, 4, 5, 3] (by decide)
    obtain ⟨a33, c34, rfl⟩ := ownsRow_shape (H32.at 5 rfl)
    refine ⟨_, rfl, ?_⟩
    refine hK15 _ _ ?_
    clear hK15 K15
    refine wv 20 (.tuple #[(.slice a33 0 c34), (.bool false)]) ?_
    refine wv 23 (.slice a33 0 c34) ?_
    refine wv 24 (.bool false) ?_
    refine wv 4 (.slice a33 0 c34) ?_
    refine wv 5 (.bool false) ?_
    refine w_nil ?_
    refine then_normal ?_
    iterate 2 refine w_seq ?_
    refine w_lit ?_
    refine wv 25 (.bool false) ?_
    refine wv 26 (.bool true) ?_
    refine w_nil ?_
    refine then_normal ?_
    refine wp_ift rfl ?_
    refine w_exit ?_
    refine then_exit ?_
    refine blk_miss rfl ?_
    refine back_exit ?_
    refine blk_hit ?_
    refine then_normal ?_
    refine w_seq ?_
    refine w_lit ?_
    refine wv 30 (.slice a A.length q) ?_
    refine wv 2 (.slice a A.length q) ?_
    refine w_nil ?_
    refine then_normal ?_
    refine w_ret ?_
    refine end1 rfl (res_tmp (v := (.slice a A.length q)) rfl) ?_
    have hE : settleD D = (D1, A) := by rw [hS, settle_none r21]; simp
    rw [hE]
    exact ⟨_, rfl, (H32.pick [0, 1, 2, 4, 3] (by decide)).cast (by kernel_rfl)⟩
  ·refine wp_know 19 (.bool false) (congrArg Value.bool b14) ?_
   refine wp_iff rfl ?_
   refine w_exit ?_
   refine then_exit ?_
   refine back_exit ?_
   refine blk_hit ?_
   refine then_normal ?_
   refine w_seq ?_
   refine w_lit ?_
   refine wv 30 (.slice a A.length q) ?_
   refine wv 2 (.slice a A.length q) ?_
   refine w_nil ?_
   refine then_normal ?_
   refine w_ret ?_
   refine end1 rfl (res_tmp (v := (.slice a A.length q)) rfl) ?_
   have hE : settleD D = (D1, A) := by rw [hS, settle_stop b14]; simp
   rw [hE]
   exact ⟨_, rfl, (H12.pick [0, 1, 2, 4, 3] (by decide)).cast (by kernel_rfl)⟩

end Go.Proofs.Ythjmbhneifjeeaa
