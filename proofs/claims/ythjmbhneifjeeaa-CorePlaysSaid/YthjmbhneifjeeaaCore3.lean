/- WHAT IS PROVED: the contracts of a core's functions. Conditions: stated with each. -/
import Derived.Test.YthjmbhneifjeeaaShort
import Derived.Test.YthjmbhneifjeeaaCore2
namespace Go.Proofs.Ythjmbhneifjeeaa
open Go.RowKit

set_option maxRecDepth 100000 in
set_option maxHeartbeats 400000 in
theorem coreStart_any (w : World) (k t hb cb ab lb pb : Nat) (D : CoreD) (hT : (coreC k t hb cb ab lb pb D).ok w) (h : CI D) :
  Calls Try.prog 16 #[(.pointer (some ⟨k, 0, none⟩))] w fun e w' => ∃ v, e = .returned v ∧ Sat w [cellC k 92 (coreL t pb ((startD D).1)), talC t hb cb ab lb ((startD D).1).f ((startD D).1).c ((startD D).1).L, mapC pb (Value.int .i64) propV ((startD D).1).P, rowC 45 35 v ((startD D).2).length (((startD D).2).flatMap encA), restC w (coreC k t hb cb ab lb pb D).fp] w' := by
 have H : Sat w [cellC k 92 (coreL t pb D), talC t hb cb ab lb D.f D.c D.L, mapC pb (Value.int .i64) propV D.P, restC w (coreC k t hb cb ab lb pb D).fp] w := Sat.start _ hT
 have hf := h.f
 have hep := h.ep
 have hrp := h.rp
 have hrd := h.rd
 have hst := h.st
 have hvo := h.votes
 refine calls_fr Try.func16 rfl 14 rfl (Nat.le_of_ble_eq_true rfl) ?_
 refine w_seq ?_
 refine w_lit ?_
 refine wv 2 (.slice none 0 0) ?_
 refine w_nil ?_
 refine then_normal ?_
 iterate 2 refine w_seq ?_
 refine w_lit ?_
 refine wv 3 (pt k 0) ?_
 refine wv 4 (pt k 0) ?_
 refine wv 5 (pt k 4) ?_
 refine wv 6 (pt k 5) ?_
 refine wv 7 (.int .i64 (D.s.step)) ?_ (hr := e_load1 rfl (by kernel_rfl) (H.cell 0 rfl (by kernel_rfl)))
 refine wv 8 (.bool (decide (D.s.step > 0))) ?_
 refine w_nil ?_
 refine then_normal ?_
 refine (bsplit (decide (D.s.step > 0))).elim (fun b1 => ?_) (fun b1 => ?_)
 ·have g2 := of_decide_eq_true b1
  refine wp_know 8 (.bool true) (congrArg Value.bool b1) ?_
  refine wp_ift rfl ?_
  refine w_seq ?_
  refine w_lit ?_
  refine wv 2 (.slice none 0 0) ?_
  refine w_nil ?_
  refine then_normal ?_
  refine w_ret ?_
  refine then_ret ?_
  refine end1 rfl (res_tmp (v := (.slice none 0 0)) rfl) ?_
  rw [show startD D = (D, []) from if_pos (of_decide_eq_true b1)]
  have Hn := H.addNil 45 35
  exact ⟨_, rfl, (Hn.pick [0, 1, 2, 4, 3] (by decide)).cast (by kernel_rfl)⟩
 ·have g3 := of_decide_eq_false b1
  refine wp_know 8 (.bool false) (congrArg Value.bool b1) ?_
  refine wp_iff rfl ?_
  refine w_skip ?_
  refine then_normal ?_
  refine w_seq ?_
  refine w_lit ?_
  refine wv 9 (pt k 0) ?_
  refine wl_do (wants0 rfl) (fun K4 hK4 => ?_)
  refine d_call (d := 10) rfl (by kernel_rfl) (coreEnter_any w k t hb cb ab lb pb D (ok_of (by kernel_rfl) (H.fin [0, 1, 2] (by decide) rfl)) h 0 ) ?_
  rintro _ w6 ⟨v5, rfl, S7⟩
  have H8 : Sat w [cellC k 92 (coreL t pb (nextD D 0)), talC t hb cb ab lb (nextD D 0).f (nextD D 0).c (nextD D 0).L, mapC pb (Value.int .i64) propV (nextD D 0).P, restC w (coreC k t hb cb ab lb pb D).fp, rowC 45 35 v5 ((nextA D 0).length) ((nextA D 0).flatMap encA)] w6 := (Sat.turnL (L' := [cellC k 92 (coreL t pb (nextD D 0)), talC t hb cb ab lb (nextD D 0).f (nextD D 0).c (nextD D 0).L, mapC pb (Value.int .i64) propV (nextD D 0).P, rowC 45 35 v5 ((nextA D 0).length) ((nextA D 0).flatMap encA)]) (R := [restC w (coreC k t hb cb ab lb pb D).fp]) H [0, 1, 2] [3] (by decide) (by kernel_rfl) rfl S7).pick [0, 1, 2, 4, 3] (by decide)
  obtain ⟨a9, c10, rfl⟩ := ownsRow_shape (H8.at 4 rfl)
  refine ⟨_, rfl, ?_⟩
  have l11 := nextA_len D 0
  refine hK4 _ _ ?_
  clear hK4 K4
  refine wv 11 (pt k 0) ?_
  refine wl_do (wants0 rfl) (fun K12 hK12 => ?_)
  refine d_call (d := 12) rfl (by kernel_rfl) (coreSettle_any w6 k t hb cb ab lb pb (nextD D 0) (ok_of (by kernel_rfl) (H8.fin [0, 1, 2] (by decide) rfl)) h.next0  ) ?_
  rintro _ w14 ⟨v13, rfl, S15⟩
  have H16 : Sat w [cellC k 92 (coreL t pb ((settleD (nextD D 0)).1)), talC t hb cb ab lb ((settleD (nextD D 0)).1).f ((settleD (nextD D 0)).1).c ((settleD (nextD D 0)).1).L, mapC pb (Value.int .i64) propV ((settleD (nextD D 0)).1).P, restC w (coreC k t hb cb ab lb pb D).fp, rowC 45 35 (.slice a9 ((nextA D 0).length) c10) ((nextA D 0).length) ((nextA D 0).flatMap encA), rowC 45 35 v13 (((settleD (nextD D 0)).2).length) (((settleD (nextD D 0)).2).flatMap encA)] w14 := (Sat.turnL (L' := [cellC k 92 (coreL t pb ((settleD (nextD D 0)).1)), talC t hb cb ab lb ((settleD (nextD D 0)).1).f ((settleD (nextD D 0)).1).c ((settleD (nextD D 0)).1).L, mapC pb (Value.int .i64) propV ((settleD (nextD D 0)).1).P, rowC 45 35 v13 (((settleD (nextD D 0)).2).length) (((settleD (nextD D 0)).2).flatMap encA)]) (R := [restC w (coreC k t hb cb ab lb pb D).fp, rowC 45 35 (.slice a9 ((nextA D 0).length) c10) ((nextA D 0).length) ((nextA D 0).flatMap encA)]) H8 [0, 1, 2] [3, 4] (by decide) (by kernel_rfl) rfl S15).pick [0, 1, 2, 4, 5, 3] (by decide)
  obtain ⟨a17, c18, rfl⟩ := ownsRow_shape (H16.at 5 rfl)
  refine ⟨_, rfl, ?_⟩
  have l19 := settle_le h.next0
  refine hK12 _ _ ?_
  clear hK12 K12
  refine wl_do (wants0 rfl) (fun K20 hK20 => ?_)
  refine d_append (T := 31) (e := 45) (size := 35) (bytes := 56) rfl H16 (by kernel_rfl) 4 5 rfl rfl rfl rfl (flat_one encA encA_one ((settleD (nextD D 0)).2)) (by omega) (by omega) ?_
  intro v21 w22 (H23 : Sat w [cellC k 92 (coreL t pb ((settleD (nextD D 0)).1)), talC t hb cb ab lb ((settleD (nextD D 0)).1).f ((settleD (nextD D 0)).1).c ((settleD (nextD D 0)).1).L, mapC pb (Value.int .i64) propV ((settleD (nextD D 0)).1).P, restC w (coreC k t hb cb ab lb pb D).fp, rowC 45 35 v21 ((nextA D 0).length + ((settleD (nextD D 0)).2).length) (((nextA D 0).flatMap encA) ++ (((settleD (nextD D 0)).2).flatMap encA)), rowC 45 35 (.slice a17 (((settleD (nextD D 0)).2).length) c18) (((settleD (nextD D 0)).2).length) (((settleD (nextD D 0)).2).flatMap encA)] w22)
  obtain ⟨a24, c25, rfl⟩ := ownsRow_shape (H23.at 4 rfl)
  refine hK20 _ _ ?_
  clear hK20 K20
  refine wv 2 (.slice a24 ((nextA D 0).length + ((settleD (nextD D 0)).2).length) c25) ?_
  refine w_nil ?_
  refine then_normal ?_
  refine w_ret ?_
  refine end1 rfl (res_tmp (v := (.slice a24 ((nextA D 0).length + ((settleD (nextD D 0)).2).length) c25)) rfl) ?_
  rw [startD_b D (of_decide_eq_false b1)]
  exact ⟨_, rfl, (H23.pick [0, 1, 2, 4, 3] (by decide)).cast (by simp only [List.length_append, List.flatMap_append]; rfl)⟩

set_option maxRecDepth 100000 in
set_option maxHeartbeats 400000 in
theorem corePropose_any (w : World) (k t hb cb ab lb pb : Nat) (D : CoreD) (hT : (coreC k t hb cb ab lb pb D).ok w) (h : CI D) (round valid : Int) (x : Hash) (ok : Bool) :
  Calls Try.prog 21 #[(.pointer (some ⟨k, 0, none⟩)), (.int .i64 (round)), (.int .i64 (valid)), (.agg ⟨(hc x)⟩), (.bool (ok))] w fun e w' => ∃ v, e = .returned v ∧ Sat w [cellC k 92 (coreL t pb ((proposeD D round valid x ok).1)), talC t hb cb ab lb ((proposeD D round valid x ok).1).f ((proposeD D round valid x ok).1).c ((proposeD D round valid x ok).1).L, mapC pb (Value.int .i64) propV ((proposeD D round valid x ok).1).P, rowC 45 35 v ((proposeD D round valid x ok).2).length (((proposeD D round valid x ok).2).flatMap encA), restC w (coreC k t hb cb ab lb pb D).fp] w' := by
 have H : Sat w [cellC k 92 (coreL t pb D), talC t hb cb ab lb D.f D.c D.L, mapC pb (Value.int .i64) propV D.P, restC w (coreC k t hb cb ab lb pb D).fp] w := Sat.start _ hT
 have hf := h.f
 have hep := h.ep
 have hrp := h.rp
 have hrd := h.rd
 have hst := h.st
 have hvo := h.votes
 refine calls_fr Try.func21 rfl 63 rfl (Nat.le_of_ble_eq_true rfl) ?_
 refine w_seq ?_
 refine w_lit ?_
 refine wl_do (wants0 rfl) (fun K1 hK1 => ?_)
 refine d_box (vs := (hc x)) rfl H rfl rfl ?_
 intro b2 w3 (H4 : Sat w [cellC k 92 (coreL t pb D), talC t hb cb ab lb D.f D.c D.L, mapC pb (Value.int .i64) propV D.P, restC w (coreC k t hb cb ab lb pb D).fp, cellC b2 36 (hc x)] w3)
 refine hK1 _ _ ?_
 clear hK1 K1
 refine wv 10 (.slice none 0 0) ?_
 refine w_nil ?_
 refine then_normal ?_
 refine w_seq ?_
 refine w_lit ?_
 refine wv 14 (pt k 0) ?_
 refine wv 15 (pt k 0) ?_
 refine wv 16 (pt k 106) ?_
 refine wv 17 (.map (some pb)) ?_ (hr := e_load1 rfl (by kernel_rfl) (H4.cell 0 rfl (by kernel_rfl)))
 refine wv 18 (.int .i64 (round)) ?_
 refine wv 19 (.tuple #[(.agg ⟨(([(.int .i64 ((getP D.P (round : Int)).valid))] : List Value) ++ hc (getP D.P (round : Int)).h ++ ([(.bool ((getP D.P (round : Int)).ok))] : List Value))⟩), (.bool (hasP D.P (round : Int)))]) ?_ (hr := e_lookup2 (kt := 3) (et := 96) (KeyTy.int (by kernel_rfl)) (by kernel_rfl) (fun w => by kernel_rfl) rfl (round : Int) rfl (H4.at 2 rfl) (optD propV (lookM D.P (round : Int)) ⟨0, hash0, false⟩) rfl)
 refine wv 13 (.tuple #[(.agg ⟨(([(.int .i64 ((getP D.P (round : Int)).valid))] : List Value) ++ hc (getP D.P (round : Int)).h ++ ([(.bool ((getP D.P (round : Int)).ok))] : List Value))⟩), (.bool (hasP D.P (round : Int)))]) ?_
 refine wv 20 (.agg ⟨(([(.int .i64 ((getP D.P (round : Int)).valid))] : List Value) ++ hc (getP D.P (round : Int)).h ++ ([(.bool ((getP D.P (round : Int)).ok))] : List Value))⟩) ?_
 refine wv 21 (.bool (hasP D.P (round : Int))) ?_
 refine wl_do (wants0 rfl) (fun K5 hK5 => ?_)
 refine d_alloc (zs := (([(.int .i64 (0))] : List Value) ++ hc hash0 ++ ([(.bool false)] : List Value))) (z := (.agg ⟨(([(.int .i64 (0))] : List Value) ++ hc hash0 ++ ([(.bool false)] : List Value))⟩)) rfl H4 (by kernel_rfl) (by kernel_rfl) ?_
 intro b6 w7 (H8 : Sat w [cellC k 92 (coreL t pb D), talC t hb cb ab lb D.f D.c D.L, mapC pb (Value.int .i64) propV D.P, restC w (coreC k t hb cb ab lb pb D).fp, cellC b2 36 (hc x), cellC b6 96 (([(.int .i64 (0))] : List Value) ++ hc hash0 ++ ([(.bool false)] : List Value))] w7)
 refine hK5 _ _ ?_
 clear hK5 K5
 refine wl_do (wants0 rfl) (fun K9 hK9 => ?_)
 refine d_storeX (vs := (([(.int .i64 ((getP D.P (round : Int)).valid))] : List Value) ++ hc (getP D.P (round : Int)).h ++ ([(.bool ((getP D.P (round : Int)).ok))] : List Value))) (cs' := (([(.int .i64 ((getP D.P (round : Int)).valid))] : List Value) ++ hc (getP D.P (round : Int)).h ++ ([(.bool ((getP D.P (round : Int)).ok))] : List Value))) rfl H8 5 rfl rfl rfl rfl (by kernel_rfl) (Nat.le_of_ble_eq_true (by kernel_rfl)) (Nat.le_of_ble_eq_true (by kernel_rfl)) (by kernel_rfl) (by kernel_rfl) ?_
 intro w10 (H11 : Sat w [cellC k 92 (coreL t pb D), talC t hb cb ab lb D.f D.c D.L, mapC pb (Value.int .i64) propV D.P, restC w (coreC k t hb cb ab lb pb D).fp, cellC b2 36 (hc x), cellC b6 96 (([(.int .i64 ((getP D.P (round : Int)).valid))] : List Value) ++ hc (getP D.P (round : Int)).h ++ ([(.bool ((getP D.P (round : Int)).ok))] : List Value))] w10)
 refine hK9 _ _ ?_
 clear hK9 K9
 refine wv 12 (.bool (hasP D.P (round : Int))) ?_
 refine w_nil ?_
 refine then_normal ?_
 refine w_seq ?_
 refine wp_meetR [22, 23, 24, 25, 26, 27, 28, 29, 30, 31, 32, 33, 34, 35, 36, 37, 38, 39, 40, 41, 42, 43, 44, 45, 46, 47, 48, 49, 50, 51] (fun G_ W_ => G_ 51 = (.bool (propBad D round valid x)) ∧ Sat w [cellC k 92 (coreL t pb D), talC t hb cb ab lb D.f D.c D.L, mapC pb (Value.int .i64) propV D.P, restC w (coreC k t hb cb ab lb pb D).fp, cellC b2 36 (hc x), cellC b6 96 (([(.int .i64 ((getP D.P (round : Int)).valid))] : List Value) ++ hc (getP D.P (round : Int)).h ++ ([(.bool ((getP D.P (round : Int)).ok))] : List Value))] W_) ?_ ?_
 ·refine w_lit ?_
  refine wv 22 (pt k 0) ?_
  refine wv 23 (pt k 0) ?_
  refine wv 24 (pt k 4) ?_
  refine wv 25 (pt k 72) ?_
  refine wv 26 (.bool (D.s.decided)) ?_ (hr := e_load1 rfl (by kernel_rfl) (H11.cell 0 rfl (by kernel_rfl)))
  refine wv 27 (.bool (D.s.decided)) ?_
  refine (bsplit (D.s.decided)).elim (fun b14 => ?_) (fun b14 => ?_)
  ·refine wl_know 27 (.bool true) (congrArg Value.bool b14) ?_
   refine wn 5 27 false ?_
   refine wv 29 (.bool true) ?_
   refine wv 30 (.bool true) ?_
   iterate 2 refine wn 8 30 false ?_
   refine wv 33 (.bool true) ?_
   refine wv 34 (.bool true) ?_
   iterate 2 refine wn 12 34 false ?_
   refine wv 37 (.bool true) ?_
   refine wv 38 (.bool true) ?_
   iterate 2 refine wn 16 38 false ?_
   refine wv 41 (.bool true) ?_
   refine wv 42 (.bool true) ?_
   iterate 3 refine wn 20 42 false ?_
   refine wv 46 (.bool true) ?_
   refine wv 47 (.bool true) ?_
   iterate 3 refine wn 25 47 false ?_
   refine wv 51 (.bool true) ?_
   refine w_nil ?_
   refine meetR_at ?_ ⟨(congrArg Value.bool (show true = (propBad D round valid x) by simp [propBad, b14])), H11⟩
   exact (same_upd rfl (same_upd rfl (same_upd rfl (same_upd rfl (same_upd rfl (same_upd rfl (same_upd rfl (same_upd rfl (same_upd rfl (same_upd rfl (same_upd rfl (same_upd rfl (same_upd rfl (same_upd rfl (same_upd rfl (same_upd rfl (same_upd rfl (same_upd rfl (same_upd rfl (same_upd rfl (same_upd rfl (same_upd rfl (same_upd rfl (same_upd rfl (same_upd rfl (same_upd rfl (same_upd rfl (same_upd rfl (same_upd rfl (same_upd rfl (same_upd rfl (same_refl))))))))))))))))))))))))))))))))
  ·refine wl_know 27 (.bool false) (congrArg Value.bool b14) ?_
   refine wy 5 27 false 28 (.bool (hasP D.P (round : Int))) ?_
   refine wv 29 (.bool (hasP D.P (round : Int))) ?_
   refine wv 30 (.bool (hasP D.P (round : Int))) ?_
   refine (bsplit (hasP D.P (round : Int))).elim (fun b15 => ?_) (fun b15 => ?_)
   ·refine wl_know 30 (.bool true) (congrArg Value.bool b15) ?_
    iterate 2 refine wn 8 30 false ?_
    refine wv 33 (.bool true) ?_
    refine wv 34 (.bool true) ?_
    iterate 2 refine wn 12 34 false ?_
    refine wv 37 (.bool true) ?_
    refine wv 38 (.bool true) ?_
    iterate 2 refine wn 16 38 false ?_
    refine wv 41 (.bool true) ?_
    refine wv 42 (.bool true) ?_
    iterate 3 refine wn 20 42 false ?_
    refine wv 46 (.bool true) ?_
    refine wv 47 (.bool true) ?_
    iterate 3 refine wn 25 47 false ?_
    refine wv 51 (.bool true) ?_
    refine w_nil ?_
    refine meetR_at ?_ ⟨(congrArg Value.bool (show true = (propBad D round valid x) by simp [propBad, b14, b15])), H11⟩
    exact (same_upd rfl (same_upd rfl (same_upd rfl (same_upd rfl (same_upd rfl (same_upd rfl (same_upd rfl (same_upd rfl (same_upd rfl (same_upd rfl (same_upd rfl (same_upd rfl (same_upd rfl (same_upd rfl (same_upd rfl (same_upd rfl (same_upd rfl (same_upd rfl (same_upd rfl (same_upd rfl (same_upd rfl (same_upd rfl (same_upd rfl (same_upd rfl (same_upd rfl (same_upd rfl (same_upd rfl (same_upd rfl (same_upd rfl (same_upd rfl (same_upd rfl (same_upd rfl (same_refl)))))))))))))))))))))))))))))))))
   ·refine wl_know 30 (.bool false) (congrArg Value.bool b15) ?_
    refine wy 8 30 false 31 (.int .i64 (round)) ?_
    refine wy 8 30 false 32 (.bool (decide (round < 0))) ?_
    refine wv 33 (.bool (decide (round < 0))) ?_
    refine wv 34 (.bool (decide (round < 0))) ?_
    refine (bsplit (decide (round < 0))).elim (fun b16 => ?_) (fun b16 => ?_)
    ·have g17 := of_decide_eq_true b16
     refine wl_know 34 (.bool true) (congrArg Value.bool b16) ?_
     iterate 2 refine wn 12 34 false ?_
     refine wv 37 (.bool true) ?_
     refine wv 38 (.bool true) ?_
     iterate 2 refine wn 16 38 false ?_
     refine wv 41 (.bool true) ?_
     refine wv 42 (.bool true) ?_
     iterate 3 refine wn 20 42 false ?_
     refine wv 46 (.bool true) ?_
     refine wv 47 (.bool true) ?_
     iterate 3 refine wn 25 47 false ?_
     refine wv 51 (.bool true) ?_
     refine w_nil ?_
     refine meetR_at ?_ ⟨(congrArg Value.bool (show true = (propBad D round valid x) by simp [propBad, b14, b15, b16])), H11⟩
     exact (same_upd rfl (same_upd rfl (same_upd rfl (same_upd rfl (same_upd rfl (same_upd rfl (same_upd rfl (same_upd rfl (same_upd rfl (same_upd rfl (same_upd rfl (same_upd rfl (same_upd rfl (same_upd rfl (same_upd rfl (same_upd rfl (same_upd rfl (same_upd rfl (same_upd rfl (same_upd rfl (same_upd rfl (same_upd rfl (same_upd rfl (same_upd rfl (same_upd rfl (same_upd rfl (same_upd rfl (same_upd rfl (same_upd rfl (same_upd rfl (same_upd rfl (same_upd rfl (same_upd rfl (same_refl))))))))))))))))))))))))))))))))))
    ·have g18 := of_decide_eq_false b16
     refine wl_know 34 (.bool false) (congrArg Value.bool b16) ?_
     refine wy 12 34 false 35 (.int .i64 (round)) ?_
     refine wy 12 34 false 36 (.bool (decide (round > 1048576))) ?_
     refine wv 37 (.bool (decide (round > 1048576))) ?_
     refine wv 38 (.bool (decide (round > 1048576))) ?_
     refine (bsplit (decide (round > 1048576))).elim (fun b19 => ?_) (fun b19 => ?_)
     ·have g20 := of_decide_eq_true b19
      refine wl_know 38 (.bool true) (congrArg Value.bool b19) ?_
      iterate 2 refine wn 16 38 false ?_
      refine wv 41 (.bool true) ?_
      refine wv 42 (.bool true) ?_
      iterate 3 refine wn 20 42 false ?_
      refine wv 46 (.bool true) ?_
      refine wv 47 (.bool true) ?_
      iterate 3 refine wn 25 47 false ?_
      refine wv 51 (.bool true) ?_
      refine w_nil ?_
      refine meetR_at ?_ ⟨(congrArg Value.bool (show true = (propBad D round valid x) by simp [propBad, b14, b15, b16, b19])), H11⟩
      exact (same_upd rfl (same_upd rfl (same_upd rfl (same_upd rfl (same_upd rfl (same_upd rfl (same_upd rfl (same_upd rfl (same_upd rfl (same_upd rfl (same_upd rfl (same_upd rfl (same_upd rfl (same_upd rfl (same_upd rfl (same_upd rfl (same_upd rfl (same_upd rfl (same_upd rfl (same_upd rfl (same_upd rfl (same_upd rfl (same_upd rfl (same_upd rfl (same_upd rfl (same_upd rfl (same_upd rfl (same_upd rfl (same_upd rfl (same_upd rfl (same_upd rfl (same_upd rfl (same_upd rfl (same_upd rfl (same_refl)))))))))))))))))))))))))))))))))))
     ·have g21 := of_decide_eq_false b19
      refine wl_know 38 (.bool false) (congrArg Value.bool b19) ?_
      refine wy 16 38 false 39 (.int .i64 (valid)) ?_
      refine wy 16 38 false 40 (.bool (decide (valid < (-1)))) ?_
      refine wv 41 (.bool (decide (valid < (-1)))) ?_
      refine wv 42 (.bool (decide (valid < (-1)))) ?_
      refine (bsplit (decide (valid < (-1)))).elim (fun b22 => ?_) (fun b22 => ?_)
      ·have g23 := of_decide_eq_true b22
       refine wl_know 42 (.bool true) (congrArg Value.bool b22) ?_
       iterate 3 refine wn 20 42 false ?_
       refine wv 46 (.bool true) ?_
       refine wv 47 (.bool true) ?_
       iterate 3 refine wn 25 47 false ?_
       refine wv 51 (.bool true) ?_
       refine w_nil ?_
       refine meetR_at ?_ ⟨(congrArg Value.bool (show true = (propBad D round valid x) by simp [propBad, b14, b15, b16, b19, b22])), H11⟩
       exact (same_upd rfl (same_upd rfl (same_upd rfl (same_upd rfl (same_upd rfl (same_upd rfl (same_upd rfl (same_upd rfl (same_upd rfl (same_upd rfl (same_upd rfl (same_upd rfl (same_upd rfl (same_upd rfl (same_upd rfl (same_upd rfl (same_upd rfl (same_upd rfl (same_upd rfl (same_upd rfl (same_upd rfl (same_upd rfl (same_upd rfl (same_upd rfl (same_upd rfl (same_upd rfl (same_upd rfl (same_upd rfl (same_upd rfl (same_upd rfl (same_upd rfl (same_upd rfl (same_upd rfl (same_upd rfl (same_upd rfl (same_refl))))))))))))))))))))))))))))))))))))
      ·have g24 := of_decide_eq_false b22
       refine wl_know 42 (.bool false) (congrArg Value.bool b22) ?_
       refine wy 20 42 false 43 (.int .i64 (valid)) ?_
       refine wy 20 42 false 44 (.int .i64 (round)) ?_
       refine wy 20 42 false 45 (.bool (decide (valid ≥ round))) ?_
       refine wv 46 (.bool (decide (valid ≥ round))) ?_
       refine wv 47 (.bool (decide (valid ≥ round))) ?_
       refine (bsplit (decide (valid ≥ round))).elim (fun b25 => ?_) (fun b25 => ?_)
       ·have g26 := of_decide_eq_true b25
        refine wl_know 47 (.bool true) (congrArg Value.bool b25) ?_
        iterate 3 refine wn 25 47 false ?_
        refine wv 51 (.bool true) ?_
        refine w_nil ?_
        refine meetR_at ?_ ⟨(congrArg Value.bool (show true = (propBad D round valid x) by simp [propBad, b14, b15, b16, b19, b22, b25])), H11⟩
        exact (same_upd rfl (same_upd rfl (same_upd rfl (same_upd rfl (same_upd rfl (same_upd rfl (same_upd rfl (same_upd rfl (same_upd rfl (same_upd rfl (same_upd rfl (same_upd rfl (same_upd rfl (same_upd rfl (same_upd rfl (same_upd rfl (same_upd rfl (same_upd rfl (same_upd rfl (same_upd rfl (same_upd rfl (same_upd rfl (same_upd rfl (same_upd rfl (same_upd rfl (same_upd rfl (same_upd rfl (same_upd rfl (same_upd rfl (same_upd rfl (same_upd rfl (same_upd rfl (same_upd rfl (same_upd rfl (same_upd rfl (same_upd rfl (same_refl)))))))))))))))))))))))))))))))))))))
       ·have g27 := of_decide_eq_false b25
        refine wl_know 47 (.bool false) (congrArg Value.bool b25) ?_
        refine wy 25 47 false 48 (.agg ⟨(hc x)⟩) ?_ (hr := e_loadN (vs := (hc x)) rfl (by kernel_rfl) (by kernel_rfl) (by exact Nat.le_of_ble_eq_true (by kernel_rfl)) (H11.at 4 rfl) (by kernel_rfl))
        refine wy 25 47 false 49 (.agg ⟨(hc hash0)⟩) ?_
        refine wy 25 47 false 50 (.bool (decide (x = hash0))) ?_ (hr := e_eqHash x hash0 rfl rfl)
        refine wv 51 (.bool (decide (x = hash0))) ?_
        refine w_nil ?_
        refine meetR_at ?_ ⟨(congrArg Value.bool (show (decide (x = hash0)) = (propBad D round valid x) by simp [propBad, b14, b15, b16, b19, b22, b25])), H11⟩
        exact (same_upd rfl (same_upd rfl (same_upd rfl (same_upd rfl (same_upd rfl (same_upd rfl (same_upd rfl (same_upd rfl (same_upd rfl (same_upd rfl (same_upd rfl (same_upd rfl (same_upd rfl (same_upd rfl (same_upd rfl (same_upd rfl (same_upd rfl (same_upd rfl (same_upd rfl (same_upd rfl (same_upd rfl (same_upd rfl (same_upd rfl (same_upd rfl (same_upd rfl (same_upd rfl (same_upd rfl (same_upd rfl (same_upd rfl (same_upd rfl (same_upd rfl (same_upd rfl (same_upd rfl (same_upd rfl (same_upd rfl (same_upd rfl (same_refl)))))))))))))))))))))))))))))))))))))
 ·rintro f28 w29 ⟨v31, H30⟩
  refine wp_know 51 _ v31 ?_
  refine (bsplit (propBad D round valid x)).elim (fun b32 => ?_) (fun b32 => ?_)
  ·refine wp_know 51 (.bool true) (congrArg Value.bool b32) ?_
   refine wp_ift rfl ?_
   refine w_seq ?_
   refine w_lit ?_
   refine wv 10 (.slice none 0 0) ?_
   refine w_nil ?_
   refine then_normal ?_
   refine w_ret ?_
   refine then_ret ?_
   refine end1 rfl (res_tmp (v := (.slice none 0 0)) rfl) ?_
   rw [show proposeD D round valid x ok = (D, []) from if_pos b32]
   have Hn := H30.addNil 45 35
   exact ⟨_, rfl, (Hn.pick [0, 1, 2, 6, 3] (by decide)).cast (by kernel_rfl)⟩
  ·refine wp_know 51 (.bool false) (congrArg Value.bool b32) ?_
   refine wp_iff rfl ?_
   refine w_skip ?_
   refine then_normal ?_
   refine w_seq ?_
   refine h_start H30 [cellC k 92 (coreL t pb D), talC t hb cb ab lb D.f D.c D.L, restC w (coreC k t hb cb ab lb pb D).fp, cellC b2 36 (hc x), cellC b6 96 (([(.int .i64 ((getP D.P (round : Int)).valid))] : List Value) ++ hc (getP D.P (round : Int)).h ++ ([(.bool ((getP D.P (round : Int)).ok))] : List Value))] 10 rfl (by kernel_rfl) (fun Hx => (Hx.pick [0, 1, 3, 4, 5] (by decide))) ?_
   intro w33 H34 S35
   refine hv0 0 S35 52 (pt k 0) ?_
   refine hv0 1 S35 53 (pt k 0) ?_
   refine hv0 2 S35 54 (pt k 106) ?_
   refine hv0 3 S35 55 (.map (some pb)) ?_ (he := fun _ H' => (e_load1 rfl (by kernel_rfl) (H'.cell 0 rfl (by kernel_rfl))))
   refine hv0 4 S35 56 (.int .i64 (round)) ?_
   refine hv0 5 S35 57 (.int .i64 (valid)) ?_
   refine hv0 6 S35 58 (.agg ⟨(hc x)⟩) ?_ (he := fun _ H' => (e_loadN (vs := (hc x)) rfl (by kernel_rfl) (by kernel_rfl) (by exact Nat.le_of_ble_eq_true (by kernel_rfl)) (H'.at 3 rfl) (by kernel_rfl)))
   refine hv0 7 S35 59 (.bool (ok)) ?_
   refine h_val 8 rfl (by kernel_rfl) (by kernel_rfl) (by kernel_rfl) (fun _ _ _ h => h) S35 (wants0 rfl) (d := 60) (v := (.agg ⟨(([(.int .i64 (valid))] : List Value) ++ hc x ++ ([(.bool (ok))] : List Value))⟩)) rfl (fun _ H' => (by kernel_rfl)) ?_
   refine h_do 9 rfl (by kernel_rfl) (wants0 rfl) (fun K36 hK36 => ?_)
   refine d_mapUpdate (kt := 3) (et := 96) rfl H34 2 rfl (KeyTy.int (by kernel_rfl)) (by kernel_rfl) rfl (round : Int) rfl (⟨valid, x, (ok)⟩ : PropD) rfl ?_
   intro w37 (H38 : Sat w [cellC k 92 (coreL t pb D), talC t hb cb ab lb D.f D.c D.L, mapC pb (Value.int .i64) propV (putM D.P (round : Int) (⟨valid, x, (ok)⟩ : PropD)), restC w (coreC k t hb cb ab lb pb D).fp, cellC b2 36 (hc x), cellC b6 96 (([(.int .i64 ((getP D.P (round : Int)).valid))] : List Value) ++ hc (getP D.P (round : Int)).h ++ ([(.bool ((getP D.P (round : Int)).ok))] : List Value))] w37)
   have S39 := H38.pick [0, 1, 3, 4, 5] (by decide)
   refine hK36 _ _ S39 ?_
   clear hK36 K36
   refine h_fin (by kernel_rfl) ?_
   refine then_normal ?_
   refine w_seq ?_
   refine w_lit ?_
   refine wv 61 (pt k 0) ?_
   refine wl_do (wants0 rfl) (fun K40 hK40 => ?_)
   refine d_call (d := 62) rfl (by kernel_rfl) (coreSettle_any w37 k t hb cb ab lb pb (⟨D.f, D.c, D.epoch, D.replica, ⟨D.s.round, D.s.step, D.s.lr, D.s.vr, D.s.locked, D.s.valid, (D.s.decided), D.s.decision⟩, D.L, (putM D.P (round : Int) (⟨valid, x, (ok)⟩ : PropD)), (D.wv), (D.sp), (D.sc)⟩ : CoreD) (ok_of (by kernel_rfl) (H38.fin [0, 1, 2] (by decide) rfl)) (h.put (valid := valid) (x := x) (ok := ok) b32)  ) ?_
   rintro _ w42 ⟨v41, rfl, S43⟩
   have H44 : Sat w [cellC k 92 (coreL t pb ((settleD (⟨D.f, D.c, D.epoch, D.replica, ⟨D.s.round, D.s.step, D.s.lr, D.s.vr, D.s.locked, D.s.valid, (D.s.decided), D.s.decision⟩, D.L, (putM D.P (round : Int) (⟨valid, x, (ok)⟩ : PropD)), (D.wv), (D.sp), (D.sc)⟩ : CoreD)).1)), talC t hb cb ab lb ((settleD (⟨D.f, D.c, D.epoch, D.replica, ⟨D.s.round, D.s.step, D.s.lr, D.s.vr, D.s.locked, D.s.valid, (D.s.decided), D.s.decision⟩, D.L, (putM D.P (round : Int) (⟨valid, x, (ok)⟩ : PropD)), (D.wv), (D.sp), (D.sc)⟩ : CoreD)).1).f ((settleD (⟨D.f, D.c, D.epoch, D.replica, ⟨D.s.round, D.s.step, D.s.lr, D.s.vr, D.s.locked, D.s.valid, (D.s.decided), D.s.decision⟩, D.L, (putM D.P (round : Int) (⟨valid, x, (ok)⟩ : PropD)), (D.wv), (D.sp), (D.sc)⟩ : CoreD)).1).c ((settleD (⟨D.f, D.c, D.epoch, D.replica, ⟨D.s.round, D.s.step, D.s.lr, D.s.vr, D.s.locked, D.s.valid, (D.s.decided), D.s.decision⟩, D.L, (putM D.P (round : Int) (⟨valid, x, (ok)⟩ : PropD)), (D.wv), (D.sp), (D.sc)⟩ : CoreD)).1).L, mapC pb (Value.int .i64) propV ((settleD (⟨D.f, D.c, D.epoch, D.replica, ⟨D.s.round, D.s.step, D.s.lr, D.s.vr, D.s.locked, D.s.valid, (D.s.decided), D.s.decision⟩, D.L, (putM D.P (round : Int) (⟨valid, x, (ok)⟩ : PropD)), (D.wv), (D.sp), (D.sc)⟩ : CoreD)).1).P, restC w (coreC k t hb cb ab lb pb D).fp, cellC b2 36 (hc x), cellC b6 96 (([(.int .i64 ((getP D.P (round : Int)).valid))] : List Value) ++ hc (getP D.P (round : Int)).h ++ ([(.bool ((getP D.P (round : Int)).ok))] : List Value)), rowC 45 35 v41 (((settleD (⟨D.f, D.c, D.epoch, D.replica, ⟨D.s.round, D.s.step, D.s.lr, D.s.vr, D.s.locked, D.s.valid, (D.s.decided), D.s.decision⟩, D.L, (putM D.P (round : Int) (⟨valid, x, (ok)⟩ : PropD)), (D.wv), (D.sp), (D.sc)⟩ : CoreD)).2).length) (((settleD (⟨D.f, D.c, D.epoch, D.replica, ⟨D.s.round, D.s.step, D.s.lr, D.s.vr, D.s.locked, D.s.valid, (D.s.decided), D.s.decision⟩, D.L, (putM D.P (round : Int) (⟨valid, x, (ok)⟩ : PropD)), (D.wv), (D.sp), (D.sc)⟩ : CoreD)).2).flatMap encA)] w42 := (Sat.turnL (L' := [cellC k 92 (coreL t pb ((settleD (⟨D.f, D.c, D.epoch, D.replica, ⟨D.s.round, D.s.step, D.s.lr, D.s.vr, D.s.locked, D.s.valid, (D.s.decided), D.s.decision⟩, D.L, (putM D.P (round : Int) (⟨valid, x, (ok)⟩ : PropD)), (D.wv), (D.sp), (D.sc)⟩ : CoreD)).1)), talC t hb cb ab lb ((settleD (⟨D.f, D.c, D.epoch, D.replica, ⟨D.s.round, D.s.step, D.s.lr, D.s.vr, D.s.locked, D.s.valid, (D.s.decided), D.s.decision⟩, D.L, (putM D.P (round : Int) (⟨valid, x, (ok)⟩ : PropD)), (D.wv), (D.sp), (D.sc)⟩ : CoreD)).1).f ((settleD (⟨D.f, D.c, D.epoch, D.replica, ⟨D.s.round, D.s.step, D.s.lr, D.s.vr, D.s.locked, D.s.valid, (D.s.decided), D.s.decision⟩, D.L, (putM D.P (round : Int) (⟨valid, x, (ok)⟩ : PropD)), (D.wv), (D.sp), (D.sc)⟩ : CoreD)).1).c ((settleD (⟨D.f, D.c, D.epoch, D.replica, ⟨D.s.round, D.s.step, D.s.lr, D.s.vr, D.s.locked, D.s.valid, (D.s.decided), D.s.decision⟩, D.L, (putM D.P (round : Int) (⟨valid, x, (ok)⟩ : PropD)), (D.wv), (D.sp), (D.sc)⟩ : CoreD)).1).L, mapC pb (Value.int .i64) propV ((settleD (⟨D.f, D.c, D.epoch, D.replica, ⟨D.s.round, D.s.step, D.s.lr, D.s.vr, D.s.locked, D.s.valid, (D.s.decided), D.s.decision⟩, D.L, (putM D.P (round : Int) (⟨valid, x, (ok)⟩ : PropD)), (D.wv), (D.sp), (D.sc)⟩ : CoreD)).1).P, rowC 45 35 v41 (((settleD (⟨D.f, D.c, D.epoch, D.replica, ⟨D.s.round, D.s.step, D.s.lr, D.s.vr, D.s.locked, D.s.valid, (D.s.decided), D.s.decision⟩, D.L, (putM D.P (round : Int) (⟨valid, x, (ok)⟩ : PropD)), (D.wv), (D.sp), (D.sc)⟩ : CoreD)).2).length) (((settleD (⟨D.f, D.c, D.epoch, D.replica, ⟨D.s.round, D.s.step, D.s.lr, D.s.vr, D.s.locked, D.s.valid, (D.s.decided), D.s.decision⟩, D.L, (putM D.P (round : Int) (⟨valid, x, (ok)⟩ : PropD)), (D.wv), (D.sp), (D.sc)⟩ : CoreD)).2).flatMap encA)]) (R := [restC w (coreC k t hb cb ab lb pb D).fp, cellC b2 36 (hc x), cellC b6 96 (([(.int .i64 ((getP D.P (round : Int)).valid))] : List Value) ++ hc (getP D.P (round : Int)).h ++ ([(.bool ((getP D.P (round : Int)).ok))] : List Value))]) H38 [0, 1, 2] [3, 4, 5] (by decide) (by kernel_rfl) rfl S43).pick [0, 1, 2, 4, 5, 6, 3] (by decide)
   obtain ⟨a45, c46, rfl⟩ := ownsRow_shape (H44.at 6 rfl)
   refine ⟨_, rfl, ?_⟩
   have l47 := settle_le (h.put (valid := valid) (x := x) (ok := ok) b32)
   refine hK40 _ _ ?_
   clear hK40 K40
   refine wv 10 (.slice a45 (((settleD (⟨D.f, D.c, D.epoch, D.replica, ⟨D.s.round, D.s.step, D.s.lr, D.s.vr, D.s.locked, D.s.valid, (D.s.decided), D.s.decision⟩, D.L, (putM D.P (round : Int) (⟨valid, x, (ok)⟩ : PropD)), (D.wv), (D.sp), (D.sc)⟩ : CoreD)).2).length) c46) ?_
   refine w_nil ?_
   refine then_normal ?_
   refine w_ret ?_
   refine end1 rfl (res_tmp (v := (.slice a45 (((settleD (⟨D.f, D.c, D.epoch, D.replica, ⟨D.s.round, D.s.step, D.s.lr, D.s.vr, D.s.locked, D.s.valid, (D.s.decided), D.s.decision⟩, D.L, (putM D.P (round : Int) (⟨valid, x, (ok)⟩ : PropD)), (D.wv), (D.sp), (D.sc)⟩ : CoreD)).2).length) c46)) rfl) ?_
   rw [show proposeD D round valid x ok = settleD (putD D round valid x ok) from if_neg (by rw [b32]; simp)]
   exact ⟨_, rfl, (H44.pick [0, 1, 2, 6, 3] (by decide)).cast (by kernel_rfl)⟩

set_option maxRecDepth 100000 in
set_option maxHeartbeats 400000 in
theorem coreVote_any (w : World) (k t hb cb ab lb pb : Nat) (D : CoreD) (hT : (coreC k t hb cb ab lb pb D).ok w) (h : CI D) (kind round p : Int) (x : Hash) :
  Calls Try.prog 17 #[(.pointer (some ⟨k, 0, none⟩)), (.int .i64 (kind)), (.int .i64 (round)), (.int .i64 (p)), (.agg ⟨(hc x)⟩)] w fun e w' => ∃ v, e = .returned v ∧ Sat w [cellC k 92 (coreL t pb ((voteD' D kind round p x).1)), talC t hb cb ab lb ((voteD' D kind round p x).1).f ((voteD' D kind round p x).1).c ((voteD' D kind round p x).1).L, mapC pb (Value.int .i64) propV ((voteD' D kind round p x).1).P, rowC 45 35 v ((voteD' D kind round p x).2).length (((voteD' D kind round p x).2).flatMap encA), restC w (coreC k t hb cb ab lb pb D).fp] w' := by
 have H : Sat w [cellC k 92 (coreL t pb D), talC t hb cb ab lb D.f D.c D.L, mapC pb (Value.int .i64) propV D.P, restC w (coreC k t hb cb ab lb pb D).fp] w := Sat.start _ hT
 have hf := h.f
 have hep := h.ep
 have hrp := h.rp
 have hrd := h.rd
 have hst := h.st
 have hvo := h.votes
 refine calls_fr Try.func17 rfl 30 rfl (Nat.le_of_ble_eq_true rfl) ?_
 refine w_seq ?_
 refine w_lit ?_
 refine wl_do (wants0 rfl) (fun K1 hK1 => ?_)
 refine d_box (vs := (hc x)) rfl H rfl rfl ?_
 intro b2 w3 (H4 : Sat w [cellC k 92 (coreL t pb D), talC t hb cb ab lb D.f D.c D.L, mapC pb (Value.int .i64) propV D.P, restC w (coreC k t hb cb ab lb pb D).fp, cellC b2 36 (hc x)] w3)
 refine hK1 _ _ ?_
 clear hK1 K1
 refine wv 10 (.slice none 0 0) ?_
 refine w_nil ?_
 refine then_normal ?_
 iterate 2 refine w_seq ?_
 refine h_start H4 [cellC k 92 (coreL t pb D), mapC pb (Value.int .i64) propV D.P, restC w (coreC k t hb cb ab lb pb D).fp, cellC b2 36 (hc x)] 17 rfl (by kernel_rfl) (fun Hx => (Hx.pick [0, 2, 3, 4] (by decide))) ?_
 intro w5 H6 S7
 refine hv0 0 S7 11 (pt k 0) ?_
 refine hv0 1 S7 12 (pt k 0) ?_
 refine hv0 2 S7 13 (pt k 4) ?_
 refine hv0 3 S7 14 (pt k 72) ?_
 refine hv0 4 S7 15 (.bool (D.s.decided)) ?_ (he := fun _ H' => (e_load1 rfl (by kernel_rfl) (H'.cell 0 rfl (by kernel_rfl))))
 refine hv0 5 S7 16 (.bool (D.s.decided)) ?_
 refine (bsplit (D.s.decided)).elim (fun b8 => ?_) (fun b8 => ?_)
 ·refine h_know 16 (.bool true) (congrArg Value.bool b8) ?_
  refine h_pass 6 rfl (by kernel_rfl) (by kernel_rfl) (by kernel_rfl) (fun _ _ _ h => h) S7 (wantsN 5 16 false rfl (by kernel_rfl) rfl (by kernel_rfl)) rfl ?_
  refine h_pass 7 rfl (by kernel_rfl) (by kernel_rfl) (by kernel_rfl) (fun _ _ _ h => h) S7 (wantsN 5 16 false rfl (by kernel_rfl) rfl (by kernel_rfl)) rfl ?_
  refine h_pass 8 rfl (by kernel_rfl) (by kernel_rfl) (by kernel_rfl) (fun _ _ _ h => h) S7 (wantsN 5 16 false rfl (by kernel_rfl) rfl (by kernel_rfl)) rfl ?_
  refine h_pass 9 rfl (by kernel_rfl) (by kernel_rfl) (by kernel_rfl) (fun _ _ _ h => h) S7 (wantsN 5 16 false rfl (by kernel_rfl) rfl (by kernel_rfl)) rfl ?_
  refine h_pass 10 rfl (by kernel_rfl) (by kernel_rfl) (by kernel_rfl) (fun _ _ _ h => h) S7 (wantsN 5 16 false rfl (by kernel_rfl) rfl (by kernel_rfl)) rfl ?_
  refine h_pass 11 rfl (by kernel_rfl) (by kernel_rfl) (by kernel_rfl) (fun _ _ _ h => h) S7 (wantsN 5 16 false rfl (by kernel_rfl) rfl (by kernel_rfl)) rfl ?_
  refine h_pass 12 rfl (by kernel_rfl) (by kernel_rfl) (by kernel_rfl) (fun _ _ _ h => h) S7 (wantsN 5 16 false rfl (by kernel_rfl) rfl (by kernel_rfl)) rfl ?_
  refine h_pass 13 rfl (by kernel_rfl) (by kernel_rfl) (by kernel_rfl) (fun _ _ _ h => h) S7 (wantsN 5 16 false rfl (by kernel_rfl) rfl (by kernel_rfl)) rfl ?_
  refine h_pass 14 rfl (by kernel_rfl) (by kernel_rfl) (by kernel_rfl) (fun _ _ _ h => h) S7 (wantsN 5 16 false rfl (by kernel_rfl) rfl (by kernel_rfl)) rfl ?_
  refine h_pass 15 rfl (by kernel_rfl) (by kernel_rfl) (by kernel_rfl) (fun _ _ _ h => h) S7 (wantsN 5 16 false rfl (by kernel_rfl) rfl (by kernel_rfl)) rfl ?_
  refine hv0 16 S7 27 (.bool true) ?_
  refine h_fin (by kernel_rfl) ?_
  refine then_normal ?_
  refine wp_ift rfl ?_
  refine w_seq ?_
  refine w_lit ?_
  refine wv 10 (.slice none 0 0) ?_
  refine w_nil ?_
  refine then_normal ?_
  refine w_ret ?_
  refine then_ret ?_
  refine end1 rfl (res_tmp (v := (.slice none 0 0)) rfl) ?_
  rw [show voteD' D kind round p x = (D, []) from if_pos (.inl b8)]
  have Hn := H6.addNil 45 35
  exact ⟨_, rfl, (Hn.pick [0, 1, 2, 5, 3] (by decide)).cast (by kernel_rfl)⟩
 ·refine h_know 16 (.bool false) (congrArg Value.bool b8) ?_
  refine h_val 6 rfl (by kernel_rfl) (by kernel_rfl) (by kernel_rfl) (fun _ _ _ h => h) S7 (wantsY 5 16 false rfl (by kernel_rfl) rfl (by kernel_rfl)) (d := 17) (v := (pt k 0)) rfl (fun _ H' => (by kernel_rfl)) ?_
  refine h_val 7 rfl (by kernel_rfl) (by kernel_rfl) (by kernel_rfl) (fun _ _ _ h => h) S7 (wantsY 5 16 false rfl (by kernel_rfl) rfl (by kernel_rfl)) (d := 18) (v := (pt k 0)) rfl (fun _ H' => (by kernel_rfl)) ?_
  refine h_val 8 rfl (by kernel_rfl) (by kernel_rfl) (by kernel_rfl) (fun _ _ _ h => h) S7 (wantsY 5 16 false rfl (by kernel_rfl) rfl (by kernel_rfl)) (d := 19) (v := (pt k 105)) rfl (fun _ H' => (by kernel_rfl)) ?_
  refine h_val 9 rfl (by kernel_rfl) (by kernel_rfl) (by kernel_rfl) (fun _ _ _ h => h) S7 (wantsY 5 16 false rfl (by kernel_rfl) rfl (by kernel_rfl)) (d := 20) (v := (pt t 0)) rfl (fun _ H' => (e_load1 rfl (by kernel_rfl) (H'.cell 0 rfl (by kernel_rfl)))) ?_
  refine h_val 10 rfl (by kernel_rfl) (by kernel_rfl) (by kernel_rfl) (fun _ _ _ h => h) S7 (wantsY 5 16 false rfl (by kernel_rfl) rfl (by kernel_rfl)) (d := 21) (v := (.int .i64 (kind))) rfl (fun _ H' => (by kernel_rfl)) ?_
  refine h_val 11 rfl (by kernel_rfl) (by kernel_rfl) (by kernel_rfl) (fun _ _ _ h => h) S7 (wantsY 5 16 false rfl (by kernel_rfl) rfl (by kernel_rfl)) (d := 22) (v := (.int .i64 (round))) rfl (fun _ H' => (by kernel_rfl)) ?_
  refine h_val 12 rfl (by kernel_rfl) (by kernel_rfl) (by kernel_rfl) (fun _ _ _ h => h) S7 (wantsY 5 16 false rfl (by kernel_rfl) rfl (by kernel_rfl)) (d := 23) (v := (.int .i64 (p))) rfl (fun _ H' => (by kernel_rfl)) ?_
  refine h_val 13 rfl (by kernel_rfl) (by kernel_rfl) (by kernel_rfl) (fun _ _ _ h => h) S7 (wantsY 5 16 false rfl (by kernel_rfl) rfl (by kernel_rfl)) (d := 24) (v := (.agg ⟨(hc x)⟩)) rfl (fun _ H' => (e_loadN (vs := (hc x)) rfl (by kernel_rfl) (by kernel_rfl) (by exact Nat.le_of_ble_eq_true (by kernel_rfl)) (H'.at 3 rfl) (by kernel_rfl))) ?_
  refine h_do 14 rfl (by kernel_rfl) (wantsY 5 16 false rfl (by kernel_rfl) rfl (by kernel_rfl)) (fun K9 hK9 => ?_)
  refine d_call (d := 25) rfl (by kernel_rfl) (talAdd_any w5 t hb cb ab lb D.f D.c D.L (H6.at 1 rfl) kind round p x (hvo)) ?_
  rintro _ w10 ⟨rfl, k13, u12⟩
  have H11 : Sat w [cellC k 92 (coreL t pb D), talC t hb cb ab lb D.f D.c (addV D.f D.L ⟨kind, round, p, x⟩), mapC pb (Value.int .i64) propV D.P, restC w (coreC k t hb cb ab lb pb D).fp, cellC b2 36 (hc x)] w10 := H6.setU u12 1 rfl (fun _ hb => hb) k13 (fun _ hb => .inl hb)
  refine ⟨_, rfl, ?_⟩
  have S14 := H11.pick [0, 2, 3, 4] (by decide)
  refine hK9 _ _ S14 ?_
  clear hK9 K9
  refine h_val 15 rfl (by kernel_rfl) (by kernel_rfl) (by kernel_rfl) (fun _ _ _ h => h) S14 (wantsY 5 16 false rfl (by kernel_rfl) rfl (by kernel_rfl)) (d := 26) (v := (.bool (!(okV D.f D.L kind round p)))) rfl (fun _ H' => (by kernel_rfl)) ?_
  refine hv0 16 S14 27 (.bool (!(okV D.f D.L kind round p))) ?_
  refine h_fin (by kernel_rfl) ?_
  refine then_normal ?_
  refine (bsplit (!(okV D.f D.L kind round p))).elim (fun b15 => ?_) (fun b15 => ?_)
  ·have g16 := bnot_true b15
   refine wp_know 27 (.bool true) (congrArg Value.bool b15) ?_
   refine wp_ift rfl ?_
   refine w_seq ?_
   refine w_lit ?_
   refine wv 10 (.slice none 0 0) ?_
   refine w_nil ?_
   refine then_normal ?_
   refine w_ret ?_
   refine then_ret ?_
   refine end1 rfl (res_tmp (v := (.slice none 0 0)) rfl) ?_
   rw [show voteD' D kind round p x = (D, []) from if_pos (.inr (bnot_true b15))]
   have Hn := H11.addNil 45 35
   exact ⟨_, rfl, (Hn.pick [0, 1, 2, 5, 3] (by decide)).cast (by rw [show addV D.f D.L ⟨kind, round, p, x⟩ = D.L from addV_no (v := ⟨kind, round, p, x⟩) (bnot_true b15)]; rfl)⟩
  ·have g17 := bnot_false b15
   refine wp_know 27 (.bool false) (congrArg Value.bool b15) ?_
   refine wp_iff rfl ?_
   refine w_skip ?_
   refine then_normal ?_
   refine w_seq ?_
   refine w_lit ?_
   refine wv 28 (pt k 0) ?_
   refine wl_do (wants0 rfl) (fun K18 hK18 => ?_)
   refine d_call (d := 29) rfl (by kernel_rfl) (coreSettle_any w10 k t hb cb ab lb pb (⟨D.f, D.c, D.epoch, D.replica, ⟨D.s.round, D.s.step, D.s.lr, D.s.vr, D.s.locked, D.s.valid, (D.s.decided), D.s.decision⟩, (addV D.f D.L ⟨kind, round, p, x⟩), D.P, (D.wv), (D.sp), (D.sc)⟩ : CoreD) (ok_of (by kernel_rfl) (H11.fin [0, 1, 2] (by decide) rfl)) (h.addD kind round p x)  ) ?_
   rintro _ w20 ⟨v19, rfl, S21⟩
   have H22 : Sat w [cellC k 92 (coreL t pb ((settleD (⟨D.f, D.c, D.epoch, D.replica, ⟨D.s.round, D.s.step, D.s.lr, D.s.vr, D.s.locked, D.s.valid, (D.s.decided), D.s.decision⟩, (addV D.f D.L ⟨kind, round, p, x⟩), D.P, (D.wv), (D.sp), (D.sc)⟩ : CoreD)).1)), talC t hb cb ab lb ((settleD (⟨D.f, D.c, D.epoch, D.replica, ⟨D.s.round, D.s.step, D.s.lr, D.s.vr, D.s.locked, D.s.valid, (D.s.decided), D.s.decision⟩, (addV D.f D.L ⟨kind, round, p, x⟩), D.P, (D.wv), (D.sp), (D.sc)⟩ : CoreD)).1).f ((settleD (⟨D.f, D.c, D.epoch, D.replica, ⟨D.s.round, D.s.step, D.s.lr, D.s.vr, D.s.locked, D.s.valid, (D.s.decided), D.s.decision⟩, (addV D.f D.L ⟨kind, round, p, x⟩), D.P, (D.wv), (D.sp), (D.sc)⟩ : CoreD)).1).c ((settleD (⟨D.f, D.c, D.epoch, D.replica, ⟨D.s.round, D.s.step, D.s.lr, D.s.vr, D.s.locked, D.s.valid, (D.s.decided), D.s.decision⟩, (addV D.f D.L ⟨kind, round, p, x⟩), D.P, (D.wv), (D.sp), (D.sc)⟩ : CoreD)).1).L, mapC pb (Value.int .i64) propV ((settleD (⟨D.f, D.c, D.epoch, D.replica, ⟨D.s.round, D.s.step, D.s.lr, D.s.vr, D.s.locked, D.s.valid, (D.s.decided), D.s.decision⟩, (addV D.f D.L ⟨kind, round, p, x⟩), D.P, (D.wv), (D.sp), (D.sc)⟩ : CoreD)).1).P, restC w (coreC k t hb cb ab lb pb D).fp, cellC b2 36 (hc x), rowC 45 35 v19 (((settleD (⟨D.f, D.c, D.epoch, D.replica, ⟨D.s.round, D.s.step, D.s.lr, D.s.vr, D.s.locked, D.s.valid, (D.s.decided), D.s.decision⟩, (addV D.f D.L ⟨kind, round, p, x⟩), D.P, (D.wv), (D.sp), (D.sc)⟩ : CoreD)).2).length) (((settleD (⟨D.f, D.c, D.epoch, D.replica, ⟨D.s.round, D.s.step, D.s.lr, D.s.vr, D.s.locked, D.s.valid, (D.s.decided), D.s.decision⟩, (addV D.f D.L ⟨kind, round, p, x⟩), D.P, (D.wv), (D.sp), (D.sc)⟩ : CoreD)).2).flatMap encA)] w20 := (Sat.turnL (L' := [cellC k 92 (coreL t pb ((settleD (⟨D.f, D.c, D.epoch, D.replica, ⟨D.s.round, D.s.step, D.s.lr, D.s.vr, D.s.locked, D.s.valid, (D.s.decided), D.s.decision⟩, (addV D.f D.L ⟨kind, round, p, x⟩), D.P, (D.wv), (D.sp), (D.sc)⟩ : CoreD)).1)), talC t hb cb ab lb ((settleD (⟨D.f, D.c, D.epoch, D.replica, ⟨D.s.round, D.s.step, D.s.lr, D.s.vr, D.s.locked, D.s.valid, (D.s.decided), D.s.decision⟩, (addV D.f D.L ⟨kind, round, p, x⟩), D.P, (D.wv), (D.sp), (D.sc)⟩ : CoreD)).1).f ((settleD (⟨D.f, D.c, D.epoch, D.replica, ⟨D.s.round, D.s.step, D.s.lr, D.s.vr, D.s.locked, D.s.valid, (D.s.decided), D.s.decision⟩, (addV D.f D.L ⟨kind, round, p, x⟩), D.P, (D.wv), (D.sp), (D.sc)⟩ : CoreD)).1).c ((settleD (⟨D.f, D.c, D.epoch, D.replica, ⟨D.s.round, D.s.step, D.s.lr, D.s.vr, D.s.locked, D.s.valid, (D.s.decided), D.s.decision⟩, (addV D.f D.L ⟨kind, round, p, x⟩), D.P, (D.wv), (D.sp), (D.sc)⟩ : CoreD)).1).L, mapC pb (Value.int .i64) propV ((settleD (⟨D.f, D.c, D.epoch, D.replica, ⟨D.s.round, D.s.step, D.s.lr, D.s.vr, D.s.locked, D.s.valid, (D.s.decided), D.s.decision⟩, (addV D.f D.L ⟨kind, round, p, x⟩), D.P, (D.wv), (D.sp), (D.sc)⟩ : CoreD)).1).P, rowC 45 35 v19 (((settleD (⟨D.f, D.c, D.epoch, D.replica, ⟨D.s.round, D.s.step, D.s.lr, D.s.vr, D.s.locked, D.s.valid, (D.s.decided), D.s.decision⟩, (addV D.f D.L ⟨kind, round, p, x⟩), D.P, (D.wv), (D.sp), (D.sc)⟩ : CoreD)).2).length) (((settleD (⟨D.f, D.c, D.epoch, D.replica, ⟨D.s.round, D.s.step, D.s.lr, D.s.vr, D.s.locked, D.s.valid, (D.s.decided), D.s.decision⟩, (addV D.f D.L ⟨kind, round, p, x⟩), D.P, (D.wv), (D.sp), (D.sc)⟩ : CoreD)).2).flatMap encA)]) (R := [restC w (coreC k t hb cb ab lb pb D).fp, cellC b2 36 (hc x)]) H11 [0, 1, 2] [3, 4] (by decide) (by kernel_rfl) rfl S21).pick [0, 1, 2, 4, 5, 3] (by decide)
   obtain ⟨a23, c24, rfl⟩ := ownsRow_shape (H22.at 5 rfl)
   refine ⟨_, rfl, ?_⟩
   have l25 := settle_le (h.addD kind round p x)
   refine hK18 _ _ ?_
   clear hK18 K18
   refine wv 10 (.slice a23 (((settleD (⟨D.f, D.c, D.epoch, D.replica, ⟨D.s.round, D.s.step, D.s.lr, D.s.vr, D.s.locked, D.s.valid, (D.s.decided), D.s.decision⟩, (addV D.f D.L ⟨kind, round, p, x⟩), D.P, (D.wv), (D.sp), (D.sc)⟩ : CoreD)).2).length) c24) ?_
   refine w_nil ?_
   refine then_normal ?_
   refine w_ret ?_
   refine end1 rfl (res_tmp (v := (.slice a23 (((settleD (⟨D.f, D.c, D.epoch, D.replica, ⟨D.s.round, D.s.step, D.s.lr, D.s.vr, D.s.locked, D.s.valid, (D.s.decided), D.s.decision⟩, (addV D.f D.L ⟨kind, round, p, x⟩), D.P, (D.wv), (D.sp), (D.sc)⟩ : CoreD)).2).length) c24)) rfl) ?_
   rw [show voteD' D kind round p x = settleD (addD D kind round p x) from if_neg (by rw [b8, (bnot_false b15)]; simp)]
   exact ⟨_, rfl, (H22.pick [0, 1, 2, 5, 3] (by decide)).cast (by kernel_rfl)⟩

set_option maxRecDepth 100000 in
set_option maxHeartbeats 400000 in
theorem coreTimeout_any (w : World) (k t hb cb ab lb pb : Nat) (D : CoreD) (hT : (coreC k t hb cb ab lb pb D).ok w) (h : CI D) (kind round : Int) :
  Calls Try.prog 25 #[(.pointer (some ⟨k, 0, none⟩)), (.agg ⟨([(.int .i64 (kind)), (.int .i64 (round))] : List Value)⟩)] w fun e w' => ∃ v, e = .returned v ∧ Sat w [cellC k 92 (coreL t pb ((timeD D kind round).1)), talC t hb cb ab lb ((timeD D kind round).1).f ((timeD D kind round).1).c ((timeD D kind round).1).L, mapC pb (Value.int .i64) propV ((timeD D kind round).1).P, rowC 45 35 v ((timeD D kind round).2).length (((timeD D kind round).2).flatMap encA), restC w (coreC k t hb cb ab lb pb D).fp] w' := by
 have H : Sat w [cellC k 92 (coreL t pb D), talC t hb cb ab lb D.f D.c D.L, mapC pb (Value.int .i64) propV D.P, restC w (coreC k t hb cb ab lb pb D).fp] w := Sat.start _ hT
 have hf := h.f
 have hep := h.ep
 have hrp := h.rp
 have hrd := h.rd
 have hst := h.st
 have hvo := h.votes
 refine calls_fr Try.func25 rfl 75 rfl (Nat.le_of_ble_eq_true rfl) ?_
 refine w_seq ?_
 refine w_lit ?_
 refine wl_do (wants0 rfl) (fun K1 hK1 => ?_)
 refine d_box (vs := ([(.int .i64 (kind)), (.int .i64 (round))] : List Value)) rfl H rfl rfl ?_
 intro b2 w3 (H4 : Sat w [cellC k 92 (coreL t pb D), talC t hb cb ab lb D.f D.c D.L, mapC pb (Value.int .i64) propV D.P, restC w (coreC k t hb cb ab lb pb D).fp, cellC b2 63 ([(.int .i64 (kind)), (.int .i64 (round))] : List Value)] w3)
 refine hK1 _ _ ?_
 clear hK1 K1
 refine wv 4 (.slice none 0 0) ?_
 refine w_nil ?_
 refine then_normal ?_
 refine w_seq ?_
 refine wp_meetR [6, 7, 8, 9, 10, 11, 12, 13, 14, 15, 16, 17, 18, 19, 20, 21, 22, 23, 24, 25, 26, 27, 28] (fun G_ W_ => G_ 28 = (.bool (timeBad D round)) ∧ Sat w [cellC k 92 (coreL t pb D), talC t hb cb ab lb D.f D.c D.L, mapC pb (Value.int .i64) propV D.P, restC w (coreC k t hb cb ab lb pb D).fp, cellC b2 63 ([(.int .i64 (kind)), (.int .i64 (round))] : List Value)] W_) ?_ ?_
 ·refine q_start H4 (by kernel_rfl) (by kernel_rfl) ?_
  refine qv 6 (pt k 0) ?_
  refine qv 7 (pt k 0) ?_
  refine qv 8 (pt k 4) ?_
  refine qv 9 (pt k 5) ?_
  refine qv 10 (.int .i64 (D.s.step)) ?_ (hr := fun _ H' => (e_load1 rfl (by kernel_rfl) (H'.cell 0 rfl (by kernel_rfl))))
  refine qv 11 (.bool (decide (D.s.step = 0))) ?_
  refine qv 12 (.bool (decide (D.s.step = 0))) ?_
  refine (bsplit (decide (D.s.step = 0))).elim (fun b6 => ?_) (fun b6 => ?_)
  ·have g7 := of_decide_eq_true b6
   refine q_know 12 (.bool true) (congrArg Value.bool b6) ?_
   iterate 5 refine qn 6 12 false ?_
   refine qv 18 (.bool true) ?_
   refine qv 19 (.bool true) ?_
   iterate 8 refine qn 13 19 false ?_
   refine qv 28 (.bool true) ?_
   refine q_end ?_
   intro w8 H9
   refine meetR_at ?_ ⟨(congrArg Value.bool (show true = (timeBad D round) by simp [timeBad, of_decide_eq_true b6])), H9⟩
   exact (same_upd rfl (same_upd rfl (same_upd rfl (same_upd rfl (same_upd rfl (same_upd rfl (same_upd rfl (same_upd rfl (same_upd rfl (same_upd rfl (same_upd rfl (same_upd rfl (same_upd rfl (same_upd rfl (same_upd rfl (same_upd rfl (same_upd rfl (same_upd rfl (same_upd rfl (same_upd rfl (same_upd rfl (same_upd rfl (same_upd rfl (same_upd rfl (same_refl)))))))))))))))))))))))))
  ·have g10 := of_decide_eq_false b6
   refine q_know 12 (.bool false) (congrArg Value.bool b6) ?_
   refine qy 6 12 false 13 (pt k 0) ?_
   refine qy 6 12 false 14 (pt k 0) ?_
   refine qy 6 12 false 15 (pt k 4) ?_
   refine qy 6 12 false 16 (pt k 72) ?_
   refine qy 6 12 false 17 (.bool (D.s.decided)) ?_ (hr := fun _ H' => (e_load1 rfl (by kernel_rfl) (H'.cell 0 rfl (by kernel_rfl))))
   refine qv 18 (.bool (D.s.decided)) ?_
   refine qv 19 (.bool (D.s.decided)) ?_
   refine (bsplit (D.s.decided)).elim (fun b11 => ?_) (fun b11 => ?_)
   ·refine q_know 19 (.bool true) (congrArg Value.bool b11) ?_
    iterate 8 refine qn 13 19 false ?_
    refine qv 28 (.bool true) ?_
    refine q_end ?_
    intro w12 H13
    refine meetR_at ?_ ⟨(congrArg Value.bool (show true = (timeBad D round) by simp [timeBad, of_decide_eq_false b6, b11])), H13⟩
    exact (same_upd rfl (same_upd rfl (same_upd rfl (same_upd rfl (same_upd rfl (same_upd rfl (same_upd rfl (same_upd rfl (same_upd rfl (same_upd rfl (same_upd rfl (same_upd rfl (same_upd rfl (same_upd rfl (same_upd rfl (same_upd rfl (same_upd rfl (same_upd rfl (same_upd rfl (same_upd rfl (same_upd rfl (same_upd rfl (same_upd rfl (same_upd rfl (same_upd rfl (same_refl))))))))))))))))))))))))))
   ·refine q_know 19 (.bool false) (congrArg Value.bool b11) ?_
    refine qy 13 19 false 20 (pt b2 1) ?_
    refine qy 13 19 false 21 (.int .i64 (round)) ?_ (hr := fun _ H' => (e_load1 rfl (by kernel_rfl) (H'.cell 4 rfl rfl)))
    refine qy 13 19 false 22 (pt k 0) ?_
    refine qy 13 19 false 23 (pt k 0) ?_
    refine qy 13 19 false 24 (pt k 4) ?_
    refine qy 13 19 false 25 (pt k 4) ?_
    refine qy 13 19 false 26 (.int .i64 (D.s.round)) ?_ (hr := fun _ H' => (e_load1 rfl (by kernel_rfl) (H'.cell 0 rfl (by kernel_rfl))))
    refine qy 13 19 false 27 (.bool (!(decide (round = D.s.round)))) ?_
    refine qv 28 (.bool (!(decide (round = D.s.round)))) ?_
    refine q_end ?_
    intro w14 H15
    refine meetR_at ?_ ⟨(congrArg Value.bool (show (!(decide (round = D.s.round))) = (timeBad D round) by simp [timeBad, of_decide_eq_false b6, b11])), H15⟩
    exact (same_upd rfl (same_upd rfl (same_upd rfl (same_upd rfl (same_upd rfl (same_upd rfl (same_upd rfl (same_upd rfl (same_upd rfl (same_upd rfl (same_upd rfl (same_upd rfl (same_upd rfl (same_upd rfl (same_upd rfl (same_upd rfl (same_upd rfl (same_upd rfl (same_upd rfl (same_upd rfl (same_upd rfl (same_upd rfl (same_upd rfl (same_upd rfl (same_upd rfl (same_refl))))))))))))))))))))))))))
 ·rintro f16 w17 ⟨v19, H18⟩
  refine wp_know 28 _ v19 ?_
  refine (bsplit (timeBad D round)).elim (fun b20 => ?_) (fun b20 => ?_)
  ·refine wp_know 28 (.bool true) (congrArg Value.bool b20) ?_
   refine wp_ift rfl ?_
   refine w_seq ?_
   refine w_lit ?_
   refine wv 4 (.slice none 0 0) ?_
   refine w_nil ?_
   refine then_normal ?_
   refine w_ret ?_
   refine then_ret ?_
   refine end1 rfl (res_tmp (v := (.slice none 0 0)) rfl) ?_
   rw [timeD_b, if_pos b20]
   have Hn := H18.addNil 45 35
   exact ⟨_, rfl, (Hn.pick [0, 1, 2, 5, 3] (by decide)).cast (by kernel_rfl)⟩
  ·refine wp_know 28 (.bool false) (congrArg Value.bool b20) ?_
   refine wp_iff rfl ?_
   refine w_skip ?_
   refine then_normal ?_
   refine w_seq ?_
   refine w_lit ?_
   refine wv 5 (.slice none 0 0) ?_
   refine w_nil ?_
   refine then_normal ?_
   refine w_seq ?_
   refine w_block ?_
   refine wp_meetR [29, 30, 31, 32, 33, 34, 35, 36, 37, 38, 39, 40] (fun G_ W_ => G_ 29 = (.bool (decide (kind = 1) && decide (D.s.step = 1))) ∧ Sat w [cellC k 92 (coreL t pb D), talC t hb cb ab lb D.f D.c D.L, mapC pb (Value.int .i64) propV D.P, restC w (coreC k t hb cb ab lb pb D).fp, cellC b2 63 ([(.int .i64 (kind)), (.int .i64 (round))] : List Value)] W_) ?_ ?_
   ·refine w_lit ?_
    refine wv 30 (pt b2 0) ?_
    refine wv 31 (.int .i64 (kind)) ?_ (hr := e_load1 rfl (by kernel_rfl) (H18.cell 4 rfl rfl))
    refine wv 32 (.bool (decide (kind = 1))) ?_
    refine wv 33 (.bool (decide (kind = 1))) ?_
    refine (bsplit (decide (kind = 1))).elim (fun b22 => ?_) (fun b22 => ?_)
    ·have g23 := of_decide_eq_true b22
     refine wl_know 33 (.bool true) (congrArg Value.bool b22) ?_
     refine wy 3 33 true 34 (pt k 0) ?_
     refine wy 3 33 true 35 (pt k 0) ?_
     refine wy 3 33 true 36 (pt k 4) ?_
     refine wy 3 33 true 37 (pt k 5) ?_
     refine wy 3 33 true 38 (.int .i64 (D.s.step)) ?_ (hr := e_load1 rfl (by kernel_rfl) (H18.cell 0 rfl (by kernel_rfl)))
     refine wy 3 33 true 39 (.bool (decide (D.s.step = 1))) ?_
     refine wv 40 (.bool (decide (D.s.step = 1))) ?_
     refine wv 29 (.bool (decide (D.s.step = 1))) ?_
     refine w_nil ?_
     refine meetR_at ?_ ⟨(congrArg Value.bool (show (decide (D.s.step = 1)) = (decide (kind = 1) && decide (D.s.step = 1)) by simp [of_decide_eq_true b22])), H18⟩
     exact (same_upd rfl (same_upd rfl (same_upd rfl (same_upd rfl (same_upd rfl (same_upd rfl (same_upd rfl (same_upd rfl (same_upd rfl (same_upd rfl (same_upd rfl (same_upd rfl (same_upd rfl (same_refl))))))))))))))
    ·have g24 := of_decide_eq_false b22
     refine wl_know 33 (.bool false) (congrArg Value.bool b22) ?_
     iterate 6 refine wn 3 33 true ?_
     refine wv 40 (.bool false) ?_
     refine wv 29 (.bool false) ?_
     refine w_nil ?_
     refine meetR_at ?_ ⟨(congrArg Value.bool (show false = (decide (kind = 1) && decide (D.s.step = 1)) by simp [of_decide_eq_false b22])), H18⟩
     exact (same_upd rfl (same_upd rfl (same_upd rfl (same_upd rfl (same_upd rfl (same_upd rfl (same_upd rfl (same_upd rfl (same_upd rfl (same_upd rfl (same_upd rfl (same_upd rfl (same_upd rfl (same_refl))))))))))))))
   ·rintro f25 w26 ⟨v28, H27⟩
    refine wp_know 29 _ v28 ?_
    refine (bsplit (decide (kind = 1) && decide (D.s.step = 1))).elim (fun b29 => ?_) (fun b29 => ?_)
    ·refine wp_know 29 (.bool true) (congrArg Value.bool b29) ?_
     refine wp_ift rfl ?_
     refine w_lit ?_
     refine wv 41 (pt k 0) ?_
     refine wv 42 (.agg ⟨(hc hash0)⟩) ?_
     refine wl_do (wants0 rfl) (fun K30 hK30 => ?_)
     refine d_call (d := 43) rfl (by kernel_rfl) (corePrevote_any w26 k t hb cb ab lb pb D (ok_of (by kernel_rfl) (H27.fin [0, 1, 2] (by decide) rfl)) h hash0 ) ?_
     rintro _ w32 ⟨v31, rfl, S33⟩
     have H34 : Sat w [cellC k 92 (coreL t pb (ownV D 1 2 hash0)), talC t hb cb ab lb (ownV D 1 2 hash0).f (ownV D 1 2 hash0).c (ownV D 1 2 hash0).L, mapC pb (Value.int .i64) propV (ownV D 1 2 hash0).P, restC w (coreC k t hb cb ab lb pb D).fp, cellC b2 63 ([(.int .i64 (kind)), (.int .i64 (round))] : List Value), rowC 45 35 v31 ((ownA D 2 hash0).length) ((ownA D 2 hash0).flatMap encA)] w32 := (Sat.turnL (L' := [cellC k 92 (coreL t pb (ownV D 1 2 hash0)), talC t hb cb ab lb (ownV D 1 2 hash0).f (ownV D 1 2 hash0).c (ownV D 1 2 hash0).L, mapC pb (Value.int .i64) propV (ownV D 1 2 hash0).P, rowC 45 35 v31 ((ownA D 2 hash0).length) ((ownA D 2 hash0).flatMap encA)]) (R := [restC w (coreC k t hb cb ab lb pb D).fp, cellC b2 63 ([(.int .i64 (kind)), (.int .i64 (round))] : List Value)]) H27 [0, 1, 2] [3, 4] (by decide) (by kernel_rfl) rfl S33).pick [0, 1, 2, 4, 5, 3] (by decide)
     obtain ⟨a35, c36, rfl⟩ := ownsRow_shape (H34.at 5 rfl)
     refine ⟨_, rfl, ?_⟩
     have l37 : (ownA D 2 hash0).length = 1 := rfl
     refine hK30 _ _ ?_
     clear hK30 K30
     refine wv 5 (.slice a35 ((ownA D 2 hash0).length) c36) ?_
     refine w_nil ?_
     refine blk_normal ?_
     refine then_normal ?_
     refine w_seq ?_
     refine w_lit ?_
     refine wv 71 (.slice a35 ((ownA D 2 hash0).length) c36) ?_
     refine wv 72 (pt k 0) ?_
     refine wl_do (wants0 rfl) (fun K38 hK38 => ?_)
     refine d_call (d := 73) rfl (by kernel_rfl) (coreSettle_any w32 k t hb cb ab lb pb (ownV D 1 2 hash0) (ok_of (by kernel_rfl) (H34.fin [0, 1, 2] (by decide) rfl)) (h.own 1 2 (by omega) hash0)  ) ?_
     rintro _ w40 ⟨v39, rfl, S41⟩
     have H42 : Sat w [cellC k 92 (coreL t pb ((settleD (ownV D 1 2 hash0)).1)), talC t hb cb ab lb ((settleD (ownV D 1 2 hash0)).1).f ((settleD (ownV D 1 2 hash0)).1).c ((settleD (ownV D 1 2 hash0)).1).L, mapC pb (Value.int .i64) propV ((settleD (ownV D 1 2 hash0)).1).P, restC w (coreC k t hb cb ab lb pb D).fp, cellC b2 63 ([(.int .i64 (kind)), (.int .i64 (round))] : List Value), rowC 45 35 (.slice a35 ((ownA D 2 hash0).length) c36) ((ownA D 2 hash0).length) ((ownA D 2 hash0).flatMap encA), rowC 45 35 v39 (((settleD (ownV D 1 2 hash0)).2).length) (((settleD (ownV D 1 2 hash0)).2).flatMap encA)] w40 := (Sat.turnL (L' := [cellC k 92 (coreL t pb ((settleD (ownV D 1 2 hash0)).1)), talC t hb cb ab lb ((settleD (ownV D 1 2 hash0)).1).f ((settleD (ownV D 1 2 hash0)).1).c ((settleD (ownV D 1 2 hash0)).1).L, mapC pb (Value.int .i64) propV ((settleD (ownV D 1 2 hash0)).1).P, rowC 45 35 v39 (((settleD (ownV D 1 2 hash0)).2).length) (((settleD (ownV D 1 2 hash0)).2).flatMap encA)]) (R := [restC w (coreC k t hb cb ab lb pb D).fp, cellC b2 63 ([(.int .i64 (kind)), (.int .i64 (round))] : List Value), rowC 45 35 (.slice a35 ((ownA D 2 hash0).length) c36) ((ownA D 2 hash0).length) ((ownA D 2 hash0).flatMap encA)]) H34 [0, 1, 2] [3, 4, 5] (by decide) (by kernel_rfl) rfl S41).pick [0, 1, 2, 4, 5, 6, 3] (by decide)
     obtain ⟨a43, c44, rfl⟩ := ownsRow_shape (H42.at 6 rfl)
     refine ⟨_, rfl, ?_⟩
     have l45 := settle_le (h.own 1 2 (by omega) hash0)
     refine hK38 _ _ ?_
     clear hK38 K38
     refine wl_do (wants0 rfl) (fun K46 hK46 => ?_)
     refine d_append (T := 31) (e := 45) (size := 35) (bytes := 56) rfl H42 (by kernel_rfl) 5 6 rfl rfl rfl rfl (flat_one encA encA_one ((settleD (ownV D 1 2 hash0)).2)) (by omega) (by omega) ?_
     intro v47 w48 (H49 : Sat w [cellC k 92 (coreL t pb ((settleD (ownV D 1 2 hash0)).1)), talC t hb cb ab lb ((settleD (ownV D 1 2 hash0)).1).f ((settleD (ownV D 1 2 hash0)).1).c ((settleD (ownV D 1 2 hash0)).1).L, mapC pb (Value.int .i64) propV ((settleD (ownV D 1 2 hash0)).1).P, restC w (coreC k t hb cb ab lb pb D).fp, cellC b2 63 ([(.int .i64 (kind)), (.int .i64 (round))] : List Value), rowC 45 35 v47 ((ownA D 2 hash0).length + ((settleD (ownV D 1 2 hash0)).2).length) (((ownA D 2 hash0).flatMap encA) ++ (((settleD (ownV D 1 2 hash0)).2).flatMap encA)), rowC 45 35 (.slice a43 (((settleD (ownV D 1 2 hash0)).2).length) c44) (((settleD (ownV D 1 2 hash0)).2).length) (((settleD (ownV D 1 2 hash0)).2).flatMap encA)] w48)
     obtain ⟨a50, c51, rfl⟩ := ownsRow_shape (H49.at 5 rfl)
     refine hK46 _ _ ?_
     clear hK46 K46
     refine wv 4 (.slice a50 ((ownA D 2 hash0).length + ((settleD (ownV D 1 2 hash0)).2).length) c51) ?_
     refine w_nil ?_
     refine then_normal ?_
     refine w_ret ?_
     refine end1 rfl (res_tmp (v := (.slice a50 ((ownA D 2 hash0).length + ((settleD (ownV D 1 2 hash0)).2).length) c51)) rfl) ?_
     rw [timeD_b, if_neg (by rw [b20]; simp), if_pos b29]
     exact ⟨_, rfl, (H49.pick [0, 1, 2, 5, 3] (by decide)).cast (by simp only [List.length_append, List.flatMap_append]; rfl)⟩
    ·refine wp_know 29 (.bool false) (congrArg Value.bool b29) ?_
     refine wp_iff rfl ?_
     refine wp_meetR [44, 45, 46, 47, 48, 49, 50, 51, 52, 53, 54, 55] (fun G_ W_ => G_ 44 = (.bool (decide (kind = 2) && decide (D.s.step = 2))) ∧ Sat w [cellC k 92 (coreL t pb D), talC t hb cb ab lb D.f D.c D.L, mapC pb (Value.int .i64) propV D.P, restC w (coreC k t hb cb ab lb pb D).fp, cellC b2 63 ([(.int .i64 (kind)), (.int .i64 (round))] : List Value)] W_) ?_ ?_
     ·refine w_lit ?_
      refine wv 45 (pt b2 0) ?_
      refine wv 46 (.int .i64 (kind)) ?_ (hr := e_load1 rfl (by kernel_rfl) (H27.cell 4 rfl rfl))
      refine wv 47 (.bool (decide (kind = 2))) ?_
      refine wv 48 (.bool (decide (kind = 2))) ?_
      refine (bsplit (decide (kind = 2))).elim (fun b53 => ?_) (fun b53 => ?_)
      ·have g54 := of_decide_eq_true b53
       refine wl_know 48 (.bool true) (congrArg Value.bool b53) ?_
       refine wy 3 48 true 49 (pt k 0) ?_
       refine wy 3 48 true 50 (pt k 0) ?_
       refine wy 3 48 true 51 (pt k 4) ?_
       refine wy 3 48 true 52 (pt k 5) ?_
       refine wy 3 48 true 53 (.int .i64 (D.s.step)) ?_ (hr := e_load1 rfl (by kernel_rfl) (H27.cell 0 rfl (by kernel_rfl)))
       refine wy 3 48 true 54 (.bool (decide (D.s.step = 2))) ?_
       refine wv 55 (.bool (decide (D.s.step = 2))) ?_
       refine wv 44 (.bool (decide (D.s.step = 2))) ?_
       refine w_nil ?_
       refine meetR_at ?_ ⟨(congrArg Value.bool (show (decide (D.s.step = 2)) = (decide (kind = 2) && decide (D.s.step = 2)) by simp [of_decide_eq_true b53])), H27⟩
       exact (same_upd rfl (same_upd rfl (same_upd rfl (same_upd rfl (same_upd rfl (same_upd rfl (same_upd rfl (same_upd rfl (same_upd rfl (same_upd rfl (same_upd rfl (same_upd rfl (same_upd rfl (same_refl))))))))))))))
      ·have g55 := of_decide_eq_false b53
       refine wl_know 48 (.bool false) (congrArg Value.bool b53) ?_
       iterate 6 refine wn 3 48 true ?_
       refine wv 55 (.bool false) ?_
       refine wv 44 (.bool false) ?_
       refine w_nil ?_
       refine meetR_at ?_ ⟨(congrArg Value.bool (show false = (decide (kind = 2) && decide (D.s.step = 2)) by simp [of_decide_eq_false b53])), H27⟩
       exact (same_upd rfl (same_upd rfl (same_upd rfl (same_upd rfl (same_upd rfl (same_upd rfl (same_upd rfl (same_upd rfl (same_upd rfl (same_upd rfl (same_upd rfl (same_upd rfl (same_upd rfl (same_refl))))))))))))))
     ·rintro f56 w57 ⟨v59, H58⟩
      refine wp_know 44 _ v59 ?_
      refine (bsplit (decide (kind = 2) && decide (D.s.step = 2))).elim (fun b60 => ?_) (fun b60 => ?_)
      ·refine wp_know 44 (.bool true) (congrArg Value.bool b60) ?_
       refine wp_ift rfl ?_
       refine w_lit ?_
       refine wv 56 (pt k 0) ?_
       refine wv 57 (.agg ⟨(hc hash0)⟩) ?_
       refine wl_do (wants0 rfl) (fun K61 hK61 => ?_)
       refine d_call (d := 58) rfl (by kernel_rfl) (corePrecommit_any w57 k t hb cb ab lb pb D (ok_of (by kernel_rfl) (H58.fin [0, 1, 2] (by decide) rfl)) h hash0 ) ?_
       rintro _ w63 ⟨v62, rfl, S64⟩
       have H65 : Sat w [cellC k 92 (coreL t pb (ownV D 2 3 hash0)), talC t hb cb ab lb (ownV D 2 3 hash0).f (ownV D 2 3 hash0).c (ownV D 2 3 hash0).L, mapC pb (Value.int .i64) propV (ownV D 2 3 hash0).P, restC w (coreC k t hb cb ab lb pb D).fp, cellC b2 63 ([(.int .i64 (kind)), (.int .i64 (round))] : List Value), rowC 45 35 v62 ((ownA D 3 hash0).length) ((ownA D 3 hash0).flatMap encA)] w63 := (Sat.turnL (L' := [cellC k 92 (coreL t pb (ownV D 2 3 hash0)), talC t hb cb ab lb (ownV D 2 3 hash0).f (ownV D 2 3 hash0).c (ownV D 2 3 hash0).L, mapC pb (Value.int .i64) propV (ownV D 2 3 hash0).P, rowC 45 35 v62 ((ownA D 3 hash0).length) ((ownA D 3 hash0).flatMap encA)]) (R := [restC w (coreC k t hb cb ab lb pb D).fp, cellC b2 63 ([(.int .i64 (kind)), (.int .i64 (round))] : List Value)]) H58 [0, 1, 2] [3, 4] (by decide) (by kernel_rfl) rfl S64).pick [0, 1, 2, 4, 5, 3] (by decide)
       obtain ⟨a66, c67, rfl⟩ := ownsRow_shape (H65.at 5 rfl)
       refine ⟨_, rfl, ?_⟩
       have l68 : (ownA D 3 hash0).length = 1 := rfl
       refine hK61 _ _ ?_
       clear hK61 K61
       refine wv 5 (.slice a66 ((ownA D 3 hash0).length) c67) ?_
       refine w_nil ?_
       refine blk_normal ?_
       refine then_normal ?_
       refine w_seq ?_
       refine w_lit ?_
       refine wv 71 (.slice a66 ((ownA D 3 hash0).length) c67) ?_
       refine wv 72 (pt k 0) ?_
       refine wl_do (wants0 rfl) (fun K69 hK69 => ?_)
       refine d_call (d := 73) rfl (by kernel_rfl) (coreSettle_any w63 k t hb cb ab lb pb (ownV D 2 3 hash0) (ok_of (by kernel_rfl) (H65.fin [0, 1, 2] (by decide) rfl)) (h.own 2 3 (by omega) hash0)  ) ?_
       rintro _ w71 ⟨v70, rfl, S72⟩
       have H73 : Sat w [cellC k 92 (coreL t pb ((settleD (ownV D 2 3 hash0)).1)), talC t hb cb ab lb ((settleD (ownV D 2 3 hash0)).1).f ((settleD (ownV D 2 3 hash0)).1).c ((settleD (ownV D 2 3 hash0)).1).L, mapC pb (Value.int .i64) propV ((settleD (ownV D 2 3 hash0)).1).P, restC w (coreC k t hb cb ab lb pb D).fp, cellC b2 63 ([(.int .i64 (kind)), (.int .i64 (round))] : List Value), rowC 45 35 (.slice a66 ((ownA D 3 hash0).length) c67) ((ownA D 3 hash0).length) ((ownA D 3 hash0).flatMap encA), rowC 45 35 v70 (((settleD (ownV D 2 3 hash0)).2).length) (((settleD (ownV D 2 3 hash0)).2).flatMap encA)] w71 := (Sat.turnL (L' := [cellC k 92 (coreL t pb ((settleD (ownV D 2 3 hash0)).1)), talC t hb cb ab lb ((settleD (ownV D 2 3 hash0)).1).f ((settleD (ownV D 2 3 hash0)).1).c ((settleD (ownV D 2 3 hash0)).1).L, mapC pb (Value.int .i64) propV ((settleD (ownV D 2 3 hash0)).1).P, rowC 45 35 v70 (((settleD (ownV D 2 3 hash0)).2).length) (((settleD (ownV D 2 3 hash0)).2).flatMap encA)]) (R := [restC w (coreC k t hb cb ab lb pb D).fp, cellC b2 63 ([(.int .i64 (kind)), (.int .i64 (round))] : List Value), rowC 45 35 (.slice a66 ((ownA D 3 hash0).length) c67) ((ownA D 3 hash0).length) ((ownA D 3 hash0).flatMap encA)]) H65 [0, 1, 2] [3, 4, 5] (by decide) (by kernel_rfl) rfl S72).pick [0, 1, 2, 4, 5, 6, 3] (by decide)
       obtain ⟨a74, c75, rfl⟩ := ownsRow_shape (H73.at 6 rfl)
       refine ⟨_, rfl, ?_⟩
       have l76 := settle_le (h.own 2 3 (by omega) hash0)
       refine hK69 _ _ ?_
       clear hK69 K69
       refine wl_do (wants0 rfl) (fun K77 hK77 => ?_)
       refine d_append (T := 31) (e := 45) (size := 35) (bytes := 56) rfl H73 (by kernel_rfl) 5 6 rfl rfl rfl rfl (flat_one encA encA_one ((settleD (ownV D 2 3 hash0)).2)) (by omega) (by omega) ?_
       intro v78 w79 (H80 : Sat w [cellC k 92 (coreL t pb ((settleD (ownV D 2 3 hash0)).1)), talC t hb cb ab lb ((settleD (ownV D 2 3 hash0)).1).f ((settleD (ownV D 2 3 hash0)).1).c ((settleD (ownV D 2 3 hash0)).1).L, mapC pb (Value.int .i64) propV ((settleD (ownV D 2 3 hash0)).1).P, restC w (coreC k t hb cb ab lb pb D).fp, cellC b2 63 ([(.int .i64 (kind)), (.int .i64 (round))] : List Value), rowC 45 35 v78 ((ownA D 3 hash0).length + ((settleD (ownV D 2 3 hash0)).2).length) (((ownA D 3 hash0).flatMap encA) ++ (((settleD (ownV D 2 3 hash0)).2).flatMap encA)), rowC 45 35 (.slice a74 (((settleD (ownV D 2 3 hash0)).2).length) c75) (((settleD (ownV D 2 3 hash0)).2).length) (((settleD (ownV D 2 3 hash0)).2).flatMap encA)] w79)
       obtain ⟨a81, c82, rfl⟩ := ownsRow_shape (H80.at 5 rfl)
       refine hK77 _ _ ?_
       clear hK77 K77
       refine wv 4 (.slice a81 ((ownA D 3 hash0).length + ((settleD (ownV D 2 3 hash0)).2).length) c82) ?_
       refine w_nil ?_
       refine then_normal ?_
       refine w_ret ?_
       refine end1 rfl (res_tmp (v := (.slice a81 ((ownA D 3 hash0).length + ((settleD (ownV D 2 3 hash0)).2).length) c82)) rfl) ?_
       rw [timeD_b, if_neg (by rw [b20]; simp), if_neg (by rw [b29]; simp), if_pos b60]
       exact ⟨_, rfl, (H80.pick [0, 1, 2, 5, 3] (by decide)).cast (by simp only [List.length_append, List.flatMap_append]; rfl)⟩
      ·refine wp_know 44 (.bool false) (congrArg Value.bool b60) ?_
       refine wp_iff rfl ?_
       refine w_seq ?_
       refine w_lit ?_
       refine wv 60 (pt b2 0) ?_
       refine wv 61 (.int .i64 (kind)) ?_ (hr := e_load1 rfl (by kernel_rfl) (H58.cell 4 rfl rfl))
       refine wv 62 (.bool (decide (kind = 3))) ?_
       refine wv 59 (.bool (decide (kind = 3))) ?_
       refine w_nil ?_
       refine then_normal ?_
       refine (bsplit (decide (kind = 3))).elim (fun b83 => ?_) (fun b83 => ?_)
       ·have g84 := of_decide_eq_true b83
        refine wp_know 59 (.bool true) (congrArg Value.bool b83) ?_
        refine wp_ift rfl ?_
        refine w_lit ?_
        refine wv 63 (pt k 0) ?_
        refine wv 64 (pt k 0) ?_
        refine wv 65 (pt k 0) ?_
        refine wv 66 (pt k 4) ?_
        refine wv 67 (pt k 4) ?_
        refine wv 68 (.int .i64 (D.s.round)) ?_ (hr := e_load1 rfl (by kernel_rfl) (H58.cell 0 rfl (by kernel_rfl)))
        refine wv 69 (.int .i64 (D.s.round + 1)) ?_ (hr := e_int (z := D.s.round + 1) (by kernel_rfl) (IntWalk.i64_in _ (by omega)))
        refine wl_do (wants0 rfl) (fun K85 hK85 => ?_)
        refine d_call (d := 70) rfl (by kernel_rfl) (coreEnter_any w57 k t hb cb ab lb pb D (ok_of (by kernel_rfl) (H58.fin [0, 1, 2] (by decide) rfl)) h (D.s.round + 1) ) ?_
        rintro _ w87 ⟨v86, rfl, S88⟩
        have H89 : Sat w [cellC k 92 (coreL t pb (nextD D (D.s.round + 1))), talC t hb cb ab lb (nextD D (D.s.round + 1)).f (nextD D (D.s.round + 1)).c (nextD D (D.s.round + 1)).L, mapC pb (Value.int .i64) propV (nextD D (D.s.round + 1)).P, restC w (coreC k t hb cb ab lb pb D).fp, cellC b2 63 ([(.int .i64 (kind)), (.int .i64 (round))] : List Value), rowC 45 35 v86 ((nextA D (D.s.round + 1)).length) ((nextA D (D.s.round + 1)).flatMap encA)] w87 := (Sat.turnL (L' := [cellC k 92 (coreL t pb (nextD D (D.s.round + 1))), talC t hb cb ab lb (nextD D (D.s.round + 1)).f (nextD D (D.s.round + 1)).c (nextD D (D.s.round + 1)).L, mapC pb (Value.int .i64) propV (nextD D (D.s.round + 1)).P, rowC 45 35 v86 ((nextA D (D.s.round + 1)).length) ((nextA D (D.s.round + 1)).flatMap encA)]) (R := [restC w (coreC k t hb cb ab lb pb D).fp, cellC b2 63 ([(.int .i64 (kind)), (.int .i64 (round))] : List Value)]) H58 [0, 1, 2] [3, 4] (by decide) (by kernel_rfl) rfl S88).pick [0, 1, 2, 4, 5, 3] (by decide)
        obtain ⟨a90, c91, rfl⟩ := ownsRow_shape (H89.at 5 rfl)
        refine ⟨_, rfl, ?_⟩
        have l92 := nextA_len D (D.s.round + 1)
        refine hK85 _ _ ?_
        clear hK85 K85
        refine wv 5 (.slice a90 ((nextA D (D.s.round + 1)).length) c91) ?_
        refine w_nil ?_
        refine blk_normal ?_
        refine then_normal ?_
        refine w_seq ?_
        refine w_lit ?_
        refine wv 71 (.slice a90 ((nextA D (D.s.round + 1)).length) c91) ?_
        refine wv 72 (pt k 0) ?_
        refine wl_do (wants0 rfl) (fun K93 hK93 => ?_)
        refine d_call (d := 73) rfl (by kernel_rfl) (coreSettle_any w87 k t hb cb ab lb pb (nextD D (D.s.round + 1)) (ok_of (by kernel_rfl) (H89.fin [0, 1, 2] (by decide) rfl)) h.next  ) ?_
        rintro _ w95 ⟨v94, rfl, S96⟩
        have H97 : Sat w [cellC k 92 (coreL t pb ((settleD (nextD D (D.s.round + 1))).1)), talC t hb cb ab lb ((settleD (nextD D (D.s.round + 1))).1).f ((settleD (nextD D (D.s.round + 1))).1).c ((settleD (nextD D (D.s.round + 1))).1).L, mapC pb (Value.int .i64) propV ((settleD (nextD D (D.s.round + 1))).1).P, restC w (coreC k t hb cb ab lb pb D).fp, cellC b2 63 ([(.int .i64 (kind)), (.int .i64 (round))] : List Value), rowC 45 35 (.slice a90 ((nextA D (D.s.round + 1)).length) c91) ((nextA D (D.s.round + 1)).length) ((nextA D (D.s.round + 1)).flatMap encA), rowC 45 35 v94 (((settleD (nextD D (D.s.round + 1))).2).length) (((settleD (nextD D (D.s.round + 1))).2).flatMap encA)] w95 := (Sat.turnL (L' := [cellC k 92 (coreL t pb ((settleD (nextD D (D.s.round + 1))).1)), talC t hb cb ab lb ((settleD (nextD D (D.s.round + 1))).1).f ((settleD (nextD D (D.s.round + 1))).1).c ((settleD (nextD D (D.s.round + 1))).1).L, mapC pb (Value.int .i64) propV ((settleD (nextD D (D.s.round + 1))).1).P, rowC 45 35 v94 (((settleD (nextD D (D.s.round + 1))).2).length) (((settleD (nextD D (D.s.round + 1))).2).flatMap encA)]) (R := [restC w (coreC k t hb cb ab lb pb D).fp, cellC b2 63 ([(.int .i64 (kind)), (.int .i64 (round))] : List Value), rowC 45 35 (.slice a90 ((nextA D (D.s.round + 1)).length) c91) ((nextA D (D.s.round + 1)).length) ((nextA D (D.s.round + 1)).flatMap encA)]) H89 [0, 1, 2] [3, 4, 5] (by decide) (by kernel_rfl) rfl S96).pick [0, 1, 2, 4, 5, 6, 3] (by decide)
        obtain ⟨a98, c99, rfl⟩ := ownsRow_shape (H97.at 6 rfl)
        refine ⟨_, rfl, ?_⟩
        have l100 := settle_le h.next
        refine hK93 _ _ ?_
        clear hK93 K93
        refine wl_do (wants0 rfl) (fun K101 hK101 => ?_)
        refine d_append (T := 31) (e := 45) (size := 35) (bytes := 56) rfl H97 (by kernel_rfl) 5 6 rfl rfl rfl rfl (flat_one encA encA_one ((settleD (nextD D (D.s.round + 1))).2)) (by omega) (by omega) ?_
        intro v102 w103 (H104 : Sat w [cellC k 92 (coreL t pb ((settleD (nextD D (D.s.round + 1))).1)), talC t hb cb ab lb ((settleD (nextD D (D.s.round + 1))).1).f ((settleD (nextD D (D.s.round + 1))).1).c ((settleD (nextD D (D.s.round + 1))).1).L, mapC pb (Value.int .i64) propV ((settleD (nextD D (D.s.round + 1))).1).P, restC w (coreC k t hb cb ab lb pb D).fp, cellC b2 63 ([(.int .i64 (kind)), (.int .i64 (round))] : List Value), rowC 45 35 v102 ((nextA D (D.s.round + 1)).length + ((settleD (nextD D (D.s.round + 1))).2).length) (((nextA D (D.s.round + 1)).flatMap encA) ++ (((settleD (nextD D (D.s.round + 1))).2).flatMap encA)), rowC 45 35 (.slice a98 (((settleD (nextD D (D.s.round + 1))).2).length) c99) (((settleD (nextD D (D.s.round + 1))).2).length) (((settleD (nextD D (D.s.round + 1))).2).flatMap encA)] w103)
        obtain ⟨a105, c106, rfl⟩ := ownsRow_shape (H104.at 5 rfl)
        refine hK101 _ _ ?_
        clear hK101 K101
        refine wv 4 (.slice a105 ((nextA D (D.s.round + 1)).length + ((settleD (nextD D (D.s.round + 1))).2).length) c106) ?_
        refine w_nil ?_
        refine then_normal ?_
        refine w_ret ?_
        refine end1 rfl (res_tmp (v := (.slice a105 ((nextA D (D.s.round + 1)).length + ((settleD (nextD D (D.s.round + 1))).2).length) c106)) rfl) ?_
        rw [timeD_b, if_neg (by rw [b20]; simp), if_neg (by rw [b29]; simp), if_neg (by rw [b60]; simp), if_pos (of_decide_eq_true b83)]
        exact ⟨_, rfl, (H104.pick [0, 1, 2, 5, 3] (by decide)).cast (by simp only [List.length_append, List.flatMap_append]; rfl)⟩
       ·have g107 := of_decide_eq_false b83
        refine wp_know 59 (.bool false) (congrArg Value.bool b83) ?_
        refine wp_iff rfl ?_
        refine w_skip ?_
        refine blk_normal ?_
        refine then_normal ?_
        refine w_seq ?_
        refine w_lit ?_
        refine wv 71 (.slice none 0 0) ?_
        refine wv 72 (pt k 0) ?_
        refine wl_do (wants0 rfl) (fun K108 hK108 => ?_)
        refine d_call (d := 73) rfl (by kernel_rfl) (coreSettle_any w57 k t hb cb ab lb pb D (ok_of (by kernel_rfl) (H58.fin [0, 1, 2] (by decide) rfl)) h  ) ?_
        rintro _ w110 ⟨v109, rfl, S111⟩
        have H112 : Sat w [cellC k 92 (coreL t pb ((settleD D).1)), talC t hb cb ab lb ((settleD D).1).f ((settleD D).1).c ((settleD D).1).L, mapC pb (Value.int .i64) propV ((settleD D).1).P, restC w (coreC k t hb cb ab lb pb D).fp, cellC b2 63 ([(.int .i64 (kind)), (.int .i64 (round))] : List Value), rowC 45 35 v109 (((settleD D).2).length) (((settleD D).2).flatMap encA)] w110 := (Sat.turnL (L' := [cellC k 92 (coreL t pb ((settleD D).1)), talC t hb cb ab lb ((settleD D).1).f ((settleD D).1).c ((settleD D).1).L, mapC pb (Value.int .i64) propV ((settleD D).1).P, rowC 45 35 v109 (((settleD D).2).length) (((settleD D).2).flatMap encA)]) (R := [restC w (coreC k t hb cb ab lb pb D).fp, cellC b2 63 ([(.int .i64 (kind)), (.int .i64 (round))] : List Value)]) H58 [0, 1, 2] [3, 4] (by decide) (by kernel_rfl) rfl S111).pick [0, 1, 2, 4, 5, 3] (by decide)
        obtain ⟨a113, c114, rfl⟩ := ownsRow_shape (H112.at 5 rfl)
        refine ⟨_, rfl, ?_⟩
        have l115 := settle_le h
        refine hK108 _ _ ?_
        clear hK108 K108
        refine wl_do (wants0 rfl) (fun K116 hK116 => ?_)
        refine d_appendNil (T := 31) (e := 45) (size := 35) (bytes := 56) rfl H112 (by kernel_rfl) (H112.at 5 rfl) rfl rfl (flat_one encA encA_one ((settleD D).2)) (by omega) (by omega) ?_
        intro v117 w118 (H119 : Sat w [cellC k 92 (coreL t pb ((settleD D).1)), talC t hb cb ab lb ((settleD D).1).f ((settleD D).1).c ((settleD D).1).L, mapC pb (Value.int .i64) propV ((settleD D).1).P, restC w (coreC k t hb cb ab lb pb D).fp, cellC b2 63 ([(.int .i64 (kind)), (.int .i64 (round))] : List Value), rowC 45 35 (.slice a113 (((settleD D).2).length) c114) (((settleD D).2).length) (((settleD D).2).flatMap encA), rowC 45 35 v117 (((settleD D).2).length) (((settleD D).2).flatMap encA)] w118)
        obtain ⟨a120, c121, rfl⟩ := ownsRow_shape (H119.at 6 rfl)
        refine hK116 _ _ ?_
        clear hK116 K116
        refine wv 4 (.slice a120 (((settleD D).2).length) c121) ?_
        refine w_nil ?_
        refine then_normal ?_
        refine w_ret ?_
        refine end1 rfl (res_tmp (v := (.slice a120 (((settleD D).2).length) c121)) rfl) ?_
        rw [timeD_b, if_neg (by rw [b20]; simp), if_neg (by rw [b29]; simp), if_neg (by rw [b60]; simp), if_neg (of_decide_eq_false b83)]
        exact ⟨_, rfl, (H119.pick [0, 1, 2, 6, 3] (by decide)).cast (by kernel_rfl)⟩

set_option maxRecDepth 100000 in
set_option maxHeartbeats 400000 in
theorem coreState_any (w : World) (k t hb cb ab lb pb : Nat) (D : CoreD) (hT : (coreC k t hb cb ab lb pb D).ok w) (h : CI D) :
  Calls Try.prog 18 #[(.pointer (some ⟨k, 0, none⟩))] w fun e w' => e = .returned (.agg ⟨stL D.s⟩) ∧ Upd [] w w' := by
 obtain ⟨hcell, htal, hmap⟩ := coreC_parts hT
 have H := Sat.start0 w
 have hf := h.f
 have hrd := h.rd
 refine calls_fr Try.func18 rfl 7 rfl (Nat.le_of_ble_eq_true rfl) ?_
 refine w_seq ?_
 refine w_lit ?_
 refine wl_do (wants0 rfl) (fun K1 hK1 => ?_)
 refine d_alloc (zs := (([(.int .i64 (0)), (.int .i64 (0)), (.int .i64 (0)), (.int .i64 (0))] : List Value) ++ hc hash0 ++ hc hash0 ++ ([(.bool false)] : List Value) ++ hc hash0)) (z := (.agg ⟨(([(.int .i64 (0)), (.int .i64 (0)), (.int .i64 (0)), (.int .i64 (0))] : List Value) ++ hc hash0 ++ hc hash0 ++ ([(.bool false)] : List Value) ++ hc hash0)⟩)) rfl H (by kernel_rfl) (by kernel_rfl) ?_
 intro b2 w3 (H4 : Sat w [restC w (fun _ => False), cellC b2 38 (([(.int .i64 (0)), (.int .i64 (0)), (.int .i64 (0)), (.int .i64 (0))] : List Value) ++ hc hash0 ++ hc hash0 ++ ([(.bool false)] : List Value) ++ hc hash0)] w3)
 refine hK1 _ _ ?_
 clear hK1 K1
 refine w_nil ?_
 refine then_normal ?_
 refine w_seq ?_
 refine w_lit ?_
 refine wv 3 (pt k 0) ?_
 refine wv 4 (pt k 0) ?_
 refine wv 5 (pt k 4) ?_
 refine wv 6 (.agg ⟨(([(.int .i64 (D.s.round)), (.int .i64 (D.s.step)), (.int .i64 (D.s.lr)), (.int .i64 (D.s.vr))] : List Value) ++ hc D.s.locked ++ hc D.s.valid ++ ([(.bool (D.s.decided))] : List Value) ++ hc D.s.decision)⟩) ?_ (hr := e_loadN (vs := (([(.int .i64 (D.s.round)), (.int .i64 (D.s.step)), (.int .i64 (D.s.lr)), (.int .i64 (D.s.vr))] : List Value) ++ hc D.s.locked ++ hc D.s.valid ++ ([(.bool (D.s.decided))] : List Value) ++ hc D.s.decision)) rfl (by kernel_rfl) (by kernel_rfl) (by exact Nat.le_of_ble_eq_true (by kernel_rfl)) (H4.roCells 0 rfl hcell (fun h => h)) (by kernel_rfl))
 refine wl_do (wants0 rfl) (fun K5 hK5 => ?_)
 refine d_storeX (vs := (([(.int .i64 (D.s.round)), (.int .i64 (D.s.step)), (.int .i64 (D.s.lr)), (.int .i64 (D.s.vr))] : List Value) ++ hc D.s.locked ++ hc D.s.valid ++ ([(.bool (D.s.decided))] : List Value) ++ hc D.s.decision)) (cs' := (([(.int .i64 (D.s.round)), (.int .i64 (D.s.step)), (.int .i64 (D.s.lr)), (.int .i64 (D.s.vr))] : List Value) ++ hc D.s.locked ++ hc D.s.valid ++ ([(.bool (D.s.decided))] : List Value) ++ hc D.s.decision)) rfl H4 1 rfl rfl rfl rfl (by kernel_rfl) (Nat.le_of_ble_eq_true (by kernel_rfl)) (Nat.le_of_ble_eq_true (by kernel_rfl)) (by kernel_rfl) (by kernel_rfl) ?_
 intro w6 (H7 : Sat w [restC w (fun _ => False), cellC b2 38 (([(.int .i64 (D.s.round)), (.int .i64 (D.s.step)), (.int .i64 (D.s.lr)), (.int .i64 (D.s.vr))] : List Value) ++ hc D.s.locked ++ hc D.s.valid ++ ([(.bool (D.s.decided))] : List Value) ++ hc D.s.decision)] w6)
 refine hK5 _ _ ?_
 clear hK5 K5
 refine w_nil ?_
 refine then_normal ?_
 refine w_ret ?_
 refine end1 rfl (res_cellN (vs := (([(.int .i64 (D.s.round)), (.int .i64 (D.s.step)), (.int .i64 (D.s.lr)), (.int .i64 (D.s.vr))] : List Value) ++ hc D.s.locked ++ hc D.s.valid ++ ([(.bool (D.s.decided))] : List Value) ++ hc D.s.decision)) rfl (by kernel_rfl) (by kernel_rfl) (by exact Nat.le_of_ble_eq_true (by kernel_rfl)) (H7.at 1 rfl) (by kernel_rfl)) ?_
 exact ⟨rfl, H7.upd 0 rfl [] (fun _ h => h.elim)⟩

end Go.Proofs.Ythjmbhneifjeeaa
