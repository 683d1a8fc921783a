/- WHAT IS PROVED: the contracts of the document's core. Conditions: stated with each. -/
import Derived.Test.YthjmbhneifjeeaaShort
import Derived.Test.YthjmbhneifjeeaaRc2
import Derived.Test.YthjmbhneifjeeaaRcAbs
namespace Go.Proofs.Ythjmbhneifjeeaa
open Go.RowKit

set_option maxRecDepth 100000 in
set_option maxHeartbeats 1000000 in
theorem rcStart_any (w : World) (p t : Nat) (v u : Value) (D : CoreD) (hT : (rcC p t v u D).ok w) (h : CI D) :
  Calls Try.prog 28 #[(.pointer (some ⟨p, 0, none⟩))] w fun e w' => ∃ v' u' z', e = .returned z' ∧ Sat w [cellC p 83 (rcL t u' ((startD D).1)), cellC t 101 ([(.int .i64 (((startD D).1).f)), (.int .i64 (((startD D).1).c)), v'] : List Value), rowC 143 35 (v') ((((startD D).1).L).length) ((((startD D).1).L).flatMap encV), rowC 129 35 (u') ((((startD D).1).P).length) ((((startD D).1).P).flatMap encQ), rowC 102 35 z' ((startD D).2).length (((startD D).2).flatMap encA), restC w (rcC p t v u D).fp] w' := by
 obtain ⟨va, vc, rfl⟩ := ownsRow_shape (rcC_parts hT).2.2.1
 obtain ⟨ua, uc, rfl⟩ := ownsRow_shape (rcC_parts hT).2.2.2
 have H : Sat w [cellC p 83 (rcL t (.slice ua D.P.length uc) D), cellC t 101 ([(.int .i64 (D.f)), (.int .i64 (D.c)), (.slice va D.L.length vc)] : List Value), rowC 143 35 (.slice va D.L.length vc) D.L.length (D.L.flatMap encV), rowC 129 35 (.slice ua D.P.length uc) D.P.length (D.P.flatMap encQ), restC w (rcC p t (.slice va D.L.length vc) (.slice ua D.P.length uc) D).fp] w := Sat.start _ hT
 have hf := h.f
 have hep := h.ep
 have hrp := h.rp
 have hrd := h.rd
 have hst := h.st
 have hvo := h.votes
 have hpo := props_few h
 refine calls_fr Try.func28 rfl 16 rfl (Nat.le_of_ble_eq_true rfl) ?_
 refine w_seq ?_
 refine w_lit ?_
 refine wv 2 (.slice none 0 0) ?_
 refine w_nil ?_
 refine then_normal ?_
 iterate 2 refine w_seq ?_
 refine w_lit ?_
 refine wv 4 (pt p 0) ?_
 refine wv 5 (pt p 0) ?_
 refine wv 6 (pt p 4) ?_
 refine wv 7 (pt p 5) ?_
 refine wv 8 (.int .i64 (D.s.step)) ?_ (hr := e_load1 rfl (by kernel_rfl) (H.cell 0 rfl (by kernel_rfl)))
 refine wv 9 (.bool (!(decide (D.s.step = 0)))) ?_
 refine w_nil ?_
 refine then_normal ?_
 refine (bsplit (!(decide (D.s.step = 0)))).elim (fun b1 => ?_) (fun b1 => ?_)
 ·have g2 := bnot_true b1
  have g3 := of_decide_eq_false g2
  refine wp_know 9 (.bool true) (congrArg Value.bool b1) ?_
  refine wp_ift rfl ?_
  refine w_seq ?_
  refine w_lit ?_
  refine wv 2 (.slice none 0 0) ?_
  refine w_nil ?_
  refine then_normal ?_
  refine w_ret ?_
  refine then_ret ?_
  refine end1 rfl (res_tmp (v := (.slice none 0 0)) rfl) ?_
  rw [show startD D = (D, []) from if_pos (by have q := b1; simp at q; omega)]
  have Hn := H.addNil 102 35
  exact ⟨(.slice va D.L.length vc), (.slice ua D.P.length uc), _, rfl, (Hn.pick [0, 1, 2, 3, 5, 4] (by decide)).cast (by kernel_rfl)⟩
 ·have g4 := bnot_false b1
  have g5 := of_decide_eq_true g4
  refine wp_know 9 (.bool false) (congrArg Value.bool b1) ?_
  refine wp_iff rfl ?_
  refine w_skip ?_
  refine then_normal ?_
  refine w_seq ?_
  refine w_lit ?_
  refine wv 10 (pt p 0) ?_
  refine wl_do (wants0 rfl) (fun K6 hK6 => ?_)
  refine d_call (d := 11) rfl (by kernel_rfl) (rcEnter_any w p t (.slice va D.L.length vc) (.slice ua D.P.length uc) D (ok_of (by kernel_rfl) (H.fin [0, 1, 2, 3] (by decide) rfl)) h 0) ?_
  rintro _ w10 ⟨v7, u8, x9, rfl, S11⟩
  have H12 : Sat w [cellC p 83 (rcL t u8 (nextD D 0)), cellC t 101 ([(.int .i64 ((nextD D 0).f)), (.int .i64 ((nextD D 0).c)), v7] : List Value), rowC 143 35 v7 (((nextD D 0).L).length) (((nextD D 0).L).flatMap encV), rowC 129 35 u8 (((nextD D 0).P).length) (((nextD D 0).P).flatMap encQ), restC w (rcC p t (.slice va D.L.length vc) (.slice ua D.P.length uc) D).fp, rowC 102 35 x9 ((nextA D 0).length) ((nextA D 0).flatMap encA)] w10 := (Sat.turnL (L' := [cellC p 83 (rcL t u8 (nextD D 0)), cellC t 101 ([(.int .i64 ((nextD D 0).f)), (.int .i64 ((nextD D 0).c)), v7] : List Value), rowC 143 35 v7 (((nextD D 0).L).length) (((nextD D 0).L).flatMap encV), rowC 129 35 u8 (((nextD D 0).P).length) (((nextD D 0).P).flatMap encQ), rowC 102 35 x9 ((nextA D 0).length) ((nextA D 0).flatMap encA)]) (R := [restC w (rcC p t (.slice va D.L.length vc) (.slice ua D.P.length uc) D).fp]) H [0, 1, 2, 3] [4] (by decide) (by kernel_rfl) rfl S11).pick [0, 1, 2, 3, 5, 4] (by decide)
  obtain ⟨a13, c14, rfl⟩ := ownsRow_shape (H12.at 2 rfl)
  obtain ⟨a15, c16, rfl⟩ := ownsRow_shape (H12.at 3 rfl)
  obtain ⟨a17, c18, rfl⟩ := ownsRow_shape (H12.at 5 rfl)
  refine ⟨_, rfl, ?_⟩
  have l19 := nextA_len D 0
  refine hK6 _ _ ?_
  clear hK6 K6
  refine wv 3 (.slice a17 ((nextA D 0).length) c18) ?_
  refine w_nil ?_
  refine then_normal ?_
  refine w_seq ?_
  refine w_lit ?_
  refine wv 12 (.slice a17 ((nextA D 0).length) c18) ?_
  refine wv 13 (pt p 0) ?_
  refine wl_do (wants0 rfl) (fun K20 hK20 => ?_)
  refine d_call (d := 14) rfl (by kernel_rfl) (rcSettle_any w10 p t (.slice a13 (((nextD D 0).L).length) c14) (.slice a15 (((nextD D 0).P).length) c16) (nextD D 0) (ok_of (by kernel_rfl) (H12.fin [0, 1, 2, 3] (by decide) rfl)) h.next0 ) ?_
  rintro _ w24 ⟨v21, u22, x23, rfl, S25⟩
  have H26 : Sat w [cellC p 83 (rcL t u22 ((settleD (nextD D 0)).1)), cellC t 101 ([(.int .i64 (((settleD (nextD D 0)).1).f)), (.int .i64 (((settleD (nextD D 0)).1).c)), v21] : List Value), rowC 143 35 v21 ((((settleD (nextD D 0)).1).L).length) ((((settleD (nextD D 0)).1).L).flatMap encV), rowC 129 35 u22 ((((settleD (nextD D 0)).1).P).length) ((((settleD (nextD D 0)).1).P).flatMap encQ), restC w (rcC p t (.slice va D.L.length vc) (.slice ua D.P.length uc) D).fp, rowC 102 35 (.slice a17 ((nextA D 0).length) c18) ((nextA D 0).length) ((nextA D 0).flatMap encA), rowC 102 35 x23 (((settleD (nextD D 0)).2).length) (((settleD (nextD D 0)).2).flatMap encA)] w24 := (Sat.turnL (L' := [cellC p 83 (rcL t u22 ((settleD (nextD D 0)).1)), cellC t 101 ([(.int .i64 (((settleD (nextD D 0)).1).f)), (.int .i64 (((settleD (nextD D 0)).1).c)), v21] : List Value), rowC 143 35 v21 ((((settleD (nextD D 0)).1).L).length) ((((settleD (nextD D 0)).1).L).flatMap encV), rowC 129 35 u22 ((((settleD (nextD D 0)).1).P).length) ((((settleD (nextD D 0)).1).P).flatMap encQ), rowC 102 35 x23 (((settleD (nextD D 0)).2).length) (((settleD (nextD D 0)).2).flatMap encA)]) (R := [restC w (rcC p t (.slice va D.L.length vc) (.slice ua D.P.length uc) D).fp, rowC 102 35 (.slice a17 ((nextA D 0).length) c18) ((nextA D 0).length) ((nextA D 0).flatMap encA)]) H12 [0, 1, 2, 3] [4, 5] (by decide) (by kernel_rfl) rfl S25).pick [0, 1, 2, 3, 5, 6, 4] (by decide)
  obtain ⟨a27, c28, rfl⟩ := ownsRow_shape (H26.at 2 rfl)
  obtain ⟨a29, c30, rfl⟩ := ownsRow_shape (H26.at 3 rfl)
  obtain ⟨a31, c32, rfl⟩ := ownsRow_shape (H26.at 6 rfl)
  refine ⟨_, rfl, ?_⟩
  have l33 := settle_le h.next0
  refine hK20 _ _ ?_
  clear hK20 K20
  refine wl_do (wants0 rfl) (fun K34 hK34 => ?_)
  refine d_append (T := 73) (e := 102) (size := 35) (bytes := 56) rfl H26 (by kernel_rfl) 5 6 rfl rfl rfl rfl (flat_one encA encA_one ((settleD (nextD D 0)).2)) (by omega) (by omega) ?_
  intro v35 w36 (H37 : Sat w [cellC p 83 (rcL t (.slice a29 ((((settleD (nextD D 0)).1).P).length) c30) ((settleD (nextD D 0)).1)), cellC t 101 ([(.int .i64 (((settleD (nextD D 0)).1).f)), (.int .i64 (((settleD (nextD D 0)).1).c)), (.slice a27 ((((settleD (nextD D 0)).1).L).length) c28)] : List Value), rowC 143 35 (.slice a27 ((((settleD (nextD D 0)).1).L).length) c28) ((((settleD (nextD D 0)).1).L).length) ((((settleD (nextD D 0)).1).L).flatMap encV), rowC 129 35 (.slice a29 ((((settleD (nextD D 0)).1).P).length) c30) ((((settleD (nextD D 0)).1).P).length) ((((settleD (nextD D 0)).1).P).flatMap encQ), restC w (rcC p t (.slice va D.L.length vc) (.slice ua D.P.length uc) D).fp, rowC 102 35 v35 ((nextA D 0).length + ((settleD (nextD D 0)).2).length) (((nextA D 0).flatMap encA) ++ (((settleD (nextD D 0)).2).flatMap encA)), rowC 102 35 (.slice a31 (((settleD (nextD D 0)).2).length) c32) (((settleD (nextD D 0)).2).length) (((settleD (nextD D 0)).2).flatMap encA)] w36)
  obtain ⟨a38, c39, rfl⟩ := ownsRow_shape (H37.at 5 rfl)
  refine hK34 _ _ ?_
  clear hK34 K34
  refine wv 2 (.slice a38 ((nextA D 0).length + ((settleD (nextD D 0)).2).length) c39) ?_
  refine w_nil ?_
  refine then_normal ?_
  refine w_ret ?_
  refine end1 rfl (res_tmp (v := (.slice a38 ((nextA D 0).length + ((settleD (nextD D 0)).2).length) c39)) rfl) ?_
  rw [startD_b D (by have q := b1; simp at q; omega)]
  exact ⟨(.slice a27 ((((settleD (nextD D 0)).1).L).length) c28), (.slice a29 ((((settleD (nextD D 0)).1).P).length) c30), _, rfl, (H37.pick [0, 1, 2, 3, 5, 4] (by decide)).cast (by simp only [List.length_append, List.flatMap_append]; rfl)⟩

set_option maxRecDepth 100000 in
set_option maxHeartbeats 1000000 in
theorem rcPropose_any (w : World) (p t : Nat) (v u : Value) (D : CoreD) (hT : (rcC p t v u D).ok w) (h : CI D) (round valid : Int) (x : Hash) (ok : Bool) :
  Calls Try.prog 44 #[(.pointer (some ⟨p, 0, none⟩)), (.int .i64 (round)), (.int .i64 (valid)), (.agg ⟨(hc x)⟩), (.bool (ok))] w fun e w' => ∃ v' u' z', e = .returned z' ∧ Sat w [cellC p 83 (rcL t u' ((refPropD D round valid x ok).1)), cellC t 101 ([(.int .i64 (((refPropD D round valid x ok).1).f)), (.int .i64 (((refPropD D round valid x ok).1).c)), v'] : List Value), rowC 143 35 (v') ((((refPropD D round valid x ok).1).L).length) ((((refPropD D round valid x ok).1).L).flatMap encV), rowC 129 35 (u') ((((refPropD D round valid x ok).1).P).length) ((((refPropD D round valid x ok).1).P).flatMap encQ), rowC 102 35 z' ((refPropD D round valid x ok).2).length (((refPropD D round valid x ok).2).flatMap encA), restC w (rcC p t v u D).fp] w' := by
 obtain ⟨va, vc, rfl⟩ := ownsRow_shape (rcC_parts hT).2.2.1
 obtain ⟨ua, uc, rfl⟩ := ownsRow_shape (rcC_parts hT).2.2.2
 have H : Sat w [cellC p 83 (rcL t (.slice ua D.P.length uc) D), cellC t 101 ([(.int .i64 (D.f)), (.int .i64 (D.c)), (.slice va D.L.length vc)] : List Value), rowC 143 35 (.slice va D.L.length vc) D.L.length (D.L.flatMap encV), rowC 129 35 (.slice ua D.P.length uc) D.P.length (D.P.flatMap encQ), restC w (rcC p t (.slice va D.L.length vc) (.slice ua D.P.length uc) D).fp] w := Sat.start _ hT
 have hf := h.f
 have hep := h.ep
 have hrp := h.rp
 have hrd := h.rd
 have hst := h.st
 have hvo := h.votes
 have hpo := props_few h
 refine calls_fr Try.func44 rfl 57 rfl (Nat.le_of_ble_eq_true rfl) ?_
 refine w_seq ?_
 refine w_lit ?_
 refine wl_do (wants0 rfl) (fun K1 hK1 => ?_)
 refine d_box (vs := (hc x)) rfl H rfl rfl ?_
 intro b2 w3 (H4 : Sat w [cellC p 83 (rcL t (.slice ua D.P.length uc) D), cellC t 101 ([(.int .i64 (D.f)), (.int .i64 (D.c)), (.slice va D.L.length vc)] : List Value), rowC 143 35 (.slice va D.L.length vc) D.L.length (D.L.flatMap encV), rowC 129 35 (.slice ua D.P.length uc) D.P.length (D.P.flatMap encQ), restC w (rcC p t (.slice va D.L.length vc) (.slice ua D.P.length uc) D).fp, cellC b2 36 (hc x)] w3)
 refine hK1 _ _ ?_
 clear hK1 K1
 refine wv 10 (.slice none 0 0) ?_
 refine w_nil ?_
 refine then_normal ?_
 refine w_seq ?_
 refine wp_meetR [13, 14, 15, 16, 17, 18, 19, 20, 21, 22, 23, 24, 25, 26, 27, 28, 29, 30, 31, 32] (fun G_ W_ => G_ 32 = (.bool (argB round valid x)) ∧ Sat w [cellC p 83 (rcL t (.slice ua D.P.length uc) D), cellC t 101 ([(.int .i64 (D.f)), (.int .i64 (D.c)), (.slice va D.L.length vc)] : List Value), rowC 143 35 (.slice va D.L.length vc) D.L.length (D.L.flatMap encV), rowC 129 35 (.slice ua D.P.length uc) D.P.length (D.P.flatMap encQ), restC w (rcC p t (.slice va D.L.length vc) (.slice ua D.P.length uc) D).fp, cellC b2 36 (hc x)] W_) ?_ ?_
 ·refine w_lit ?_
  refine wv 13 (.int .i64 (round)) ?_
  refine wv 14 (.bool (decide (round < 0))) ?_
  refine wv 15 (.bool (decide (round < 0))) ?_
  refine (bsplit (decide (round < 0))).elim (fun b6 => ?_) (fun b6 => ?_)
  ·have g7 := of_decide_eq_true b6
   refine wl_know 15 (.bool true) (congrArg Value.bool b6) ?_
   iterate 2 refine wn 2 15 false ?_
   refine wv 18 (.bool true) ?_
   refine wv 19 (.bool true) ?_
   iterate 2 refine wn 6 19 false ?_
   refine wv 22 (.bool true) ?_
   refine wv 23 (.bool true) ?_
   iterate 3 refine wn 10 23 false ?_
   refine wv 27 (.bool true) ?_
   refine wv 28 (.bool true) ?_
   iterate 3 refine wn 15 28 false ?_
   refine wv 32 (.bool true) ?_
   refine w_nil ?_
   refine meetR_at ?_ ⟨(congrArg Value.bool (show true = (argB round valid x) by simp [argB, b6])), H4⟩
   exact (same_upd rfl (same_upd rfl (same_upd rfl (same_upd rfl (same_upd rfl (same_upd rfl (same_upd rfl (same_upd rfl (same_upd rfl (same_upd rfl (same_upd rfl (same_upd rfl (same_upd rfl (same_upd rfl (same_upd rfl (same_upd rfl (same_upd rfl (same_upd rfl (same_upd rfl (same_upd rfl (same_upd rfl (same_refl))))))))))))))))))))))
  ·have g8 := of_decide_eq_false b6
   refine wl_know 15 (.bool false) (congrArg Value.bool b6) ?_
   refine wy 2 15 false 16 (.int .i64 (round)) ?_
   refine wy 2 15 false 17 (.bool (decide (round > 1048576))) ?_
   refine wv 18 (.bool (decide (round > 1048576))) ?_
   refine wv 19 (.bool (decide (round > 1048576))) ?_
   refine (bsplit (decide (round > 1048576))).elim (fun b9 => ?_) (fun b9 => ?_)
   ·have g10 := of_decide_eq_true b9
    refine wl_know 19 (.bool true) (congrArg Value.bool b9) ?_
    iterate 2 refine wn 6 19 false ?_
    refine wv 22 (.bool true) ?_
    refine wv 23 (.bool true) ?_
    iterate 3 refine wn 10 23 false ?_
    refine wv 27 (.bool true) ?_
    refine wv 28 (.bool true) ?_
    iterate 3 refine wn 15 28 false ?_
    refine wv 32 (.bool true) ?_
    refine w_nil ?_
    refine meetR_at ?_ ⟨(congrArg Value.bool (show true = (argB round valid x) by simp [argB, b6, b9])), H4⟩
    exact (same_upd rfl (same_upd rfl (same_upd rfl (same_upd rfl (same_upd rfl (same_upd rfl (same_upd rfl (same_upd rfl (same_upd rfl (same_upd rfl (same_upd rfl (same_upd rfl (same_upd rfl (same_upd rfl (same_upd rfl (same_upd rfl (same_upd rfl (same_upd rfl (same_upd rfl (same_upd rfl (same_upd rfl (same_upd rfl (same_refl)))))))))))))))))))))))
   ·have g11 := of_decide_eq_false b9
    refine wl_know 19 (.bool false) (congrArg Value.bool b9) ?_
    refine wy 6 19 false 20 (.int .i64 (valid)) ?_
    refine wy 6 19 false 21 (.bool (decide (valid < (-1)))) ?_
    refine wv 22 (.bool (decide (valid < (-1)))) ?_
    refine wv 23 (.bool (decide (valid < (-1)))) ?_
    refine (bsplit (decide (valid < (-1)))).elim (fun b12 => ?_) (fun b12 => ?_)
    ·have g13 := of_decide_eq_true b12
     refine wl_know 23 (.bool true) (congrArg Value.bool b12) ?_
     iterate 3 refine wn 10 23 false ?_
     refine wv 27 (.bool true) ?_
     refine wv 28 (.bool true) ?_
     iterate 3 refine wn 15 28 false ?_
     refine wv 32 (.bool true) ?_
     refine w_nil ?_
     refine meetR_at ?_ ⟨(congrArg Value.bool (show true = (argB round valid x) by simp [argB, b6, b9, b12])), H4⟩
     exact (same_upd rfl (same_upd rfl (same_upd rfl (same_upd rfl (same_upd rfl (same_upd rfl (same_upd rfl (same_upd rfl (same_upd rfl (same_upd rfl (same_upd rfl (same_upd rfl (same_upd rfl (same_upd rfl (same_upd rfl (same_upd rfl (same_upd rfl (same_upd rfl (same_upd rfl (same_upd rfl (same_upd rfl (same_upd rfl (same_upd rfl (same_refl))))))))))))))))))))))))
    ·have g14 := of_decide_eq_false b12
     refine wl_know 23 (.bool false) (congrArg Value.bool b12) ?_
     refine wy 10 23 false 24 (.int .i64 (valid)) ?_
     refine wy 10 23 false 25 (.int .i64 (round)) ?_
     refine wy 10 23 false 26 (.bool (decide (valid ≥ round))) ?_
     refine wv 27 (.bool (decide (valid ≥ round))) ?_
     refine wv 28 (.bool (decide (valid ≥ round))) ?_
     refine (bsplit (decide (valid ≥ round))).elim (fun b15 => ?_) (fun b15 => ?_)
     ·have g16 := of_decide_eq_true b15
      refine wl_know 28 (.bool true) (congrArg Value.bool b15) ?_
      iterate 3 refine wn 15 28 false ?_
      refine wv 32 (.bool true) ?_
      refine w_nil ?_
      refine meetR_at ?_ ⟨(congrArg Value.bool (show true = (argB round valid x) by simp [argB, b6, b9, b12, b15])), H4⟩
      exact (same_upd rfl (same_upd rfl (same_upd rfl (same_upd rfl (same_upd rfl (same_upd rfl (same_upd rfl (same_upd rfl (same_upd rfl (same_upd rfl (same_upd rfl (same_upd rfl (same_upd rfl (same_upd rfl (same_upd rfl (same_upd rfl (same_upd rfl (same_upd rfl (same_upd rfl (same_upd rfl (same_upd rfl (same_upd rfl (same_upd rfl (same_upd rfl (same_refl)))))))))))))))))))))))))
     ·have g17 := of_decide_eq_false b15
      refine wl_know 28 (.bool false) (congrArg Value.bool b15) ?_
      refine wy 15 28 false 29 (.agg ⟨(hc x)⟩) ?_ (hr := e_loadN (vs := (hc x)) rfl (by kernel_rfl) (by kernel_rfl) (by exact Nat.le_of_ble_eq_true (by kernel_rfl)) (H4.at 5 rfl) (by kernel_rfl))
      refine wy 15 28 false 30 (.agg ⟨(hc hash0)⟩) ?_
      refine wy 15 28 false 31 (.bool (decide (x = hash0))) ?_ (hr := e_eqHash x hash0 rfl rfl)
      refine wv 32 (.bool (decide (x = hash0))) ?_
      refine w_nil ?_
      refine meetR_at ?_ ⟨(congrArg Value.bool (show (decide (x = hash0)) = (argB round valid x) by simp [argB, b6, b9, b12, b15])), H4⟩
      exact (same_upd rfl (same_upd rfl (same_upd rfl (same_upd rfl (same_upd rfl (same_upd rfl (same_upd rfl (same_upd rfl (same_upd rfl (same_upd rfl (same_upd rfl (same_upd rfl (same_upd rfl (same_upd rfl (same_upd rfl (same_upd rfl (same_upd rfl (same_upd rfl (same_upd rfl (same_upd rfl (same_upd rfl (same_upd rfl (same_upd rfl (same_upd rfl (same_refl)))))))))))))))))))))))))
 ·rintro f18 w19 ⟨v21, H20⟩
  refine wp_know 32 _ v21 ?_
  refine (bsplit (argB round valid x)).elim (fun b22 => ?_) (fun b22 => ?_)
  ·refine wp_know 32 (.bool true) (congrArg Value.bool b22) ?_
   refine wp_ift rfl ?_
   refine w_seq ?_
   refine w_lit ?_
   refine wv 10 (.slice none 0 0) ?_
   refine w_nil ?_
   refine then_normal ?_
   refine w_ret ?_
   refine then_ret ?_
   refine end1 rfl (res_tmp (v := (.slice none 0 0)) rfl) ?_
   rw [show refPropD D round valid x ok = (D, []) from if_pos b22]
   have Hn := H20.addNil 102 35
   exact ⟨(.slice va D.L.length vc), (.slice ua D.P.length uc), _, rfl, (Hn.pick [0, 1, 2, 3, 6, 4] (by decide)).cast (by kernel_rfl)⟩
  ·refine wp_know 32 (.bool false) (congrArg Value.bool b22) ?_
   refine wp_iff rfl ?_
   refine w_skip ?_
   refine then_normal ?_
   iterate 2 refine w_seq ?_
   refine w_lit ?_
   refine wv 34 (pt p 0) ?_
   refine wv 35 (.int .i64 (round)) ?_
   refine wl_do (wants0 rfl) (fun K23 hK23 => ?_)
   refine d_call (d := 36) rfl (by kernel_rfl) (rcProposal_any w19 p t (.slice va D.L.length vc) (.slice ua D.P.length uc) D (ok_of (by kernel_rfl) (H20.fin [0, 1, 2, 3] (by decide) rfl)) h round) ?_
   rintro _ w24 ⟨rfl, u26⟩
   have H25 := H20.keepU u26
   refine ⟨_, rfl, ?_⟩
   refine hK23 _ _ ?_
   clear hK23 K23
   refine wv 33 (.tuple #[(.agg ⟨(([(.int .i64 (zP D.P round)), (.int .i64 ((getP D.P round).valid))] : List Value) ++ hc (getP D.P round).h ++ ([(.bool ((getP D.P round).ok))] : List Value))⟩), (.bool (hasP D.P round))]) ?_
   refine wv 37 (.agg ⟨(([(.int .i64 (zP D.P round)), (.int .i64 ((getP D.P round).valid))] : List Value) ++ hc (getP D.P round).h ++ ([(.bool ((getP D.P round).ok))] : List Value))⟩) ?_
   refine wv 38 (.bool (hasP D.P round)) ?_
   refine wl_do (wants0 rfl) (fun K27 hK27 => ?_)
   refine d_alloc (zs := (([(.int .i64 (0)), (.int .i64 (0))] : List Value) ++ hc hash0 ++ ([(.bool false)] : List Value))) (z := (.agg ⟨(([(.int .i64 (0)), (.int .i64 (0))] : List Value) ++ hc hash0 ++ ([(.bool false)] : List Value))⟩)) rfl H25 (by kernel_rfl) (by kernel_rfl) ?_
   intro b28 w29 (H30 : Sat w [cellC p 83 (rcL t (.slice ua D.P.length uc) D), cellC t 101 ([(.int .i64 (D.f)), (.int .i64 (D.c)), (.slice va D.L.length vc)] : List Value), rowC 143 35 (.slice va D.L.length vc) D.L.length (D.L.flatMap encV), rowC 129 35 (.slice ua D.P.length uc) D.P.length (D.P.flatMap encQ), restC w (rcC p t (.slice va D.L.length vc) (.slice ua D.P.length uc) D).fp, cellC b2 36 (hc x), cellC b28 129 (([(.int .i64 (0)), (.int .i64 (0))] : List Value) ++ hc hash0 ++ ([(.bool false)] : List Value))] w29)
   refine hK27 _ _ ?_
   clear hK27 K27
   refine wl_do (wants0 rfl) (fun K31 hK31 => ?_)
   refine d_storeX (vs := (([(.int .i64 (zP D.P round)), (.int .i64 ((getP D.P round).valid))] : List Value) ++ hc (getP D.P round).h ++ ([(.bool ((getP D.P round).ok))] : List Value))) (cs' := (([(.int .i64 (zP D.P round)), (.int .i64 ((getP D.P round).valid))] : List Value) ++ hc (getP D.P round).h ++ ([(.bool ((getP D.P round).ok))] : List Value))) rfl H30 6 rfl rfl rfl rfl (by kernel_rfl) (Nat.le_of_ble_eq_true (by kernel_rfl)) (Nat.le_of_ble_eq_true (by kernel_rfl)) (by kernel_rfl) (by kernel_rfl) ?_
   intro w32 (H33 : Sat w [cellC p 83 (rcL t (.slice ua D.P.length uc) D), cellC t 101 ([(.int .i64 (D.f)), (.int .i64 (D.c)), (.slice va D.L.length vc)] : List Value), rowC 143 35 (.slice va D.L.length vc) D.L.length (D.L.flatMap encV), rowC 129 35 (.slice ua D.P.length uc) D.P.length (D.P.flatMap encQ), restC w (rcC p t (.slice va D.L.length vc) (.slice ua D.P.length uc) D).fp, cellC b2 36 (hc x), cellC b28 129 (([(.int .i64 (zP D.P round)), (.int .i64 ((getP D.P round).valid))] : List Value) ++ hc (getP D.P round).h ++ ([(.bool ((getP D.P round).ok))] : List Value))] w32)
   refine hK31 _ _ ?_
   clear hK31 K31
   refine wv 12 (.bool (hasP D.P round)) ?_
   refine w_nil ?_
   refine then_normal ?_
   refine w_seq ?_
   refine w_lit ?_
   refine wv 39 (.bool (hasP D.P round)) ?_
   refine w_nil ?_
   refine then_normal ?_
   refine (bsplit (hasP D.P round)).elim (fun b35 => ?_) (fun b35 => ?_)
   ·refine wp_know 39 (.bool true) (congrArg Value.bool b35) ?_
    refine wp_ift rfl ?_
    refine w_seq ?_
    refine w_lit ?_
    refine wv 10 (.slice none 0 0) ?_
    refine w_nil ?_
    refine then_normal ?_
    refine w_ret ?_
    refine then_ret ?_
    refine end1 rfl (res_tmp (v := (.slice none 0 0)) rfl) ?_
    rw [show refPropD D round valid x ok = (D, []) by unfold refPropD; rw [if_neg (by rw [b22]; simp), if_pos b35]]
    have Hn := H33.addNil 102 35
    exact ⟨(.slice va D.L.length vc), (.slice ua D.P.length uc), _, rfl, (Hn.pick [0, 1, 2, 3, 7, 4] (by decide)).cast (by kernel_rfl)⟩
   ·refine wp_know 39 (.bool false) (congrArg Value.bool b35) ?_
    refine wp_iff rfl ?_
    refine w_skip ?_
    refine then_normal ?_
    refine w_seq ?_
    refine k_start H33 [cellC p 83 (rcL t (.slice ua D.P.length uc) D), cellC t 101 ([(.int .i64 (D.f)), (.int .i64 (D.c)), (.slice va D.L.length vc)] : List Value), rowC 143 35 (.slice va D.L.length vc) D.L.length (D.L.flatMap encV), rowC 129 35 (.slice ua D.P.length uc) D.P.length (D.P.flatMap encQ), restC w (rcC p t (.slice va D.L.length vc) (.slice ua D.P.length uc) D).fp, cellC b2 36 (hc x), cellC b28 129 (([(.int .i64 (zP D.P round)), (.int .i64 ((getP D.P round).valid))] : List Value) ++ hc (getP D.P round).h ++ ([(.bool ((getP D.P round).ok))] : List Value))] [15] 16 rfl (by kernel_rfl) (fun Hx => (Hx.pick [0, 1, 2, 3, 4, 5, 6] (by decide))) ?_
    intro w36 H37 S38
    refine k_pure 0 rfl (by kernel_rfl) (by kernel_rfl) (by kernel_rfl) (fun _ _ _ h => h) S38 (wants0 rfl) rfl (d := 40) (v := (pt p 0)) rfl (fun _ => (by kernel_rfl)) ?_
    refine k_pure 1 rfl (by kernel_rfl) (by kernel_rfl) (by kernel_rfl) (fun _ _ _ h => h) S38 (wants0 rfl) rfl (d := 41) (v := (pt p 0)) rfl (fun _ => (by kernel_rfl)) ?_
    refine k_pure 2 rfl (by kernel_rfl) (by kernel_rfl) (by kernel_rfl) (fun _ _ _ h => h) S38 (wants0 rfl) rfl (d := 42) (v := (pt p 0)) rfl (fun _ => (by kernel_rfl)) ?_
    refine k_pure 3 rfl (by kernel_rfl) (by kernel_rfl) (by kernel_rfl) (fun _ _ _ h => h) S38 (wants0 rfl) rfl (d := 43) (v := (pt p 106)) rfl (fun _ => (by kernel_rfl)) ?_
    refine k_val 4 rfl (by kernel_rfl) (by kernel_rfl) (by kernel_rfl) (fun _ _ _ h => h) S38 (wants0 rfl) rfl (by kernel_rfl) (d := 44) (v := (.slice ua D.P.length uc)) rfl (fun _ H' => (e_load1 rfl (by kernel_rfl) (H'.cell 0 rfl (by kernel_rfl)))) ?_
    refine k_pure 6 rfl (by kernel_rfl) (by kernel_rfl) (by kernel_rfl) (fun _ _ _ h => h) S38 (wants0 rfl) rfl (d := 46) (v := (.int .i64 (round))) rfl (fun _ => (by kernel_rfl)) ?_
    refine k_pure 7 rfl (by kernel_rfl) (by kernel_rfl) (by kernel_rfl) (fun _ _ _ h => h) S38 (wants0 rfl) rfl (d := 47) (v := (.int .i64 (valid))) rfl (fun _ => (by kernel_rfl)) ?_
    refine k_val 8 rfl (by kernel_rfl) (by kernel_rfl) (by kernel_rfl) (fun _ _ _ h => h) S38 (wants0 rfl) rfl (by kernel_rfl) (d := 48) (v := (.agg ⟨(hc x)⟩)) rfl (fun _ H' => (e_loadN (vs := (hc x)) rfl (by kernel_rfl) (by kernel_rfl) (by exact Nat.le_of_ble_eq_true (by kernel_rfl)) (H'.at 5 rfl) (by kernel_rfl))) ?_
    refine k_pure 9 rfl (by kernel_rfl) (by kernel_rfl) (by kernel_rfl) (fun _ _ _ h => h) S38 (wants0 rfl) rfl (d := 49) (v := (.bool (ok))) rfl (fun _ => (by kernel_rfl)) ?_
    refine k_pure 10 rfl (by kernel_rfl) (by kernel_rfl) (by kernel_rfl) (fun _ _ _ h => h) S38 (wants0 rfl) rfl (d := 50) (v := (.agg ⟨(([(.int .i64 (round)), (.int .i64 (valid))] : List Value) ++ hc x ++ ([(.bool (ok))] : List Value))⟩)) rfl (fun _ => (by kernel_rfl)) ?_
    refine k_do2 5 11 rfl rfl (by kernel_rfl) (wants0 rfl) (wants0 rfl) rfl rfl (fun K39 hK39 => ?_) (fun K39 hK39 => ?_)
    ·refine d_appendNil (T := 80) (e := 129) (size := 35) (bytes := 56) rfl H37 (by kernel_rfl) (H37.at 3 rfl) rfl rfl (flat_one encQ encQ_one D.P) (by omega) (by omega) ?_
     intro v40 w41 (H42 : Sat w [cellC p 83 (rcL t (.slice ua D.P.length uc) D), cellC t 101 ([(.int .i64 (D.f)), (.int .i64 (D.c)), (.slice va D.L.length vc)] : List Value), rowC 143 35 (.slice va D.L.length vc) D.L.length (D.L.flatMap encV), rowC 129 35 (.slice ua D.P.length uc) D.P.length (D.P.flatMap encQ), restC w (rcC p t (.slice va D.L.length vc) (.slice ua D.P.length uc) D).fp, cellC b2 36 (hc x), cellC b28 129 (([(.int .i64 (zP D.P round)), (.int .i64 ((getP D.P round).valid))] : List Value) ++ hc (getP D.P round).h ++ ([(.bool ((getP D.P round).ok))] : List Value)), rowC 129 35 v40 D.P.length (D.P.flatMap encQ)] w41)
     obtain ⟨a43, c44, rfl⟩ := ownsRow_shape (H42.at 7 rfl)
     have S45 := H42.pick [0, 1, 2, 3, 4, 5, 6] (by decide)
     refine hK39 _ _ S45 ?_
     clear hK39 K39
     refine k_do 11 rfl (by kernel_rfl) (wants0 rfl) rfl (fun K46 hK46 => ?_)
     refine d_buildSlice (e := 129) (size := 35) (bytes := 56) (z := (.agg ⟨(([(.int .i64 (0)), (.int .i64 (0))] : List Value) ++ hc hash0 ++ ([(.bool false)] : List Value))⟩)) (pvs := [(0, (.agg ⟨(([(.int .i64 (round)), (.int .i64 (valid))] : List Value) ++ hc x ++ ([(.bool (ok))] : List Value))⟩))]) (vs := (([(.int .i64 (round)), (.int .i64 (valid))] : List Value) ++ hc x ++ ([(.bool (ok))] : List Value))) rfl H42 (by kernel_rfl) (by kernel_rfl) (by kernel_rfl) (by kernel_rfl) (by kernel_rfl) rfl rfl ?_
     intro b47 w48 (H49 : Sat w [cellC p 83 (rcL t (.slice ua D.P.length uc) D), cellC t 101 ([(.int .i64 (D.f)), (.int .i64 (D.c)), (.slice va D.L.length vc)] : List Value), rowC 143 35 (.slice va D.L.length vc) D.L.length (D.L.flatMap encV), rowC 129 35 (.slice ua D.P.length uc) D.P.length (D.P.flatMap encQ), restC w (rcC p t (.slice va D.L.length vc) (.slice ua D.P.length uc) D).fp, cellC b2 36 (hc x), cellC b28 129 (([(.int .i64 (zP D.P round)), (.int .i64 ((getP D.P round).valid))] : List Value) ++ hc (getP D.P round).h ++ ([(.bool ((getP D.P round).ok))] : List Value)), rowC 129 35 (.slice a43 D.P.length c44) D.P.length (D.P.flatMap encQ), rowC 129 35 (.slice (some ⟨b47, 0, none⟩) 1 1) 1 (([(.int .i64 (round)), (.int .i64 (valid))] : List Value) ++ hc x ++ ([(.bool (ok))] : List Value))] w48)
     have S50 := H49.pick [0, 1, 2, 3, 4, 5, 6] (by decide)
     refine hK46 _ _ S50 ?_
     clear hK46 K46
     refine k_do 12 rfl (by kernel_rfl) (wants0 rfl) rfl (fun K51 hK51 => ?_)
     refine d_append (T := 80) (e := 129) (size := 35) (bytes := 56) rfl H49 (by kernel_rfl) 7 8 rfl rfl rfl rfl (by kernel_rfl) (by omega) (by omega) ?_
     intro v52 w53 (H54 : Sat w [cellC p 83 (rcL t (.slice ua D.P.length uc) D), cellC t 101 ([(.int .i64 (D.f)), (.int .i64 (D.c)), (.slice va D.L.length vc)] : List Value), rowC 143 35 (.slice va D.L.length vc) D.L.length (D.L.flatMap encV), rowC 129 35 (.slice ua D.P.length uc) D.P.length (D.P.flatMap encQ), restC w (rcC p t (.slice va D.L.length vc) (.slice ua D.P.length uc) D).fp, cellC b2 36 (hc x), cellC b28 129 (([(.int .i64 (zP D.P round)), (.int .i64 ((getP D.P round).valid))] : List Value) ++ hc (getP D.P round).h ++ ([(.bool ((getP D.P round).ok))] : List Value)), rowC 129 35 v52 (D.P.length + 1) ((D.P.flatMap encQ) ++ (([(.int .i64 (round)), (.int .i64 (valid))] : List Value) ++ hc x ++ ([(.bool (ok))] : List Value))), rowC 129 35 (.slice (some ⟨b47, 0, none⟩) 1 1) 1 (([(.int .i64 (round)), (.int .i64 (valid))] : List Value) ++ hc x ++ ([(.bool (ok))] : List Value))] w53)
     have H57 : Sat w [cellC p 83 (rcL t (.slice ua D.P.length uc) D), cellC t 101 ([(.int .i64 (D.f)), (.int .i64 (D.c)), (.slice va D.L.length vc)] : List Value), rowC 143 35 (.slice va D.L.length vc) D.L.length (D.L.flatMap encV), rowC 129 35 (.slice ua D.P.length uc) D.P.length (D.P.flatMap encQ), restC w (rcC p t (.slice va D.L.length vc) (.slice ua D.P.length uc) D).fp, cellC b2 36 (hc x), cellC b28 129 (([(.int .i64 (zP D.P round)), (.int .i64 ((getP D.P round).valid))] : List Value) ++ hc (getP D.P round).h ++ ([(.bool ((getP D.P round).ok))] : List Value)), rowC 129 35 v52 ((D.P ++ [((round, (⟨valid, x, (ok)⟩ : PropD)) : Int × PropD)]).length) ((D.P ++ [((round, (⟨valid, x, (ok)⟩ : PropD)) : Int × PropD)]).flatMap encQ), rowC 129 35 (.slice (some ⟨b47, 0, none⟩) 1 1) 1 (([(.int .i64 (round)), (.int .i64 (valid))] : List Value) ++ hc x ++ ([(.bool (ok))] : List Value))] w53 := H54.cast (by simp only [List.length_append, List.flatMap_append] <;> rfl)
     obtain ⟨a55, c56, rfl⟩ := ownsRow_shape (H57.at 7 rfl)
     have S58 := H57.pick [0, 1, 2, 3, 4, 5, 6] (by decide)
     refine hK51 _ _ S58 ?_
     clear hK51 K51
     refine k_pure 13 rfl (by kernel_rfl) (by kernel_rfl) (by kernel_rfl) (fun _ _ _ h => h) S58 (wants0 rfl) rfl (d := 53) (v := (pt p 0)) rfl (fun _ => (by kernel_rfl)) ?_
     refine k_pure 14 rfl (by kernel_rfl) (by kernel_rfl) (by kernel_rfl) (fun _ _ _ h => h) S58 (wants0 rfl) rfl (d := 54) (v := (pt p 106)) rfl (fun _ => (by kernel_rfl)) ?_
     refine k_brk 15 (Sat w [cellC t 101 ([(.int .i64 (D.f)), (.int .i64 (D.c)), (.slice va D.L.length vc)] : List Value), rowC 143 35 (.slice va D.L.length vc) D.L.length (D.L.flatMap encV), rowC 129 35 (.slice ua D.P.length uc) D.P.length (D.P.flatMap encQ), restC w (rcC p t (.slice va D.L.length vc) (.slice ua D.P.length uc) D).fp, cellC b2 36 (hc x), cellC b28 129 (([(.int .i64 (zP D.P round)), (.int .i64 ((getP D.P round).valid))] : List Value) ++ hc (getP D.P round).h ++ ([(.bool ((getP D.P round).ok))] : List Value))]) rfl (by kernel_rfl) (wants0 rfl) rfl (fun K59 hK59 => ?_)
     refine d_storeX (vs := ([(.slice a55 ((D.P ++ [((round, (⟨valid, x, (ok)⟩ : PropD)) : Int × PropD)]).length) c56)] : List Value)) (cs' := (rcL t (.slice a55 ((D.P ++ [((round, (⟨valid, x, (ok)⟩ : PropD)) : Int × PropD)]).length) c56) D)) rfl H57 0 rfl rfl rfl rfl (by kernel_rfl) (Nat.le_of_ble_eq_true (by kernel_rfl)) (Nat.le_of_ble_eq_true (by kernel_rfl)) (by kernel_rfl) (by kernel_rfl) ?_
     intro w60 (H61 : Sat w [cellC p 83 (rcL t (.slice a55 ((D.P ++ [((round, (⟨valid, x, (ok)⟩ : PropD)) : Int × PropD)]).length) c56) D), cellC t 101 ([(.int .i64 (D.f)), (.int .i64 (D.c)), (.slice va D.L.length vc)] : List Value), rowC 143 35 (.slice va D.L.length vc) D.L.length (D.L.flatMap encV), rowC 129 35 (.slice ua D.P.length uc) D.P.length (D.P.flatMap encQ), restC w (rcC p t (.slice va D.L.length vc) (.slice ua D.P.length uc) D).fp, cellC b2 36 (hc x), cellC b28 129 (([(.int .i64 (zP D.P round)), (.int .i64 ((getP D.P round).valid))] : List Value) ++ hc (getP D.P round).h ++ ([(.bool ((getP D.P round).ok))] : List Value)), rowC 129 35 (.slice a55 ((D.P ++ [((round, (⟨valid, x, (ok)⟩ : PropD)) : Int × PropD)]).length) c56) ((D.P ++ [((round, (⟨valid, x, (ok)⟩ : PropD)) : Int × PropD)]).length) ((D.P ++ [((round, (⟨valid, x, (ok)⟩ : PropD)) : Int × PropD)]).flatMap encQ), rowC 129 35 (.slice (some ⟨b47, 0, none⟩) 1 1) 1 (([(.int .i64 (round)), (.int .i64 (valid))] : List Value) ++ hc x ++ ([(.bool (ok))] : List Value))] w60)
     have S63 := H61.pick [1, 2, 3, 4, 5, 6] (by decide)
     refine hK59 _ _ S63 ?_
     clear hK59 K59
     refine h_fin (by kernel_rfl) ?_
     refine then_normal ?_
     refine w_seq ?_
     have hput : (putD D round valid x ok).P = D.P ++ [(round, (⟨valid, x, ok⟩ : PropD))] := put_at_end _ b35
     have hC2 : CI (putD D round valid x ok) := h.put2 b22
     have H64 : Sat w [cellC p 83 (rcL t (.slice a55 (putD D round valid x ok).P.length c56) (putD D round valid x ok)), cellC t 101 ([(.int .i64 ((putD D round valid x ok).f)), (.int .i64 ((putD D round valid x ok).c)), (.slice va D.L.length vc)] : List Value), rowC 143 35 (.slice va D.L.length vc) (((putD D round valid x ok).L).length) (((putD D round valid x ok).L).flatMap encV), rowC 129 35 (.slice ua D.P.length uc) D.P.length (D.P.flatMap encQ), restC w (rcC p t (.slice va D.L.length vc) (.slice ua D.P.length uc) D).fp, cellC b2 36 (hc x), cellC b28 129 (([(.int .i64 (zP D.P round)), (.int .i64 ((getP D.P round).valid))] : List Value) ++ hc (getP D.P round).h ++ ([(.bool ((getP D.P round).ok))] : List Value)), rowC 129 35 (.slice a55 (putD D round valid x ok).P.length c56) (((putD D round valid x ok).P).length) (((putD D round valid x ok).P).flatMap encQ), rowC 129 35 (.slice (some ⟨b47, 0, none⟩) 1 1) 1 (([(.int .i64 (round)), (.int .i64 (valid))] : List Value) ++ hc x ++ ([(.bool (ok))] : List Value))] w60 := H61.cast (by rw [hput]; kernel_rfl)
     refine w_lit ?_
     refine wv 55 (pt p 0) ?_
     refine wl_do (wants0 rfl) (fun K65 hK65 => ?_)
     refine d_call (d := 56) rfl (by kernel_rfl) (rcSettle_any w60 p t (.slice va D.L.length vc) (.slice a55 (putD D round valid x ok).P.length c56) (putD D round valid x ok) (ok_of (by kernel_rfl) (H64.fin [0, 1, 2, 7] (by decide) rfl)) hC2 ) ?_
     rintro _ w69 ⟨v66, u67, x68, rfl, S70⟩
     have H71 : Sat w [cellC p 83 (rcL t u67 ((settleD (putD D round valid x ok)).1)), cellC t 101 ([(.int .i64 (((settleD (putD D round valid x ok)).1).f)), (.int .i64 (((settleD (putD D round valid x ok)).1).c)), v66] : List Value), rowC 143 35 v66 ((((settleD (putD D round valid x ok)).1).L).length) ((((settleD (putD D round valid x ok)).1).L).flatMap encV), rowC 129 35 (.slice ua D.P.length uc) D.P.length (D.P.flatMap encQ), restC w (rcC p t (.slice va D.L.length vc) (.slice ua D.P.length uc) D).fp, cellC b2 36 (hc x), cellC b28 129 (([(.int .i64 (zP D.P round)), (.int .i64 ((getP D.P round).valid))] : List Value) ++ hc (getP D.P round).h ++ ([(.bool ((getP D.P round).ok))] : List Value)), rowC 129 35 u67 ((((settleD (putD D round valid x ok)).1).P).length) ((((settleD (putD D round valid x ok)).1).P).flatMap encQ), rowC 129 35 (.slice (some ⟨b47, 0, none⟩) 1 1) 1 (([(.int .i64 (round)), (.int .i64 (valid))] : List Value) ++ hc x ++ ([(.bool (ok))] : List Value)), rowC 102 35 x68 (((settleD (putD D round valid x ok)).2).length) (((settleD (putD D round valid x ok)).2).flatMap encA)] w69 := (Sat.turnL (L' := [cellC p 83 (rcL t u67 ((settleD (putD D round valid x ok)).1)), cellC t 101 ([(.int .i64 (((settleD (putD D round valid x ok)).1).f)), (.int .i64 (((settleD (putD D round valid x ok)).1).c)), v66] : List Value), rowC 143 35 v66 ((((settleD (putD D round valid x ok)).1).L).length) ((((settleD (putD D round valid x ok)).1).L).flatMap encV), rowC 129 35 u67 ((((settleD (putD D round valid x ok)).1).P).length) ((((settleD (putD D round valid x ok)).1).P).flatMap encQ), rowC 102 35 x68 (((settleD (putD D round valid x ok)).2).length) (((settleD (putD D round valid x ok)).2).flatMap encA)]) (R := [rowC 129 35 (.slice ua D.P.length uc) D.P.length (D.P.flatMap encQ), restC w (rcC p t (.slice va D.L.length vc) (.slice ua D.P.length uc) D).fp, cellC b2 36 (hc x), cellC b28 129 (([(.int .i64 (zP D.P round)), (.int .i64 ((getP D.P round).valid))] : List Value) ++ hc (getP D.P round).h ++ ([(.bool ((getP D.P round).ok))] : List Value)), rowC 129 35 (.slice (some ⟨b47, 0, none⟩) 1 1) 1 (([(.int .i64 (round)), (.int .i64 (valid))] : List Value) ++ hc x ++ ([(.bool (ok))] : List Value))]) H64 [0, 1, 2, 7] [3, 4, 5, 6, 8] (by decide) (by kernel_rfl) rfl S70).pick [0, 1, 2, 5, 6, 7, 8, 3, 9, 4] (by decide)
     obtain ⟨a72, c73, rfl⟩ := ownsRow_shape (H71.at 2 rfl)
     obtain ⟨a74, c75, rfl⟩ := ownsRow_shape (H71.at 7 rfl)
     obtain ⟨a76, c77, rfl⟩ := ownsRow_shape (H71.at 9 rfl)
     refine ⟨_, rfl, ?_⟩
     have l78 := settle_le hC2
     refine hK65 _ _ ?_
     clear hK65 K65
     refine wv 10 (.slice a76 (((settleD (putD D round valid x ok)).2).length) c77) ?_
     refine w_nil ?_
     refine then_normal ?_
     refine w_ret ?_
     refine end1 rfl (res_tmp (v := (.slice a76 (((settleD (putD D round valid x ok)).2).length) c77)) rfl) ?_
     rw [show refPropD D round valid x ok = settleD (putD D round valid x ok) by unfold refPropD; rw [if_neg (by rw [b22]; simp), if_neg (by rw [b35]; simp)]]
     exact ⟨(.slice a72 ((((settleD (putD D round valid x ok)).1).L).length) c73), (.slice a74 ((((settleD (putD D round valid x ok)).1).P).length) c75), _, rfl, (H71.pick [0, 1, 2, 7, 9, 4] (by decide)).cast (by kernel_rfl)⟩
    ·refine d_buildSlice (e := 129) (size := 35) (bytes := 56) (z := (.agg ⟨(([(.int .i64 (0)), (.int .i64 (0))] : List Value) ++ hc hash0 ++ ([(.bool false)] : List Value))⟩)) (pvs := [(0, (.agg ⟨(([(.int .i64 (round)), (.int .i64 (valid))] : List Value) ++ hc x ++ ([(.bool (ok))] : List Value))⟩))]) (vs := (([(.int .i64 (round)), (.int .i64 (valid))] : List Value) ++ hc x ++ ([(.bool (ok))] : List Value))) rfl H37 (by kernel_rfl) (by kernel_rfl) (by kernel_rfl) (by kernel_rfl) (by kernel_rfl) rfl rfl ?_
     intro b79 w80 (H81 : Sat w [cellC p 83 (rcL t (.slice ua D.P.length uc) D), cellC t 101 ([(.int .i64 (D.f)), (.int .i64 (D.c)), (.slice va D.L.length vc)] : List Value), rowC 143 35 (.slice va D.L.length vc) D.L.length (D.L.flatMap encV), rowC 129 35 (.slice ua D.P.length uc) D.P.length (D.P.flatMap encQ), restC w (rcC p t (.slice va D.L.length vc) (.slice ua D.P.length uc) D).fp, cellC b2 36 (hc x), cellC b28 129 (([(.int .i64 (zP D.P round)), (.int .i64 ((getP D.P round).valid))] : List Value) ++ hc (getP D.P round).h ++ ([(.bool ((getP D.P round).ok))] : List Value)), rowC 129 35 (.slice (some ⟨b79, 0, none⟩) 1 1) 1 (([(.int .i64 (round)), (.int .i64 (valid))] : List Value) ++ hc x ++ ([(.bool (ok))] : List Value))] w80)
     have S82 := H81.pick [0, 1, 2, 3, 4, 5, 6] (by decide)
     refine hK39 _ _ S82 ?_
     clear hK39 K39
     refine k_do 5 rfl (by kernel_rfl) (wants0 rfl) rfl (fun K83 hK83 => ?_)
     refine d_appendNil (T := 80) (e := 129) (size := 35) (bytes := 56) rfl H81 (by kernel_rfl) (H81.at 3 rfl) rfl rfl (flat_one encQ encQ_one D.P) (by omega) (by omega) ?_
     intro v84 w85 (H86 : Sat w [cellC p 83 (rcL t (.slice ua D.P.length uc) D), cellC t 101 ([(.int .i64 (D.f)), (.int .i64 (D.c)), (.slice va D.L.length vc)] : List Value), rowC 143 35 (.slice va D.L.length vc) D.L.length (D.L.flatMap encV), rowC 129 35 (.slice ua D.P.length uc) D.P.length (D.P.flatMap encQ), restC w (rcC p t (.slice va D.L.length vc) (.slice ua D.P.length uc) D).fp, cellC b2 36 (hc x), cellC b28 129 (([(.int .i64 (zP D.P round)), (.int .i64 ((getP D.P round).valid))] : List Value) ++ hc (getP D.P round).h ++ ([(.bool ((getP D.P round).ok))] : List Value)), rowC 129 35 (.slice (some ⟨b79, 0, none⟩) 1 1) 1 (([(.int .i64 (round)), (.int .i64 (valid))] : List Value) ++ hc x ++ ([(.bool (ok))] : List Value)), rowC 129 35 v84 D.P.length (D.P.flatMap encQ)] w85)
     obtain ⟨a87, c88, rfl⟩ := ownsRow_shape (H86.at 8 rfl)
     have S89 := H86.pick [0, 1, 2, 3, 4, 5, 6] (by decide)
     refine hK83 _ _ S89 ?_
     clear hK83 K83
     refine k_do 12 rfl (by kernel_rfl) (wants0 rfl) rfl (fun K90 hK90 => ?_)
     refine d_append (T := 80) (e := 129) (size := 35) (bytes := 56) rfl H86 (by kernel_rfl) 8 7 rfl rfl rfl rfl (by kernel_rfl) (by omega) (by omega) ?_
     intro v91 w92 (H93 : Sat w [cellC p 83 (rcL t (.slice ua D.P.length uc) D), cellC t 101 ([(.int .i64 (D.f)), (.int .i64 (D.c)), (.slice va D.L.length vc)] : List Value), rowC 143 35 (.slice va D.L.length vc) D.L.length (D.L.flatMap encV), rowC 129 35 (.slice ua D.P.length uc) D.P.length (D.P.flatMap encQ), restC w (rcC p t (.slice va D.L.length vc) (.slice ua D.P.length uc) D).fp, cellC b2 36 (hc x), cellC b28 129 (([(.int .i64 (zP D.P round)), (.int .i64 ((getP D.P round).valid))] : List Value) ++ hc (getP D.P round).h ++ ([(.bool ((getP D.P round).ok))] : List Value)), rowC 129 35 (.slice (some ⟨b79, 0, none⟩) 1 1) 1 (([(.int .i64 (round)), (.int .i64 (valid))] : List Value) ++ hc x ++ ([(.bool (ok))] : List Value)), rowC 129 35 v91 (D.P.length + 1) ((D.P.flatMap encQ) ++ (([(.int .i64 (round)), (.int .i64 (valid))] : List Value) ++ hc x ++ ([(.bool (ok))] : List Value)))] w92)
     have H96 : Sat w [cellC p 83 (rcL t (.slice ua D.P.length uc) D), cellC t 101 ([(.int .i64 (D.f)), (.int .i64 (D.c)), (.slice va D.L.length vc)] : List Value), rowC 143 35 (.slice va D.L.length vc) D.L.length (D.L.flatMap encV), rowC 129 35 (.slice ua D.P.length uc) D.P.length (D.P.flatMap encQ), restC w (rcC p t (.slice va D.L.length vc) (.slice ua D.P.length uc) D).fp, cellC b2 36 (hc x), cellC b28 129 (([(.int .i64 (zP D.P round)), (.int .i64 ((getP D.P round).valid))] : List Value) ++ hc (getP D.P round).h ++ ([(.bool ((getP D.P round).ok))] : List Value)), rowC 129 35 (.slice (some ⟨b79, 0, none⟩) 1 1) 1 (([(.int .i64 (round)), (.int .i64 (valid))] : List Value) ++ hc x ++ ([(.bool (ok))] : List Value)), rowC 129 35 v91 ((D.P ++ [((round, (⟨valid, x, (ok)⟩ : PropD)) : Int × PropD)]).length) ((D.P ++ [((round, (⟨valid, x, (ok)⟩ : PropD)) : Int × PropD)]).flatMap encQ)] w92 := H93.cast (by simp only [List.length_append, List.flatMap_append] <;> rfl)
     obtain ⟨a94, c95, rfl⟩ := ownsRow_shape (H96.at 8 rfl)
     have S97 := H96.pick [0, 1, 2, 3, 4, 5, 6] (by decide)
     refine hK90 _ _ S97 ?_
     clear hK90 K90
     refine k_pure 13 rfl (by kernel_rfl) (by kernel_rfl) (by kernel_rfl) (fun _ _ _ h => h) S97 (wants0 rfl) rfl (d := 53) (v := (pt p 0)) rfl (fun _ => (by kernel_rfl)) ?_
     refine k_pure 14 rfl (by kernel_rfl) (by kernel_rfl) (by kernel_rfl) (fun _ _ _ h => h) S97 (wants0 rfl) rfl (d := 54) (v := (pt p 106)) rfl (fun _ => (by kernel_rfl)) ?_
     refine k_brk 15 (Sat w [cellC t 101 ([(.int .i64 (D.f)), (.int .i64 (D.c)), (.slice va D.L.length vc)] : List Value), rowC 143 35 (.slice va D.L.length vc) D.L.length (D.L.flatMap encV), rowC 129 35 (.slice ua D.P.length uc) D.P.length (D.P.flatMap encQ), restC w (rcC p t (.slice va D.L.length vc) (.slice ua D.P.length uc) D).fp, cellC b2 36 (hc x), cellC b28 129 (([(.int .i64 (zP D.P round)), (.int .i64 ((getP D.P round).valid))] : List Value) ++ hc (getP D.P round).h ++ ([(.bool ((getP D.P round).ok))] : List Value))]) rfl (by kernel_rfl) (wants0 rfl) rfl (fun K98 hK98 => ?_)
     refine d_storeX (vs := ([(.slice a94 ((D.P ++ [((round, (⟨valid, x, (ok)⟩ : PropD)) : Int × PropD)]).length) c95)] : List Value)) (cs' := (rcL t (.slice a94 ((D.P ++ [((round, (⟨valid, x, (ok)⟩ : PropD)) : Int × PropD)]).length) c95) D)) rfl H96 0 rfl rfl rfl rfl (by kernel_rfl) (Nat.le_of_ble_eq_true (by kernel_rfl)) (Nat.le_of_ble_eq_true (by kernel_rfl)) (by kernel_rfl) (by kernel_rfl) ?_
     intro w99 (H100 : Sat w [cellC p 83 (rcL t (.slice a94 ((D.P ++ [((round, (⟨valid, x, (ok)⟩ : PropD)) : Int × PropD)]).length) c95) D), cellC t 101 ([(.int .i64 (D.f)), (.int .i64 (D.c)), (.slice va D.L.length vc)] : List Value), rowC 143 35 (.slice va D.L.length vc) D.L.length (D.L.flatMap encV), rowC 129 35 (.slice ua D.P.length uc) D.P.length (D.P.flatMap encQ), restC w (rcC p t (.slice va D.L.length vc) (.slice ua D.P.length uc) D).fp, cellC b2 36 (hc x), cellC b28 129 (([(.int .i64 (zP D.P round)), (.int .i64 ((getP D.P round).valid))] : List Value) ++ hc (getP D.P round).h ++ ([(.bool ((getP D.P round).ok))] : List Value)), rowC 129 35 (.slice (some ⟨b79, 0, none⟩) 1 1) 1 (([(.int .i64 (round)), (.int .i64 (valid))] : List Value) ++ hc x ++ ([(.bool (ok))] : List Value)), rowC 129 35 (.slice a94 ((D.P ++ [((round, (⟨valid, x, (ok)⟩ : PropD)) : Int × PropD)]).length) c95) ((D.P ++ [((round, (⟨valid, x, (ok)⟩ : PropD)) : Int × PropD)]).length) ((D.P ++ [((round, (⟨valid, x, (ok)⟩ : PropD)) : Int × PropD)]).flatMap encQ)] w99)
     have S102 := H100.pick [1, 2, 3, 4, 5, 6] (by decide)
     refine hK98 _ _ S102 ?_
     clear hK98 K98
     refine h_fin (by kernel_rfl) ?_
     refine then_normal ?_
     refine w_seq ?_
     have hput : (putD D round valid x ok).P = D.P ++ [(round, (⟨valid, x, ok⟩ : PropD))] := put_at_end _ b35
     have hC2 : CI (putD D round valid x ok) := h.put2 b22
     have H103 : Sat w [cellC p 83 (rcL t (.slice a94 (putD D round valid x ok).P.length c95) (putD D round valid x ok)), cellC t 101 ([(.int .i64 ((putD D round valid x ok).f)), (.int .i64 ((putD D round valid x ok).c)), (.slice va D.L.length vc)] : List Value), rowC 143 35 (.slice va D.L.length vc) (((putD D round valid x ok).L).length) (((putD D round valid x ok).L).flatMap encV), rowC 129 35 (.slice ua D.P.length uc) D.P.length (D.P.flatMap encQ), restC w (rcC p t (.slice va D.L.length vc) (.slice ua D.P.length uc) D).fp, cellC b2 36 (hc x), cellC b28 129 (([(.int .i64 (zP D.P round)), (.int .i64 ((getP D.P round).valid))] : List Value) ++ hc (getP D.P round).h ++ ([(.bool ((getP D.P round).ok))] : List Value)), rowC 129 35 (.slice (some ⟨b79, 0, none⟩) 1 1) 1 (([(.int .i64 (round)), (.int .i64 (valid))] : List Value) ++ hc x ++ ([(.bool (ok))] : List Value)), rowC 129 35 (.slice a94 (putD D round valid x ok).P.length c95) (((putD D round valid x ok).P).length) (((putD D round valid x ok).P).flatMap encQ)] w99 := H100.cast (by rw [hput]; kernel_rfl)
     refine w_lit ?_
     refine wv 55 (pt p 0) ?_
     refine wl_do (wants0 rfl) (fun K104 hK104 => ?_)
     refine d_call (d := 56) rfl (by kernel_rfl) (rcSettle_any w99 p t (.slice va D.L.length vc) (.slice a94 (putD D round valid x ok).P.length c95) (putD D round valid x ok) (ok_of (by kernel_rfl) (H103.fin [0, 1, 2, 8] (by decide) rfl)) hC2 ) ?_
     rintro _ w108 ⟨v105, u106, x107, rfl, S109⟩
     have H110 : Sat w [cellC p 83 (rcL t u106 ((settleD (putD D round valid x ok)).1)), cellC t 101 ([(.int .i64 (((settleD (putD D round valid x ok)).1).f)), (.int .i64 (((settleD (putD D round valid x ok)).1).c)), v105] : List Value), rowC 143 35 v105 ((((settleD (putD D round valid x ok)).1).L).length) ((((settleD (putD D round valid x ok)).1).L).flatMap encV), rowC 129 35 (.slice ua D.P.length uc) D.P.length (D.P.flatMap encQ), restC w (rcC p t (.slice va D.L.length vc) (.slice ua D.P.length uc) D).fp, cellC b2 36 (hc x), cellC b28 129 (([(.int .i64 (zP D.P round)), (.int .i64 ((getP D.P round).valid))] : List Value) ++ hc (getP D.P round).h ++ ([(.bool ((getP D.P round).ok))] : List Value)), rowC 129 35 (.slice (some ⟨b79, 0, none⟩) 1 1) 1 (([(.int .i64 (round)), (.int .i64 (valid))] : List Value) ++ hc x ++ ([(.bool (ok))] : List Value)), rowC 129 35 u106 ((((settleD (putD D round valid x ok)).1).P).length) ((((settleD (putD D round valid x ok)).1).P).flatMap encQ), rowC 102 35 x107 (((settleD (putD D round valid x ok)).2).length) (((settleD (putD D round valid x ok)).2).flatMap encA)] w108 := (Sat.turnL (L' := [cellC p 83 (rcL t u106 ((settleD (putD D round valid x ok)).1)), cellC t 101 ([(.int .i64 (((settleD (putD D round valid x ok)).1).f)), (.int .i64 (((settleD (putD D round valid x ok)).1).c)), v105] : List Value), rowC 143 35 v105 ((((settleD (putD D round valid x ok)).1).L).length) ((((settleD (putD D round valid x ok)).1).L).flatMap encV), rowC 129 35 u106 ((((settleD (putD D round valid x ok)).1).P).length) ((((settleD (putD D round valid x ok)).1).P).flatMap encQ), rowC 102 35 x107 (((settleD (putD D round valid x ok)).2).length) (((settleD (putD D round valid x ok)).2).flatMap encA)]) (R := [rowC 129 35 (.slice ua D.P.length uc) D.P.length (D.P.flatMap encQ), restC w (rcC p t (.slice va D.L.length vc) (.slice ua D.P.length uc) D).fp, cellC b2 36 (hc x), cellC b28 129 (([(.int .i64 (zP D.P round)), (.int .i64 ((getP D.P round).valid))] : List Value) ++ hc (getP D.P round).h ++ ([(.bool ((getP D.P round).ok))] : List Value)), rowC 129 35 (.slice (some ⟨b79, 0, none⟩) 1 1) 1 (([(.int .i64 (round)), (.int .i64 (valid))] : List Value) ++ hc x ++ ([(.bool (ok))] : List Value))]) H103 [0, 1, 2, 8] [3, 4, 5, 6, 7] (by decide) (by kernel_rfl) rfl S109).pick [0, 1, 2, 5, 6, 7, 8, 9, 3, 4] (by decide)
     obtain ⟨a111, c112, rfl⟩ := ownsRow_shape (H110.at 2 rfl)
     obtain ⟨a113, c114, rfl⟩ := ownsRow_shape (H110.at 8 rfl)
     obtain ⟨a115, c116, rfl⟩ := ownsRow_shape (H110.at 9 rfl)
     refine ⟨_, rfl, ?_⟩
     have l117 := settle_le hC2
     refine hK104 _ _ ?_
     clear hK104 K104
     refine wv 10 (.slice a115 (((settleD (putD D round valid x ok)).2).length) c116) ?_
     refine w_nil ?_
     refine then_normal ?_
     refine w_ret ?_
     refine end1 rfl (res_tmp (v := (.slice a115 (((settleD (putD D round valid x ok)).2).length) c116)) rfl) ?_
     rw [show refPropD D round valid x ok = settleD (putD D round valid x ok) by unfold refPropD; rw [if_neg (by rw [b22]; simp), if_neg (by rw [b35]; simp)]]
     exact ⟨(.slice a111 ((((settleD (putD D round valid x ok)).1).L).length) c112), (.slice a113 ((((settleD (putD D round valid x ok)).1).P).length) c114), _, rfl, (H110.pick [0, 1, 2, 8, 9, 4] (by decide)).cast (by kernel_rfl)⟩

set_option maxRecDepth 100000 in
set_option maxHeartbeats 1000000 in
theorem rcVote_any (w : World) (p t : Nat) (v u : Value) (D : CoreD) (hT : (rcC p t v u D).ok w) (h : CI D) (kind round p' : Int) (x : Hash) :
  Calls Try.prog 46 #[(.pointer (some ⟨p, 0, none⟩)), (.int .i64 (kind)), (.int .i64 (round)), (.int .i64 (p')), (.agg ⟨(hc x)⟩)] w fun e w' => ∃ v' u' z', e = .returned z' ∧ Sat w [cellC p 83 (rcL t u' ((refVoteD D kind round p' x).1)), cellC t 101 ([(.int .i64 (((refVoteD D kind round p' x).1).f)), (.int .i64 (((refVoteD D kind round p' x).1).c)), v'] : List Value), rowC 143 35 (v') ((((refVoteD D kind round p' x).1).L).length) ((((refVoteD D kind round p' x).1).L).flatMap encV), rowC 129 35 (u') ((((refVoteD D kind round p' x).1).P).length) ((((refVoteD D kind round p' x).1).P).flatMap encQ), rowC 102 35 z' ((refVoteD D kind round p' x).2).length (((refVoteD D kind round p' x).2).flatMap encA), restC w (rcC p t v u D).fp] w' := by
 obtain ⟨va, vc, rfl⟩ := ownsRow_shape (rcC_parts hT).2.2.1
 obtain ⟨ua, uc, rfl⟩ := ownsRow_shape (rcC_parts hT).2.2.2
 have H : Sat w [cellC p 83 (rcL t (.slice ua D.P.length uc) D), cellC t 101 ([(.int .i64 (D.f)), (.int .i64 (D.c)), (.slice va D.L.length vc)] : List Value), rowC 143 35 (.slice va D.L.length vc) D.L.length (D.L.flatMap encV), rowC 129 35 (.slice ua D.P.length uc) D.P.length (D.P.flatMap encQ), restC w (rcC p t (.slice va D.L.length vc) (.slice ua D.P.length uc) D).fp] w := Sat.start _ hT
 have hf := h.f
 have hep := h.ep
 have hrp := h.rp
 have hrd := h.rd
 have hst := h.st
 have hvo := h.votes
 have hpo := props_few h
 refine calls_fr Try.func46 rfl 23 rfl (Nat.le_of_ble_eq_true rfl) ?_
 refine w_seq ?_
 refine w_lit ?_
 refine wl_do (wants0 rfl) (fun K1 hK1 => ?_)
 refine d_box (vs := (hc x)) rfl H rfl rfl ?_
 intro b2 w3 (H4 : Sat w [cellC p 83 (rcL t (.slice ua D.P.length uc) D), cellC t 101 ([(.int .i64 (D.f)), (.int .i64 (D.c)), (.slice va D.L.length vc)] : List Value), rowC 143 35 (.slice va D.L.length vc) D.L.length (D.L.flatMap encV), rowC 129 35 (.slice ua D.P.length uc) D.P.length (D.P.flatMap encQ), restC w (rcC p t (.slice va D.L.length vc) (.slice ua D.P.length uc) D).fp, cellC b2 36 (hc x)] w3)
 refine hK1 _ _ ?_
 clear hK1 K1
 refine wv 10 (.slice none 0 0) ?_
 refine w_nil ?_
 refine then_normal ?_
 iterate 2 refine w_seq ?_
 refine h_start H4 [cellC p 83 (rcL t (.slice ua D.P.length uc) D), rowC 129 35 (.slice ua D.P.length uc) D.P.length (D.P.flatMap encQ), restC w (rcC p t (.slice va D.L.length vc) (.slice ua D.P.length uc) D).fp, cellC b2 36 (hc x)] 10 rfl (by kernel_rfl) (fun Hx => (Hx.pick [0, 3, 4, 5] (by decide))) ?_
 intro w5 H6 S7
 refine hv0 0 S7 11 (pt p 0) ?_
 refine hv0 1 S7 12 (pt p 0) ?_
 refine hv0 2 S7 13 (pt p 105) ?_
 refine hv0 3 S7 14 (pt t 0) ?_ (he := fun _ H' => (e_load1 rfl (by kernel_rfl) (H'.cell 0 rfl (by kernel_rfl))))
 refine hv0 4 S7 15 (.int .i64 (kind)) ?_
 refine hv0 5 S7 16 (.int .i64 (round)) ?_
 refine hv0 6 S7 17 (.int .i64 (p')) ?_
 refine hv0 7 S7 18 (.agg ⟨(hc x)⟩) ?_ (he := fun _ H' => (e_loadN (vs := (hc x)) rfl (by kernel_rfl) (by kernel_rfl) (by exact Nat.le_of_ble_eq_true (by kernel_rfl)) (H'.at 3 rfl) (by kernel_rfl)))
 refine h_do 8 rfl (by kernel_rfl) (wants0 rfl) (fun K8 hK8 => ?_)
 refine d_call (d := 19) rfl (by kernel_rfl) (refAdd_any w5 t (.slice va D.L.length vc) D.f D.c D.L (ok_of (by kernel_rfl) (H6.fin [1, 2] (by decide) rfl)) (by omega) hf kind round (p') x) ?_
 rintro _ w9 ⟨rfl, v10, k11, u12, q13⟩
 have S14 := rt_sat (ok_of (by kernel_rfl) (H6.fin [1, 2] (by decide) rfl)) k11 u12 q13
 have H15 : Sat w [cellC p 83 (rcL t (.slice ua D.P.length uc) D), cellC t 101 ([(.int .i64 (D.f)), (.int .i64 (D.c)), v10] : List Value), rowC 143 35 v10 ((addV D.f D.L ⟨kind, round, (p'), x⟩).length) ((addV D.f D.L ⟨kind, round, (p'), x⟩).flatMap encV), rowC 129 35 (.slice ua D.P.length uc) D.P.length (D.P.flatMap encQ), restC w (rcC p t (.slice va D.L.length vc) (.slice ua D.P.length uc) D).fp, cellC b2 36 (hc x)] w9 := (Sat.turnL (L' := [cellC t 101 ([(.int .i64 (D.f)), (.int .i64 (D.c)), v10] : List Value), rowC 143 35 v10 ((addV D.f D.L ⟨kind, round, (p'), x⟩).length) ((addV D.f D.L ⟨kind, round, (p'), x⟩).flatMap encV)]) (R := [cellC p 83 (rcL t (.slice ua D.P.length uc) D), rowC 129 35 (.slice ua D.P.length uc) D.P.length (D.P.flatMap encQ), restC w (rcC p t (.slice va D.L.length vc) (.slice ua D.P.length uc) D).fp, cellC b2 36 (hc x)]) H6 [1, 2] [0, 3, 4, 5] (by decide) (by kernel_rfl) rfl S14).pick [2, 0, 1, 3, 4, 5] (by decide)
 obtain ⟨a16, c17, rfl⟩ := ownsRow_shape (H15.at 2 rfl)
 refine ⟨_, rfl, ?_⟩
 have S18 := H15.pick [0, 3, 4, 5] (by decide)
 refine hK8 _ _ S18 ?_
 clear hK8 K8
 refine hv0 9 S18 20 (.bool (!(okV D.f D.L kind round (p')))) ?_
 refine h_fin (by kernel_rfl) ?_
 refine then_normal ?_
 refine (bsplit (!(okV D.f D.L kind round (p')))).elim (fun b19 => ?_) (fun b19 => ?_)
 ·have g20 := bnot_true b19
  refine wp_know 20 (.bool true) (congrArg Value.bool b19) ?_
  refine wp_ift rfl ?_
  refine w_seq ?_
  refine w_lit ?_
  refine wv 10 (.slice none 0 0) ?_
  refine w_nil ?_
  refine then_normal ?_
  refine w_ret ?_
  refine then_ret ?_
  refine end1 rfl (res_tmp (v := (.slice none 0 0)) rfl) ?_
  rw [show refVoteD D kind round p' x = (D, []) from if_pos (bnot_true b19)]
  have Hn := H15.addNil 102 35
  exact ⟨(.slice a16 ((addV D.f D.L ⟨kind, round, (p'), x⟩).length) c17), (.slice ua D.P.length uc), _, rfl, (Hn.pick [0, 1, 2, 3, 6, 4] (by decide)).cast (by rw [show addV D.f D.L ⟨kind, round, p', x⟩ = D.L from addV_no (v := ⟨kind, round, p', x⟩) (bnot_true b19)]; rfl)⟩
 ·have g21 := bnot_false b19
  refine wp_know 20 (.bool false) (congrArg Value.bool b19) ?_
  refine wp_iff rfl ?_
  refine w_skip ?_
  refine then_normal ?_
  refine w_seq ?_
  refine w_lit ?_
  refine wv 21 (pt p 0) ?_
  refine wl_do (wants0 rfl) (fun K22 hK22 => ?_)
  refine d_call (d := 22) rfl (by kernel_rfl) (rcSettle_any w9 p t (.slice a16 ((addV D.f D.L ⟨kind, round, (p'), x⟩).length) c17) (.slice ua D.P.length uc) (⟨D.f, D.c, D.epoch, D.replica, ⟨D.s.round, D.s.step, D.s.lr, D.s.vr, D.s.locked, D.s.valid, (D.s.decided), D.s.decision⟩, (addV D.f D.L ⟨kind, round, (p'), x⟩), D.P, (D.wv), (D.sp), (D.sc)⟩ : CoreD) (ok_of (by kernel_rfl) (H15.fin [0, 1, 2, 3] (by decide) rfl)) (h.addD kind round p' x) ) ?_
  rintro _ w26 ⟨v23, u24, x25, rfl, S27⟩
  have H28 : Sat w [cellC p 83 (rcL t u24 ((settleD (⟨D.f, D.c, D.epoch, D.replica, ⟨D.s.round, D.s.step, D.s.lr, D.s.vr, D.s.locked, D.s.valid, (D.s.decided), D.s.decision⟩, (addV D.f D.L ⟨kind, round, (p'), x⟩), D.P, (D.wv), (D.sp), (D.sc)⟩ : CoreD)).1)), cellC t 101 ([(.int .i64 (((settleD (⟨D.f, D.c, D.epoch, D.replica, ⟨D.s.round, D.s.step, D.s.lr, D.s.vr, D.s.locked, D.s.valid, (D.s.decided), D.s.decision⟩, (addV D.f D.L ⟨kind, round, (p'), x⟩), D.P, (D.wv), (D.sp), (D.sc)⟩ : CoreD)).1).f)), (.int .i64 (((settleD (⟨D.f, D.c, D.epoch, D.replica, ⟨D.s.round, D.s.step, D.s.lr, D.s.vr, D.s.locked, D.s.valid, (D.s.decided), D.s.decision⟩, (addV D.f D.L ⟨kind, round, (p'), x⟩), D.P, (D.wv), (D.sp), (D.sc)⟩ : CoreD)).1).c)), v23] : List Value), rowC 143 35 v23 ((((settleD (⟨D.f, D.c, D.epoch, D.replica, ⟨D.s.round, D.s.step, D.s.lr, D.s.vr, D.s.locked, D.s.valid, (D.s.decided), D.s.decision⟩, (addV D.f D.L ⟨kind, round, (p'), x⟩), D.P, (D.wv), (D.sp), (D.sc)⟩ : CoreD)).1).L).length) ((((settleD (⟨D.f, D.c, D.epoch, D.replica, ⟨D.s.round, D.s.step, D.s.lr, D.s.vr, D.s.locked, D.s.valid, (D.s.decided), D.s.decision⟩, (addV D.f D.L ⟨kind, round, (p'), x⟩), D.P, (D.wv), (D.sp), (D.sc)⟩ : CoreD)).1).L).flatMap encV), rowC 129 35 u24 ((((settleD (⟨D.f, D.c, D.epoch, D.replica, ⟨D.s.round, D.s.step, D.s.lr, D.s.vr, D.s.locked, D.s.valid, (D.s.decided), D.s.decision⟩, (addV D.f D.L ⟨kind, round, (p'), x⟩), D.P, (D.wv), (D.sp), (D.sc)⟩ : CoreD)).1).P).length) ((((settleD (⟨D.f, D.c, D.epoch, D.replica, ⟨D.s.round, D.s.step, D.s.lr, D.s.vr, D.s.locked, D.s.valid, (D.s.decided), D.s.decision⟩, (addV D.f D.L ⟨kind, round, (p'), x⟩), D.P, (D.wv), (D.sp), (D.sc)⟩ : CoreD)).1).P).flatMap encQ), restC w (rcC p t (.slice va D.L.length vc) (.slice ua D.P.length uc) D).fp, cellC b2 36 (hc x), rowC 102 35 x25 (((settleD (⟨D.f, D.c, D.epoch, D.replica, ⟨D.s.round, D.s.step, D.s.lr, D.s.vr, D.s.locked, D.s.valid, (D.s.decided), D.s.decision⟩, (addV D.f D.L ⟨kind, round, (p'), x⟩), D.P, (D.wv), (D.sp), (D.sc)⟩ : CoreD)).2).length) (((settleD (⟨D.f, D.c, D.epoch, D.replica, ⟨D.s.round, D.s.step, D.s.lr, D.s.vr, D.s.locked, D.s.valid, (D.s.decided), D.s.decision⟩, (addV D.f D.L ⟨kind, round, (p'), x⟩), D.P, (D.wv), (D.sp), (D.sc)⟩ : CoreD)).2).flatMap encA)] w26 := (Sat.turnL (L' := [cellC p 83 (rcL t u24 ((settleD (⟨D.f, D.c, D.epoch, D.replica, ⟨D.s.round, D.s.step, D.s.lr, D.s.vr, D.s.locked, D.s.valid, (D.s.decided), D.s.decision⟩, (addV D.f D.L ⟨kind, round, (p'), x⟩), D.P, (D.wv), (D.sp), (D.sc)⟩ : CoreD)).1)), cellC t 101 ([(.int .i64 (((settleD (⟨D.f, D.c, D.epoch, D.replica, ⟨D.s.round, D.s.step, D.s.lr, D.s.vr, D.s.locked, D.s.valid, (D.s.decided), D.s.decision⟩, (addV D.f D.L ⟨kind, round, (p'), x⟩), D.P, (D.wv), (D.sp), (D.sc)⟩ : CoreD)).1).f)), (.int .i64 (((settleD (⟨D.f, D.c, D.epoch, D.replica, ⟨D.s.round, D.s.step, D.s.lr, D.s.vr, D.s.locked, D.s.valid, (D.s.decided), D.s.decision⟩, (addV D.f D.L ⟨kind, round, (p'), x⟩), D.P, (D.wv), (D.sp), (D.sc)⟩ : CoreD)).1).c)), v23] : List Value), rowC 143 35 v23 ((((settleD (⟨D.f, D.c, D.epoch, D.replica, ⟨D.s.round, D.s.step, D.s.lr, D.s.vr, D.s.locked, D.s.valid, (D.s.decided), D.s.decision⟩, (addV D.f D.L ⟨kind, round, (p'), x⟩), D.P, (D.wv), (D.sp), (D.sc)⟩ : CoreD)).1).L).length) ((((settleD (⟨D.f, D.c, D.epoch, D.replica, ⟨D.s.round, D.s.step, D.s.lr, D.s.vr, D.s.locked, D.s.valid, (D.s.decided), D.s.decision⟩, (addV D.f D.L ⟨kind, round, (p'), x⟩), D.P, (D.wv), (D.sp), (D.sc)⟩ : CoreD)).1).L).flatMap encV), rowC 129 35 u24 ((((settleD (⟨D.f, D.c, D.epoch, D.replica, ⟨D.s.round, D.s.step, D.s.lr, D.s.vr, D.s.locked, D.s.valid, (D.s.decided), D.s.decision⟩, (addV D.f D.L ⟨kind, round, (p'), x⟩), D.P, (D.wv), (D.sp), (D.sc)⟩ : CoreD)).1).P).length) ((((settleD (⟨D.f, D.c, D.epoch, D.replica, ⟨D.s.round, D.s.step, D.s.lr, D.s.vr, D.s.locked, D.s.valid, (D.s.decided), D.s.decision⟩, (addV D.f D.L ⟨kind, round, (p'), x⟩), D.P, (D.wv), (D.sp), (D.sc)⟩ : CoreD)).1).P).flatMap encQ), rowC 102 35 x25 (((settleD (⟨D.f, D.c, D.epoch, D.replica, ⟨D.s.round, D.s.step, D.s.lr, D.s.vr, D.s.locked, D.s.valid, (D.s.decided), D.s.decision⟩, (addV D.f D.L ⟨kind, round, (p'), x⟩), D.P, (D.wv), (D.sp), (D.sc)⟩ : CoreD)).2).length) (((settleD (⟨D.f, D.c, D.epoch, D.replica, ⟨D.s.round, D.s.step, D.s.lr, D.s.vr, D.s.locked, D.s.valid, (D.s.decided), D.s.decision⟩, (addV D.f D.L ⟨kind, round, (p'), x⟩), D.P, (D.wv), (D.sp), (D.sc)⟩ : CoreD)).2).flatMap encA)]) (R := [restC w (rcC p t (.slice va D.L.length vc) (.slice ua D.P.length uc) D).fp, cellC b2 36 (hc x)]) H15 [0, 1, 2, 3] [4, 5] (by decide) (by kernel_rfl) rfl S27).pick [0, 1, 2, 3, 5, 6, 4] (by decide)
  obtain ⟨a29, c30, rfl⟩ := ownsRow_shape (H28.at 2 rfl)
  obtain ⟨a31, c32, rfl⟩ := ownsRow_shape (H28.at 3 rfl)
  obtain ⟨a33, c34, rfl⟩ := ownsRow_shape (H28.at 6 rfl)
  refine ⟨_, rfl, ?_⟩
  have l35 := settle_le (h.addD kind round p' x)
  refine hK22 _ _ ?_
  clear hK22 K22
  refine wv 10 (.slice a33 (((settleD (⟨D.f, D.c, D.epoch, D.replica, ⟨D.s.round, D.s.step, D.s.lr, D.s.vr, D.s.locked, D.s.valid, (D.s.decided), D.s.decision⟩, (addV D.f D.L ⟨kind, round, (p'), x⟩), D.P, (D.wv), (D.sp), (D.sc)⟩ : CoreD)).2).length) c34) ?_
  refine w_nil ?_
  refine then_normal ?_
  refine w_ret ?_
  refine end1 rfl (res_tmp (v := (.slice a33 (((settleD (⟨D.f, D.c, D.epoch, D.replica, ⟨D.s.round, D.s.step, D.s.lr, D.s.vr, D.s.locked, D.s.valid, (D.s.decided), D.s.decision⟩, (addV D.f D.L ⟨kind, round, (p'), x⟩), D.P, (D.wv), (D.sp), (D.sc)⟩ : CoreD)).2).length) c34)) rfl) ?_
  rw [show refVoteD D kind round p' x = settleD (addD D kind round p' x) from if_neg (by rw [(bnot_false b19)]; simp)]
  exact ⟨(.slice a29 ((((settleD (⟨D.f, D.c, D.epoch, D.replica, ⟨D.s.round, D.s.step, D.s.lr, D.s.vr, D.s.locked, D.s.valid, (D.s.decided), D.s.decision⟩, (addV D.f D.L ⟨kind, round, (p'), x⟩), D.P, (D.wv), (D.sp), (D.sc)⟩ : CoreD)).1).L).length) c30), (.slice a31 ((((settleD (⟨D.f, D.c, D.epoch, D.replica, ⟨D.s.round, D.s.step, D.s.lr, D.s.vr, D.s.locked, D.s.valid, (D.s.decided), D.s.decision⟩, (addV D.f D.L ⟨kind, round, (p'), x⟩), D.P, (D.wv), (D.sp), (D.sc)⟩ : CoreD)).1).P).length) c32), _, rfl, (H28.pick [0, 1, 2, 3, 6, 4] (by decide)).cast (by kernel_rfl)⟩

set_option maxRecDepth 100000 in
set_option maxHeartbeats 1000000 in
theorem rcTimeout_any (w : World) (p t : Nat) (v u : Value) (D : CoreD) (hT : (rcC p t v u D).ok w) (h : CI D) (kind round : Int) :
  Calls Try.prog 45 #[(.pointer (some ⟨p, 0, none⟩)), (.agg ⟨([(.int .i64 (kind)), (.int .i64 (round))] : List Value)⟩)] w fun e w' => ∃ v' u' z', e = .returned z' ∧ Sat w [cellC p 83 (rcL t u' ((timeD D kind round).1)), cellC t 101 ([(.int .i64 (((timeD D kind round).1).f)), (.int .i64 (((timeD D kind round).1).c)), v'] : List Value), rowC 143 35 (v') ((((timeD D kind round).1).L).length) ((((timeD D kind round).1).L).flatMap encV), rowC 129 35 (u') ((((timeD D kind round).1).P).length) ((((timeD D kind round).1).P).flatMap encQ), rowC 102 35 z' ((timeD D kind round).2).length (((timeD D kind round).2).flatMap encA), restC w (rcC p t v u D).fp] w' := by
 obtain ⟨va, vc, rfl⟩ := ownsRow_shape (rcC_parts hT).2.2.1
 obtain ⟨ua, uc, rfl⟩ := ownsRow_shape (rcC_parts hT).2.2.2
 have H : Sat w [cellC p 83 (rcL t (.slice ua D.P.length uc) D), cellC t 101 ([(.int .i64 (D.f)), (.int .i64 (D.c)), (.slice va D.L.length vc)] : List Value), rowC 143 35 (.slice va D.L.length vc) D.L.length (D.L.flatMap encV), rowC 129 35 (.slice ua D.P.length uc) D.P.length (D.P.flatMap encQ), restC w (rcC p t (.slice va D.L.length vc) (.slice ua D.P.length uc) D).fp] w := Sat.start _ hT
 have hf := h.f
 have hep := h.ep
 have hrp := h.rp
 have hrd := h.rd
 have hst := h.st
 have hvo := h.votes
 have hpo := props_few h
 refine calls_fr Try.func45 rfl 75 rfl (Nat.le_of_ble_eq_true rfl) ?_
 refine w_seq ?_
 refine w_lit ?_
 refine wl_do (wants0 rfl) (fun K1 hK1 => ?_)
 refine d_box (vs := ([(.int .i64 (kind)), (.int .i64 (round))] : List Value)) rfl H rfl rfl ?_
 intro b2 w3 (H4 : Sat w [cellC p 83 (rcL t (.slice ua D.P.length uc) D), cellC t 101 ([(.int .i64 (D.f)), (.int .i64 (D.c)), (.slice va D.L.length vc)] : List Value), rowC 143 35 (.slice va D.L.length vc) D.L.length (D.L.flatMap encV), rowC 129 35 (.slice ua D.P.length uc) D.P.length (D.P.flatMap encQ), restC w (rcC p t (.slice va D.L.length vc) (.slice ua D.P.length uc) D).fp, cellC b2 63 ([(.int .i64 (kind)), (.int .i64 (round))] : List Value)] w3)
 refine hK1 _ _ ?_
 clear hK1 K1
 refine wv 4 (.slice none 0 0) ?_
 refine w_nil ?_
 refine then_normal ?_
 refine w_seq ?_
 refine wp_meetR [6, 7, 8, 9, 10, 11, 12, 13, 14, 15, 16, 17, 18, 19, 20, 21, 22, 23, 24, 25, 26, 27, 28] (fun G_ W_ => G_ 28 = (.bool (timeBad D round)) ∧ Sat w [cellC p 83 (rcL t (.slice ua D.P.length uc) D), cellC t 101 ([(.int .i64 (D.f)), (.int .i64 (D.c)), (.slice va D.L.length vc)] : List Value), rowC 143 35 (.slice va D.L.length vc) D.L.length (D.L.flatMap encV), rowC 129 35 (.slice ua D.P.length uc) D.P.length (D.P.flatMap encQ), restC w (rcC p t (.slice va D.L.length vc) (.slice ua D.P.length uc) D).fp, cellC b2 63 ([(.int .i64 (kind)), (.int .i64 (round))] : List Value)] W_) ?_ ?_
 ·refine q_start H4 (by kernel_rfl) (by kernel_rfl) ?_
  refine qv 6 (pt p 0) ?_
  refine qv 7 (pt p 0) ?_
  refine qv 8 (pt p 4) ?_
  refine qv 9 (pt p 5) ?_
  refine qv 10 (.int .i64 (D.s.step)) ?_ (hr := fun _ H' => (e_load1 rfl (by kernel_rfl) (H'.cell 0 rfl (by kernel_rfl))))
  refine qv 11 (.bool (decide (D.s.step = 0))) ?_
  refine qv 12 (.bool (decide (D.s.step = 0))) ?_
  refine (bsplit (decide (D.s.step = 0))).elim (fun b6 => ?_) (fun b6 => ?_)
  ·have g7 := of_decide_eq_true b6
   refine q_know 12 (.bool true) (congrArg Value.bool b6) ?_
   iterate 5 refine qn 6 12 false ?_
   refine qv 18 (.bool true) ?_
   refine qv 19 (.bool true) ?_
   iterate 8 refine qn 13 19 false ?_
   refine qv 28 (.bool true) ?_
   refine q_end ?_
   intro w8 H9
   refine meetR_at ?_ ⟨(congrArg Value.bool (show true = (timeBad D round) by simp [timeBad, of_decide_eq_true b6])), H9⟩
   exact (same_upd rfl (same_upd rfl (same_upd rfl (same_upd rfl (same_upd rfl (same_upd rfl (same_upd rfl (same_upd rfl (same_upd rfl (same_upd rfl (same_upd rfl (same_upd rfl (same_upd rfl (same_upd rfl (same_upd rfl (same_upd rfl (same_upd rfl (same_upd rfl (same_upd rfl (same_upd rfl (same_upd rfl (same_upd rfl (same_upd rfl (same_upd rfl (same_refl)))))))))))))))))))))))))
  ·have g10 := of_decide_eq_false b6
   refine q_know 12 (.bool false) (congrArg Value.bool b6) ?_
   refine qy 6 12 false 13 (pt p 0) ?_
   refine qy 6 12 false 14 (pt p 0) ?_
   refine qy 6 12 false 15 (pt p 4) ?_
   refine qy 6 12 false 16 (pt p 72) ?_
   refine qy 6 12 false 17 (.bool (D.s.decided)) ?_ (hr := fun _ H' => (e_load1 rfl (by kernel_rfl) (H'.cell 0 rfl (by kernel_rfl))))
   refine qv 18 (.bool (D.s.decided)) ?_
   refine qv 19 (.bool (D.s.decided)) ?_
   refine (bsplit (D.s.decided)).elim (fun b11 => ?_) (fun b11 => ?_)
   ·refine q_know 19 (.bool true) (congrArg Value.bool b11) ?_
    iterate 8 refine qn 13 19 false ?_
    refine qv 28 (.bool true) ?_
    refine q_end ?_
    intro w12 H13
    refine meetR_at ?_ ⟨(congrArg Value.bool (show true = (timeBad D round) by simp [timeBad, of_decide_eq_false b6, b11])), H13⟩
    exact (same_upd rfl (same_upd rfl (same_upd rfl (same_upd rfl (same_upd rfl (same_upd rfl (same_upd rfl (same_upd rfl (same_upd rfl (same_upd rfl (same_upd rfl (same_upd rfl (same_upd rfl (same_upd rfl (same_upd rfl (same_upd rfl (same_upd rfl (same_upd rfl (same_upd rfl (same_upd rfl (same_upd rfl (same_upd rfl (same_upd rfl (same_upd rfl (same_upd rfl (same_refl))))))))))))))))))))))))))
   ·refine q_know 19 (.bool false) (congrArg Value.bool b11) ?_
    refine qy 13 19 false 20 (pt b2 1) ?_
    refine qy 13 19 false 21 (.int .i64 (round)) ?_ (hr := fun _ H' => (e_load1 rfl (by kernel_rfl) (H'.cell 5 rfl rfl)))
    refine qy 13 19 false 22 (pt p 0) ?_
    refine qy 13 19 false 23 (pt p 0) ?_
    refine qy 13 19 false 24 (pt p 4) ?_
    refine qy 13 19 false 25 (pt p 4) ?_
    refine qy 13 19 false 26 (.int .i64 (D.s.round)) ?_ (hr := fun _ H' => (e_load1 rfl (by kernel_rfl) (H'.cell 0 rfl (by kernel_rfl))))
    refine qy 13 19 false 27 (.bool (!(decide (round = D.s.round)))) ?_
    refine qv 28 (.bool (!(decide (round = D.s.round)))) ?_
    refine q_end ?_
    intro w14 H15
    refine meetR_at ?_ ⟨(congrArg Value.bool (show (!(decide (round = D.s.round))) = (timeBad D round) by simp [timeBad, of_decide_eq_false b6, b11])), H15⟩
    exact (same_upd rfl (same_upd rfl (same_upd rfl (same_upd rfl (same_upd rfl (same_upd rfl (same_upd rfl (same_upd rfl (same_upd rfl (same_upd rfl (same_upd rfl (same_upd rfl (same_upd rfl (same_upd rfl (same_upd rfl (same_upd rfl (same_upd rfl (same_upd rfl (same_upd rfl (same_upd rfl (same_upd rfl (same_upd rfl (same_upd rfl (same_upd rfl (same_upd rfl (same_refl))))))))))))))))))))))))))
 ·rintro f16 w17 ⟨v19, H18⟩
  refine wp_know 28 _ v19 ?_
  refine (bsplit (timeBad D round)).elim (fun b20 => ?_) (fun b20 => ?_)
  ·refine wp_know 28 (.bool true) (congrArg Value.bool b20) ?_
   refine wp_ift rfl ?_
   refine w_seq ?_
   refine w_lit ?_
   refine wv 4 (.slice none 0 0) ?_
   refine w_nil ?_
   refine then_normal ?_
   refine w_ret ?_
   refine then_ret ?_
   refine end1 rfl (res_tmp (v := (.slice none 0 0)) rfl) ?_
   rw [timeD_b, if_pos b20]
   have Hn := H18.addNil 102 35
   exact ⟨(.slice va D.L.length vc), (.slice ua D.P.length uc), _, rfl, (Hn.pick [0, 1, 2, 3, 6, 4] (by decide)).cast (by kernel_rfl)⟩
  ·refine wp_know 28 (.bool false) (congrArg Value.bool b20) ?_
   refine wp_iff rfl ?_
   refine w_skip ?_
   refine then_normal ?_
   refine w_seq ?_
   refine w_lit ?_
   refine wv 5 (.slice none 0 0) ?_
   refine w_nil ?_
   refine then_normal ?_
   refine w_seq ?_
   refine w_block ?_
   refine wp_meetR [29, 30, 31, 32, 33, 34, 35, 36, 37, 38, 39, 40] (fun G_ W_ => G_ 29 = (.bool (decide (kind = 1) && decide (D.s.step = 1))) ∧ Sat w [cellC p 83 (rcL t (.slice ua D.P.length uc) D), cellC t 101 ([(.int .i64 (D.f)), (.int .i64 (D.c)), (.slice va D.L.length vc)] : List Value), rowC 143 35 (.slice va D.L.length vc) D.L.length (D.L.flatMap encV), rowC 129 35 (.slice ua D.P.length uc) D.P.length (D.P.flatMap encQ), restC w (rcC p t (.slice va D.L.length vc) (.slice ua D.P.length uc) D).fp, cellC b2 63 ([(.int .i64 (kind)), (.int .i64 (round))] : List Value)] W_) ?_ ?_
   ·refine w_lit ?_
    refine wv 30 (pt b2 0) ?_
    refine wv 31 (.int .i64 (kind)) ?_ (hr := e_load1 rfl (by kernel_rfl) (H18.cell 5 rfl rfl))
    refine wv 32 (.bool (decide (kind = 1))) ?_
    refine wv 33 (.bool (decide (kind = 1))) ?_
    refine (bsplit (decide (kind = 1))).elim (fun b22 => ?_) (fun b22 => ?_)
    ·have g23 := of_decide_eq_true b22
     refine wl_know 33 (.bool true) (congrArg Value.bool b22) ?_
     refine wy 3 33 true 34 (pt p 0) ?_
     refine wy 3 33 true 35 (pt p 0) ?_
     refine wy 3 33 true 36 (pt p 4) ?_
     refine wy 3 33 true 37 (pt p 5) ?_
     refine wy 3 33 true 38 (.int .i64 (D.s.step)) ?_ (hr := e_load1 rfl (by kernel_rfl) (H18.cell 0 rfl (by kernel_rfl)))
     refine wy 3 33 true 39 (.bool (decide (D.s.step = 1))) ?_
     refine wv 40 (.bool (decide (D.s.step = 1))) ?_
     refine wv 29 (.bool (decide (D.s.step = 1))) ?_
     refine w_nil ?_
     refine meetR_at ?_ ⟨(congrArg Value.bool (show (decide (D.s.step = 1)) = (decide (kind = 1) && decide (D.s.step = 1)) by simp [of_decide_eq_true b22])), H18⟩
     exact (same_upd rfl (same_upd rfl (same_upd rfl (same_upd rfl (same_upd rfl (same_upd rfl (same_upd rfl (same_upd rfl (same_upd rfl (same_upd rfl (same_upd rfl (same_upd rfl (same_upd rfl (same_refl))))))))))))))
    ·have g24 := of_decide_eq_false b22
     refine wl_know 33 (.bool false) (congrArg Value.bool b22) ?_
     iterate 6 refine wn 3 33 true ?_
     refine wv 40 (.bool false) ?_
     refine wv 29 (.bool false) ?_
     refine w_nil ?_
     refine meetR_at ?_ ⟨(congrArg Value.bool (show false = (decide (kind = 1) && decide (D.s.step = 1)) by simp [of_decide_eq_false b22])), H18⟩
     exact (same_upd rfl (same_upd rfl (same_upd rfl (same_upd rfl (same_upd rfl (same_upd rfl (same_upd rfl (same_upd rfl (same_upd rfl (same_upd rfl (same_upd rfl (same_upd rfl (same_upd rfl (same_refl))))))))))))))
   ·rintro f25 w26 ⟨v28, H27⟩
    refine wp_know 29 _ v28 ?_
    refine (bsplit (decide (kind = 1) && decide (D.s.step = 1))).elim (fun b29 => ?_) (fun b29 => ?_)
    ·refine wp_know 29 (.bool true) (congrArg Value.bool b29) ?_
     refine wp_ift rfl ?_
     refine w_lit ?_
     refine wv 41 (pt p 0) ?_
     refine wv 42 (.agg ⟨(hc hash0)⟩) ?_
     refine wl_do (wants0 rfl) (fun K30 hK30 => ?_)
     refine d_call (d := 43) rfl (by kernel_rfl) (rcPrevote_any w26 p t (.slice va D.L.length vc) (.slice ua D.P.length uc) D (ok_of (by kernel_rfl) (H27.fin [0, 1, 2, 3] (by decide) rfl)) h hash0) ?_
     rintro _ w34 ⟨v31, u32, x33, rfl, S35⟩
     have H36 : Sat w [cellC p 83 (rcL t u32 (ownV D 1 2 hash0)), cellC t 101 ([(.int .i64 ((ownV D 1 2 hash0).f)), (.int .i64 ((ownV D 1 2 hash0).c)), v31] : List Value), rowC 143 35 v31 (((ownV D 1 2 hash0).L).length) (((ownV D 1 2 hash0).L).flatMap encV), rowC 129 35 u32 (((ownV D 1 2 hash0).P).length) (((ownV D 1 2 hash0).P).flatMap encQ), restC w (rcC p t (.slice va D.L.length vc) (.slice ua D.P.length uc) D).fp, cellC b2 63 ([(.int .i64 (kind)), (.int .i64 (round))] : List Value), rowC 102 35 x33 ((ownA D 2 hash0).length) ((ownA D 2 hash0).flatMap encA)] w34 := (Sat.turnL (L' := [cellC p 83 (rcL t u32 (ownV D 1 2 hash0)), cellC t 101 ([(.int .i64 ((ownV D 1 2 hash0).f)), (.int .i64 ((ownV D 1 2 hash0).c)), v31] : List Value), rowC 143 35 v31 (((ownV D 1 2 hash0).L).length) (((ownV D 1 2 hash0).L).flatMap encV), rowC 129 35 u32 (((ownV D 1 2 hash0).P).length) (((ownV D 1 2 hash0).P).flatMap encQ), rowC 102 35 x33 ((ownA D 2 hash0).length) ((ownA D 2 hash0).flatMap encA)]) (R := [restC w (rcC p t (.slice va D.L.length vc) (.slice ua D.P.length uc) D).fp, cellC b2 63 ([(.int .i64 (kind)), (.int .i64 (round))] : List Value)]) H27 [0, 1, 2, 3] [4, 5] (by decide) (by kernel_rfl) rfl S35).pick [0, 1, 2, 3, 5, 6, 4] (by decide)
     obtain ⟨a37, c38, rfl⟩ := ownsRow_shape (H36.at 2 rfl)
     obtain ⟨a39, c40, rfl⟩ := ownsRow_shape (H36.at 3 rfl)
     obtain ⟨a41, c42, rfl⟩ := ownsRow_shape (H36.at 6 rfl)
     refine ⟨_, rfl, ?_⟩
     have l43 : (ownA D 2 hash0).length = 1 := rfl
     refine hK30 _ _ ?_
     clear hK30 K30
     refine wv 5 (.slice a41 ((ownA D 2 hash0).length) c42) ?_
     refine w_nil ?_
     refine blk_normal ?_
     refine then_normal ?_
     refine w_seq ?_
     refine w_lit ?_
     refine wv 71 (.slice a41 ((ownA D 2 hash0).length) c42) ?_
     refine wv 72 (pt p 0) ?_
     refine wl_do (wants0 rfl) (fun K44 hK44 => ?_)
     refine d_call (d := 73) rfl (by kernel_rfl) (rcSettle_any w34 p t (.slice a37 (((ownV D 1 2 hash0).L).length) c38) (.slice a39 (((ownV D 1 2 hash0).P).length) c40) (ownV D 1 2 hash0) (ok_of (by kernel_rfl) (H36.fin [0, 1, 2, 3] (by decide) rfl)) (h.own 1 2 (by omega) hash0) ) ?_
     rintro _ w48 ⟨v45, u46, x47, rfl, S49⟩
     have H50 : Sat w [cellC p 83 (rcL t u46 ((settleD (ownV D 1 2 hash0)).1)), cellC t 101 ([(.int .i64 (((settleD (ownV D 1 2 hash0)).1).f)), (.int .i64 (((settleD (ownV D 1 2 hash0)).1).c)), v45] : List Value), rowC 143 35 v45 ((((settleD (ownV D 1 2 hash0)).1).L).length) ((((settleD (ownV D 1 2 hash0)).1).L).flatMap encV), rowC 129 35 u46 ((((settleD (ownV D 1 2 hash0)).1).P).length) ((((settleD (ownV D 1 2 hash0)).1).P).flatMap encQ), restC w (rcC p t (.slice va D.L.length vc) (.slice ua D.P.length uc) D).fp, cellC b2 63 ([(.int .i64 (kind)), (.int .i64 (round))] : List Value), rowC 102 35 (.slice a41 ((ownA D 2 hash0).length) c42) ((ownA D 2 hash0).length) ((ownA D 2 hash0).flatMap encA), rowC 102 35 x47 (((settleD (ownV D 1 2 hash0)).2).length) (((settleD (ownV D 1 2 hash0)).2).flatMap encA)] w48 := (Sat.turnL (L' := [cellC p 83 (rcL t u46 ((settleD (ownV D 1 2 hash0)).1)), cellC t 101 ([(.int .i64 (((settleD (ownV D 1 2 hash0)).1).f)), (.int .i64 (((settleD (ownV D 1 2 hash0)).1).c)), v45] : List Value), rowC 143 35 v45 ((((settleD (ownV D 1 2 hash0)).1).L).length) ((((settleD (ownV D 1 2 hash0)).1).L).flatMap encV), rowC 129 35 u46 ((((settleD (ownV D 1 2 hash0)).1).P).length) ((((settleD (ownV D 1 2 hash0)).1).P).flatMap encQ), rowC 102 35 x47 (((settleD (ownV D 1 2 hash0)).2).length) (((settleD (ownV D 1 2 hash0)).2).flatMap encA)]) (R := [restC w (rcC p t (.slice va D.L.length vc) (.slice ua D.P.length uc) D).fp, cellC b2 63 ([(.int .i64 (kind)), (.int .i64 (round))] : List Value), rowC 102 35 (.slice a41 ((ownA D 2 hash0).length) c42) ((ownA D 2 hash0).length) ((ownA D 2 hash0).flatMap encA)]) H36 [0, 1, 2, 3] [4, 5, 6] (by decide) (by kernel_rfl) rfl S49).pick [0, 1, 2, 3, 5, 6, 7, 4] (by decide)
     obtain ⟨a51, c52, rfl⟩ := ownsRow_shape (H50.at 2 rfl)
     obtain ⟨a53, c54, rfl⟩ := ownsRow_shape (H50.at 3 rfl)
     obtain ⟨a55, c56, rfl⟩ := ownsRow_shape (H50.at 7 rfl)
     refine ⟨_, rfl, ?_⟩
     have l57 := settle_le (h.own 1 2 (by omega) hash0)
     refine hK44 _ _ ?_
     clear hK44 K44
     refine wl_do (wants0 rfl) (fun K58 hK58 => ?_)
     refine d_append (T := 73) (e := 102) (size := 35) (bytes := 56) rfl H50 (by kernel_rfl) 6 7 rfl rfl rfl rfl (flat_one encA encA_one ((settleD (ownV D 1 2 hash0)).2)) (by omega) (by omega) ?_
     intro v59 w60 (H61 : Sat w [cellC p 83 (rcL t (.slice a53 ((((settleD (ownV D 1 2 hash0)).1).P).length) c54) ((settleD (ownV D 1 2 hash0)).1)), cellC t 101 ([(.int .i64 (((settleD (ownV D 1 2 hash0)).1).f)), (.int .i64 (((settleD (ownV D 1 2 hash0)).1).c)), (.slice a51 ((((settleD (ownV D 1 2 hash0)).1).L).length) c52)] : List Value), rowC 143 35 (.slice a51 ((((settleD (ownV D 1 2 hash0)).1).L).length) c52) ((((settleD (ownV D 1 2 hash0)).1).L).length) ((((settleD (ownV D 1 2 hash0)).1).L).flatMap encV), rowC 129 35 (.slice a53 ((((settleD (ownV D 1 2 hash0)).1).P).length) c54) ((((settleD (ownV D 1 2 hash0)).1).P).length) ((((settleD (ownV D 1 2 hash0)).1).P).flatMap encQ), restC w (rcC p t (.slice va D.L.length vc) (.slice ua D.P.length uc) D).fp, cellC b2 63 ([(.int .i64 (kind)), (.int .i64 (round))] : List Value), rowC 102 35 v59 ((ownA D 2 hash0).length + ((settleD (ownV D 1 2 hash0)).2).length) (((ownA D 2 hash0).flatMap encA) ++ (((settleD (ownV D 1 2 hash0)).2).flatMap encA)), rowC 102 35 (.slice a55 (((settleD (ownV D 1 2 hash0)).2).length) c56) (((settleD (ownV D 1 2 hash0)).2).length) (((settleD (ownV D 1 2 hash0)).2).flatMap encA)] w60)
     obtain ⟨a62, c63, rfl⟩ := ownsRow_shape (H61.at 6 rfl)
     refine hK58 _ _ ?_
     clear hK58 K58
     refine wv 4 (.slice a62 ((ownA D 2 hash0).length + ((settleD (ownV D 1 2 hash0)).2).length) c63) ?_
     refine w_nil ?_
     refine then_normal ?_
     refine w_ret ?_
     refine end1 rfl (res_tmp (v := (.slice a62 ((ownA D 2 hash0).length + ((settleD (ownV D 1 2 hash0)).2).length) c63)) rfl) ?_
     rw [timeD_b, if_neg (by rw [b20]; simp), if_pos b29]
     exact ⟨(.slice a51 ((((settleD (ownV D 1 2 hash0)).1).L).length) c52), (.slice a53 ((((settleD (ownV D 1 2 hash0)).1).P).length) c54), _, rfl, (H61.pick [0, 1, 2, 3, 6, 4] (by decide)).cast (by simp only [List.length_append, List.flatMap_append]; rfl)⟩
    ·refine wp_know 29 (.bool false) (congrArg Value.bool b29) ?_
     refine wp_iff rfl ?_
     refine wp_meetR [44, 45, 46, 47, 48, 49, 50, 51, 52, 53, 54, 55] (fun G_ W_ => G_ 44 = (.bool (decide (kind = 2) && decide (D.s.step = 2))) ∧ Sat w [cellC p 83 (rcL t (.slice ua D.P.length uc) D), cellC t 101 ([(.int .i64 (D.f)), (.int .i64 (D.c)), (.slice va D.L.length vc)] : List Value), rowC 143 35 (.slice va D.L.length vc) D.L.length (D.L.flatMap encV), rowC 129 35 (.slice ua D.P.length uc) D.P.length (D.P.flatMap encQ), restC w (rcC p t (.slice va D.L.length vc) (.slice ua D.P.length uc) D).fp, cellC b2 63 ([(.int .i64 (kind)), (.int .i64 (round))] : List Value)] W_) ?_ ?_
     ·refine w_lit ?_
      refine wv 45 (pt b2 0) ?_
      refine wv 46 (.int .i64 (kind)) ?_ (hr := e_load1 rfl (by kernel_rfl) (H27.cell 5 rfl rfl))
      refine wv 47 (.bool (decide (kind = 2))) ?_
      refine wv 48 (.bool (decide (kind = 2))) ?_
      refine (bsplit (decide (kind = 2))).elim (fun b65 => ?_) (fun b65 => ?_)
      ·have g66 := of_decide_eq_true b65
       refine wl_know 48 (.bool true) (congrArg Value.bool b65) ?_
       refine wy 3 48 true 49 (pt p 0) ?_
       refine wy 3 48 true 50 (pt p 0) ?_
       refine wy 3 48 true 51 (pt p 4) ?_
       refine wy 3 48 true 52 (pt p 5) ?_
       refine wy 3 48 true 53 (.int .i64 (D.s.step)) ?_ (hr := e_load1 rfl (by kernel_rfl) (H27.cell 0 rfl (by kernel_rfl)))
       refine wy 3 48 true 54 (.bool (decide (D.s.step = 2))) ?_
       refine wv 55 (.bool (decide (D.s.step = 2))) ?_
       refine wv 44 (.bool (decide (D.s.step = 2))) ?_
       refine w_nil ?_
       refine meetR_at ?_ ⟨(congrArg Value.bool (show (decide (D.s.step = 2)) = (decide (kind = 2) && decide (D.s.step = 2)) by simp [of_decide_eq_true b65])), H27⟩
       exact (same_upd rfl (same_upd rfl (same_upd rfl (same_upd rfl (same_upd rfl (same_upd rfl (same_upd rfl (same_upd rfl (same_upd rfl (same_upd rfl (same_upd rfl (same_upd rfl (same_upd rfl (same_refl))))))))))))))
      ·have g67 := of_decide_eq_false b65
       refine wl_know 48 (.bool false) (congrArg Value.bool b65) ?_
       iterate 6 refine wn 3 48 true ?_
       refine wv 55 (.bool false) ?_
       refine wv 44 (.bool false) ?_
       refine w_nil ?_
       refine meetR_at ?_ ⟨(congrArg Value.bool (show false = (decide (kind = 2) && decide (D.s.step = 2)) by simp [of_decide_eq_false b65])), H27⟩
       exact (same_upd rfl (same_upd rfl (same_upd rfl (same_upd rfl (same_upd rfl (same_upd rfl (same_upd rfl (same_upd rfl (same_upd rfl (same_upd rfl (same_upd rfl (same_upd rfl (same_upd rfl (same_refl))))))))))))))
     ·rintro f68 w69 ⟨v71, H70⟩
      refine wp_know 44 _ v71 ?_
      refine (bsplit (decide (kind = 2) && decide (D.s.step = 2))).elim (fun b72 => ?_) (fun b72 => ?_)
      ·refine wp_know 44 (.bool true) (congrArg Value.bool b72) ?_
       refine wp_ift rfl ?_
       refine w_lit ?_
       refine wv 56 (pt p 0) ?_
       refine wv 57 (.agg ⟨(hc hash0)⟩) ?_
       refine wl_do (wants0 rfl) (fun K73 hK73 => ?_)
       refine d_call (d := 58) rfl (by kernel_rfl) (rcPrecommit_any w69 p t (.slice va D.L.length vc) (.slice ua D.P.length uc) D (ok_of (by kernel_rfl) (H70.fin [0, 1, 2, 3] (by decide) rfl)) h hash0) ?_
       rintro _ w77 ⟨v74, u75, x76, rfl, S78⟩
       have H79 : Sat w [cellC p 83 (rcL t u75 (ownV D 2 3 hash0)), cellC t 101 ([(.int .i64 ((ownV D 2 3 hash0).f)), (.int .i64 ((ownV D 2 3 hash0).c)), v74] : List Value), rowC 143 35 v74 (((ownV D 2 3 hash0).L).length) (((ownV D 2 3 hash0).L).flatMap encV), rowC 129 35 u75 (((ownV D 2 3 hash0).P).length) (((ownV D 2 3 hash0).P).flatMap encQ), restC w (rcC p t (.slice va D.L.length vc) (.slice ua D.P.length uc) D).fp, cellC b2 63 ([(.int .i64 (kind)), (.int .i64 (round))] : List Value), rowC 102 35 x76 ((ownA D 3 hash0).length) ((ownA D 3 hash0).flatMap encA)] w77 := (Sat.turnL (L' := [cellC p 83 (rcL t u75 (ownV D 2 3 hash0)), cellC t 101 ([(.int .i64 ((ownV D 2 3 hash0).f)), (.int .i64 ((ownV D 2 3 hash0).c)), v74] : List Value), rowC 143 35 v74 (((ownV D 2 3 hash0).L).length) (((ownV D 2 3 hash0).L).flatMap encV), rowC 129 35 u75 (((ownV D 2 3 hash0).P).length) (((ownV D 2 3 hash0).P).flatMap encQ), rowC 102 35 x76 ((ownA D 3 hash0).length) ((ownA D 3 hash0).flatMap encA)]) (R := [restC w (rcC p t (.slice va D.L.length vc) (.slice ua D.P.length uc) D).fp, cellC b2 63 ([(.int .i64 (kind)), (.int .i64 (round))] : List Value)]) H70 [0, 1, 2, 3] [4, 5] (by decide) (by kernel_rfl) rfl S78).pick [0, 1, 2, 3, 5, 6, 4] (by decide)
       obtain ⟨a80, c81, rfl⟩ := ownsRow_shape (H79.at 2 rfl)
       obtain ⟨a82, c83, rfl⟩ := ownsRow_shape (H79.at 3 rfl)
       obtain ⟨a84, c85, rfl⟩ := ownsRow_shape (H79.at 6 rfl)
       refine ⟨_, rfl, ?_⟩
       have l86 : (ownA D 3 hash0).length = 1 := rfl
       refine hK73 _ _ ?_
       clear hK73 K73
       refine wv 5 (.slice a84 ((ownA D 3 hash0).length) c85) ?_
       refine w_nil ?_
       refine blk_normal ?_
       refine then_normal ?_
       refine w_seq ?_
       refine w_lit ?_
       refine wv 71 (.slice a84 ((ownA D 3 hash0).length) c85) ?_
       refine wv 72 (pt p 0) ?_
       refine wl_do (wants0 rfl) (fun K87 hK87 => ?_)
       refine d_call (d := 73) rfl (by kernel_rfl) (rcSettle_any w77 p t (.slice a80 (((ownV D 2 3 hash0).L).length) c81) (.slice a82 (((ownV D 2 3 hash0).P).length) c83) (ownV D 2 3 hash0) (ok_of (by kernel_rfl) (H79.fin [0, 1, 2, 3] (by decide) rfl)) (h.own 2 3 (by omega) hash0) ) ?_
       rintro _ w91 ⟨v88, u89, x90, rfl, S92⟩
       have H93 : Sat w [cellC p 83 (rcL t u89 ((settleD (ownV D 2 3 hash0)).1)), cellC t 101 ([(.int .i64 (((settleD (ownV D 2 3 hash0)).1).f)), (.int .i64 (((settleD (ownV D 2 3 hash0)).1).c)), v88] : List Value), rowC 143 35 v88 ((((settleD (ownV D 2 3 hash0)).1).L).length) ((((settleD (ownV D 2 3 hash0)).1).L).flatMap encV), rowC 129 35 u89 ((((settleD (ownV D 2 3 hash0)).1).P).length) ((((settleD (ownV D 2 3 hash0)).1).P).flatMap encQ), restC w (rcC p t (.slice va D.L.length vc) (.slice ua D.P.length uc) D).fp, cellC b2 63 ([(.int .i64 (kind)), (.int .i64 (round))] : List Value), rowC 102 35 (.slice a84 ((ownA D 3 hash0).length) c85) ((ownA D 3 hash0).length) ((ownA D 3 hash0).flatMap encA), rowC 102 35 x90 (((settleD (ownV D 2 3 hash0)).2).length) (((settleD (ownV D 2 3 hash0)).2).flatMap encA)] w91 := (Sat.turnL (L' := [cellC p 83 (rcL t u89 ((settleD (ownV D 2 3 hash0)).1)), cellC t 101 ([(.int .i64 (((settleD (ownV D 2 3 hash0)).1).f)), (.int .i64 (((settleD (ownV D 2 3 hash0)).1).c)), v88] : List Value), rowC 143 35 v88 ((((settleD (ownV D 2 3 hash0)).1).L).length) ((((settleD (ownV D 2 3 hash0)).1).L).flatMap encV), rowC 129 35 u89 ((((settleD (ownV D 2 3 hash0)).1).P).length) ((((settleD (ownV D 2 3 hash0)).1).P).flatMap encQ), rowC 102 35 x90 (((settleD (ownV D 2 3 hash0)).2).length) (((settleD (ownV D 2 3 hash0)).2).flatMap encA)]) (R := [restC w (rcC p t (.slice va D.L.length vc) (.slice ua D.P.length uc) D).fp, cellC b2 63 ([(.int .i64 (kind)), (.int .i64 (round))] : List Value), rowC 102 35 (.slice a84 ((ownA D 3 hash0).length) c85) ((ownA D 3 hash0).length) ((ownA D 3 hash0).flatMap encA)]) H79 [0, 1, 2, 3] [4, 5, 6] (by decide) (by kernel_rfl) rfl S92).pick [0, 1, 2, 3, 5, 6, 7, 4] (by decide)
       obtain ⟨a94, c95, rfl⟩ := ownsRow_shape (H93.at 2 rfl)
       obtain ⟨a96, c97, rfl⟩ := ownsRow_shape (H93.at 3 rfl)
       obtain ⟨a98, c99, rfl⟩ := ownsRow_shape (H93.at 7 rfl)
       refine ⟨_, rfl, ?_⟩
       have l100 := settle_le (h.own 2 3 (by omega) hash0)
       refine hK87 _ _ ?_
       clear hK87 K87
       refine wl_do (wants0 rfl) (fun K101 hK101 => ?_)
       refine d_append (T := 73) (e := 102) (size := 35) (bytes := 56) rfl H93 (by kernel_rfl) 6 7 rfl rfl rfl rfl (flat_one encA encA_one ((settleD (ownV D 2 3 hash0)).2)) (by omega) (by omega) ?_
       intro v102 w103 (H104 : Sat w [cellC p 83 (rcL t (.slice a96 ((((settleD (ownV D 2 3 hash0)).1).P).length) c97) ((settleD (ownV D 2 3 hash0)).1)), cellC t 101 ([(.int .i64 (((settleD (ownV D 2 3 hash0)).1).f)), (.int .i64 (((settleD (ownV D 2 3 hash0)).1).c)), (.slice a94 ((((settleD (ownV D 2 3 hash0)).1).L).length) c95)] : List Value), rowC 143 35 (.slice a94 ((((settleD (ownV D 2 3 hash0)).1).L).length) c95) ((((settleD (ownV D 2 3 hash0)).1).L).length) ((((settleD (ownV D 2 3 hash0)).1).L).flatMap encV), rowC 129 35 (.slice a96 ((((settleD (ownV D 2 3 hash0)).1).P).length) c97) ((((settleD (ownV D 2 3 hash0)).1).P).length) ((((settleD (ownV D 2 3 hash0)).1).P).flatMap encQ), restC w (rcC p t (.slice va D.L.length vc) (.slice ua D.P.length uc) D).fp, cellC b2 63 ([(.int .i64 (kind)), (.int .i64 (round))] : List Value), rowC 102 35 v102 ((ownA D 3 hash0).length + ((settleD (ownV D 2 3 hash0)).2).length) (((ownA D 3 hash0).flatMap encA) ++ (((settleD (ownV D 2 3 hash0)).2).flatMap encA)), rowC 102 35 (.slice a98 (((settleD (ownV D 2 3 hash0)).2).length) c99) (((settleD (ownV D 2 3 hash0)).2).length) (((settleD (ownV D 2 3 hash0)).2).flatMap encA)] w103)
       obtain ⟨a105, c106, rfl⟩ := ownsRow_shape (H104.at 6 rfl)
       refine hK101 _ _ ?_
       clear hK101 K101
       refine wv 4 (.slice a105 ((ownA D 3 hash0).length + ((settleD (ownV D 2 3 hash0)).2).length) c106) ?_
       refine w_nil ?_
       refine then_normal ?_
       refine w_ret ?_
       refine end1 rfl (res_tmp (v := (.slice a105 ((ownA D 3 hash0).length + ((settleD (ownV D 2 3 hash0)).2).length) c106)) rfl) ?_
       rw [timeD_b, if_neg (by rw [b20]; simp), if_neg (by rw [b29]; simp), if_pos b72]
       exact ⟨(.slice a94 ((((settleD (ownV D 2 3 hash0)).1).L).length) c95), (.slice a96 ((((settleD (ownV D 2 3 hash0)).1).P).length) c97), _, rfl, (H104.pick [0, 1, 2, 3, 6, 4] (by decide)).cast (by simp only [List.length_append, List.flatMap_append]; rfl)⟩
      ·refine wp_know 44 (.bool false) (congrArg Value.bool b72) ?_
       refine wp_iff rfl ?_
       refine w_seq ?_
       refine w_lit ?_
       refine wv 60 (pt b2 0) ?_
       refine wv 61 (.int .i64 (kind)) ?_ (hr := e_load1 rfl (by kernel_rfl) (H70.cell 5 rfl rfl))
       refine wv 62 (.bool (decide (kind = 3))) ?_
       refine wv 59 (.bool (decide (kind = 3))) ?_
       refine w_nil ?_
       refine then_normal ?_
       refine (bsplit (decide (kind = 3))).elim (fun b107 => ?_) (fun b107 => ?_)
       ·have g108 := of_decide_eq_true b107
        refine wp_know 59 (.bool true) (congrArg Value.bool b107) ?_
        refine wp_ift rfl ?_
        refine w_lit ?_
        refine wv 63 (pt p 0) ?_
        refine wv 64 (pt p 0) ?_
        refine wv 65 (pt p 0) ?_
        refine wv 66 (pt p 4) ?_
        refine wv 67 (pt p 4) ?_
        refine wv 68 (.int .i64 (D.s.round)) ?_ (hr := e_load1 rfl (by kernel_rfl) (H70.cell 0 rfl (by kernel_rfl)))
        refine wv 69 (.int .i64 (D.s.round + 1)) ?_ (hr := e_int (z := D.s.round + 1) (by kernel_rfl) (IntWalk.i64_in _ (by omega)))
        refine wl_do (wants0 rfl) (fun K109 hK109 => ?_)
        refine d_call (d := 70) rfl (by kernel_rfl) (rcEnter_any w69 p t (.slice va D.L.length vc) (.slice ua D.P.length uc) D (ok_of (by kernel_rfl) (H70.fin [0, 1, 2, 3] (by decide) rfl)) h (D.s.round + 1)) ?_
        rintro _ w113 ⟨v110, u111, x112, rfl, S114⟩
        have H115 : Sat w [cellC p 83 (rcL t u111 (nextD D (D.s.round + 1))), cellC t 101 ([(.int .i64 ((nextD D (D.s.round + 1)).f)), (.int .i64 ((nextD D (D.s.round + 1)).c)), v110] : List Value), rowC 143 35 v110 (((nextD D (D.s.round + 1)).L).length) (((nextD D (D.s.round + 1)).L).flatMap encV), rowC 129 35 u111 (((nextD D (D.s.round + 1)).P).length) (((nextD D (D.s.round + 1)).P).flatMap encQ), restC w (rcC p t (.slice va D.L.length vc) (.slice ua D.P.length uc) D).fp, cellC b2 63 ([(.int .i64 (kind)), (.int .i64 (round))] : List Value), rowC 102 35 x112 ((nextA D (D.s.round + 1)).length) ((nextA D (D.s.round + 1)).flatMap encA)] w113 := (Sat.turnL (L' := [cellC p 83 (rcL t u111 (nextD D (D.s.round + 1))), cellC t 101 ([(.int .i64 ((nextD D (D.s.round + 1)).f)), (.int .i64 ((nextD D (D.s.round + 1)).c)), v110] : List Value), rowC 143 35 v110 (((nextD D (D.s.round + 1)).L).length) (((nextD D (D.s.round + 1)).L).flatMap encV), rowC 129 35 u111 (((nextD D (D.s.round + 1)).P).length) (((nextD D (D.s.round + 1)).P).flatMap encQ), rowC 102 35 x112 ((nextA D (D.s.round + 1)).length) ((nextA D (D.s.round + 1)).flatMap encA)]) (R := [restC w (rcC p t (.slice va D.L.length vc) (.slice ua D.P.length uc) D).fp, cellC b2 63 ([(.int .i64 (kind)), (.int .i64 (round))] : List Value)]) H70 [0, 1, 2, 3] [4, 5] (by decide) (by kernel_rfl) rfl S114).pick [0, 1, 2, 3, 5, 6, 4] (by decide)
        obtain ⟨a116, c117, rfl⟩ := ownsRow_shape (H115.at 2 rfl)
        obtain ⟨a118, c119, rfl⟩ := ownsRow_shape (H115.at 3 rfl)
        obtain ⟨a120, c121, rfl⟩ := ownsRow_shape (H115.at 6 rfl)
        refine ⟨_, rfl, ?_⟩
        have l122 := nextA_len D (D.s.round + 1)
        refine hK109 _ _ ?_
        clear hK109 K109
        refine wv 5 (.slice a120 ((nextA D (D.s.round + 1)).length) c121) ?_
        refine w_nil ?_
        refine blk_normal ?_
        refine then_normal ?_
        refine w_seq ?_
        refine w_lit ?_
        refine wv 71 (.slice a120 ((nextA D (D.s.round + 1)).length) c121) ?_
        refine wv 72 (pt p 0) ?_
        refine wl_do (wants0 rfl) (fun K123 hK123 => ?_)
        refine d_call (d := 73) rfl (by kernel_rfl) (rcSettle_any w113 p t (.slice a116 (((nextD D (D.s.round + 1)).L).length) c117) (.slice a118 (((nextD D (D.s.round + 1)).P).length) c119) (nextD D (D.s.round + 1)) (ok_of (by kernel_rfl) (H115.fin [0, 1, 2, 3] (by decide) rfl)) h.next ) ?_
        rintro _ w127 ⟨v124, u125, x126, rfl, S128⟩
        have H129 : Sat w [cellC p 83 (rcL t u125 ((settleD (nextD D (D.s.round + 1))).1)), cellC t 101 ([(.int .i64 (((settleD (nextD D (D.s.round + 1))).1).f)), (.int .i64 (((settleD (nextD D (D.s.round + 1))).1).c)), v124] : List Value), rowC 143 35 v124 ((((settleD (nextD D (D.s.round + 1))).1).L).length) ((((settleD (nextD D (D.s.round + 1))).1).L).flatMap encV), rowC 129 35 u125 ((((settleD (nextD D (D.s.round + 1))).1).P).length) ((((settleD (nextD D (D.s.round + 1))).1).P).flatMap encQ), restC w (rcC p t (.slice va D.L.length vc) (.slice ua D.P.length uc) D).fp, cellC b2 63 ([(.int .i64 (kind)), (.int .i64 (round))] : List Value), rowC 102 35 (.slice a120 ((nextA D (D.s.round + 1)).length) c121) ((nextA D (D.s.round + 1)).length) ((nextA D (D.s.round + 1)).flatMap encA), rowC 102 35 x126 (((settleD (nextD D (D.s.round + 1))).2).length) (((settleD (nextD D (D.s.round + 1))).2).flatMap encA)] w127 := (Sat.turnL (L' := [cellC p 83 (rcL t u125 ((settleD (nextD D (D.s.round + 1))).1)), cellC t 101 ([(.int .i64 (((settleD (nextD D (D.s.round + 1))).1).f)), (.int .i64 (((settleD (nextD D (D.s.round + 1))).1).c)), v124] : List Value), rowC 143 35 v124 ((((settleD (nextD D (D.s.round + 1))).1).L).length) ((((settleD (nextD D (D.s.round + 1))).1).L).flatMap encV), rowC 129 35 u125 ((((settleD (nextD D (D.s.round + 1))).1).P).length) ((((settleD (nextD D (D.s.round + 1))).1).P).flatMap encQ), rowC 102 35 x126 (((settleD (nextD D (D.s.round + 1))).2).length) (((settleD (nextD D (D.s.round + 1))).2).flatMap encA)]) (R := [restC w (rcC p t (.slice va D.L.length vc) (.slice ua D.P.length uc) D).fp, cellC b2 63 ([(.int .i64 (kind)), (.int .i64 (round))] : List Value), rowC 102 35 (.slice a120 ((nextA D (D.s.round + 1)).length) c121) ((nextA D (D.s.round + 1)).length) ((nextA D (D.s.round + 1)).flatMap encA)]) H115 [0, 1, 2, 3] [4, 5, 6] (by decide) (by kernel_rfl) rfl S128).pick [0, 1, 2, 3, 5, 6, 7, 4] (by decide)
        obtain ⟨a130, c131, rfl⟩ := ownsRow_shape (H129.at 2 rfl)
        obtain ⟨a132, c133, rfl⟩ := ownsRow_shape (H129.at 3 rfl)
        obtain ⟨a134, c135, rfl⟩ := ownsRow_shape (H129.at 7 rfl)
        refine ⟨_, rfl, ?_⟩
        have l136 := settle_le h.next
        refine hK123 _ _ ?_
        clear hK123 K123
        refine wl_do (wants0 rfl) (fun K137 hK137 => ?_)
        refine d_append (T := 73) (e := 102) (size := 35) (bytes := 56) rfl H129 (by kernel_rfl) 6 7 rfl rfl rfl rfl (flat_one encA encA_one ((settleD (nextD D (D.s.round + 1))).2)) (by omega) (by omega) ?_
        intro v138 w139 (H140 : Sat w [cellC p 83 (rcL t (.slice a132 ((((settleD (nextD D (D.s.round + 1))).1).P).length) c133) ((settleD (nextD D (D.s.round + 1))).1)), cellC t 101 ([(.int .i64 (((settleD (nextD D (D.s.round + 1))).1).f)), (.int .i64 (((settleD (nextD D (D.s.round + 1))).1).c)), (.slice a130 ((((settleD (nextD D (D.s.round + 1))).1).L).length) c131)] : List Value), rowC 143 35 (.slice a130 ((((settleD (nextD D (D.s.round + 1))).1).L).length) c131) ((((settleD (nextD D (D.s.round + 1))).1).L).length) ((((settleD (nextD D (D.s.round + 1))).1).L).flatMap encV), rowC 129 35 (.slice a132 ((((settleD (nextD D (D.s.round + 1))).1).P).length) c133) ((((settleD (nextD D (D.s.round + 1))).1).P).length) ((((settleD (nextD D (D.s.round + 1))).1).P).flatMap encQ), restC w (rcC p t (.slice va D.L.length vc) (.slice ua D.P.length uc) D).fp, cellC b2 63 ([(.int .i64 (kind)), (.int .i64 (round))] : List Value), rowC 102 35 v138 ((nextA D (D.s.round + 1)).length + ((settleD (nextD D (D.s.round + 1))).2).length) (((nextA D (D.s.round + 1)).flatMap encA) ++ (((settleD (nextD D (D.s.round + 1))).2).flatMap encA)), rowC 102 35 (.slice a134 (((settleD (nextD D (D.s.round + 1))).2).length) c135) (((settleD (nextD D (D.s.round + 1))).2).length) (((settleD (nextD D (D.s.round + 1))).2).flatMap encA)] w139)
        obtain ⟨a141, c142, rfl⟩ := ownsRow_shape (H140.at 6 rfl)
        refine hK137 _ _ ?_
        clear hK137 K137
        refine wv 4 (.slice a141 ((nextA D (D.s.round + 1)).length + ((settleD (nextD D (D.s.round + 1))).2).length) c142) ?_
        refine w_nil ?_
        refine then_normal ?_
        refine w_ret ?_
        refine end1 rfl (res_tmp (v := (.slice a141 ((nextA D (D.s.round + 1)).length + ((settleD (nextD D (D.s.round + 1))).2).length) c142)) rfl) ?_
        rw [timeD_b, if_neg (by rw [b20]; simp), if_neg (by rw [b29]; simp), if_neg (by rw [b72]; simp), if_pos (of_decide_eq_true b107)]
        exact ⟨(.slice a130 ((((settleD (nextD D (D.s.round + 1))).1).L).length) c131), (.slice a132 ((((settleD (nextD D (D.s.round + 1))).1).P).length) c133), _, rfl, (H140.pick [0, 1, 2, 3, 6, 4] (by decide)).cast (by simp only [List.length_append, List.flatMap_append]; rfl)⟩
       ·have g143 := of_decide_eq_false b107
        refine wp_know 59 (.bool false) (congrArg Value.bool b107) ?_
        refine wp_iff rfl ?_
        refine w_skip ?_
        refine blk_normal ?_
        refine then_normal ?_
        refine w_seq ?_
        refine w_lit ?_
        refine wv 71 (.slice none 0 0) ?_
        refine wv 72 (pt p 0) ?_
        refine wl_do (wants0 rfl) (fun K144 hK144 => ?_)
        refine d_call (d := 73) rfl (by kernel_rfl) (rcSettle_any w69 p t (.slice va D.L.length vc) (.slice ua D.P.length uc) D (ok_of (by kernel_rfl) (H70.fin [0, 1, 2, 3] (by decide) rfl)) h ) ?_
        rintro _ w148 ⟨v145, u146, x147, rfl, S149⟩
        have H150 : Sat w [cellC p 83 (rcL t u146 ((settleD D).1)), cellC t 101 ([(.int .i64 (((settleD D).1).f)), (.int .i64 (((settleD D).1).c)), v145] : List Value), rowC 143 35 v145 ((((settleD D).1).L).length) ((((settleD D).1).L).flatMap encV), rowC 129 35 u146 ((((settleD D).1).P).length) ((((settleD D).1).P).flatMap encQ), restC w (rcC p t (.slice va D.L.length vc) (.slice ua D.P.length uc) D).fp, cellC b2 63 ([(.int .i64 (kind)), (.int .i64 (round))] : List Value), rowC 102 35 x147 (((settleD D).2).length) (((settleD D).2).flatMap encA)] w148 := (Sat.turnL (L' := [cellC p 83 (rcL t u146 ((settleD D).1)), cellC t 101 ([(.int .i64 (((settleD D).1).f)), (.int .i64 (((settleD D).1).c)), v145] : List Value), rowC 143 35 v145 ((((settleD D).1).L).length) ((((settleD D).1).L).flatMap encV), rowC 129 35 u146 ((((settleD D).1).P).length) ((((settleD D).1).P).flatMap encQ), rowC 102 35 x147 (((settleD D).2).length) (((settleD D).2).flatMap encA)]) (R := [restC w (rcC p t (.slice va D.L.length vc) (.slice ua D.P.length uc) D).fp, cellC b2 63 ([(.int .i64 (kind)), (.int .i64 (round))] : List Value)]) H70 [0, 1, 2, 3] [4, 5] (by decide) (by kernel_rfl) rfl S149).pick [0, 1, 2, 3, 5, 6, 4] (by decide)
        obtain ⟨a151, c152, rfl⟩ := ownsRow_shape (H150.at 2 rfl)
        obtain ⟨a153, c154, rfl⟩ := ownsRow_shape (H150.at 3 rfl)
        obtain ⟨a155, c156, rfl⟩ := ownsRow_shape (H150.at 6 rfl)
        refine ⟨_, rfl, ?_⟩
        have l157 := settle_le h
        refine hK144 _ _ ?_
        clear hK144 K144
        refine wl_do (wants0 rfl) (fun K158 hK158 => ?_)
        refine d_appendNil (T := 73) (e := 102) (size := 35) (bytes := 56) rfl H150 (by kernel_rfl) (H150.at 6 rfl) rfl rfl (flat_one encA encA_one ((settleD D).2)) (by omega) (by omega) ?_
        intro v159 w160 (H161 : Sat w [cellC p 83 (rcL t (.slice a153 ((((settleD D).1).P).length) c154) ((settleD D).1)), cellC t 101 ([(.int .i64 (((settleD D).1).f)), (.int .i64 (((settleD D).1).c)), (.slice a151 ((((settleD D).1).L).length) c152)] : List Value), rowC 143 35 (.slice a151 ((((settleD D).1).L).length) c152) ((((settleD D).1).L).length) ((((settleD D).1).L).flatMap encV), rowC 129 35 (.slice a153 ((((settleD D).1).P).length) c154) ((((settleD D).1).P).length) ((((settleD D).1).P).flatMap encQ), restC w (rcC p t (.slice va D.L.length vc) (.slice ua D.P.length uc) D).fp, cellC b2 63 ([(.int .i64 (kind)), (.int .i64 (round))] : List Value), rowC 102 35 (.slice a155 (((settleD D).2).length) c156) (((settleD D).2).length) (((settleD D).2).flatMap encA), rowC 102 35 v159 (((settleD D).2).length) (((settleD D).2).flatMap encA)] w160)
        obtain ⟨a162, c163, rfl⟩ := ownsRow_shape (H161.at 7 rfl)
        refine hK158 _ _ ?_
        clear hK158 K158
        refine wv 4 (.slice a162 (((settleD D).2).length) c163) ?_
        refine w_nil ?_
        refine then_normal ?_
        refine w_ret ?_
        refine end1 rfl (res_tmp (v := (.slice a162 (((settleD D).2).length) c163)) rfl) ?_
        rw [timeD_b, if_neg (by rw [b20]; simp), if_neg (by rw [b29]; simp), if_neg (by rw [b72]; simp), if_neg (of_decide_eq_false b107)]
        exact ⟨(.slice a151 ((((settleD D).1).L).length) c152), (.slice a153 ((((settleD D).1).P).length) c154), _, rfl, (H161.pick [0, 1, 2, 3, 7, 4] (by decide)).cast (by kernel_rfl)⟩

set_option maxRecDepth 100000 in
set_option maxHeartbeats 400000 in
theorem rcNew_any (w : World) (f c ep r : Int) (hff : -1000000 ≤ f ∧ f ≤ 1000000) :
  Calls Try.prog 26 #[(.agg ⟨([(.int .i64 (f)), (.int .i64 (c))] : List Value)⟩), (.int .i64 (ep)), (.int .i64 (r))] w fun e w' => (newOk f c ep r = true ∧ ∃ p t v u, e = .returned (.tuple #[.pointer (some ⟨p, 0, none⟩), .bool true]) ∧ (rcC p t v u (newD f c ep r)).ok w' ∧ Upd [] w w' ∧ ∀ b, (rcC p t v u (newD f c ep r)).fp b → w.heap.size ≤ b) ∨ (newOk f c ep r = false ∧ e = .returned (.tuple #[.pointer none, .bool false]) ∧ Upd [] w w') := by
 have H := Sat.start0 w
 refine calls_fr Try.func26 rfl 38 rfl (Nat.le_of_ble_eq_true rfl) ?_
 refine w_seq ?_
 refine w_lit ?_
 refine wl_do (wants0 rfl) (fun K1 hK1 => ?_)
 refine d_box (vs := ([(.int .i64 (f)), (.int .i64 (c))] : List Value)) rfl H rfl rfl ?_
 intro b2 w3 (H4 : Sat w [restC w (fun _ => False), cellC b2 25 ([(.int .i64 (f)), (.int .i64 (c))] : List Value)] w3)
 refine hK1 _ _ ?_
 clear hK1 K1
 refine wv 6 (.pointer none) ?_
 refine wv 7 (.bool false) ?_
 refine w_nil ?_
 refine then_normal ?_
 refine w_seq ?_
 refine wp_meetR [8, 9, 10, 11, 12, 13, 14, 15, 16, 17, 18, 19, 20, 21, 22, 23, 24, 25, 26, 27, 28] (fun G_ W_ => G_ 28 = (.bool (!(newOk f c ep r))) ∧ Sat w [restC w (fun _ => False), cellC b2 25 ([(.int .i64 (f)), (.int .i64 (c))] : List Value)] W_) ?_ ?_
 ·refine w_lit ?_
  refine wv 8 (.agg ⟨([(.int .i64 (f)), (.int .i64 (c))] : List Value)⟩) ?_ (hr := e_loadN (vs := ([(.int .i64 (f)), (.int .i64 (c))] : List Value)) rfl (by kernel_rfl) (by kernel_rfl) (by exact Nat.le_of_ble_eq_true (by kernel_rfl)) (H4.at 1 rfl) (by kernel_rfl))
  refine wl_do (wants0 rfl) (fun K6 hK6 => ?_)
  refine d_call (d := 9) rfl (by kernel_rfl) (refValidConf_any w3 f c) ?_
  rintro _ w7 ⟨rfl, u9⟩
  have H8 := H4.keepU u9
  refine ⟨_, rfl, ?_⟩
  refine hK6 _ _ ?_
  clear hK6 K6
  refine wv 10 (.bool (!(confB f c))) ?_
  refine wv 11 (.bool (!(confB f c))) ?_
  refine (bsplit (!(confB f c))).elim (fun b10 => ?_) (fun b10 => ?_)
  ·have g11 := bnot_true b10
   refine wl_know 11 (.bool true) (congrArg Value.bool b10) ?_
   have g12 := bnot_true b10
   iterate 2 refine wn 3 11 false ?_
   refine wv 14 (.bool true) ?_
   refine wv 15 (.bool true) ?_
   iterate 2 refine wn 7 15 false ?_
   refine wv 18 (.bool true) ?_
   refine wv 19 (.bool true) ?_
   iterate 2 refine wn 11 19 false ?_
   refine wv 22 (.bool true) ?_
   refine wv 23 (.bool true) ?_
   iterate 4 refine wn 15 23 false ?_
   refine wv 28 (.bool true) ?_
   refine w_nil ?_
   refine meetR_at ?_ ⟨(congrArg Value.bool (show true = (!(newOk f c ep r)) by (simp [newOk, inB, b10] <;> first | omega | (rw [Bool.eq_iff_iff]; simp; omega)))), H8⟩
   exact (same_upd rfl (same_upd rfl (same_upd rfl (same_upd rfl (same_upd rfl (same_upd rfl (same_upd rfl (same_upd rfl (same_upd rfl (same_upd rfl (same_upd rfl (same_upd rfl (same_upd rfl (same_upd rfl (same_upd rfl (same_upd rfl (same_upd rfl (same_upd rfl (same_upd rfl (same_upd rfl (same_upd rfl (same_upd rfl (same_refl)))))))))))))))))))))))
  ·have g13 := bnot_false b10
   refine wl_know 11 (.bool false) (congrArg Value.bool b10) ?_
   have g14 := bnot_false b10
   refine wy 3 11 false 12 (.int .i64 (ep)) ?_
   refine wy 3 11 false 13 (.bool (decide (ep < 0))) ?_
   refine wv 14 (.bool (decide (ep < 0))) ?_
   refine wv 15 (.bool (decide (ep < 0))) ?_
   refine (bsplit (decide (ep < 0))).elim (fun b15 => ?_) (fun b15 => ?_)
   ·have g16 := of_decide_eq_true b15
    refine wl_know 15 (.bool true) (congrArg Value.bool b15) ?_
    have g17 := of_decide_eq_true b15
    iterate 2 refine wn 7 15 false ?_
    refine wv 18 (.bool true) ?_
    refine wv 19 (.bool true) ?_
    iterate 2 refine wn 11 19 false ?_
    refine wv 22 (.bool true) ?_
    refine wv 23 (.bool true) ?_
    iterate 4 refine wn 15 23 false ?_
    refine wv 28 (.bool true) ?_
    refine w_nil ?_
    refine meetR_at ?_ ⟨(congrArg Value.bool (show true = (!(newOk f c ep r)) by (simp [newOk, inB, b10, of_decide_eq_true b15] <;> first | omega | (rw [Bool.eq_iff_iff]; simp; omega)))), H8⟩
    exact (same_upd rfl (same_upd rfl (same_upd rfl (same_upd rfl (same_upd rfl (same_upd rfl (same_upd rfl (same_upd rfl (same_upd rfl (same_upd rfl (same_upd rfl (same_upd rfl (same_upd rfl (same_upd rfl (same_upd rfl (same_upd rfl (same_upd rfl (same_upd rfl (same_upd rfl (same_upd rfl (same_upd rfl (same_upd rfl (same_upd rfl (same_refl))))))))))))))))))))))))
   ·have g18 := of_decide_eq_false b15
    refine wl_know 15 (.bool false) (congrArg Value.bool b15) ?_
    have g19 := of_decide_eq_false b15
    refine wy 7 15 false 16 (.int .i64 (ep)) ?_
    refine wy 7 15 false 17 (.bool (decide (ep > 1048576))) ?_
    refine wv 18 (.bool (decide (ep > 1048576))) ?_
    refine wv 19 (.bool (decide (ep > 1048576))) ?_
    refine (bsplit (decide (ep > 1048576))).elim (fun b20 => ?_) (fun b20 => ?_)
    ·have g21 := of_decide_eq_true b20
     refine wl_know 19 (.bool true) (congrArg Value.bool b20) ?_
     have g22 := of_decide_eq_true b20
     iterate 2 refine wn 11 19 false ?_
     refine wv 22 (.bool true) ?_
     refine wv 23 (.bool true) ?_
     iterate 4 refine wn 15 23 false ?_
     refine wv 28 (.bool true) ?_
     refine w_nil ?_
     refine meetR_at ?_ ⟨(congrArg Value.bool (show true = (!(newOk f c ep r)) by (simp [newOk, inB, b10, of_decide_eq_false b15, of_decide_eq_true b20] <;> first | omega | (rw [Bool.eq_iff_iff]; simp; omega)))), H8⟩
     exact (same_upd rfl (same_upd rfl (same_upd rfl (same_upd rfl (same_upd rfl (same_upd rfl (same_upd rfl (same_upd rfl (same_upd rfl (same_upd rfl (same_upd rfl (same_upd rfl (same_upd rfl (same_upd rfl (same_upd rfl (same_upd rfl (same_upd rfl (same_upd rfl (same_upd rfl (same_upd rfl (same_upd rfl (same_upd rfl (same_upd rfl (same_upd rfl (same_refl)))))))))))))))))))))))))
    ·have g23 := of_decide_eq_false b20
     refine wl_know 19 (.bool false) (congrArg Value.bool b20) ?_
     have g24 := of_decide_eq_false b20
     refine wy 11 19 false 20 (.int .i64 (r)) ?_
     refine wy 11 19 false 21 (.bool (decide (r < 0))) ?_
     refine wv 22 (.bool (decide (r < 0))) ?_
     refine wv 23 (.bool (decide (r < 0))) ?_
     refine (bsplit (decide (r < 0))).elim (fun b25 => ?_) (fun b25 => ?_)
     ·have g26 := of_decide_eq_true b25
      refine wl_know 23 (.bool true) (congrArg Value.bool b25) ?_
      have g27 := of_decide_eq_true b25
      iterate 4 refine wn 15 23 false ?_
      refine wv 28 (.bool true) ?_
      refine w_nil ?_
      refine meetR_at ?_ ⟨(congrArg Value.bool (show true = (!(newOk f c ep r)) by (simp [newOk, inB, b10, of_decide_eq_false b15, of_decide_eq_false b20, of_decide_eq_true b25] <;> first | omega | (rw [Bool.eq_iff_iff]; simp; omega)))), H8⟩
      exact (same_upd rfl (same_upd rfl (same_upd rfl (same_upd rfl (same_upd rfl (same_upd rfl (same_upd rfl (same_upd rfl (same_upd rfl (same_upd rfl (same_upd rfl (same_upd rfl (same_upd rfl (same_upd rfl (same_upd rfl (same_upd rfl (same_upd rfl (same_upd rfl (same_upd rfl (same_upd rfl (same_upd rfl (same_upd rfl (same_upd rfl (same_upd rfl (same_upd rfl (same_refl))))))))))))))))))))))))))
     ·have g28 := of_decide_eq_false b25
      refine wl_know 23 (.bool false) (congrArg Value.bool b25) ?_
      have g29 := of_decide_eq_false b25
      refine wy 15 23 false 24 (.int .i64 (r)) ?_
      refine wy 15 23 false 25 (.agg ⟨([(.int .i64 (f)), (.int .i64 (c))] : List Value)⟩) ?_ (hr := e_loadN (vs := ([(.int .i64 (f)), (.int .i64 (c))] : List Value)) rfl (by kernel_rfl) (by kernel_rfl) (by exact Nat.le_of_ble_eq_true (by kernel_rfl)) (H8.at 1 rfl) (by kernel_rfl))
      refine wl_do (wantsY 15 23 false rfl (by kernel_rfl) rfl (by kernel_rfl)) (fun K30 hK30 => ?_)
      refine d_call (d := 26) rfl (by kernel_rfl) (refN_any w7 f c (by omega)) ?_
      rintro _ w31 ⟨rfl, u33⟩
      have H32 := H8.keepU u33
      refine ⟨_, rfl, ?_⟩
      refine hK30 _ _ ?_
      clear hK30 K30
      refine wy 15 23 false 27 (.bool (decide (r ≥ (3 * f + 1)))) ?_
      refine wv 28 (.bool (decide (r ≥ (3 * f + 1)))) ?_
      refine w_nil ?_
      refine meetR_at ?_ ⟨(congrArg Value.bool (show (decide (r ≥ (3 * f + 1))) = (!(newOk f c ep r)) by (simp [newOk, inB, b10] <;> first | omega | (rw [Bool.eq_iff_iff]; simp; omega)))), H32⟩
      exact (same_upd rfl (same_upd rfl (same_upd rfl (same_upd rfl (same_upd rfl (same_upd rfl (same_upd rfl (same_upd rfl (same_upd rfl (same_upd rfl (same_upd rfl (same_upd rfl (same_upd rfl (same_upd rfl (same_upd rfl (same_upd rfl (same_upd rfl (same_upd rfl (same_upd rfl (same_upd rfl (same_upd rfl (same_upd rfl (same_upd rfl (same_upd rfl (same_upd rfl (same_refl))))))))))))))))))))))))))
 ·rintro f34 w35 ⟨v37, H36⟩
  refine wp_know 28 _ v37 ?_
  refine (bsplit (!(newOk f c ep r))).elim (fun b38 => ?_) (fun b38 => ?_)
  ·have g39 := bnot_true b38
   refine wp_know 28 (.bool true) (congrArg Value.bool b38) ?_
   have g40 := bnot_true b38
   refine wp_ift rfl ?_
   refine w_seq ?_
   refine w_lit ?_
   refine wv 6 (.pointer none) ?_
   refine wv 7 (.bool false) ?_
   refine w_nil ?_
   refine then_normal ?_
   refine w_ret ?_
   refine then_ret ?_
   refine end2 rfl (res_tmp (v := (.pointer none)) rfl) (res_tmp (v := (.bool false)) rfl) ?_
   exact .inr ⟨bnot_true b38, rfl, H36.upd 0 rfl [] (fun _ h => h.elim)⟩
  ·have g41 := bnot_false b38
   refine wp_know 28 (.bool false) (congrArg Value.bool b38) ?_
   have g42 := bnot_false b38
   refine wp_iff rfl ?_
   refine w_skip ?_
   refine then_normal ?_
   refine w_seq ?_
   refine w_lit ?_
   refine wv 29 (.agg ⟨([(.int .i64 (f)), (.int .i64 (c))] : List Value)⟩) ?_ (hr := e_loadN (vs := ([(.int .i64 (f)), (.int .i64 (c))] : List Value)) rfl (by kernel_rfl) (by kernel_rfl) (by exact Nat.le_of_ble_eq_true (by kernel_rfl)) (H36.at 1 rfl) (by kernel_rfl))
   refine wv 30 (.int .i64 (ep)) ?_
   refine wv 31 (.int .i64 (r)) ?_
   refine wv 32 (.agg ⟨(([(.int .i64 (0)), (.int .i64 (0)), (.int .i64 (-1)), (.int .i64 (-1))] : List Value) ++ hc hash0 ++ hc hash0 ++ ([(.bool false)] : List Value) ++ hc hash0)⟩) ?_
   refine wv 33 (.agg ⟨([(.int .i64 (f)), (.int .i64 (c))] : List Value)⟩) ?_ (hr := e_loadN (vs := ([(.int .i64 (f)), (.int .i64 (c))] : List Value)) rfl (by kernel_rfl) (by kernel_rfl) (by exact Nat.le_of_ble_eq_true (by kernel_rfl)) (H36.at 1 rfl) (by kernel_rfl))
   refine wv 34 (.agg ⟨([(.int .i64 (f)), (.int .i64 (c)), (.slice none 0 0)] : List Value)⟩) ?_
   refine wl_do (wants0 rfl) (fun K43 hK43 => ?_)
   refine d_box (vs := ([(.int .i64 (f)), (.int .i64 (c)), (.slice none 0 0)] : List Value)) rfl H36 rfl rfl ?_
   intro b44 w45 (H46 : Sat w [restC w (fun _ => False), cellC b2 25 ([(.int .i64 (f)), (.int .i64 (c))] : List Value), cellC b44 101 ([(.int .i64 (f)), (.int .i64 (c)), (.slice none 0 0)] : List Value)] w45)
   refine hK43 _ _ ?_
   clear hK43 K43
   refine wv 36 (.agg ⟨(rcW f c ep r 0 0 (-1) (-1) hash0 hash0 false hash0 b44 (.slice none 0 0) false false false)⟩) ?_
   refine wl_do (wants0 rfl) (fun K47 hK47 => ?_)
   refine d_box (vs := (rcW f c ep r 0 0 (-1) (-1) hash0 hash0 false hash0 b44 (.slice none 0 0) false false false)) rfl H46 rfl rfl ?_
   intro b48 w49 (H50 : Sat w [restC w (fun _ => False), cellC b2 25 ([(.int .i64 (f)), (.int .i64 (c))] : List Value), cellC b44 101 ([(.int .i64 (f)), (.int .i64 (c)), (.slice none 0 0)] : List Value), cellC b48 83 (rcW f c ep r 0 0 (-1) (-1) hash0 hash0 false hash0 b44 (.slice none 0 0) false false false)] w49)
   refine hK47 _ _ ?_
   clear hK47 K47
   refine wv 6 (pt b48 0) ?_
   refine wv 7 (.bool true) ?_
   refine w_nil ?_
   have Hm := (H50.addNil 143 35).addNil 129 35
   refine then_normal ?_
   refine w_ret ?_
   refine end2 rfl (res_tmp (v := (pt b48 0)) rfl) (res_tmp (v := (.bool true)) rfl) ?_
   exact .inl ⟨bnot_false b38, b48, b44, .slice none 0 0, .slice none 0 0, rfl, ok_of (by kernel_rfl) (Hm.fin [3, 2, 4, 5] (by decide) rfl), Hm.upd 0 rfl [] (fun _ h => h.elim), fun b hb => Hm.freshS 0 rfl (fun _ h => h) [3, 2, 4, 5] rfl rfl b (show (sepC _).fp b from ⟨_, hb.choose_spec.1, hb.choose_spec.2⟩)⟩

set_option maxRecDepth 100000 in
set_option maxHeartbeats 400000 in
theorem rcCopy_any (w : World) (p t : Nat) (v u : Value) (D : CoreD) (hT : (rcC p t v u D).ok w) (h : CI D) :
  Calls Try.prog 31 #[(.pointer (some ⟨p, 0, none⟩))] w fun e w' => ∃ p' t' v' u', e = .returned (.pointer (some ⟨p', 0, none⟩)) ∧ (rcC p' t' v' u' D).ok w' ∧ Upd [] w w' ∧ ∀ b, (rcC p' t' v' u' D).fp b → w.heap.size ≤ b := by
 obtain ⟨va, vc, rfl⟩ := ownsRow_shape (rcC_parts hT).2.2.1
 obtain ⟨ua, uc, rfl⟩ := ownsRow_shape (rcC_parts hT).2.2.2
 obtain ⟨hcell, htal, hvrow, hprow⟩ := rcC_parts hT
 have H := Sat.start0 w
 have hf := h.f
 have hrd := h.rd
 have hvo := h.votes
 have hpo := props_few h
 refine calls_fr Try.func31 rfl 19 rfl (Nat.le_of_ble_eq_true rfl) ?_
 refine w_seq ?_
 refine w_lit ?_
 refine wv 2 (.pointer none) ?_
 refine w_nil ?_
 refine then_normal ?_
 refine w_seq ?_
 refine w_lit ?_
 refine wv 4 (pt p 0) ?_
 refine wv 5 (pt p 0) ?_
 refine wv 6 (.agg ⟨(rcL t (.slice ua D.P.length uc) D)⟩) ?_ (hr := e_loadN (vs := (rcL t (.slice ua D.P.length uc) D)) rfl (by kernel_rfl) (by kernel_rfl) (by exact Nat.le_of_ble_eq_true (by kernel_rfl)) (H.roCells 0 rfl hcell (fun h => h)) (by kernel_rfl))
 refine wl_do (wants0 rfl) (fun K1 hK1 => ?_)
 refine d_alloc (zs := (([(.int .i64 (0)), (.int .i64 (0)), (.int .i64 (0)), (.int .i64 (0)), (.int .i64 (0)), (.int .i64 (0)), (.int .i64 (0)), (.int .i64 (0))] : List Value) ++ hc hash0 ++ hc hash0 ++ ([(.bool false)] : List Value) ++ hc hash0 ++ ([(.pointer none), (.slice none 0 0), (.bool false), (.bool false), (.bool false)] : List Value))) (z := (.agg ⟨(([(.int .i64 (0)), (.int .i64 (0)), (.int .i64 (0)), (.int .i64 (0)), (.int .i64 (0)), (.int .i64 (0)), (.int .i64 (0)), (.int .i64 (0))] : List Value) ++ hc hash0 ++ hc hash0 ++ ([(.bool false)] : List Value) ++ hc hash0 ++ ([(.pointer none), (.slice none 0 0), (.bool false), (.bool false), (.bool false)] : List Value))⟩)) rfl H (by kernel_rfl) (by kernel_rfl) ?_
 intro b2 w3 (H4 : Sat w [restC w (fun _ => False), cellC b2 83 (([(.int .i64 (0)), (.int .i64 (0)), (.int .i64 (0)), (.int .i64 (0)), (.int .i64 (0)), (.int .i64 (0)), (.int .i64 (0)), (.int .i64 (0))] : List Value) ++ hc hash0 ++ hc hash0 ++ ([(.bool false)] : List Value) ++ hc hash0 ++ ([(.pointer none), (.slice none 0 0), (.bool false), (.bool false), (.bool false)] : List Value))] w3)
 refine hK1 _ _ ?_
 clear hK1 K1
 refine wl_do (wants0 rfl) (fun K5 hK5 => ?_)
 refine d_storeX (vs := (rcL t (.slice ua D.P.length uc) D)) (cs' := (rcL t (.slice ua D.P.length uc) D)) rfl H4 1 rfl rfl rfl rfl (by kernel_rfl) (Nat.le_of_ble_eq_true (by kernel_rfl)) (Nat.le_of_ble_eq_true (by kernel_rfl)) (by kernel_rfl) (by kernel_rfl) ?_
 intro w6 (H7 : Sat w [restC w (fun _ => False), cellC b2 83 (rcL t (.slice ua D.P.length uc) D)] w6)
 refine hK5 _ _ ?_
 clear hK5 K5
 refine w_nil ?_
 refine then_normal ?_
 refine w_seq ?_
 refine w_lit ?_
 refine wv 7 (pt p 0) ?_
 refine wv 8 (pt p 0) ?_
 refine wv 9 (pt p 105) ?_
 refine wv 10 (pt t 0) ?_ (hr := e_load1 rfl (by kernel_rfl) (H7.roCell 0 rfl hcell (fun h => h) (by kernel_rfl)))
 refine wl_do (wants0 rfl) (fun K9 hK9 => ?_)
 refine d_call (d := 11) rfl (by kernel_rfl) (refCopy_any w6 t (.slice va D.L.length vc) D.f D.c D.L (H7.roCk 0 rfl htal (fun _ _ h => h)) hvo) ?_
 rintro _ w12 ⟨t10, v11, rfl, k13, u14, f15⟩
 have H16 : Sat w [restC w (fun _ => False), cellC b2 83 (rcL t (.slice ua D.P.length uc) D), rtC t10 v11 D.f D.c D.L] w12 := H7.addU u14 k13 f15
 have H17 : Sat w [restC w (fun _ => False), cellC b2 83 (rcL t (.slice ua D.P.length uc) D), cellC t10 101 ([(.int .i64 (D.f)), (.int .i64 (D.c)), v11] : List Value), rowC 143 35 v11 D.L.length (D.L.flatMap encV)] w12 := H16.open 2 rfl
 obtain ⟨a18, c19, rfl⟩ := ownsRow_shape (H17.at 3 rfl)
 refine ⟨_, rfl, ?_⟩
 refine hK9 _ _ ?_
 clear hK9 K9
 refine wv 12 (pt b2 105) ?_
 refine wl_do (wants0 rfl) (fun K20 hK20 => ?_)
 refine d_storeX (vs := ([(pt t10 0)] : List Value)) (cs' := (rcL t10 (.slice ua D.P.length uc) D)) rfl H17 1 rfl rfl rfl rfl (by kernel_rfl) (Nat.le_of_ble_eq_true (by kernel_rfl)) (Nat.le_of_ble_eq_true (by kernel_rfl)) (by kernel_rfl) (by kernel_rfl) ?_
 intro w21 (H22 : Sat w [restC w (fun _ => False), cellC b2 83 (rcL t10 (.slice ua D.P.length uc) D), cellC t10 101 ([(.int .i64 (D.f)), (.int .i64 (D.c)), (.slice a18 D.L.length c19)] : List Value), rowC 143 35 (.slice a18 D.L.length c19) D.L.length (D.L.flatMap encV)] w21)
 refine hK20 _ _ ?_
 clear hK20 K20
 refine w_nil ?_
 refine then_normal ?_
 refine w_seq ?_
 refine w_lit ?_
 refine wv 13 (pt p 0) ?_
 refine wv 14 (pt p 0) ?_
 refine wv 15 (pt p 106) ?_
 refine wv 16 (.slice ua D.P.length uc) ?_ (hr := e_load1 rfl (by kernel_rfl) (H22.roCell 0 rfl hcell (fun h => h) (by kernel_rfl)))
 refine wl_do (wants0 rfl) (fun K24 hK24 => ?_)
 refine d_appendNil (T := 80) (e := 129) (size := 35) (bytes := 56) rfl H22 (by kernel_rfl) (H22.roCk 0 rfl hprow (fun _ _ h => h)) rfl rfl (flat_one encQ encQ_one D.P) (by omega) (by omega) ?_
 intro v25 w26 (H27 : Sat w [restC w (fun _ => False), cellC b2 83 (rcL t10 (.slice ua D.P.length uc) D), cellC t10 101 ([(.int .i64 (D.f)), (.int .i64 (D.c)), (.slice a18 D.L.length c19)] : List Value), rowC 143 35 (.slice a18 D.L.length c19) D.L.length (D.L.flatMap encV), rowC 129 35 v25 D.P.length (D.P.flatMap encQ)] w26)
 obtain ⟨a28, c29, rfl⟩ := ownsRow_shape (H27.at 4 rfl)
 refine hK24 _ _ ?_
 clear hK24 K24
 refine wv 18 (pt b2 106) ?_
 refine wl_do (wants0 rfl) (fun K30 hK30 => ?_)
 refine d_storeX (vs := ([(.slice a28 D.P.length c29)] : List Value)) (cs' := (rcL t10 (.slice a28 D.P.length c29) D)) rfl H27 1 rfl rfl rfl rfl (by kernel_rfl) (Nat.le_of_ble_eq_true (by kernel_rfl)) (Nat.le_of_ble_eq_true (by kernel_rfl)) (by kernel_rfl) (by kernel_rfl) ?_
 intro w31 (H32 : Sat w [restC w (fun _ => False), cellC b2 83 (rcL t10 (.slice a28 D.P.length c29) D), cellC t10 101 ([(.int .i64 (D.f)), (.int .i64 (D.c)), (.slice a18 D.L.length c19)] : List Value), rowC 143 35 (.slice a18 D.L.length c19) D.L.length (D.L.flatMap encV), rowC 129 35 (.slice a28 D.P.length c29) D.P.length (D.P.flatMap encQ)] w31)
 refine hK30 _ _ ?_
 clear hK30 K30
 refine w_nil ?_
 refine then_normal ?_
 refine w_seq ?_
 refine w_lit ?_
 refine wv 2 (pt b2 0) ?_
 refine w_nil ?_
 refine then_normal ?_
 refine w_ret ?_
 refine end1 rfl (res_tmp (v := (pt b2 0)) rfl) ?_
 exact ⟨b2, t10, (.slice a18 D.L.length c19), (.slice a28 D.P.length c29), rfl, ok_of (by kernel_rfl) (H32.fin [1, 2, 3, 4] (by decide) rfl), H32.upd 0 rfl [] (fun _ h => h.elim), fun b hb => H32.freshS 0 rfl (fun _ h => h) [1, 2, 3, 4] rfl rfl b (show (sepC _).fp b from ⟨_, hb.choose_spec.1, hb.choose_spec.2⟩)⟩

end Go.Proofs.Ythjmbhneifjeeaa
