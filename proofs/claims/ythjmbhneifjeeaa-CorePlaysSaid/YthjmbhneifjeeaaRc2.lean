/- WHAT IS PROVED: the contracts of the document's rules and of settling. Conditions: stated with each. -/
import Derived.Test.YthjmbhneifjeeaaShort
import Derived.Test.YthjmbhneifjeeaaRc1
namespace Go.Proofs.Ythjmbhneifjeeaa
open Go.RowKit

set_option maxRecDepth 100000 in
set_option maxHeartbeats 2000000 in
theorem rcRule_any (w : World) (p t : Nat) (v u : Value) (D : CoreD) (hT : (rcC p t v u D).ok w) (h : CI D) :
  Calls Try.prog 53 #[(.pointer (some ⟨p, 0, none⟩))] w fun e w' => (∃ v' u' z' E A, e = .returned (.tuple #[z', .bool true]) ∧ ruleD D = some (E, A) ∧ Sat w [cellC p 83 (rcL t u' E), cellC t 101 ([(.int .i64 (E.f)), (.int .i64 (E.c)), v'] : List Value), rowC 143 35 (v') E.L.length (E.L.flatMap encV), rowC 129 35 (u') E.P.length (E.P.flatMap encQ), rowC 102 35 z' A.length (A.flatMap encA), restC w (rcC p t v u D).fp] w') ∨ (∃ v' u' z', e = .returned (.tuple #[z', .bool false]) ∧ ruleD D = none ∧ Sat w [cellC p 83 (rcL t u' D), cellC t 101 ([(.int .i64 (D.f)), (.int .i64 (D.c)), v'] : List Value), rowC 143 35 (v') D.L.length (D.L.flatMap encV), rowC 129 35 (u') D.P.length (D.P.flatMap encQ), rowC 102 35 z' 0 [], restC w (rcC p t v u D).fp] w') := by
 obtain ⟨va, vc, rfl⟩ := ownsRow_shape (rcC_parts hT).2.2.1
 obtain ⟨ua, uc, rfl⟩ := ownsRow_shape (rcC_parts hT).2.2.2
 have H : Sat w [cellC p 83 (rcL t (.slice ua D.P.length uc) D), cellC t 101 ([(.int .i64 (D.f)), (.int .i64 (D.c)), (.slice va D.L.length vc)] : List Value), rowC 143 35 (.slice va D.L.length vc) D.L.length (D.L.flatMap encV), rowC 129 35 (.slice ua D.P.length uc) D.P.length (D.P.flatMap encQ), restC w (rcC p t (.slice va D.L.length vc) (.slice ua D.P.length uc) D).fp] w := Sat.start _ hT
 have hf := h.f
 have hep := h.ep
 have hrp := h.rp
 have hrd := h.rd
 have hst := h.st
 have hvo := h.votes
 have hpo := props_few h
 refine calls_fr Try.func53 rfl 396 rfl (Nat.le_of_ble_eq_true rfl) ?_
 refine w_seq ?_
 refine w_lit ?_
 refine wv 2 (.slice none 0 0) ?_
 refine wv 3 (.bool false) ?_
 refine w_nil ?_
 refine then_normal ?_
 refine w_seq ?_
 refine w_lit ?_
 refine wv 15 (pt p 0) ?_
 refine wv 16 (pt p 0) ?_
 refine wv 17 (pt p 0) ?_
 refine wv 18 (.agg ⟨([(.int .i64 (D.f)), (.int .i64 (D.c))] : List Value)⟩) ?_ (hr := e_loadN (vs := ([(.int .i64 (D.f)), (.int .i64 (D.c))] : List Value)) rfl (by kernel_rfl) (by kernel_rfl) (by exact Nat.le_of_ble_eq_true (by kernel_rfl)) (H.at 0 rfl) (by kernel_rfl))
 refine wl_do (wants0 rfl) (fun K1 hK1 => ?_)
 refine d_call (d := 19) rfl (by kernel_rfl) (refQuorum_any w D.f D.c (by omega)) ?_
 rintro _ w2 ⟨rfl, u4⟩
 have H3 := H.keepU u4
 refine ⟨_, rfl, ?_⟩
 refine hK1 _ _ ?_
 clear hK1 K1
 refine wv 4 (.int .i64 (2 * D.f + 1)) ?_
 refine w_nil ?_
 refine then_normal ?_
 refine w_seq ?_
 refine w_lit ?_
 refine wv 5 (.int .i64 (-1)) ?_
 refine w_nil ?_
 refine then_normal ?_
 iterate 2 refine w_seq ?_
 refine w_lit ?_
 refine wv 20 (pt p 0) ?_
 refine wv 21 (pt p 0) ?_
 refine wv 22 (pt p 106) ?_
 refine wv 23 (.slice ua D.P.length uc) ?_ (hr := e_load1 rfl (by kernel_rfl) (H3.cell 0 rfl (by kernel_rfl)))
 refine wv 24 (.int .i64 ((D.P.length : Int))) ?_
 refine wv 25 (.int .i64 (0)) ?_
 refine w_nil ?_
 refine then_normal ?_
 refine w_block ?_
 refine wp_round [5, 6, 7, 25, 26, 27, 28, 29, 30, 31, 32, 33, 34, 35, 36, 37, 38, 39, 40, 41, 42, 43, 44, 45, 46, 47, 48, 49, 50, 51, 52, 53, 54, 55, 56, 57, 58, 59, 60, 61, 62, 63, 64, 65, 66, 67, 68] (fun F_ W_ m_ => ∃ (i : Nat) (z : Int), F_ 25 = (.int .i64 ((i : Int))) ∧ F_ 5 = (.int .i64 (z)) ∧ (i ≤ D.P.length) ∧ (LeastI D i z) ∧ Sat w [cellC p 83 (rcL t (.slice ua D.P.length uc) D), cellC t 101 ([(.int .i64 (D.f)), (.int .i64 (D.c)), (.slice va D.L.length vc)] : List Value), rowC 143 35 (.slice va D.L.length vc) D.L.length (D.L.flatMap encV), rowC 129 35 (.slice ua D.P.length uc) D.P.length (D.P.flatMap encQ), restC w (rcC p t (.slice va D.L.length vc) (.slice ua D.P.length uc) D).fp] W_ ∧ m_ = D.P.length - i) _ ⟨0, (-1), (show ((.int .i64 (0)) : Value) = _ by first | rfl | go_num), (show ((.int .i64 (-1)) : Value) = _ by first | rfl | go_num), (Nat.zero_le _), (LeastI.zero D), H3, rfl⟩ ?_
 rintro g5 w6 _ ⟨i, z, v8, v9, hi, hL, H7, rfl⟩
 refine wp_know 25 _ v8 ?_
 refine wp_know 5 _ v9 ?_
 have hzl := hL.lim
 refine w_seq ?_
 refine w_lit ?_
 refine wv 26 (.bool (decide ((i : Int) < (D.P.length : Int)))) ?_
 refine w_nil ?_
 refine then_normal ?_
 refine w_seq ?_
 refine (bsplit (decide ((i : Int) < (D.P.length : Int)))).elim (fun b11 => ?_) (fun b11 => ?_)
 ·have g12 := of_decide_eq_true b11
  refine wp_know 26 (.bool true) (congrArg Value.bool b11) ?_
  have g13 := of_decide_eq_true b11
  refine wp_ift rfl ?_
  refine w_skip ?_
  refine then_normal ?_
  refine w_seq ?_
  refine w_block ?_
  refine w_seq ?_
  refine w_lit ?_
  refine wv 27 (.int .i64 ((i : Int))) ?_
  refine wv 6 (.int .i64 ((i : Int))) ?_
  refine w_nil ?_
  refine then_normal ?_
  refine w_seq ?_
  refine w_lit ?_
  refine wv 28 (pt p 0) ?_
  refine wv 29 (pt p 0) ?_
  refine wv 30 (pt p 106) ?_
  refine wv 31 (.slice ua D.P.length uc) ?_ (hr := e_load1 rfl (by kernel_rfl) (H7.cell 0 rfl (by kernel_rfl)))
  refine wv 32 (.int .i64 ((i : Int))) ?_
  obtain ⟨g14, c15, e16⟩ := row_shape (H7.at 3 rfl) (by omega)
  obtain ⟨x17, h18⟩ := get_at (show i < D.P.length by omega)
  refine wv 33 (.pointer (some ⟨g14, 0 + ((i : Int)).toNat * 35, none⟩)) ?_ (hr := e_indexAddrV (E := 129) (by kernel_rfl) (by kernel_rfl) (Nat.le_of_ble_eq_true rfl) rfl e16 rfl (by omega) (by omega))
  refine wv 34 (.agg ⟨(([(.int .i64 (x17.1)), (.int .i64 (x17.2.valid))] : List Value) ++ hc x17.2.h ++ ([(.bool (x17.2.ok))] : List Value))⟩) ?_ (hr := e_loadRun (vs := (([(.int .i64 (x17.1)), (.int .i64 (x17.2.valid))] : List Value) ++ hc x17.2.h ++ ([(.bool (x17.2.ok))] : List Value))) rfl (by kernel_rfl) (by kernel_rfl) (Nat.le_of_ble_eq_true (by kernel_rfl)) (rows_run (H7.at 3 rfl) e16 encQ_len h18 0 (show 0 + ((i : Int)).toNat * 35 = i * 35 + 0 by omega) (by kernel_rfl) (by kernel_rfl)))
  refine wl_do (wants0 rfl) (fun K19 hK19 => ?_)
  refine d_alloc (zs := (([(.int .i64 (0)), (.int .i64 (0))] : List Value) ++ hc hash0 ++ ([(.bool false)] : List Value))) (z := (.agg ⟨(([(.int .i64 (0)), (.int .i64 (0))] : List Value) ++ hc hash0 ++ ([(.bool false)] : List Value))⟩)) rfl H7 (by kernel_rfl) (by kernel_rfl) ?_
  intro b20 w21 (H22 : Sat w [cellC p 83 (rcL t (.slice ua D.P.length uc) D), cellC t 101 ([(.int .i64 (D.f)), (.int .i64 (D.c)), (.slice va D.L.length vc)] : List Value), rowC 143 35 (.slice va D.L.length vc) D.L.length (D.L.flatMap encV), rowC 129 35 (.slice ua D.P.length uc) D.P.length (D.P.flatMap encQ), restC w (rcC p t (.slice va D.L.length vc) (.slice ua D.P.length uc) D).fp, cellC b20 129 (([(.int .i64 (0)), (.int .i64 (0))] : List Value) ++ hc hash0 ++ ([(.bool false)] : List Value))] w21)
  refine hK19 _ _ ?_
  clear hK19 K19
  refine wl_do (wants0 rfl) (fun K23 hK23 => ?_)
  refine d_storeX (vs := (([(.int .i64 (x17.1)), (.int .i64 (x17.2.valid))] : List Value) ++ hc x17.2.h ++ ([(.bool (x17.2.ok))] : List Value))) (cs' := (([(.int .i64 (x17.1)), (.int .i64 (x17.2.valid))] : List Value) ++ hc x17.2.h ++ ([(.bool (x17.2.ok))] : List Value))) rfl H22 5 rfl rfl rfl rfl (by kernel_rfl) (Nat.le_of_ble_eq_true (by kernel_rfl)) (Nat.le_of_ble_eq_true (by kernel_rfl)) (by kernel_rfl) (by kernel_rfl) ?_
  intro w24 (H25 : Sat w [cellC p 83 (rcL t (.slice ua D.P.length uc) D), cellC t 101 ([(.int .i64 (D.f)), (.int .i64 (D.c)), (.slice va D.L.length vc)] : List Value), rowC 143 35 (.slice va D.L.length vc) D.L.length (D.L.flatMap encV), rowC 129 35 (.slice ua D.P.length uc) D.P.length (D.P.flatMap encQ), restC w (rcC p t (.slice va D.L.length vc) (.slice ua D.P.length uc) D).fp, cellC b20 129 (([(.int .i64 (x17.1)), (.int .i64 (x17.2.valid))] : List Value) ++ hc x17.2.h ++ ([(.bool (x17.2.ok))] : List Value))] w24)
  refine hK23 _ _ ?_
  clear hK23 K23
  refine w_nil ?_
  refine then_normal ?_
  refine w_seq ?_
  refine q_start H25 (by kernel_rfl) (by kernel_rfl) ?_
  refine qv 35 (pt b20 34) ?_
  refine qv 36 (.bool (x17.2.ok)) ?_ (hr := fun _ H' => (e_load1 rfl (by kernel_rfl) (H'.cell 5 rfl (by kernel_rfl))))
  refine qv 37 (.bool (x17.2.ok)) ?_
  refine (bsplit (x17.2.ok)).elim (fun b27 => ?_) (fun b27 => ?_)
  ·refine q_know 37 (.bool true) (congrArg Value.bool b27) ?_
   refine qy 2 37 true 38 (.int .i64 (z)) ?_
   refine qy 2 37 true 39 (.bool (decide (z < 0))) ?_
   refine qy 2 37 true 40 (.bool (decide (z < 0))) ?_
   refine (bsplit (decide (z < 0))).elim (fun b28 => ?_) (fun b28 => ?_)
   ·have g29 := of_decide_eq_true b28
    refine q_know 40 (.bool true) (congrArg Value.bool b28) ?_
    have g30 := of_decide_eq_true b28
    iterate 11 refine qn 5 40 false ?_
    refine qy 2 37 true 52 (.bool true) ?_
    refine qv 53 (.bool true) ?_
    refine qv 54 (.bool true) ?_
    refine qy 19 54 true 55 (pt p 0) ?_
    refine qy 19 54 true 56 (pt p 0) ?_
    refine qy 19 54 true 57 (pt p 105) ?_
    refine qy 19 54 true 58 (pt t 0) ?_ (hr := fun _ H' => (e_load1 rfl (by kernel_rfl) (H'.cell 0 rfl (by kernel_rfl))))
    refine qy 19 54 true 59 (pt b20 0) ?_
    refine qy 19 54 true 60 (.int .i64 (x17.1)) ?_ (hr := fun _ H' => (e_load1 rfl (by kernel_rfl) (H'.cell 5 rfl (by kernel_rfl))))
    refine qy 19 54 true 61 (pt b20 2) ?_
    refine qy 19 54 true 62 (.agg ⟨(hc x17.2.h)⟩) ?_ (hr := fun _ H' => (e_loadN (vs := (hc x17.2.h)) rfl (by kernel_rfl) (by kernel_rfl) (by exact Nat.le_of_ble_eq_true (by kernel_rfl)) (H'.at 5 rfl) (by kernel_rfl)))
    refine q_call (wantsY 19 54 true rfl (by kernel_rfl) rfl (by kernel_rfl)) (d := 63) (v := (.int .i64 (forV D.L 2 x17.1 x17.2.h))) rfl (fun _ _ => by kernel_rfl) (fun w' H' => (refFor_any w' t (.slice va D.L.length vc) D.f D.c D.L (ok_of (by kernel_rfl) (H'.fin [1, 2] (by decide) rfl)) (by omega) 2 x17.1 x17.2.h).mono fun _ _ h => ⟨h.1, H'.keepU h.2⟩) ?_
    refine qy 19 54 true 64 (.int .i64 (2 * D.f + 1)) ?_
    refine qy 19 54 true 65 (.bool (decide ((forV D.L 2 x17.1 x17.2.h) ≥ (2 * D.f + 1)))) ?_
    refine qv 66 (.bool (decide ((forV D.L 2 x17.1 x17.2.h) ≥ (2 * D.f + 1)))) ?_
    refine q_end ?_
    intro w31 H32
    refine then_normal ?_
    refine (bsplit (decide ((forV D.L 2 x17.1 x17.2.h) ≥ (2 * D.f + 1)))).elim (fun b33 => ?_) (fun b33 => ?_)
    ·have g34 := of_decide_eq_true b33
     refine wp_know 66 (.bool true) (congrArg Value.bool b33) ?_
     have g35 := of_decide_eq_true b33
     refine wp_ift rfl ?_
     refine w_lit ?_
     refine wv 67 (.int .i64 ((i : Int))) ?_
     refine wv 5 (.int .i64 ((i : Int))) ?_
     refine w_nil ?_
     refine blk_normal ?_
     refine then_normal ?_
     refine w_lit ?_
     refine wv 68 (.int .i64 ((i : Int) + 1)) ?_ (hr := e_int (z := (i : Int) + 1) (by kernel_rfl) (IntWalk.i64_in _ (by omega)))
     refine wv 25 (.int .i64 ((i : Int) + 1)) ?_
     refine w_nil ?_
     have hb := hL.neg (of_decide_eq_true b28)
     have hL2 := LeastI.yes h h18 (by rw [hb]; simp [b27, b33])
     have H36 : Sat w [cellC p 83 (rcL t (.slice ua D.P.length uc) D), cellC t 101 ([(.int .i64 (D.f)), (.int .i64 (D.c)), (.slice va D.L.length vc)] : List Value), rowC 143 35 (.slice va D.L.length vc) D.L.length (D.L.flatMap encV), rowC 129 35 (.slice ua D.P.length uc) D.P.length (D.P.flatMap encQ), restC w (rcC p t (.slice va D.L.length vc) (.slice ua D.P.length uc) D).fp] w31 := H32.pick [0, 1, 2, 3, 4] (by decide)
     refine round_back ?_ _ ⟨(i + 1), (i : Int), (show ((.int .i64 ((i : Int) + 1)) : Value) = _ by first | rfl | go_num), (show ((.int .i64 ((i : Int))) : Value) = _ by first | rfl | go_num), (by omega), hL2, H36, rfl⟩ (by omega)
     iterate 53 refine same_upd rfl ?_
     exact same_ovr
    ·have g37 := of_decide_eq_false b33
     refine wp_know 66 (.bool false) (congrArg Value.bool b33) ?_
     have g38 := of_decide_eq_false b33
     refine wp_iff rfl ?_
     refine w_skip ?_
     refine blk_normal ?_
     refine then_normal ?_
     refine w_lit ?_
     refine wv 68 (.int .i64 ((i : Int) + 1)) ?_ (hr := e_int (z := (i : Int) + 1) (by kernel_rfl) (IntWalk.i64_in _ (by omega)))
     refine wv 25 (.int .i64 ((i : Int) + 1)) ?_
     refine w_nil ?_
     have hb := hL.neg (of_decide_eq_true b28)
     have hL2 := LeastI.no hL h18 (by rw [hb]; simp [b27, b33])
     have H39 : Sat w [cellC p 83 (rcL t (.slice ua D.P.length uc) D), cellC t 101 ([(.int .i64 (D.f)), (.int .i64 (D.c)), (.slice va D.L.length vc)] : List Value), rowC 143 35 (.slice va D.L.length vc) D.L.length (D.L.flatMap encV), rowC 129 35 (.slice ua D.P.length uc) D.P.length (D.P.flatMap encQ), restC w (rcC p t (.slice va D.L.length vc) (.slice ua D.P.length uc) D).fp] w31 := H32.pick [0, 1, 2, 3, 4] (by decide)
     refine round_back ?_ _ ⟨(i + 1), z, (show ((.int .i64 ((i : Int) + 1)) : Value) = _ by first | rfl | go_num), (show ((.int .i64 (z)) : Value) = _ by first | rfl | go_num), (by omega), hL2, H39, rfl⟩ (by omega)
     iterate 51 refine same_upd rfl ?_
     exact same_ovr
   ·have g40 := of_decide_eq_false b28
    refine q_know 40 (.bool false) (congrArg Value.bool b28) ?_
    have g41 := of_decide_eq_false b28
    refine qy 5 40 false 41 (pt b20 0) ?_
    refine qy 5 40 false 42 (.int .i64 (x17.1)) ?_ (hr := fun _ H' => (e_load1 rfl (by kernel_rfl) (H'.cell 5 rfl (by kernel_rfl))))
    refine qy 5 40 false 43 (pt p 0) ?_
    refine qy 5 40 false 44 (pt p 0) ?_
    refine qy 5 40 false 45 (pt p 106) ?_
    refine qy 5 40 false 46 (.slice ua D.P.length uc) ?_ (hr := fun _ H' => (e_load1 rfl (by kernel_rfl) (H'.cell 0 rfl (by kernel_rfl))))
    refine qy 5 40 false 47 (.int .i64 (z)) ?_
    obtain ⟨g42, c43, e44⟩ := row_shape (H25.at 3 rfl) (by omega)
    obtain ⟨x45, h46⟩ := get_at (show (z).toNat < D.P.length by omega)
    refine qy 5 40 false 48 (.pointer (some ⟨g42, 0 + (z).toNat * 35, none⟩)) ?_ (hr := fun _ H' => (e_indexAddrV (E := 129) (by kernel_rfl) (by kernel_rfl) (Nat.le_of_ble_eq_true rfl) rfl e44 rfl (by omega) (by omega)))
    refine qy 5 40 false 49 (.pointer (some ⟨g42, 0 + (z).toNat * 35, none⟩)) ?_
    refine qy 5 40 false 50 (.int .i64 (x45.1)) ?_ (hr := fun _ H' => (e_load1 rfl (by kernel_rfl) (rows_cell (H'.at 3 rfl) e44 encQ_len h46 0 rfl (show 0 + (z).toNat * 35 = (z).toNat * 35 + 0 by omega) (by kernel_rfl))))
    refine qy 5 40 false 51 (.bool (decide (x17.1 < x45.1))) ?_
    refine qy 2 37 true 52 (.bool (decide (x17.1 < x45.1))) ?_
    refine qv 53 (.bool (decide (x17.1 < x45.1))) ?_
    refine qv 54 (.bool (decide (x17.1 < x45.1))) ?_
    refine (bsplit (decide (x17.1 < x45.1))).elim (fun b47 => ?_) (fun b47 => ?_)
    ·have g48 := of_decide_eq_true b47
     refine q_know 54 (.bool true) (congrArg Value.bool b47) ?_
     have g49 := of_decide_eq_true b47
     refine qy 19 54 true 55 (pt p 0) ?_
     refine qy 19 54 true 56 (pt p 0) ?_
     refine qy 19 54 true 57 (pt p 105) ?_
     refine qy 19 54 true 58 (pt t 0) ?_ (hr := fun _ H' => (e_load1 rfl (by kernel_rfl) (H'.cell 0 rfl (by kernel_rfl))))
     refine qy 19 54 true 59 (pt b20 0) ?_
     refine qy 19 54 true 60 (.int .i64 (x17.1)) ?_ (hr := fun _ H' => (e_load1 rfl (by kernel_rfl) (H'.cell 5 rfl (by kernel_rfl))))
     refine qy 19 54 true 61 (pt b20 2) ?_
     refine qy 19 54 true 62 (.agg ⟨(hc x17.2.h)⟩) ?_ (hr := fun _ H' => (e_loadN (vs := (hc x17.2.h)) rfl (by kernel_rfl) (by kernel_rfl) (by exact Nat.le_of_ble_eq_true (by kernel_rfl)) (H'.at 5 rfl) (by kernel_rfl)))
     refine q_call (wantsY 19 54 true rfl (by kernel_rfl) rfl (by kernel_rfl)) (d := 63) (v := (.int .i64 (forV D.L 2 x17.1 x17.2.h))) rfl (fun _ _ => by kernel_rfl) (fun w' H' => (refFor_any w' t (.slice va D.L.length vc) D.f D.c D.L (ok_of (by kernel_rfl) (H'.fin [1, 2] (by decide) rfl)) (by omega) 2 x17.1 x17.2.h).mono fun _ _ h => ⟨h.1, H'.keepU h.2⟩) ?_
     refine qy 19 54 true 64 (.int .i64 (2 * D.f + 1)) ?_
     refine qy 19 54 true 65 (.bool (decide ((forV D.L 2 x17.1 x17.2.h) ≥ (2 * D.f + 1)))) ?_
     refine qv 66 (.bool (decide ((forV D.L 2 x17.1 x17.2.h) ≥ (2 * D.f + 1)))) ?_
     refine q_end ?_
     intro w50 H51
     refine then_normal ?_
     refine (bsplit (decide ((forV D.L 2 x17.1 x17.2.h) ≥ (2 * D.f + 1)))).elim (fun b52 => ?_) (fun b52 => ?_)
     ·have g53 := of_decide_eq_true b52
      refine wp_know 66 (.bool true) (congrArg Value.bool b52) ?_
      have g54 := of_decide_eq_true b52
      refine wp_ift rfl ?_
      refine w_lit ?_
      refine wv 67 (.int .i64 ((i : Int))) ?_
      refine wv 5 (.int .i64 ((i : Int))) ?_
      refine w_nil ?_
      refine blk_normal ?_
      refine then_normal ?_
      refine w_lit ?_
      refine wv 68 (.int .i64 ((i : Int) + 1)) ?_ (hr := e_int (z := (i : Int) + 1) (by kernel_rfl) (IntWalk.i64_in _ (by omega)))
      refine wv 25 (.int .i64 ((i : Int) + 1)) ?_
      refine w_nil ?_
      have hb := (hL.pos (of_decide_eq_false b28) h46).1
      have hb0 := (hL.pos (of_decide_eq_false b28) h46).2
      have hL2 := LeastI.yes h h18 (by rw [hb]; simp [b27, b47, b52] <;> omega)
      have H55 : Sat w [cellC p 83 (rcL t (.slice ua D.P.length uc) D), cellC t 101 ([(.int .i64 (D.f)), (.int .i64 (D.c)), (.slice va D.L.length vc)] : List Value), rowC 143 35 (.slice va D.L.length vc) D.L.length (D.L.flatMap encV), rowC 129 35 (.slice ua D.P.length uc) D.P.length (D.P.flatMap encQ), restC w (rcC p t (.slice va D.L.length vc) (.slice ua D.P.length uc) D).fp] w50 := H51.pick [0, 1, 2, 3, 4] (by decide)
      refine round_back ?_ _ ⟨(i + 1), (i : Int), (show ((.int .i64 ((i : Int) + 1)) : Value) = _ by first | rfl | go_num), (show ((.int .i64 ((i : Int))) : Value) = _ by first | rfl | go_num), (by omega), hL2, H55, rfl⟩ (by omega)
      iterate 54 refine same_upd rfl ?_
      exact same_ovr
     ·have g56 := of_decide_eq_false b52
      refine wp_know 66 (.bool false) (congrArg Value.bool b52) ?_
      have g57 := of_decide_eq_false b52
      refine wp_iff rfl ?_
      refine w_skip ?_
      refine blk_normal ?_
      refine then_normal ?_
      refine w_lit ?_
      refine wv 68 (.int .i64 ((i : Int) + 1)) ?_ (hr := e_int (z := (i : Int) + 1) (by kernel_rfl) (IntWalk.i64_in _ (by omega)))
      refine wv 25 (.int .i64 ((i : Int) + 1)) ?_
      refine w_nil ?_
      have hb := (hL.pos (of_decide_eq_false b28) h46).1
      have hb0 := (hL.pos (of_decide_eq_false b28) h46).2
      have hL2 := LeastI.no hL h18 (by rw [hb]; simp [b27, b47, b52] <;> omega)
      have H58 : Sat w [cellC p 83 (rcL t (.slice ua D.P.length uc) D), cellC t 101 ([(.int .i64 (D.f)), (.int .i64 (D.c)), (.slice va D.L.length vc)] : List Value), rowC 143 35 (.slice va D.L.length vc) D.L.length (D.L.flatMap encV), rowC 129 35 (.slice ua D.P.length uc) D.P.length (D.P.flatMap encQ), restC w (rcC p t (.slice va D.L.length vc) (.slice ua D.P.length uc) D).fp] w50 := H51.pick [0, 1, 2, 3, 4] (by decide)
      refine round_back ?_ _ ⟨(i + 1), z, (show ((.int .i64 ((i : Int) + 1)) : Value) = _ by first | rfl | go_num), (show ((.int .i64 (z)) : Value) = _ by first | rfl | go_num), (by omega), hL2, H58, rfl⟩ (by omega)
      iterate 52 refine same_upd rfl ?_
      exact same_ovr
    ·have g59 := of_decide_eq_false b47
     refine q_know 54 (.bool false) (congrArg Value.bool b47) ?_
     have g60 := of_decide_eq_false b47
     iterate 11 refine qn 19 54 true ?_
     refine qv 66 (.bool false) ?_
     refine q_end ?_
     intro w61 H62
     refine then_normal ?_
     refine wp_iff rfl ?_
     refine w_skip ?_
     refine blk_normal ?_
     refine then_normal ?_
     refine w_lit ?_
     refine wv 68 (.int .i64 ((i : Int) + 1)) ?_ (hr := e_int (z := (i : Int) + 1) (by kernel_rfl) (IntWalk.i64_in _ (by omega)))
     refine wv 25 (.int .i64 ((i : Int) + 1)) ?_
     refine w_nil ?_
     have hb := (hL.pos (of_decide_eq_false b28) h46).1
     have hb0 := (hL.pos (of_decide_eq_false b28) h46).2
     have hL2 := LeastI.no hL h18 (by rw [hb]; simp [b27, b47] <;> omega)
     have H63 : Sat w [cellC p 83 (rcL t (.slice ua D.P.length uc) D), cellC t 101 ([(.int .i64 (D.f)), (.int .i64 (D.c)), (.slice va D.L.length vc)] : List Value), rowC 143 35 (.slice va D.L.length vc) D.L.length (D.L.flatMap encV), rowC 129 35 (.slice ua D.P.length uc) D.P.length (D.P.flatMap encQ), restC w (rcC p t (.slice va D.L.length vc) (.slice ua D.P.length uc) D).fp] w61 := H62.pick [0, 1, 2, 3, 4] (by decide)
     refine round_back ?_ _ ⟨(i + 1), z, (show ((.int .i64 ((i : Int) + 1)) : Value) = _ by first | rfl | go_num), (show ((.int .i64 (z)) : Value) = _ by first | rfl | go_num), (by omega), hL2, H63, rfl⟩ (by omega)
     iterate 51 refine same_upd rfl ?_
     exact same_ovr
  ·refine q_know 37 (.bool false) (congrArg Value.bool b27) ?_
   iterate 3 refine qn 2 37 true ?_
   iterate 11 refine qu 5 40 false ?_
   refine qn 2 37 true ?_
   refine qv 53 (.bool false) ?_
   refine qv 54 (.bool false) ?_
   iterate 11 refine qn 19 54 true ?_
   refine qv 66 (.bool false) ?_
   refine q_end ?_
   intro w64 H65
   refine then_normal ?_
   refine wp_iff rfl ?_
   refine w_skip ?_
   refine blk_normal ?_
   refine then_normal ?_
   refine w_lit ?_
   refine wv 68 (.int .i64 ((i : Int) + 1)) ?_ (hr := e_int (z := (i : Int) + 1) (by kernel_rfl) (IntWalk.i64_in _ (by omega)))
   refine wv 25 (.int .i64 ((i : Int) + 1)) ?_
   refine w_nil ?_
   have hL2 := LeastI.no hL h18 (by simp [b27])
   have H66 : Sat w [cellC p 83 (rcL t (.slice ua D.P.length uc) D), cellC t 101 ([(.int .i64 (D.f)), (.int .i64 (D.c)), (.slice va D.L.length vc)] : List Value), rowC 143 35 (.slice va D.L.length vc) D.L.length (D.L.flatMap encV), rowC 129 35 (.slice ua D.P.length uc) D.P.length (D.P.flatMap encQ), restC w (rcC p t (.slice va D.L.length vc) (.slice ua D.P.length uc) D).fp] w64 := H65.pick [0, 1, 2, 3, 4] (by decide)
   refine round_back ?_ _ ⟨(i + 1), z, (show ((.int .i64 ((i : Int) + 1)) : Value) = _ by first | rfl | go_num), (show ((.int .i64 (z)) : Value) = _ by first | rfl | go_num), (by omega), hL2, H66, rfl⟩ (by omega)
   iterate 49 refine same_upd rfl ?_
   exact same_ovr
 ·have g67 := of_decide_eq_false b11
  refine wp_know 26 (.bool false) (congrArg Value.bool b11) ?_
  have g68 := of_decide_eq_false b11
  refine wp_iff rfl ?_
  refine w_exit ?_
  refine then_exit ?_
  refine back_exit ?_
  refine blk_hit ?_
  refine then_normal ?_
  iterate 2 refine w_seq ?_
  have hLe := hL.end (by omega)
  refine w_lit ?_
  refine wv 69 (.int .i64 (z)) ?_
  refine wv 70 (.bool (decide (z ≥ 0))) ?_
  refine w_nil ?_
  refine then_normal ?_
  refine (bsplit (decide (z ≥ 0))).elim (fun b69 => ?_) (fun b69 => ?_)
  ·have g70 := of_decide_eq_true b69
   refine wp_know 70 (.bool true) (congrArg Value.bool b69) ?_
   have g71 := of_decide_eq_true b69
   refine wp_ift rfl ?_
   refine w_seq ?_
   refine w_lit ?_
   refine wv 71 (pt p 0) ?_
   refine wv 72 (pt p 0) ?_
   refine wv 73 (pt p 0) ?_
   refine wv 74 (pt p 0) ?_
   refine wv 75 (pt p 106) ?_
   refine wv 76 (.slice ua D.P.length uc) ?_ (hr := e_load1 rfl (by kernel_rfl) (H7.cell 0 rfl (by kernel_rfl)))
   refine wv 77 (.int .i64 (z)) ?_
   obtain ⟨g72, c73, e74⟩ := row_shape (H7.at 3 rfl) (by omega)
   obtain ⟨x75, h76⟩ := get_at (show (z).toNat < D.P.length by omega)
   refine wv 78 (.pointer (some ⟨g72, 0 + (z).toNat * 35, none⟩)) ?_ (hr := e_indexAddrV (E := 129) (by kernel_rfl) (by kernel_rfl) (Nat.le_of_ble_eq_true rfl) rfl e74 rfl (by omega) (by omega))
   refine wv 79 (.pointer (some ⟨g72, 0 + (z).toNat * 35 + 2, none⟩)) ?_
   refine wv 80 (.agg ⟨(hc x75.2.h)⟩) ?_ (hr := e_loadRun (vs := (hc x75.2.h)) rfl (by kernel_rfl) (by kernel_rfl) (Nat.le_of_ble_eq_true (by kernel_rfl)) (rows_run (H7.at 3 rfl) e74 encQ_len h76 2 (show 0 + (z).toNat * 35 + 2 = (z).toNat * 35 + 2 by omega) (by kernel_rfl) (by kernel_rfl)))
   refine wv 81 (pt p 0) ?_
   refine wv 82 (pt p 4) ?_
   refine wv 83 (pt p 72) ?_
   refine wl_do (wants0 rfl) (fun K77 hK77 => ?_)
   refine d_storeX (vs := ([(.bool true)] : List Value)) (cs' := (rcW D.f D.c D.epoch D.replica D.s.round D.s.step D.s.lr D.s.vr D.s.locked D.s.valid true D.s.decision t (.slice ua D.P.length uc) D.wv D.sp D.sc)) rfl H7 0 rfl rfl rfl rfl (by kernel_rfl) (Nat.le_of_ble_eq_true (by kernel_rfl)) (Nat.le_of_ble_eq_true (by kernel_rfl)) (by kernel_rfl) (by kernel_rfl) ?_
   intro w78 (H79 : Sat w [cellC p 83 (rcW D.f D.c D.epoch D.replica D.s.round D.s.step D.s.lr D.s.vr D.s.locked D.s.valid true D.s.decision t (.slice ua D.P.length uc) D.wv D.sp D.sc), cellC t 101 ([(.int .i64 (D.f)), (.int .i64 (D.c)), (.slice va D.L.length vc)] : List Value), rowC 143 35 (.slice va D.L.length vc) D.L.length (D.L.flatMap encV), rowC 129 35 (.slice ua D.P.length uc) D.P.length (D.P.flatMap encQ), restC w (rcC p t (.slice va D.L.length vc) (.slice ua D.P.length uc) D).fp] w78)
   refine hK77 _ _ ?_
   clear hK77 K77
   refine wv 84 (pt p 0) ?_
   refine wv 85 (pt p 4) ?_
   refine wv 86 (pt p 73) ?_
   refine wl_do (wants0 rfl) (fun K81 hK81 => ?_)
   refine d_storeX (vs := (hc x75.2.h)) (cs' := (rcW D.f D.c D.epoch D.replica D.s.round D.s.step D.s.lr D.s.vr D.s.locked D.s.valid true x75.2.h t (.slice ua D.P.length uc) D.wv D.sp D.sc)) rfl H79 0 rfl rfl rfl rfl (by kernel_rfl) (Nat.le_of_ble_eq_true (by kernel_rfl)) (Nat.le_of_ble_eq_true (by kernel_rfl)) (by kernel_rfl) (by kernel_rfl) ?_
   intro w82 (H83 : Sat w [cellC p 83 (rcW D.f D.c D.epoch D.replica D.s.round D.s.step D.s.lr D.s.vr D.s.locked D.s.valid true x75.2.h t (.slice ua D.P.length uc) D.wv D.sp D.sc), cellC t 101 ([(.int .i64 (D.f)), (.int .i64 (D.c)), (.slice va D.L.length vc)] : List Value), rowC 143 35 (.slice va D.L.length vc) D.L.length (D.L.flatMap encV), rowC 129 35 (.slice ua D.P.length uc) D.P.length (D.P.flatMap encQ), restC w (rcC p t (.slice va D.L.length vc) (.slice ua D.P.length uc) D).fp] w82)
   refine hK81 _ _ ?_
   clear hK81 K81
   refine w_nil ?_
   refine then_normal ?_
   refine w_seq ?_
   refine h_start H83 [cellC p 83 (rcW D.f D.c D.epoch D.replica D.s.round D.s.step D.s.lr D.s.vr D.s.locked D.s.valid true x75.2.h t (.slice ua D.P.length uc) D.wv D.sp D.sc), cellC t 101 ([(.int .i64 (D.f)), (.int .i64 (D.c)), (.slice va D.L.length vc)] : List Value), rowC 143 35 (.slice va D.L.length vc) D.L.length (D.L.flatMap encV), rowC 129 35 (.slice ua D.P.length uc) D.P.length (D.P.flatMap encQ), restC w (rcC p t (.slice va D.L.length vc) (.slice ua D.P.length uc) D).fp] 20 rfl (by kernel_rfl) (fun Hx => (Hx.pick [0, 1, 2, 3, 4] (by decide))) ?_
   intro w85 H86 S87
   refine hv0 0 S87 87 (pt p 0) ?_
   refine hv0 1 S87 88 (pt p 0) ?_
   refine hv0 2 S87 89 (pt p 106) ?_
   refine hv0 3 S87 90 (.slice ua D.P.length uc) ?_ (he := fun _ H' => (e_load1 rfl (by kernel_rfl) (H'.cell 0 rfl (by kernel_rfl))))
   refine hv0 4 S87 91 (.int .i64 (z)) ?_
   refine h_val 5 rfl (by kernel_rfl) (by kernel_rfl) (by kernel_rfl) (fun _ _ _ h => h) S87 (wants0 rfl) (d := 92) (v := (.pointer (some ⟨g72, 0 + (z).toNat * 35, none⟩))) rfl (fun _ H' => (e_indexAddrV (E := 129) (by kernel_rfl) (by kernel_rfl) (Nat.le_of_ble_eq_true rfl) rfl e74 rfl (by omega) (by omega))) ?_
   refine hv0 6 S87 93 (.pointer (some ⟨g72, 0 + (z).toNat * 35, none⟩)) ?_
   refine hv0 7 S87 94 (.int .i64 (x75.1)) ?_ (he := fun _ H' => (e_load1 rfl (by kernel_rfl) (rows_cell (H'.at 3 rfl) e74 encQ_len h76 0 rfl (show 0 + (z).toNat * 35 = (z).toNat * 35 + 0 by omega) (by kernel_rfl))))
   refine hv0 8 S87 95 (pt p 0) ?_
   refine hv0 9 S87 96 (pt p 0) ?_
   refine hv0 10 S87 97 (pt p 106) ?_
   refine hv0 11 S87 98 (.slice ua D.P.length uc) ?_ (he := fun _ H' => (e_load1 rfl (by kernel_rfl) (H'.cell 0 rfl (by kernel_rfl))))
   refine hv0 12 S87 99 (.int .i64 (z)) ?_
   refine h_val 13 rfl (by kernel_rfl) (by kernel_rfl) (by kernel_rfl) (fun _ _ _ h => h) S87 (wants0 rfl) (d := 100) (v := (.pointer (some ⟨g72, 0 + (z).toNat * 35, none⟩))) rfl (fun _ H' => (e_indexAddrV (E := 129) (by kernel_rfl) (by kernel_rfl) (Nat.le_of_ble_eq_true rfl) rfl e74 rfl (by omega) (by omega))) ?_
   refine hv0 14 S87 101 (.pointer (some ⟨g72, 0 + (z).toNat * 35 + 2, none⟩)) ?_
   refine hv0 15 S87 102 (.agg ⟨(hc x75.2.h)⟩) ?_ (he := fun _ H' => (e_loadRun (vs := (hc x75.2.h)) rfl (by kernel_rfl) (by kernel_rfl) (Nat.le_of_ble_eq_true (by kernel_rfl)) (rows_run (H'.at 3 rfl) e74 encQ_len h76 2 (show 0 + (z).toNat * 35 + 2 = (z).toNat * 35 + 2 by omega) (by kernel_rfl) (by kernel_rfl))))
   refine h_val 16 rfl (by kernel_rfl) (by kernel_rfl) (by kernel_rfl) (fun _ _ _ h => h) S87 (wants0 rfl) (d := 103) (v := (.agg ⟨(([(.int .i64 (5)), (.int .i64 (x75.1)), (.int .i64 (-1))] : List Value) ++ hc x75.2.h)⟩)) rfl (fun _ H' => (by kernel_rfl)) ?_
   refine h_do 17 rfl (by kernel_rfl) (wants0 rfl) (fun K88 hK88 => ?_)
   refine d_buildSlice (e := 102) (size := 35) (bytes := 56) (z := (.agg ⟨(([(.int .i64 (0)), (.int .i64 (0)), (.int .i64 (0))] : List Value) ++ hc hash0)⟩)) (pvs := [(0, (.agg ⟨(([(.int .i64 (5)), (.int .i64 (x75.1)), (.int .i64 (-1))] : List Value) ++ hc x75.2.h)⟩))]) (vs := (([(.int .i64 (5)), (.int .i64 (x75.1)), (.int .i64 (-1))] : List Value) ++ hc x75.2.h)) rfl H86 (by kernel_rfl) (by kernel_rfl) (by kernel_rfl) (by kernel_rfl) (by kernel_rfl) rfl rfl ?_
   intro b89 w90 (H91 : Sat w [cellC p 83 (rcW D.f D.c D.epoch D.replica D.s.round D.s.step D.s.lr D.s.vr D.s.locked D.s.valid true x75.2.h t (.slice ua D.P.length uc) D.wv D.sp D.sc), cellC t 101 ([(.int .i64 (D.f)), (.int .i64 (D.c)), (.slice va D.L.length vc)] : List Value), rowC 143 35 (.slice va D.L.length vc) D.L.length (D.L.flatMap encV), rowC 129 35 (.slice ua D.P.length uc) D.P.length (D.P.flatMap encQ), restC w (rcC p t (.slice va D.L.length vc) (.slice ua D.P.length uc) D).fp, rowC 102 35 (.slice (some ⟨b89, 0, none⟩) 1 1) 1 (([(.int .i64 (5)), (.int .i64 (x75.1)), (.int .i64 (-1))] : List Value) ++ hc x75.2.h)] w90)
   have S92 := H91.pick [0, 1, 2, 3, 4] (by decide)
   refine hK88 _ _ S92 ?_
   clear hK88 K88
   refine hv0 18 S92 2 (.slice (some ⟨b89, 0, none⟩) 1 1) ?_
   refine hv0 19 S92 3 (.bool true) ?_
   refine h_fin (by kernel_rfl) ?_
   refine then_normal ?_
   refine w_ret ?_
   refine then_ret ?_
   refine end2 rfl (res_tmp (v := (.slice (some ⟨b89, 0, none⟩) 1 1)) rfl) (res_tmp (v := (.bool true)) rfl) ?_
   obtain ⟨hl, hl0⟩ := hLe.2 (by have := of_decide_eq_true b69; omega) _ h76
   obtain ⟨g1, g2, g3⟩ := prop_at h h76
   exact .inl ⟨(.slice va D.L.length vc), (.slice ua D.P.length uc), _, { D with s := { D.s with decided := true, decision := x75.2.h } }, [⟨5, x75.1, -1, x75.2.h⟩], rfl, (by rw [ruleD_b, hl, if_pos hl0]; unfold decideD; rw [g1]), (H91.pick [0, 1, 2, 3, 5, 4] (by decide)).cast (by kernel_rfl)⟩
  ·have g93 := of_decide_eq_false b69
   refine wp_know 70 (.bool false) (congrArg Value.bool b69) ?_
   have g94 := of_decide_eq_false b69
   refine wp_iff rfl ?_
   refine w_skip ?_
   refine then_normal ?_
   refine w_seq ?_
   refine w_lit ?_
   refine wv 105 (pt p 0) ?_
   refine wv 106 (pt p 0) ?_
   refine wv 107 (pt p 4) ?_
   refine wv 108 (pt p 4) ?_
   refine wv 109 (.int .i64 (D.s.round)) ?_ (hr := e_load1 rfl (by kernel_rfl) (H7.cell 0 rfl (by kernel_rfl)))
   refine wv 8 (.int .i64 (D.s.round)) ?_
   refine w_nil ?_
   refine then_normal ?_
   iterate 2 refine w_seq ?_
   refine w_lit ?_
   refine wv 110 (pt p 0) ?_
   refine wv 111 (pt p 0) ?_
   refine wv 112 (pt p 105) ?_
   refine wv 113 (pt t 0) ?_ (hr := e_load1 rfl (by kernel_rfl) (H7.cell 0 rfl (by kernel_rfl)))
   refine wv 114 (pt t 0) ?_
   refine wv 115 (pt t 2) ?_
   refine wv 116 (.slice va D.L.length vc) ?_ (hr := e_load1 rfl (by kernel_rfl) (H7.cell 1 rfl rfl))
   refine wv 117 (.int .i64 ((D.L.length : Int))) ?_
   refine wv 118 (.int .i64 (0)) ?_
   refine w_nil ?_
   refine then_normal ?_
   refine w_block ?_
   refine wp_round [8, 9, 10, 118, 119, 120, 121, 122, 123, 124, 125, 126, 127, 128, 129, 130, 131, 132, 133, 134, 135, 136, 137, 138, 139, 140, 141, 142, 143, 144, 145, 146, 147, 148, 149, 150, 151] (fun F_ W_ m_ => ∃ (i : Nat) (fr : Int), F_ 118 = (.int .i64 ((i : Int))) ∧ F_ 8 = (.int .i64 (fr)) ∧ (i ≤ D.L.length) ∧ (fr = farW D (D.L.take i)) ∧ Sat w [cellC p 83 (rcL t (.slice ua D.P.length uc) D), cellC t 101 ([(.int .i64 (D.f)), (.int .i64 (D.c)), (.slice va D.L.length vc)] : List Value), rowC 143 35 (.slice va D.L.length vc) D.L.length (D.L.flatMap encV), rowC 129 35 (.slice ua D.P.length uc) D.P.length (D.P.flatMap encQ), restC w (rcC p t (.slice va D.L.length vc) (.slice ua D.P.length uc) D).fp] W_ ∧ m_ = D.L.length - i) _ ⟨0, D.s.round, (show ((.int .i64 (0)) : Value) = _ by first | rfl | go_num), (show ((.int .i64 (D.s.round)) : Value) = _ by first | rfl | go_num), (Nat.zero_le _), rfl, H7, rfl⟩ ?_
   rintro g95 w96 _ ⟨i, fr, v98, v99, hi, hfr, H97, rfl⟩
   refine wp_know 118 _ v98 ?_
   refine wp_know 8 _ v99 ?_
   refine w_seq ?_
   refine w_lit ?_
   refine wv 119 (.bool (decide ((i : Int) < (D.L.length : Int)))) ?_
   refine w_nil ?_
   refine then_normal ?_
   refine w_seq ?_
   refine (bsplit (decide ((i : Int) < (D.L.length : Int)))).elim (fun b101 => ?_) (fun b101 => ?_)
   ·have g102 := of_decide_eq_true b101
    refine wp_know 119 (.bool true) (congrArg Value.bool b101) ?_
    have g103 := of_decide_eq_true b101
    refine wp_ift rfl ?_
    refine w_skip ?_
    refine then_normal ?_
    refine w_seq ?_
    refine w_block ?_
    refine w_seq ?_
    refine w_lit ?_
    refine wv 120 (.int .i64 ((i : Int))) ?_
    refine wv 9 (.int .i64 ((i : Int))) ?_
    refine w_nil ?_
    refine then_normal ?_
    refine w_seq ?_
    refine w_lit ?_
    refine wv 121 (pt p 0) ?_
    refine wv 122 (pt p 0) ?_
    refine wv 123 (pt p 105) ?_
    refine wv 124 (pt t 0) ?_ (hr := e_load1 rfl (by kernel_rfl) (H97.cell 0 rfl (by kernel_rfl)))
    refine wv 125 (pt t 0) ?_
    refine wv 126 (pt t 2) ?_
    refine wv 127 (.slice va D.L.length vc) ?_ (hr := e_load1 rfl (by kernel_rfl) (H97.cell 1 rfl rfl))
    refine wv 128 (.int .i64 ((i : Int))) ?_
    obtain ⟨g104, c105, e106⟩ := row_shape (H97.at 2 rfl) (by omega)
    obtain ⟨x107, h108⟩ := get_at (show i < D.L.length by omega)
    refine wv 129 (.pointer (some ⟨g104, 0 + ((i : Int)).toNat * 35, none⟩)) ?_ (hr := e_indexAddrV (E := 143) (by kernel_rfl) (by kernel_rfl) (Nat.le_of_ble_eq_true rfl) rfl e106 rfl (by omega) (by omega))
    refine wv 130 (.pointer (some ⟨g104, 0 + ((i : Int)).toNat * 35 + 1, none⟩)) ?_
    refine wv 131 (.int .i64 (x107.round)) ?_ (hr := e_load1 rfl (by kernel_rfl) (rows_cell (H97.at 2 rfl) e106 encV_len h108 1 rfl (show 0 + ((i : Int)).toNat * 35 + 1 = i * 35 + 1 by omega) (by kernel_rfl)))
    refine wv 10 (.int .i64 (x107.round)) ?_
    refine w_nil ?_
    refine then_normal ?_
    refine w_seq ?_
    refine q_start H97 (by kernel_rfl) (by kernel_rfl) ?_
    refine qv 132 (.int .i64 (x107.round)) ?_
    refine qv 133 (.int .i64 (fr)) ?_
    refine qv 134 (.bool (decide (x107.round > fr))) ?_
    refine qv 135 (.bool (decide (x107.round > fr))) ?_
    refine (bsplit (decide (x107.round > fr))).elim (fun b109 => ?_) (fun b109 => ?_)
    ·have g110 := of_decide_eq_true b109
     refine q_know 135 (.bool true) (congrArg Value.bool b109) ?_
     have g111 := of_decide_eq_true b109
     refine qy 3 135 true 136 (pt p 0) ?_
     refine qy 3 135 true 137 (pt p 0) ?_
     refine qy 3 135 true 138 (pt p 105) ?_
     refine qy 3 135 true 139 (pt t 0) ?_ (hr := fun _ H' => (e_load1 rfl (by kernel_rfl) (H'.cell 0 rfl (by kernel_rfl))))
     refine qy 3 135 true 140 (.int .i64 (x107.round)) ?_
     refine q_call (wantsY 3 135 true rfl (by kernel_rfl) rfl (by kernel_rfl)) (d := 141) (v := (.int .i64 (((heardF x107.round D.L).length : Int)))) rfl (fun _ _ => by kernel_rfl) (fun w' H' => (refHeard_any w' t (.slice va D.L.length vc) D.f D.c D.L (ok_of (by kernel_rfl) (H'.fin [1, 2] (by decide) rfl)) (by omega) x107.round).mono fun _ _ h => ⟨h.1, H'.keepU h.2⟩) ?_
     refine qy 3 135 true 142 (pt p 0) ?_
     refine qy 3 135 true 143 (pt p 0) ?_
     refine qy 3 135 true 144 (pt p 0) ?_
     refine qy 3 135 true 145 (pt p 0) ?_
     refine qy 3 135 true 146 (.int .i64 (D.f)) ?_ (hr := fun _ H' => (e_load1 rfl (by kernel_rfl) (H'.cell 0 rfl (by kernel_rfl))))
     refine qy 3 135 true 147 (.int .i64 (D.f + 1)) ?_ (hr := fun _ H' => (e_int (z := D.f + 1) (by kernel_rfl) (IntWalk.i64_in _ (by omega))))
     refine qy 3 135 true 148 (.bool (decide (((heardF x107.round D.L).length : Int) ≥ (D.f + 1)))) ?_
     refine qv 149 (.bool (decide (((heardF x107.round D.L).length : Int) ≥ (D.f + 1)))) ?_
     refine q_end ?_
     intro w112 H113
     refine then_normal ?_
     refine (bsplit (decide (((heardF x107.round D.L).length : Int) ≥ (D.f + 1)))).elim (fun b114 => ?_) (fun b114 => ?_)
     ·have g115 := of_decide_eq_true b114
      refine wp_know 149 (.bool true) (congrArg Value.bool b114) ?_
      have g116 := of_decide_eq_true b114
      refine wp_ift rfl ?_
      refine w_lit ?_
      refine wv 150 (.int .i64 (x107.round)) ?_
      refine wv 8 (.int .i64 (x107.round)) ?_
      refine w_nil ?_
      refine blk_normal ?_
      refine then_normal ?_
      refine w_lit ?_
      refine wv 151 (.int .i64 ((i : Int) + 1)) ?_ (hr := e_int (z := (i : Int) + 1) (by kernel_rfl) (IntWalk.i64_in _ (by omega)))
      refine wv 118 (.int .i64 ((i : Int) + 1)) ?_
      refine w_nil ?_
      have hW := farW_take h108
      rw [← hfr] at hW
      refine round_back ?_ _ ⟨(i + 1), x107.round, (show ((.int .i64 ((i : Int) + 1)) : Value) = _ by first | rfl | go_num), (show ((.int .i64 (x107.round)) : Value) = _ by first | rfl | go_num), (by omega), (by rw [hW, if_pos ⟨of_decide_eq_true b109, of_decide_eq_true b114⟩]), H113, rfl⟩ (by omega)
      iterate 42 refine same_upd rfl ?_
      exact same_ovr
     ·have g117 := of_decide_eq_false b114
      refine wp_know 149 (.bool false) (congrArg Value.bool b114) ?_
      have g118 := of_decide_eq_false b114
      refine wp_iff rfl ?_
      refine w_skip ?_
      refine blk_normal ?_
      refine then_normal ?_
      refine w_lit ?_
      refine wv 151 (.int .i64 ((i : Int) + 1)) ?_ (hr := e_int (z := (i : Int) + 1) (by kernel_rfl) (IntWalk.i64_in _ (by omega)))
      refine wv 118 (.int .i64 ((i : Int) + 1)) ?_
      refine w_nil ?_
      have hW := farW_take h108
      rw [← hfr] at hW
      refine round_back ?_ _ ⟨(i + 1), fr, (show ((.int .i64 ((i : Int) + 1)) : Value) = _ by first | rfl | go_num), (show ((.int .i64 (fr)) : Value) = _ by first | rfl | go_num), (by omega), (by rw [hW, if_neg (fun q => by have q1 := b114; simp at q1; omega)]), H113, rfl⟩ (by omega)
      iterate 40 refine same_upd rfl ?_
      exact same_ovr
    ·have g119 := of_decide_eq_false b109
     refine q_know 135 (.bool false) (congrArg Value.bool b109) ?_
     have g120 := of_decide_eq_false b109
     iterate 13 refine qn 3 135 true ?_
     refine qv 149 (.bool false) ?_
     refine q_end ?_
     intro w121 H122
     refine then_normal ?_
     refine wp_iff rfl ?_
     refine w_skip ?_
     refine blk_normal ?_
     refine then_normal ?_
     refine w_lit ?_
     refine wv 151 (.int .i64 ((i : Int) + 1)) ?_ (hr := e_int (z := (i : Int) + 1) (by kernel_rfl) (IntWalk.i64_in _ (by omega)))
     refine wv 118 (.int .i64 ((i : Int) + 1)) ?_
     refine w_nil ?_
     have hW := farW_take h108
     rw [← hfr] at hW
     refine round_back ?_ _ ⟨(i + 1), fr, (show ((.int .i64 ((i : Int) + 1)) : Value) = _ by first | rfl | go_num), (show ((.int .i64 (fr)) : Value) = _ by first | rfl | go_num), (by omega), (by rw [hW, if_neg (fun q => by have q1 := b109; simp at q1; omega)]), H122, rfl⟩ (by omega)
     iterate 39 refine same_upd rfl ?_
     exact same_ovr
   ·have g123 := of_decide_eq_false b101
    refine wp_know 119 (.bool false) (congrArg Value.bool b101) ?_
    have g124 := of_decide_eq_false b101
    refine wp_iff rfl ?_
    refine w_exit ?_
    refine then_exit ?_
    refine back_exit ?_
    refine blk_hit ?_
    refine then_normal ?_
    iterate 2 refine w_seq ?_
    rw [List.take_of_length_le (by omega)] at hfr
    refine w_lit ?_
    refine wv 152 (.int .i64 (fr)) ?_
    refine wv 153 (pt p 0) ?_
    refine wv 154 (pt p 0) ?_
    refine wv 155 (pt p 4) ?_
    refine wv 156 (pt p 4) ?_
    refine wv 157 (.int .i64 (D.s.round)) ?_ (hr := e_load1 rfl (by kernel_rfl) (H97.cell 0 rfl (by kernel_rfl)))
    refine wv 158 (.bool (decide (fr > D.s.round))) ?_
    refine w_nil ?_
    refine then_normal ?_
    refine (bsplit (decide (fr > D.s.round))).elim (fun b125 => ?_) (fun b125 => ?_)
    ·have g126 := of_decide_eq_true b125
     refine wp_know 158 (.bool true) (congrArg Value.bool b125) ?_
     have g127 := of_decide_eq_true b125
     refine wp_ift rfl ?_
     refine w_seq ?_
     refine w_lit ?_
     refine wv 159 (pt p 0) ?_
     refine wv 160 (.int .i64 (fr)) ?_
     refine wl_do (wants0 rfl) (fun K128 hK128 => ?_)
     refine d_call (d := 161) rfl (by kernel_rfl) (rcEnter_any w96 p t (.slice va D.L.length vc) (.slice ua D.P.length uc) D (ok_of (by kernel_rfl) (H97.fin [0, 1, 2, 3] (by decide) rfl)) h fr) ?_
     rintro _ w132 ⟨v129, u130, x131, rfl, S133⟩
     have H134 : Sat w [cellC p 83 (rcL t u130 (nextD D fr)), cellC t 101 ([(.int .i64 ((nextD D fr).f)), (.int .i64 ((nextD D fr).c)), v129] : List Value), rowC 143 35 v129 (((nextD D fr).L).length) (((nextD D fr).L).flatMap encV), rowC 129 35 u130 (((nextD D fr).P).length) (((nextD D fr).P).flatMap encQ), restC w (rcC p t (.slice va D.L.length vc) (.slice ua D.P.length uc) D).fp, rowC 102 35 x131 ((nextA D fr).length) ((nextA D fr).flatMap encA)] w132 := (Sat.turnL (L' := [cellC p 83 (rcL t u130 (nextD D fr)), cellC t 101 ([(.int .i64 ((nextD D fr).f)), (.int .i64 ((nextD D fr).c)), v129] : List Value), rowC 143 35 v129 (((nextD D fr).L).length) (((nextD D fr).L).flatMap encV), rowC 129 35 u130 (((nextD D fr).P).length) (((nextD D fr).P).flatMap encQ), rowC 102 35 x131 ((nextA D fr).length) ((nextA D fr).flatMap encA)]) (R := [restC w (rcC p t (.slice va D.L.length vc) (.slice ua D.P.length uc) D).fp]) H97 [0, 1, 2, 3] [4] (by decide) (by kernel_rfl) rfl S133).pick [0, 1, 2, 3, 5, 4] (by decide)
     obtain ⟨a135, c136, rfl⟩ := ownsRow_shape (H134.at 2 rfl)
     obtain ⟨a137, c138, rfl⟩ := ownsRow_shape (H134.at 3 rfl)
     obtain ⟨a139, c140, rfl⟩ := ownsRow_shape (H134.at 5 rfl)
     refine ⟨_, rfl, ?_⟩
     refine hK128 _ _ ?_
     clear hK128 K128
     refine wv 2 (.slice a139 ((nextA D fr).length) c140) ?_
     refine wv 3 (.bool true) ?_
     refine w_nil ?_
     refine then_normal ?_
     refine w_ret ?_
     refine then_ret ?_
     refine end2 rfl (res_tmp (v := (.slice a139 ((nextA D fr).length) c140)) rfl) (res_tmp (v := (.bool true)) rfl) ?_
     have hl := hLe.1 (by have := of_decide_eq_false b69; omega)
     have hg := farW_yes h (hfr ▸ of_decide_eq_true b125)
     rw [← hfr] at hg
     have hlim := (farV_lim h hg.1).2
     rw [← hg.2] at hlim
     exact .inl ⟨(.slice a135 (((nextD D fr).L).length) c136), (.slice a137 (((nextD D fr).P).length) c138), _, nextD D fr, nextA D fr, rfl, (by rw [ruleD_b, if_neg (by omega), if_pos hg.1, ← hg.2, show nextD D fr = toD D fr from if_pos hlim, show nextA D fr = enterA D fr from if_pos hlim]), (H134.pick [0, 1, 2, 3, 5, 4] (by decide)).cast (by kernel_rfl)⟩
    ·have g141 := of_decide_eq_false b125
     refine wp_know 158 (.bool false) (congrArg Value.bool b125) ?_
     have g142 := of_decide_eq_false b125
     refine wp_iff rfl ?_
     refine w_skip ?_
     refine then_normal ?_
     refine w_seq ?_
     refine w_lit ?_
     refine wv 162 (pt p 0) ?_
     refine wv 163 (pt p 0) ?_
     refine wv 164 (pt p 4) ?_
     refine wv 165 (pt p 4) ?_
     refine wv 166 (.int .i64 (D.s.round)) ?_ (hr := e_load1 rfl (by kernel_rfl) (H97.cell 0 rfl (by kernel_rfl)))
     refine wv 11 (.int .i64 (D.s.round)) ?_
     refine w_nil ?_
     refine then_normal ?_
     refine w_seq ?_
     refine w_lit ?_
     refine wv 168 (pt p 0) ?_
     refine wv 169 (.int .i64 (D.s.round)) ?_
     refine wl_do (wants0 rfl) (fun K143 hK143 => ?_)
     refine d_call (d := 170) rfl (by kernel_rfl) (rcProposal_any w96 p t (.slice va D.L.length vc) (.slice ua D.P.length uc) D (ok_of (by kernel_rfl) (H97.fin [0, 1, 2, 3] (by decide) rfl)) h D.s.round) ?_
     rintro _ w144 ⟨rfl, u146⟩
     have H145 := H97.keepU u146
     refine ⟨_, rfl, ?_⟩
     refine hK143 _ _ ?_
     clear hK143 K143
     refine wv 167 (.tuple #[(.agg ⟨(([(.int .i64 (zP D.P D.s.round)), (.int .i64 ((getP D.P D.s.round).valid))] : List Value) ++ hc (getP D.P D.s.round).h ++ ([(.bool ((getP D.P D.s.round).ok))] : List Value))⟩), (.bool (hasP D.P D.s.round))]) ?_
     refine wv 171 (.agg ⟨(([(.int .i64 (zP D.P D.s.round)), (.int .i64 ((getP D.P D.s.round).valid))] : List Value) ++ hc (getP D.P D.s.round).h ++ ([(.bool ((getP D.P D.s.round).ok))] : List Value))⟩) ?_
     refine wv 172 (.bool (hasP D.P D.s.round)) ?_
     refine wl_do (wants0 rfl) (fun K147 hK147 => ?_)
     refine d_alloc (zs := (([(.int .i64 (0)), (.int .i64 (0))] : List Value) ++ hc hash0 ++ ([(.bool false)] : List Value))) (z := (.agg ⟨(([(.int .i64 (0)), (.int .i64 (0))] : List Value) ++ hc hash0 ++ ([(.bool false)] : List Value))⟩)) rfl H145 (by kernel_rfl) (by kernel_rfl) ?_
     intro b148 w149 (H150 : Sat w [cellC p 83 (rcL t (.slice ua D.P.length uc) D), cellC t 101 ([(.int .i64 (D.f)), (.int .i64 (D.c)), (.slice va D.L.length vc)] : List Value), rowC 143 35 (.slice va D.L.length vc) D.L.length (D.L.flatMap encV), rowC 129 35 (.slice ua D.P.length uc) D.P.length (D.P.flatMap encQ), restC w (rcC p t (.slice va D.L.length vc) (.slice ua D.P.length uc) D).fp, cellC b148 129 (([(.int .i64 (0)), (.int .i64 (0))] : List Value) ++ hc hash0 ++ ([(.bool false)] : List Value))] w149)
     refine hK147 _ _ ?_
     clear hK147 K147
     refine wl_do (wants0 rfl) (fun K151 hK151 => ?_)
     refine d_storeX (vs := (([(.int .i64 (zP D.P D.s.round)), (.int .i64 ((getP D.P D.s.round).valid))] : List Value) ++ hc (getP D.P D.s.round).h ++ ([(.bool ((getP D.P D.s.round).ok))] : List Value))) (cs' := (([(.int .i64 (zP D.P D.s.round)), (.int .i64 ((getP D.P D.s.round).valid))] : List Value) ++ hc (getP D.P D.s.round).h ++ ([(.bool ((getP D.P D.s.round).ok))] : List Value))) rfl H150 5 rfl rfl rfl rfl (by kernel_rfl) (Nat.le_of_ble_eq_true (by kernel_rfl)) (Nat.le_of_ble_eq_true (by kernel_rfl)) (by kernel_rfl) (by kernel_rfl) ?_
     intro w152 (H153 : Sat w [cellC p 83 (rcL t (.slice ua D.P.length uc) D), cellC t 101 ([(.int .i64 (D.f)), (.int .i64 (D.c)), (.slice va D.L.length vc)] : List Value), rowC 143 35 (.slice va D.L.length vc) D.L.length (D.L.flatMap encV), rowC 129 35 (.slice ua D.P.length uc) D.P.length (D.P.flatMap encQ), restC w (rcC p t (.slice va D.L.length vc) (.slice ua D.P.length uc) D).fp, cellC b148 129 (([(.int .i64 (zP D.P D.s.round)), (.int .i64 ((getP D.P D.s.round).valid))] : List Value) ++ hc (getP D.P D.s.round).h ++ ([(.bool ((getP D.P D.s.round).ok))] : List Value))] w152)
     refine hK151 _ _ ?_
     clear hK151 K151
     refine wv 13 (.bool (hasP D.P D.s.round)) ?_
     refine w_nil ?_
     refine then_normal ?_
     refine w_seq ?_
     refine wp_meetR [173, 174, 175, 176, 177, 178, 179, 180, 181] (fun G_ W_ => G_ 181 = (.bool (c3 D)) ∧ Sat w [cellC p 83 (rcL t (.slice ua D.P.length uc) D), cellC t 101 ([(.int .i64 (D.f)), (.int .i64 (D.c)), (.slice va D.L.length vc)] : List Value), rowC 143 35 (.slice va D.L.length vc) D.L.length (D.L.flatMap encV), rowC 129 35 (.slice ua D.P.length uc) D.P.length (D.P.flatMap encQ), restC w (rcC p t (.slice va D.L.length vc) (.slice ua D.P.length uc) D).fp, cellC b148 129 (([(.int .i64 (zP D.P D.s.round)), (.int .i64 ((getP D.P D.s.round).valid))] : List Value) ++ hc (getP D.P D.s.round).h ++ ([(.bool ((getP D.P D.s.round).ok))] : List Value))] W_) ?_ ?_
     ·refine w_lit ?_
      refine wv 173 (pt p 0) ?_
      refine wv 174 (pt p 0) ?_
      refine wv 175 (pt p 4) ?_
      refine wv 176 (pt p 5) ?_
      refine wv 177 (.int .i64 (D.s.step)) ?_ (hr := e_load1 rfl (by kernel_rfl) (H153.cell 0 rfl (by kernel_rfl)))
      refine wv 178 (.bool (decide (D.s.step = 1))) ?_
      refine wv 179 (.bool (decide (D.s.step = 1))) ?_
      refine (bsplit (decide (D.s.step = 1))).elim (fun b156 => ?_) (fun b156 => ?_)
      ·have g157 := of_decide_eq_true b156
       refine wl_know 179 (.bool true) (congrArg Value.bool b156) ?_
       have g158 := of_decide_eq_true b156
       refine wy 6 179 true 180 (.bool (hasP D.P D.s.round)) ?_
       refine wv 181 (.bool (hasP D.P D.s.round)) ?_
       refine w_nil ?_
       refine meetR_at ?_ ⟨(congrArg Value.bool (show (hasP D.P D.s.round) = (c3 D) by simp [c3, b156])), H153⟩
       exact (same_upd rfl (same_upd rfl (same_upd rfl (same_upd rfl (same_upd rfl (same_upd rfl (same_upd rfl (same_upd rfl (same_upd rfl (same_upd rfl (same_refl)))))))))))
      ·have g159 := of_decide_eq_false b156
       refine wl_know 179 (.bool false) (congrArg Value.bool b156) ?_
       have g160 := of_decide_eq_false b156
       refine wn 6 179 true ?_
       refine wv 181 (.bool false) ?_
       refine w_nil ?_
       refine meetR_at ?_ ⟨(congrArg Value.bool (show false = (c3 D) by simp [c3, b156])), H153⟩
       exact (same_upd rfl (same_upd rfl (same_upd rfl (same_upd rfl (same_upd rfl (same_upd rfl (same_upd rfl (same_upd rfl (same_upd rfl (same_upd rfl (same_refl)))))))))))
     ·rintro f161 w162 ⟨v164, H163⟩
      refine wp_know 181 _ v164 ?_
      refine (bsplit (c3 D)).elim (fun b165 => ?_) (fun b165 => ?_)
      ·refine wp_know 181 (.bool true) (congrArg Value.bool b165) ?_
       refine wp_ift rfl ?_
       iterate 2 refine w_seq ?_
       refine w_lit ?_
       refine wv 182 (pt b148 1) ?_
       refine wv 183 (.int .i64 ((getP D.P D.s.round).valid)) ?_ (hr := e_load1 rfl (by kernel_rfl) (H163.cell 5 rfl (by kernel_rfl)))
       refine wv 184 (.bool (decide (((getP D.P D.s.round).valid) < 0))) ?_
       refine w_nil ?_
       refine then_normal ?_
       refine (bsplit (decide (((getP D.P D.s.round).valid) < 0))).elim (fun b166 => ?_) (fun b166 => ?_)
       ·have g167 := of_decide_eq_true b166
        refine wp_know 184 (.bool true) (congrArg Value.bool b166) ?_
        have g168 := of_decide_eq_true b166
        refine wp_ift rfl ?_
        refine w_seq ?_
        refine wp_meetR [185, 186, 187, 188, 189, 190, 191, 192, 193, 194, 195, 196, 197, 198, 199, 200, 201, 202, 203, 204] (fun G_ W_ => G_ 204 = (.bool ((getP D.P D.s.round).ok && (decide (D.s.lr < 0) || decide (D.s.locked = (getP D.P D.s.round).h)))) ∧ Sat w [cellC p 83 (rcL t (.slice ua D.P.length uc) D), cellC t 101 ([(.int .i64 (D.f)), (.int .i64 (D.c)), (.slice va D.L.length vc)] : List Value), rowC 143 35 (.slice va D.L.length vc) D.L.length (D.L.flatMap encV), rowC 129 35 (.slice ua D.P.length uc) D.P.length (D.P.flatMap encQ), restC w (rcC p t (.slice va D.L.length vc) (.slice ua D.P.length uc) D).fp, cellC b148 129 (([(.int .i64 (zP D.P D.s.round)), (.int .i64 ((getP D.P D.s.round).valid))] : List Value) ++ hc (getP D.P D.s.round).h ++ ([(.bool ((getP D.P D.s.round).ok))] : List Value))] W_) ?_ ?_
        ·refine q_start H163 (by kernel_rfl) (by kernel_rfl) ?_
         refine qv 185 (pt b148 34) ?_
         refine qv 186 (.bool ((getP D.P D.s.round).ok)) ?_ (hr := fun _ H' => (e_load1 rfl (by kernel_rfl) (H'.cell 5 rfl (by kernel_rfl))))
         refine qv 187 (.bool ((getP D.P D.s.round).ok)) ?_
         refine (bsplit ((getP D.P D.s.round).ok)).elim (fun b170 => ?_) (fun b170 => ?_)
         ·refine q_know 187 (.bool true) (congrArg Value.bool b170) ?_
          refine qy 2 187 true 188 (pt p 0) ?_
          refine qy 2 187 true 189 (pt p 0) ?_
          refine qy 2 187 true 190 (pt p 4) ?_
          refine qy 2 187 true 191 (pt p 6) ?_
          refine qy 2 187 true 192 (.int .i64 (D.s.lr)) ?_ (hr := fun _ H' => (e_load1 rfl (by kernel_rfl) (H'.cell 0 rfl (by kernel_rfl))))
          refine qy 2 187 true 193 (.bool (decide (D.s.lr < 0))) ?_
          refine qy 2 187 true 194 (.bool (decide (D.s.lr < 0))) ?_
          refine (bsplit (decide (D.s.lr < 0))).elim (fun b171 => ?_) (fun b171 => ?_)
          ·have g172 := of_decide_eq_true b171
           refine q_know 194 (.bool true) (congrArg Value.bool b171) ?_
           have g173 := of_decide_eq_true b171
           iterate 8 refine qn 9 194 false ?_
           refine qy 2 187 true 203 (.bool true) ?_
           refine qv 204 (.bool true) ?_
           refine q_end ?_
           intro w174 H175
           refine meetR_at ?_ ⟨(congrArg Value.bool (show true = ((getP D.P D.s.round).ok && (decide (D.s.lr < 0) || decide (D.s.locked = (getP D.P D.s.round).h))) by simp [b170, b171])), H175⟩
           exact (same_upd rfl (same_upd rfl (same_upd rfl (same_upd rfl (same_upd rfl (same_upd rfl (same_upd rfl (same_upd rfl (same_upd rfl (same_upd rfl (same_upd rfl (same_upd rfl (same_upd rfl (same_upd rfl (same_upd rfl (same_upd rfl (same_upd rfl (same_upd rfl (same_upd rfl (same_upd rfl (same_upd rfl (same_upd rfl (same_refl)))))))))))))))))))))))
          ·have g176 := of_decide_eq_false b171
           refine q_know 194 (.bool false) (congrArg Value.bool b171) ?_
           have g177 := of_decide_eq_false b171
           refine qy 9 194 false 195 (pt p 0) ?_
           refine qy 9 194 false 196 (pt p 0) ?_
           refine qy 9 194 false 197 (pt p 4) ?_
           refine qy 9 194 false 198 (pt p 8) ?_
           refine qy 9 194 false 199 (.agg ⟨(hc D.s.locked)⟩) ?_ (hr := fun _ H' => (e_loadN (vs := (hc D.s.locked)) rfl (by kernel_rfl) (by kernel_rfl) (by exact Nat.le_of_ble_eq_true (by kernel_rfl)) (H'.at 0 rfl) (by kernel_rfl)))
           refine qy 9 194 false 200 (pt b148 2) ?_
           refine qy 9 194 false 201 (.agg ⟨(hc (getP D.P D.s.round).h)⟩) ?_ (hr := fun _ H' => (e_loadN (vs := (hc (getP D.P D.s.round).h)) rfl (by kernel_rfl) (by kernel_rfl) (by exact Nat.le_of_ble_eq_true (by kernel_rfl)) (H'.at 5 rfl) (by kernel_rfl)))
           refine qy 9 194 false 202 (.bool (decide (D.s.locked = ((getP D.P D.s.round).h)))) ?_ (hr := fun _ H' => (e_eqHash D.s.locked ((getP D.P D.s.round).h) rfl rfl))
           refine qy 2 187 true 203 (.bool (decide (D.s.locked = ((getP D.P D.s.round).h)))) ?_
           refine qv 204 (.bool (decide (D.s.locked = ((getP D.P D.s.round).h)))) ?_
           refine q_end ?_
           intro w178 H179
           refine meetR_at ?_ ⟨(congrArg Value.bool (show (decide (D.s.locked = ((getP D.P D.s.round).h))) = ((getP D.P D.s.round).ok && (decide (D.s.lr < 0) || decide (D.s.locked = (getP D.P D.s.round).h))) by simp [b170, b171])), H179⟩
           exact (same_upd rfl (same_upd rfl (same_upd rfl (same_upd rfl (same_upd rfl (same_upd rfl (same_upd rfl (same_upd rfl (same_upd rfl (same_upd rfl (same_upd rfl (same_upd rfl (same_upd rfl (same_upd rfl (same_upd rfl (same_upd rfl (same_upd rfl (same_upd rfl (same_upd rfl (same_upd rfl (same_upd rfl (same_upd rfl (same_refl)))))))))))))))))))))))
         ·refine q_know 187 (.bool false) (congrArg Value.bool b170) ?_
          iterate 7 refine qn 2 187 true ?_
          iterate 8 refine qu 9 194 false ?_
          refine qn 2 187 true ?_
          refine qv 204 (.bool false) ?_
          refine q_end ?_
          intro w180 H181
          refine meetR_at ?_ ⟨(congrArg Value.bool (show false = ((getP D.P D.s.round).ok && (decide (D.s.lr < 0) || decide (D.s.locked = (getP D.P D.s.round).h))) by simp [b170])), H181⟩
          exact (same_upd rfl (same_upd rfl (same_upd rfl (same_upd rfl (same_upd rfl (same_upd rfl (same_upd rfl (same_upd rfl (same_upd rfl (same_upd rfl (same_upd rfl (same_upd rfl (same_upd rfl (same_upd rfl (same_upd rfl (same_upd rfl (same_upd rfl (same_upd rfl (same_upd rfl (same_upd rfl (same_upd rfl (same_refl))))))))))))))))))))))
        ·rintro f182 w183 ⟨v185, H184⟩
         refine wp_know 204 _ v185 ?_
         refine (bsplit ((getP D.P D.s.round).ok && (decide (D.s.lr < 0) || decide (D.s.locked = (getP D.P D.s.round).h)))).elim (fun b186 => ?_) (fun b186 => ?_)
         ·refine wp_know 204 (.bool true) (congrArg Value.bool b186) ?_
          refine wp_ift rfl ?_
          refine w_seq ?_
          refine w_lit ?_
          refine wv 205 (pt p 0) ?_
          refine wv 206 (pt b148 2) ?_
          refine wv 207 (.agg ⟨(hc (getP D.P D.s.round).h)⟩) ?_ (hr := e_loadN (vs := (hc (getP D.P D.s.round).h)) rfl (by kernel_rfl) (by kernel_rfl) (by exact Nat.le_of_ble_eq_true (by kernel_rfl)) (H184.at 5 rfl) (by kernel_rfl))
          refine wl_do (wants0 rfl) (fun K187 hK187 => ?_)
          refine d_call (d := 208) rfl (by kernel_rfl) (rcPrevote_any w183 p t (.slice va D.L.length vc) (.slice ua D.P.length uc) D (ok_of (by kernel_rfl) (H184.fin [0, 1, 2, 3] (by decide) rfl)) h ((getP D.P D.s.round).h)) ?_
          rintro _ w191 ⟨v188, u189, x190, rfl, S192⟩
          have H193 : Sat w [cellC p 83 (rcL t u189 (ownV D 1 2 ((getP D.P D.s.round).h))), cellC t 101 ([(.int .i64 ((ownV D 1 2 ((getP D.P D.s.round).h)).f)), (.int .i64 ((ownV D 1 2 ((getP D.P D.s.round).h)).c)), v188] : List Value), rowC 143 35 v188 (((ownV D 1 2 ((getP D.P D.s.round).h)).L).length) (((ownV D 1 2 ((getP D.P D.s.round).h)).L).flatMap encV), rowC 129 35 u189 (((ownV D 1 2 ((getP D.P D.s.round).h)).P).length) (((ownV D 1 2 ((getP D.P D.s.round).h)).P).flatMap encQ), restC w (rcC p t (.slice va D.L.length vc) (.slice ua D.P.length uc) D).fp, cellC b148 129 (([(.int .i64 (zP D.P D.s.round)), (.int .i64 ((getP D.P D.s.round).valid))] : List Value) ++ hc (getP D.P D.s.round).h ++ ([(.bool ((getP D.P D.s.round).ok))] : List Value)), rowC 102 35 x190 ((ownA D 2 ((getP D.P D.s.round).h)).length) ((ownA D 2 ((getP D.P D.s.round).h)).flatMap encA)] w191 := (Sat.turnL (L' := [cellC p 83 (rcL t u189 (ownV D 1 2 ((getP D.P D.s.round).h))), cellC t 101 ([(.int .i64 ((ownV D 1 2 ((getP D.P D.s.round).h)).f)), (.int .i64 ((ownV D 1 2 ((getP D.P D.s.round).h)).c)), v188] : List Value), rowC 143 35 v188 (((ownV D 1 2 ((getP D.P D.s.round).h)).L).length) (((ownV D 1 2 ((getP D.P D.s.round).h)).L).flatMap encV), rowC 129 35 u189 (((ownV D 1 2 ((getP D.P D.s.round).h)).P).length) (((ownV D 1 2 ((getP D.P D.s.round).h)).P).flatMap encQ), rowC 102 35 x190 ((ownA D 2 ((getP D.P D.s.round).h)).length) ((ownA D 2 ((getP D.P D.s.round).h)).flatMap encA)]) (R := [restC w (rcC p t (.slice va D.L.length vc) (.slice ua D.P.length uc) D).fp, cellC b148 129 (([(.int .i64 (zP D.P D.s.round)), (.int .i64 ((getP D.P D.s.round).valid))] : List Value) ++ hc (getP D.P D.s.round).h ++ ([(.bool ((getP D.P D.s.round).ok))] : List Value))]) H184 [0, 1, 2, 3] [4, 5] (by decide) (by kernel_rfl) rfl S192).pick [0, 1, 2, 3, 5, 6, 4] (by decide)
          obtain ⟨a194, c195, rfl⟩ := ownsRow_shape (H193.at 2 rfl)
          obtain ⟨a196, c197, rfl⟩ := ownsRow_shape (H193.at 3 rfl)
          obtain ⟨a198, c199, rfl⟩ := ownsRow_shape (H193.at 6 rfl)
          refine ⟨_, rfl, ?_⟩
          refine hK187 _ _ ?_
          clear hK187 K187
          refine wv 2 (.slice a198 ((ownA D 2 ((getP D.P D.s.round).h)).length) c199) ?_
          refine wv 3 (.bool true) ?_
          refine w_nil ?_
          refine then_normal ?_
          refine w_ret ?_
          iterate 3 refine then_ret ?_
          refine end2 rfl (res_tmp (v := (.slice a198 ((ownA D 2 ((getP D.P D.s.round).h)).length) c199)) rfl) (res_tmp (v := (.bool true)) rfl) ?_
          have hl := hLe.1 (by have := of_decide_eq_false b69; omega)
          have hg := farW_no h (hfr ▸ of_decide_eq_false b125)
          have hc : chooseD D (getP D.P D.s.round) = ((getP D.P D.s.round).h, true) := by
           have q1 := of_decide_eq_true b166
           have q3 := b186
           unfold chooseD mayB; rw [if_neg (by omega)]
           simp only [if_neg (show ¬ 0 ≤ (getP D.P D.s.round).valid by omega)] at q3 ⊢; rw [if_pos (by simpa using q3)]
          exact .inl ⟨(.slice a194 (((ownV D 1 2 ((getP D.P D.s.round).h)).L).length) c195), (.slice a196 (((ownV D 1 2 ((getP D.P D.s.round).h)).P).length) c197), _, ownV D 1 2 (getP D.P D.s.round).h, ownA D 2 (getP D.P D.s.round).h, rfl, (by rw [ruleD_b, if_neg (by omega), if_neg hg, hc, if_pos (by rw [b165]; rfl)]), (H193.pick [0, 1, 2, 3, 6, 4] (by decide)).cast (by kernel_rfl)⟩
         ·refine wp_know 204 (.bool false) (congrArg Value.bool b186) ?_
          refine wp_iff rfl ?_
          refine w_skip ?_
          refine then_normal ?_
          refine w_seq ?_
          refine w_lit ?_
          refine wv 209 (pt p 0) ?_
          refine wv 210 (.agg ⟨(hc hash0)⟩) ?_
          refine wl_do (wants0 rfl) (fun K200 hK200 => ?_)
          refine d_call (d := 211) rfl (by kernel_rfl) (rcPrevote_any w183 p t (.slice va D.L.length vc) (.slice ua D.P.length uc) D (ok_of (by kernel_rfl) (H184.fin [0, 1, 2, 3] (by decide) rfl)) h hash0) ?_
          rintro _ w204 ⟨v201, u202, x203, rfl, S205⟩
          have H206 : Sat w [cellC p 83 (rcL t u202 (ownV D 1 2 hash0)), cellC t 101 ([(.int .i64 ((ownV D 1 2 hash0).f)), (.int .i64 ((ownV D 1 2 hash0).c)), v201] : List Value), rowC 143 35 v201 (((ownV D 1 2 hash0).L).length) (((ownV D 1 2 hash0).L).flatMap encV), rowC 129 35 u202 (((ownV D 1 2 hash0).P).length) (((ownV D 1 2 hash0).P).flatMap encQ), restC w (rcC p t (.slice va D.L.length vc) (.slice ua D.P.length uc) D).fp, cellC b148 129 (([(.int .i64 (zP D.P D.s.round)), (.int .i64 ((getP D.P D.s.round).valid))] : List Value) ++ hc (getP D.P D.s.round).h ++ ([(.bool ((getP D.P D.s.round).ok))] : List Value)), rowC 102 35 x203 ((ownA D 2 hash0).length) ((ownA D 2 hash0).flatMap encA)] w204 := (Sat.turnL (L' := [cellC p 83 (rcL t u202 (ownV D 1 2 hash0)), cellC t 101 ([(.int .i64 ((ownV D 1 2 hash0).f)), (.int .i64 ((ownV D 1 2 hash0).c)), v201] : List Value), rowC 143 35 v201 (((ownV D 1 2 hash0).L).length) (((ownV D 1 2 hash0).L).flatMap encV), rowC 129 35 u202 (((ownV D 1 2 hash0).P).length) (((ownV D 1 2 hash0).P).flatMap encQ), rowC 102 35 x203 ((ownA D 2 hash0).length) ((ownA D 2 hash0).flatMap encA)]) (R := [restC w (rcC p t (.slice va D.L.length vc) (.slice ua D.P.length uc) D).fp, cellC b148 129 (([(.int .i64 (zP D.P D.s.round)), (.int .i64 ((getP D.P D.s.round).valid))] : List Value) ++ hc (getP D.P D.s.round).h ++ ([(.bool ((getP D.P D.s.round).ok))] : List Value))]) H184 [0, 1, 2, 3] [4, 5] (by decide) (by kernel_rfl) rfl S205).pick [0, 1, 2, 3, 5, 6, 4] (by decide)
          obtain ⟨a207, c208, rfl⟩ := ownsRow_shape (H206.at 2 rfl)
          obtain ⟨a209, c210, rfl⟩ := ownsRow_shape (H206.at 3 rfl)
          obtain ⟨a211, c212, rfl⟩ := ownsRow_shape (H206.at 6 rfl)
          refine ⟨_, rfl, ?_⟩
          refine hK200 _ _ ?_
          clear hK200 K200
          refine wv 2 (.slice a211 ((ownA D 2 hash0).length) c212) ?_
          refine wv 3 (.bool true) ?_
          refine w_nil ?_
          refine then_normal ?_
          refine w_ret ?_
          iterate 2 refine then_ret ?_
          refine end2 rfl (res_tmp (v := (.slice a211 ((ownA D 2 hash0).length) c212)) rfl) (res_tmp (v := (.bool true)) rfl) ?_
          have hl := hLe.1 (by have := of_decide_eq_false b69; omega)
          have hg := farW_no h (hfr ▸ of_decide_eq_false b125)
          have hc : chooseD D (getP D.P D.s.round) = (hash0, true) := by
           have q1 := of_decide_eq_true b166
           have q3 := b186
           unfold chooseD mayB; rw [if_neg (by omega)]
           simp only [if_neg (show ¬ 0 ≤ (getP D.P D.s.round).valid by omega)] at q3 ⊢; rw [if_neg (by simpa using q3)]
          exact .inl ⟨(.slice a207 (((ownV D 1 2 hash0).L).length) c208), (.slice a209 (((ownV D 1 2 hash0).P).length) c210), _, ownV D 1 2 hash0, ownA D 2 hash0, rfl, (by rw [ruleD_b, if_neg (by omega), if_neg hg, hc, if_pos (by rw [b165]; rfl)]), (H206.pick [0, 1, 2, 3, 6, 4] (by decide)).cast (by kernel_rfl)⟩
       ·have g213 := of_decide_eq_false b166
        refine wp_know 184 (.bool false) (congrArg Value.bool b166) ?_
        have g214 := of_decide_eq_false b166
        refine wp_iff rfl ?_
        refine w_skip ?_
        refine then_normal ?_
        refine w_seq ?_
        refine q_start H163 (by kernel_rfl) (by kernel_rfl) ?_
        refine qv 212 (pt p 0) ?_
        refine qv 213 (pt p 0) ?_
        refine qv 214 (pt p 105) ?_
        refine qv 215 (pt t 0) ?_ (hr := fun _ H' => (e_load1 rfl (by kernel_rfl) (H'.cell 0 rfl (by kernel_rfl))))
        refine qv 216 (pt b148 1) ?_
        refine qv 217 (.int .i64 ((getP D.P D.s.round).valid)) ?_ (hr := fun _ H' => (e_load1 rfl (by kernel_rfl) (H'.cell 5 rfl (by kernel_rfl))))
        refine qv 218 (pt b148 2) ?_
        refine qv 219 (.agg ⟨(hc (getP D.P D.s.round).h)⟩) ?_ (hr := fun _ H' => (e_loadN (vs := (hc (getP D.P D.s.round).h)) rfl (by kernel_rfl) (by kernel_rfl) (by exact Nat.le_of_ble_eq_true (by kernel_rfl)) (H'.at 5 rfl) (by kernel_rfl)))
        refine q_call (wants0 rfl) (d := 220) (v := (.int .i64 (forV D.L 1 ((getP D.P D.s.round).valid) ((getP D.P D.s.round).h)))) rfl (fun _ _ => by kernel_rfl) (fun w' H' => (refFor_any w' t (.slice va D.L.length vc) D.f D.c D.L (ok_of (by kernel_rfl) (H'.fin [1, 2] (by decide) rfl)) (by omega) 1 ((getP D.P D.s.round).valid) ((getP D.P D.s.round).h)).mono fun _ _ h => ⟨h.1, H'.keepU h.2⟩) ?_
        refine qv 221 (.int .i64 (2 * D.f + 1)) ?_
        refine qv 222 (.bool (decide ((forV D.L 1 ((getP D.P D.s.round).valid) ((getP D.P D.s.round).h)) ≥ (2 * D.f + 1)))) ?_
        refine q_end ?_
        intro w215 H216
        refine then_normal ?_
        refine (bsplit (decide ((forV D.L 1 ((getP D.P D.s.round).valid) ((getP D.P D.s.round).h)) ≥ (2 * D.f + 1)))).elim (fun b217 => ?_) (fun b217 => ?_)
        ·have g218 := of_decide_eq_true b217
         refine wp_know 222 (.bool true) (congrArg Value.bool b217) ?_
         have g219 := of_decide_eq_true b217
         refine wp_ift rfl ?_
         refine w_seq ?_
         refine wp_meetR [223, 224, 225, 226, 227, 228, 229, 230, 231, 232, 233, 234, 235, 236, 237, 238, 239, 240, 241, 242, 243, 244] (fun G_ W_ => G_ 244 = (.bool ((getP D.P D.s.round).ok && (decide (D.s.lr ≤ (getP D.P D.s.round).valid) || decide (D.s.locked = (getP D.P D.s.round).h)))) ∧ Sat w [cellC p 83 (rcL t (.slice ua D.P.length uc) D), cellC t 101 ([(.int .i64 (D.f)), (.int .i64 (D.c)), (.slice va D.L.length vc)] : List Value), rowC 143 35 (.slice va D.L.length vc) D.L.length (D.L.flatMap encV), rowC 129 35 (.slice ua D.P.length uc) D.P.length (D.P.flatMap encQ), restC w (rcC p t (.slice va D.L.length vc) (.slice ua D.P.length uc) D).fp, cellC b148 129 (([(.int .i64 (zP D.P D.s.round)), (.int .i64 ((getP D.P D.s.round).valid))] : List Value) ++ hc (getP D.P D.s.round).h ++ ([(.bool ((getP D.P D.s.round).ok))] : List Value))] W_) ?_ ?_
         ·refine q_start H216 (by kernel_rfl) (by kernel_rfl) ?_
          refine qv 223 (pt b148 34) ?_
          refine qv 224 (.bool ((getP D.P D.s.round).ok)) ?_ (hr := fun _ H' => (e_load1 rfl (by kernel_rfl) (H'.cell 5 rfl (by kernel_rfl))))
          refine qv 225 (.bool ((getP D.P D.s.round).ok)) ?_
          refine (bsplit ((getP D.P D.s.round).ok)).elim (fun b221 => ?_) (fun b221 => ?_)
          ·refine q_know 225 (.bool true) (congrArg Value.bool b221) ?_
           refine qy 2 225 true 226 (pt p 0) ?_
           refine qy 2 225 true 227 (pt p 0) ?_
           refine qy 2 225 true 228 (pt p 4) ?_
           refine qy 2 225 true 229 (pt p 6) ?_
           refine qy 2 225 true 230 (.int .i64 (D.s.lr)) ?_ (hr := fun _ H' => (e_load1 rfl (by kernel_rfl) (H'.cell 0 rfl (by kernel_rfl))))
           refine qy 2 225 true 231 (pt b148 1) ?_
           refine qy 2 225 true 232 (.int .i64 ((getP D.P D.s.round).valid)) ?_ (hr := fun _ H' => (e_load1 rfl (by kernel_rfl) (H'.cell 5 rfl (by kernel_rfl))))
           refine qy 2 225 true 233 (.bool (decide (D.s.lr ≤ ((getP D.P D.s.round).valid)))) ?_
           refine qy 2 225 true 234 (.bool (decide (D.s.lr ≤ ((getP D.P D.s.round).valid)))) ?_
           refine (bsplit (decide (D.s.lr ≤ ((getP D.P D.s.round).valid)))).elim (fun b222 => ?_) (fun b222 => ?_)
           ·have g223 := of_decide_eq_true b222
            refine q_know 234 (.bool true) (congrArg Value.bool b222) ?_
            have g224 := of_decide_eq_true b222
            iterate 8 refine qn 11 234 false ?_
            refine qy 2 225 true 243 (.bool true) ?_
            refine qv 244 (.bool true) ?_
            refine q_end ?_
            intro w225 H226
            refine meetR_at ?_ ⟨(congrArg Value.bool (show true = ((getP D.P D.s.round).ok && (decide (D.s.lr ≤ (getP D.P D.s.round).valid) || decide (D.s.locked = (getP D.P D.s.round).h))) by simp [b221, b222])), H226⟩
            exact (same_upd rfl (same_upd rfl (same_upd rfl (same_upd rfl (same_upd rfl (same_upd rfl (same_upd rfl (same_upd rfl (same_upd rfl (same_upd rfl (same_upd rfl (same_upd rfl (same_upd rfl (same_upd rfl (same_upd rfl (same_upd rfl (same_upd rfl (same_upd rfl (same_upd rfl (same_upd rfl (same_upd rfl (same_upd rfl (same_upd rfl (same_upd rfl (same_refl)))))))))))))))))))))))))
           ·have g227 := of_decide_eq_false b222
            refine q_know 234 (.bool false) (congrArg Value.bool b222) ?_
            have g228 := of_decide_eq_false b222
            refine qy 11 234 false 235 (pt p 0) ?_
            refine qy 11 234 false 236 (pt p 0) ?_
            refine qy 11 234 false 237 (pt p 4) ?_
            refine qy 11 234 false 238 (pt p 8) ?_
            refine qy 11 234 false 239 (.agg ⟨(hc D.s.locked)⟩) ?_ (hr := fun _ H' => (e_loadN (vs := (hc D.s.locked)) rfl (by kernel_rfl) (by kernel_rfl) (by exact Nat.le_of_ble_eq_true (by kernel_rfl)) (H'.at 0 rfl) (by kernel_rfl)))
            refine qy 11 234 false 240 (pt b148 2) ?_
            refine qy 11 234 false 241 (.agg ⟨(hc (getP D.P D.s.round).h)⟩) ?_ (hr := fun _ H' => (e_loadN (vs := (hc (getP D.P D.s.round).h)) rfl (by kernel_rfl) (by kernel_rfl) (by exact Nat.le_of_ble_eq_true (by kernel_rfl)) (H'.at 5 rfl) (by kernel_rfl)))
            refine qy 11 234 false 242 (.bool (decide (D.s.locked = ((getP D.P D.s.round).h)))) ?_ (hr := fun _ H' => (e_eqHash D.s.locked ((getP D.P D.s.round).h) rfl rfl))
            refine qy 2 225 true 243 (.bool (decide (D.s.locked = ((getP D.P D.s.round).h)))) ?_
            refine qv 244 (.bool (decide (D.s.locked = ((getP D.P D.s.round).h)))) ?_
            refine q_end ?_
            intro w229 H230
            refine meetR_at ?_ ⟨(congrArg Value.bool (show (decide (D.s.locked = ((getP D.P D.s.round).h))) = ((getP D.P D.s.round).ok && (decide (D.s.lr ≤ (getP D.P D.s.round).valid) || decide (D.s.locked = (getP D.P D.s.round).h))) by simp [b221, b222])), H230⟩
            exact (same_upd rfl (same_upd rfl (same_upd rfl (same_upd rfl (same_upd rfl (same_upd rfl (same_upd rfl (same_upd rfl (same_upd rfl (same_upd rfl (same_upd rfl (same_upd rfl (same_upd rfl (same_upd rfl (same_upd rfl (same_upd rfl (same_upd rfl (same_upd rfl (same_upd rfl (same_upd rfl (same_upd rfl (same_upd rfl (same_upd rfl (same_upd rfl (same_refl)))))))))))))))))))))))))
          ·refine q_know 225 (.bool false) (congrArg Value.bool b221) ?_
           iterate 9 refine qn 2 225 true ?_
           iterate 8 refine qu 11 234 false ?_
           refine qn 2 225 true ?_
           refine qv 244 (.bool false) ?_
           refine q_end ?_
           intro w231 H232
           refine meetR_at ?_ ⟨(congrArg Value.bool (show false = ((getP D.P D.s.round).ok && (decide (D.s.lr ≤ (getP D.P D.s.round).valid) || decide (D.s.locked = (getP D.P D.s.round).h))) by simp [b221])), H232⟩
           exact (same_upd rfl (same_upd rfl (same_upd rfl (same_upd rfl (same_upd rfl (same_upd rfl (same_upd rfl (same_upd rfl (same_upd rfl (same_upd rfl (same_upd rfl (same_upd rfl (same_upd rfl (same_upd rfl (same_upd rfl (same_upd rfl (same_upd rfl (same_upd rfl (same_upd rfl (same_upd rfl (same_upd rfl (same_upd rfl (same_upd rfl (same_refl))))))))))))))))))))))))
         ·rintro f233 w234 ⟨v236, H235⟩
          refine wp_know 244 _ v236 ?_
          refine (bsplit ((getP D.P D.s.round).ok && (decide (D.s.lr ≤ (getP D.P D.s.round).valid) || decide (D.s.locked = (getP D.P D.s.round).h)))).elim (fun b237 => ?_) (fun b237 => ?_)
          ·refine wp_know 244 (.bool true) (congrArg Value.bool b237) ?_
           refine wp_ift rfl ?_
           refine w_seq ?_
           refine w_lit ?_
           refine wv 245 (pt p 0) ?_
           refine wv 246 (pt b148 2) ?_
           refine wv 247 (.agg ⟨(hc (getP D.P D.s.round).h)⟩) ?_ (hr := e_loadN (vs := (hc (getP D.P D.s.round).h)) rfl (by kernel_rfl) (by kernel_rfl) (by exact Nat.le_of_ble_eq_true (by kernel_rfl)) (H235.at 5 rfl) (by kernel_rfl))
           refine wl_do (wants0 rfl) (fun K238 hK238 => ?_)
           refine d_call (d := 248) rfl (by kernel_rfl) (rcPrevote_any w234 p t (.slice va D.L.length vc) (.slice ua D.P.length uc) D (ok_of (by kernel_rfl) (H235.fin [0, 1, 2, 3] (by decide) rfl)) h ((getP D.P D.s.round).h)) ?_
           rintro _ w242 ⟨v239, u240, x241, rfl, S243⟩
           have H244 : Sat w [cellC p 83 (rcL t u240 (ownV D 1 2 ((getP D.P D.s.round).h))), cellC t 101 ([(.int .i64 ((ownV D 1 2 ((getP D.P D.s.round).h)).f)), (.int .i64 ((ownV D 1 2 ((getP D.P D.s.round).h)).c)), v239] : List Value), rowC 143 35 v239 (((ownV D 1 2 ((getP D.P D.s.round).h)).L).length) (((ownV D 1 2 ((getP D.P D.s.round).h)).L).flatMap encV), rowC 129 35 u240 (((ownV D 1 2 ((getP D.P D.s.round).h)).P).length) (((ownV D 1 2 ((getP D.P D.s.round).h)).P).flatMap encQ), restC w (rcC p t (.slice va D.L.length vc) (.slice ua D.P.length uc) D).fp, cellC b148 129 (([(.int .i64 (zP D.P D.s.round)), (.int .i64 ((getP D.P D.s.round).valid))] : List Value) ++ hc (getP D.P D.s.round).h ++ ([(.bool ((getP D.P D.s.round).ok))] : List Value)), rowC 102 35 x241 ((ownA D 2 ((getP D.P D.s.round).h)).length) ((ownA D 2 ((getP D.P D.s.round).h)).flatMap encA)] w242 := (Sat.turnL (L' := [cellC p 83 (rcL t u240 (ownV D 1 2 ((getP D.P D.s.round).h))), cellC t 101 ([(.int .i64 ((ownV D 1 2 ((getP D.P D.s.round).h)).f)), (.int .i64 ((ownV D 1 2 ((getP D.P D.s.round).h)).c)), v239] : List Value), rowC 143 35 v239 (((ownV D 1 2 ((getP D.P D.s.round).h)).L).length) (((ownV D 1 2 ((getP D.P D.s.round).h)).L).flatMap encV), rowC 129 35 u240 (((ownV D 1 2 ((getP D.P D.s.round).h)).P).length) (((ownV D 1 2 ((getP D.P D.s.round).h)).P).flatMap encQ), rowC 102 35 x241 ((ownA D 2 ((getP D.P D.s.round).h)).length) ((ownA D 2 ((getP D.P D.s.round).h)).flatMap encA)]) (R := [restC w (rcC p t (.slice va D.L.length vc) (.slice ua D.P.length uc) D).fp, cellC b148 129 (([(.int .i64 (zP D.P D.s.round)), (.int .i64 ((getP D.P D.s.round).valid))] : List Value) ++ hc (getP D.P D.s.round).h ++ ([(.bool ((getP D.P D.s.round).ok))] : List Value))]) H235 [0, 1, 2, 3] [4, 5] (by decide) (by kernel_rfl) rfl S243).pick [0, 1, 2, 3, 5, 6, 4] (by decide)
           obtain ⟨a245, c246, rfl⟩ := ownsRow_shape (H244.at 2 rfl)
           obtain ⟨a247, c248, rfl⟩ := ownsRow_shape (H244.at 3 rfl)
           obtain ⟨a249, c250, rfl⟩ := ownsRow_shape (H244.at 6 rfl)
           refine ⟨_, rfl, ?_⟩
           refine hK238 _ _ ?_
           clear hK238 K238
           refine wv 2 (.slice a249 ((ownA D 2 ((getP D.P D.s.round).h)).length) c250) ?_
           refine wv 3 (.bool true) ?_
           refine w_nil ?_
           refine then_normal ?_
           refine w_ret ?_
           iterate 2 refine then_ret ?_
           refine end2 rfl (res_tmp (v := (.slice a249 ((ownA D 2 ((getP D.P D.s.round).h)).length) c250)) rfl) (res_tmp (v := (.bool true)) rfl) ?_
           have hl := hLe.1 (by have := of_decide_eq_false b69; omega)
           have hg := farW_no h (hfr ▸ of_decide_eq_false b125)
           have hc : chooseD D (getP D.P D.s.round) = ((getP D.P D.s.round).h, true) := by
            have q1 := of_decide_eq_false b166
            have q2 := of_decide_eq_true b217
            have q3 := b237
            unfold chooseD mayB; rw [if_neg (by omega)]
            simp only [if_pos (show 0 ≤ (getP D.P D.s.round).valid by omega)] at q3 ⊢; rw [if_pos (by simpa using q3)]
           exact .inl ⟨(.slice a245 (((ownV D 1 2 ((getP D.P D.s.round).h)).L).length) c246), (.slice a247 (((ownV D 1 2 ((getP D.P D.s.round).h)).P).length) c248), _, ownV D 1 2 (getP D.P D.s.round).h, ownA D 2 (getP D.P D.s.round).h, rfl, (by rw [ruleD_b, if_neg (by omega), if_neg hg, hc, if_pos (by rw [b165]; rfl)]), (H244.pick [0, 1, 2, 3, 6, 4] (by decide)).cast (by kernel_rfl)⟩
          ·refine wp_know 244 (.bool false) (congrArg Value.bool b237) ?_
           refine wp_iff rfl ?_
           refine w_skip ?_
           refine then_normal ?_
           refine w_seq ?_
           refine w_lit ?_
           refine wv 249 (pt p 0) ?_
           refine wv 250 (.agg ⟨(hc hash0)⟩) ?_
           refine wl_do (wants0 rfl) (fun K251 hK251 => ?_)
           refine d_call (d := 251) rfl (by kernel_rfl) (rcPrevote_any w234 p t (.slice va D.L.length vc) (.slice ua D.P.length uc) D (ok_of (by kernel_rfl) (H235.fin [0, 1, 2, 3] (by decide) rfl)) h hash0) ?_
           rintro _ w255 ⟨v252, u253, x254, rfl, S256⟩
           have H257 : Sat w [cellC p 83 (rcL t u253 (ownV D 1 2 hash0)), cellC t 101 ([(.int .i64 ((ownV D 1 2 hash0).f)), (.int .i64 ((ownV D 1 2 hash0).c)), v252] : List Value), rowC 143 35 v252 (((ownV D 1 2 hash0).L).length) (((ownV D 1 2 hash0).L).flatMap encV), rowC 129 35 u253 (((ownV D 1 2 hash0).P).length) (((ownV D 1 2 hash0).P).flatMap encQ), restC w (rcC p t (.slice va D.L.length vc) (.slice ua D.P.length uc) D).fp, cellC b148 129 (([(.int .i64 (zP D.P D.s.round)), (.int .i64 ((getP D.P D.s.round).valid))] : List Value) ++ hc (getP D.P D.s.round).h ++ ([(.bool ((getP D.P D.s.round).ok))] : List Value)), rowC 102 35 x254 ((ownA D 2 hash0).length) ((ownA D 2 hash0).flatMap encA)] w255 := (Sat.turnL (L' := [cellC p 83 (rcL t u253 (ownV D 1 2 hash0)), cellC t 101 ([(.int .i64 ((ownV D 1 2 hash0).f)), (.int .i64 ((ownV D 1 2 hash0).c)), v252] : List Value), rowC 143 35 v252 (((ownV D 1 2 hash0).L).length) (((ownV D 1 2 hash0).L).flatMap encV), rowC 129 35 u253 (((ownV D 1 2 hash0).P).length) (((ownV D 1 2 hash0).P).flatMap encQ), rowC 102 35 x254 ((ownA D 2 hash0).length) ((ownA D 2 hash0).flatMap encA)]) (R := [restC w (rcC p t (.slice va D.L.length vc) (.slice ua D.P.length uc) D).fp, cellC b148 129 (([(.int .i64 (zP D.P D.s.round)), (.int .i64 ((getP D.P D.s.round).valid))] : List Value) ++ hc (getP D.P D.s.round).h ++ ([(.bool ((getP D.P D.s.round).ok))] : List Value))]) H235 [0, 1, 2, 3] [4, 5] (by decide) (by kernel_rfl) rfl S256).pick [0, 1, 2, 3, 5, 6, 4] (by decide)
           obtain ⟨a258, c259, rfl⟩ := ownsRow_shape (H257.at 2 rfl)
           obtain ⟨a260, c261, rfl⟩ := ownsRow_shape (H257.at 3 rfl)
           obtain ⟨a262, c263, rfl⟩ := ownsRow_shape (H257.at 6 rfl)
           refine ⟨_, rfl, ?_⟩
           refine hK251 _ _ ?_
           clear hK251 K251
           refine wv 2 (.slice a262 ((ownA D 2 hash0).length) c263) ?_
           refine wv 3 (.bool true) ?_
           refine w_nil ?_
           refine then_normal ?_
           refine w_ret ?_
           refine then_ret ?_
           refine end2 rfl (res_tmp (v := (.slice a262 ((ownA D 2 hash0).length) c263)) rfl) (res_tmp (v := (.bool true)) rfl) ?_
           have hl := hLe.1 (by have := of_decide_eq_false b69; omega)
           have hg := farW_no h (hfr ▸ of_decide_eq_false b125)
           have hc : chooseD D (getP D.P D.s.round) = (hash0, true) := by
            have q1 := of_decide_eq_false b166
            have q2 := of_decide_eq_true b217
            have q3 := b237
            unfold chooseD mayB; rw [if_neg (by omega)]
            simp only [if_pos (show 0 ≤ (getP D.P D.s.round).valid by omega)] at q3 ⊢; rw [if_neg (by simpa using q3)]
           exact .inl ⟨(.slice a258 (((ownV D 1 2 hash0).L).length) c259), (.slice a260 (((ownV D 1 2 hash0).P).length) c261), _, ownV D 1 2 hash0, ownA D 2 hash0, rfl, (by rw [ruleD_b, if_neg (by omega), if_neg hg, hc, if_pos (by rw [b165]; rfl)]), (H257.pick [0, 1, 2, 3, 6, 4] (by decide)).cast (by kernel_rfl)⟩
        ·have g264 := of_decide_eq_false b217
         refine wp_know 222 (.bool false) (congrArg Value.bool b217) ?_
         have g265 := of_decide_eq_false b217
         refine wp_iff rfl ?_
         refine w_skip ?_
         refine then_normal ?_
         refine w_seq ?_
         refine wp_meetR [252, 253, 254, 255, 256, 257, 258, 259, 260, 261, 262, 263, 264, 265, 266, 267, 268, 269, 270, 271, 272, 273, 274, 275, 276, 277, 278, 279, 280, 281, 282, 283, 284] (fun G_ W_ => G_ 284 = (.bool (c4 D)) ∧ Sat w [cellC p 83 (rcL t (.slice ua D.P.length uc) D), cellC t 101 ([(.int .i64 (D.f)), (.int .i64 (D.c)), (.slice va D.L.length vc)] : List Value), rowC 143 35 (.slice va D.L.length vc) D.L.length (D.L.flatMap encV), rowC 129 35 (.slice ua D.P.length uc) D.P.length (D.P.flatMap encQ), restC w (rcC p t (.slice va D.L.length vc) (.slice ua D.P.length uc) D).fp, cellC b148 129 (([(.int .i64 (zP D.P D.s.round)), (.int .i64 ((getP D.P D.s.round).valid))] : List Value) ++ hc (getP D.P D.s.round).h ++ ([(.bool ((getP D.P D.s.round).ok))] : List Value))] W_) ?_ ?_
         ·refine q_start H216 (by kernel_rfl) (by kernel_rfl) ?_
          refine qv 252 (pt p 0) ?_
          refine qv 253 (pt p 0) ?_
          refine qv 254 (pt p 4) ?_
          refine qv 255 (pt p 5) ?_
          refine qv 256 (.int .i64 (D.s.step)) ?_ (hr := fun _ H' => (e_load1 rfl (by kernel_rfl) (H'.cell 0 rfl (by kernel_rfl))))
          refine qv 257 (.bool (decide (D.s.step ≥ 2))) ?_
          refine qv 258 (.bool (decide (D.s.step ≥ 2))) ?_
          refine (bsplit (decide (D.s.step ≥ 2))).elim (fun b267 => ?_) (fun b267 => ?_)
          ·have g268 := of_decide_eq_true b267
           refine q_know 258 (.bool true) (congrArg Value.bool b267) ?_
           have g269 := of_decide_eq_true b267
           refine qy 6 258 true 259 (.bool (hasP D.P D.s.round)) ?_
           refine qv 260 (.bool (hasP D.P D.s.round)) ?_
           refine qv 261 (.bool (hasP D.P D.s.round)) ?_
           refine (bsplit (hasP D.P D.s.round)).elim (fun b270 => ?_) (fun b270 => ?_)
           ·refine q_know 261 (.bool true) (congrArg Value.bool b270) ?_
            refine qy 9 261 true 262 (pt b148 34) ?_
            refine qy 9 261 true 263 (.bool ((getP D.P D.s.round).ok)) ?_ (hr := fun _ H' => (e_load1 rfl (by kernel_rfl) (H'.cell 5 rfl (by kernel_rfl))))
            refine qv 264 (.bool ((getP D.P D.s.round).ok)) ?_
            refine qv 265 (.bool ((getP D.P D.s.round).ok)) ?_
            refine (bsplit ((getP D.P D.s.round).ok)).elim (fun b271 => ?_) (fun b271 => ?_)
            ·refine q_know 265 (.bool true) (congrArg Value.bool b271) ?_
             refine qy 13 265 true 266 (pt p 0) ?_
             refine qy 13 265 true 267 (pt p 0) ?_
             refine qy 13 265 true 268 (pt p 107) ?_
             refine qy 13 265 true 269 (pt p 107) ?_
             refine qy 13 265 true 270 (.bool (D.wv)) ?_ (hr := fun _ H' => (e_load1 rfl (by kernel_rfl) (H'.cell 0 rfl (by kernel_rfl))))
             refine qy 13 265 true 271 (.bool (!(D.wv))) ?_
             refine qv 272 (.bool (!(D.wv))) ?_
             refine qv 273 (.bool (!(D.wv))) ?_
             refine (bsplit (!(D.wv))).elim (fun b272 => ?_) (fun b272 => ?_)
             ·have g273 := bnot_true b272
              refine q_know 273 (.bool true) (congrArg Value.bool b272) ?_
              have g274 := bnot_true b272
              refine qy 21 273 true 274 (pt p 0) ?_
              refine qy 21 273 true 275 (pt p 0) ?_
              refine qy 21 273 true 276 (pt p 105) ?_
              refine qy 21 273 true 277 (pt t 0) ?_ (hr := fun _ H' => (e_load1 rfl (by kernel_rfl) (H'.cell 0 rfl (by kernel_rfl))))
              refine qy 21 273 true 278 (.int .i64 (D.s.round)) ?_
              refine qy 21 273 true 279 (pt b148 2) ?_
              refine qy 21 273 true 280 (.agg ⟨(hc (getP D.P D.s.round).h)⟩) ?_ (hr := fun _ H' => (e_loadN (vs := (hc (getP D.P D.s.round).h)) rfl (by kernel_rfl) (by kernel_rfl) (by exact Nat.le_of_ble_eq_true (by kernel_rfl)) (H'.at 5 rfl) (by kernel_rfl)))
              refine q_call (wantsY 21 273 true rfl (by kernel_rfl) rfl (by kernel_rfl)) (d := 281) (v := (.int .i64 (forV D.L 1 D.s.round ((getP D.P D.s.round).h)))) rfl (fun _ _ => by kernel_rfl) (fun w' H' => (refFor_any w' t (.slice va D.L.length vc) D.f D.c D.L (ok_of (by kernel_rfl) (H'.fin [1, 2] (by decide) rfl)) (by omega) 1 D.s.round ((getP D.P D.s.round).h)).mono fun _ _ h => ⟨h.1, H'.keepU h.2⟩) ?_
              refine qy 21 273 true 282 (.int .i64 (2 * D.f + 1)) ?_
              refine qy 21 273 true 283 (.bool (decide ((forV D.L 1 D.s.round ((getP D.P D.s.round).h)) ≥ (2 * D.f + 1)))) ?_
              refine qv 284 (.bool (decide ((forV D.L 1 D.s.round ((getP D.P D.s.round).h)) ≥ (2 * D.f + 1)))) ?_
              refine q_end ?_
              intro w275 H276
              refine meetR_at ?_ ⟨(congrArg Value.bool (show (decide ((forV D.L 1 D.s.round ((getP D.P D.s.round).h)) ≥ (2 * D.f + 1))) = (c4 D) by simp [c4, b267, b270, b271, b272])), H276⟩
              exact (same_upd rfl (same_upd rfl (same_upd rfl (same_upd rfl (same_upd rfl (same_upd rfl (same_upd rfl (same_upd rfl (same_upd rfl (same_upd rfl (same_upd rfl (same_upd rfl (same_upd rfl (same_upd rfl (same_upd rfl (same_upd rfl (same_upd rfl (same_upd rfl (same_upd rfl (same_upd rfl (same_upd rfl (same_upd rfl (same_upd rfl (same_upd rfl (same_upd rfl (same_upd rfl (same_upd rfl (same_upd rfl (same_upd rfl (same_upd rfl (same_upd rfl (same_upd rfl (same_upd rfl (same_upd rfl (same_upd rfl (same_upd rfl (same_upd rfl (same_refl))))))))))))))))))))))))))))))))))))))
             ·have g277 := bnot_false b272
              refine q_know 273 (.bool false) (congrArg Value.bool b272) ?_
              have g278 := bnot_false b272
              iterate 10 refine qn 21 273 true ?_
              refine qv 284 (.bool false) ?_
              refine q_end ?_
              intro w279 H280
              refine meetR_at ?_ ⟨(congrArg Value.bool (show false = (c4 D) by simp [c4, b267, b270, b271, b272])), H280⟩
              exact (same_upd rfl (same_upd rfl (same_upd rfl (same_upd rfl (same_upd rfl (same_upd rfl (same_upd rfl (same_upd rfl (same_upd rfl (same_upd rfl (same_upd rfl (same_upd rfl (same_upd rfl (same_upd rfl (same_upd rfl (same_upd rfl (same_upd rfl (same_upd rfl (same_upd rfl (same_upd rfl (same_upd rfl (same_upd rfl (same_upd rfl (same_upd rfl (same_upd rfl (same_upd rfl (same_upd rfl (same_upd rfl (same_upd rfl (same_upd rfl (same_upd rfl (same_upd rfl (same_upd rfl (same_upd rfl (same_upd rfl (same_upd rfl (same_upd rfl (same_refl))))))))))))))))))))))))))))))))))))))
            ·refine q_know 265 (.bool false) (congrArg Value.bool b271) ?_
             iterate 6 refine qn 13 265 true ?_
             refine qv 272 (.bool false) ?_
             refine qv 273 (.bool false) ?_
             iterate 10 refine qn 21 273 true ?_
             refine qv 284 (.bool false) ?_
             refine q_end ?_
             intro w281 H282
             refine meetR_at ?_ ⟨(congrArg Value.bool (show false = (c4 D) by simp [c4, b267, b270, b271])), H282⟩
             exact (same_upd rfl (same_upd rfl (same_upd rfl (same_upd rfl (same_upd rfl (same_upd rfl (same_upd rfl (same_upd rfl (same_upd rfl (same_upd rfl (same_upd rfl (same_upd rfl (same_upd rfl (same_upd rfl (same_upd rfl (same_upd rfl (same_upd rfl (same_upd rfl (same_upd rfl (same_upd rfl (same_upd rfl (same_upd rfl (same_upd rfl (same_upd rfl (same_upd rfl (same_upd rfl (same_upd rfl (same_upd rfl (same_upd rfl (same_upd rfl (same_upd rfl (same_upd rfl (same_upd rfl (same_upd rfl (same_upd rfl (same_upd rfl (same_refl)))))))))))))))))))))))))))))))))))))
           ·refine q_know 261 (.bool false) (congrArg Value.bool b270) ?_
            iterate 2 refine qn 9 261 true ?_
            refine qv 264 (.bool false) ?_
            refine qv 265 (.bool false) ?_
            iterate 6 refine qn 13 265 true ?_
            refine qv 272 (.bool false) ?_
            refine qv 273 (.bool false) ?_
            iterate 10 refine qn 21 273 true ?_
            refine qv 284 (.bool false) ?_
            refine q_end ?_
            intro w283 H284
            refine meetR_at ?_ ⟨(congrArg Value.bool (show false = (c4 D) by simp [c4, b267, b270])), H284⟩
            exact (same_upd rfl (same_upd rfl (same_upd rfl (same_upd rfl (same_upd rfl (same_upd rfl (same_upd rfl (same_upd rfl (same_upd rfl (same_upd rfl (same_upd rfl (same_upd rfl (same_upd rfl (same_upd rfl (same_upd rfl (same_upd rfl (same_upd rfl (same_upd rfl (same_upd rfl (same_upd rfl (same_upd rfl (same_upd rfl (same_upd rfl (same_upd rfl (same_upd rfl (same_upd rfl (same_upd rfl (same_upd rfl (same_upd rfl (same_upd rfl (same_upd rfl (same_upd rfl (same_upd rfl (same_upd rfl (same_upd rfl (same_refl))))))))))))))))))))))))))))))))))))
          ·have g285 := of_decide_eq_false b267
           refine q_know 258 (.bool false) (congrArg Value.bool b267) ?_
           have g286 := of_decide_eq_false b267
           refine qn 6 258 true ?_
           refine qv 260 (.bool false) ?_
           refine qv 261 (.bool false) ?_
           iterate 2 refine qn 9 261 true ?_
           refine qv 264 (.bool false) ?_
           refine qv 265 (.bool false) ?_
           iterate 6 refine qn 13 265 true ?_
           refine qv 272 (.bool false) ?_
           refine qv 273 (.bool false) ?_
           iterate 10 refine qn 21 273 true ?_
           refine qv 284 (.bool false) ?_
           refine q_end ?_
           intro w287 H288
           refine meetR_at ?_ ⟨(congrArg Value.bool (show false = (c4 D) by simp [c4, b267])), H288⟩
           exact (same_upd rfl (same_upd rfl (same_upd rfl (same_upd rfl (same_upd rfl (same_upd rfl (same_upd rfl (same_upd rfl (same_upd rfl (same_upd rfl (same_upd rfl (same_upd rfl (same_upd rfl (same_upd rfl (same_upd rfl (same_upd rfl (same_upd rfl (same_upd rfl (same_upd rfl (same_upd rfl (same_upd rfl (same_upd rfl (same_upd rfl (same_upd rfl (same_upd rfl (same_upd rfl (same_upd rfl (same_upd rfl (same_upd rfl (same_upd rfl (same_upd rfl (same_upd rfl (same_upd rfl (same_upd rfl (same_refl)))))))))))))))))))))))))))))))))))
         ·rintro f289 w290 ⟨v292, H291⟩
          refine wp_know 284 _ v292 ?_
          refine (bsplit (c4 D)).elim (fun b293 => ?_) (fun b293 => ?_)
          ·refine wp_know 284 (.bool true) (congrArg Value.bool b293) ?_
           refine wp_ift rfl ?_
           refine w_seq ?_
           refine w_lit ?_
           refine wv 285 (pt p 0) ?_
           refine wv 286 (pt p 0) ?_
           refine wv 287 (pt p 107) ?_
           refine wv 288 (pt p 107) ?_
           refine wl_do (wants0 rfl) (fun K294 hK294 => ?_)
           refine d_storeX (vs := ([(.bool true)] : List Value)) (cs' := (rcW D.f D.c D.epoch D.replica D.s.round D.s.step D.s.lr D.s.vr D.s.locked D.s.valid D.s.decided D.s.decision t (.slice ua D.P.length uc) true D.sp D.sc)) rfl H291 0 rfl rfl rfl rfl (by kernel_rfl) (Nat.le_of_ble_eq_true (by kernel_rfl)) (Nat.le_of_ble_eq_true (by kernel_rfl)) (by kernel_rfl) (by kernel_rfl) ?_
           intro w295 (H296 : Sat w [cellC p 83 (rcW D.f D.c D.epoch D.replica D.s.round D.s.step D.s.lr D.s.vr D.s.locked D.s.valid D.s.decided D.s.decision t (.slice ua D.P.length uc) true D.sp D.sc), cellC t 101 ([(.int .i64 (D.f)), (.int .i64 (D.c)), (.slice va D.L.length vc)] : List Value), rowC 143 35 (.slice va D.L.length vc) D.L.length (D.L.flatMap encV), rowC 129 35 (.slice ua D.P.length uc) D.P.length (D.P.flatMap encQ), restC w (rcC p t (.slice va D.L.length vc) (.slice ua D.P.length uc) D).fp, cellC b148 129 (([(.int .i64 (zP D.P D.s.round)), (.int .i64 ((getP D.P D.s.round).valid))] : List Value) ++ hc (getP D.P D.s.round).h ++ ([(.bool ((getP D.P D.s.round).ok))] : List Value))] w295)
           refine hK294 _ _ ?_
           clear hK294 K294
           refine w_nil ?_
           refine then_normal ?_
           refine w_seq ?_
           refine w_lit ?_
           refine wv 14 (.slice none 0 0) ?_
           refine w_nil ?_
           refine then_normal ?_
           iterate 2 refine w_seq ?_
           refine w_lit ?_
           refine wv 289 (pt p 0) ?_
           refine wv 290 (pt p 0) ?_
           refine wv 291 (pt p 4) ?_
           refine wv 292 (pt p 5) ?_
           refine wv 293 (.int .i64 (D.s.step)) ?_ (hr := e_load1 rfl (by kernel_rfl) (H296.cell 0 rfl (by kernel_rfl)))
           refine wv 294 (.bool (decide (D.s.step = 2))) ?_
           refine w_nil ?_
           refine then_normal ?_
           refine (bsplit (decide (D.s.step = 2))).elim (fun b298 => ?_) (fun b298 => ?_)
           ·have g299 := of_decide_eq_true b298
            refine wp_know 294 (.bool true) (congrArg Value.bool b298) ?_
            have g300 := of_decide_eq_true b298
            refine wp_ift rfl ?_
            refine w_seq ?_
            refine w_lit ?_
            refine wv 295 (pt p 0) ?_
            refine wv 296 (pt p 0) ?_
            refine wv 297 (pt b148 2) ?_
            refine wv 298 (.agg ⟨(hc (getP D.P D.s.round).h)⟩) ?_ (hr := e_loadN (vs := (hc (getP D.P D.s.round).h)) rfl (by kernel_rfl) (by kernel_rfl) (by exact Nat.le_of_ble_eq_true (by kernel_rfl)) (H296.at 5 rfl) (by kernel_rfl))
            refine wv 299 (.int .i64 (D.s.round)) ?_
            refine wv 300 (pt p 0) ?_
            refine wv 301 (pt p 4) ?_
            refine wv 302 (pt p 8) ?_
            refine wl_do (wants0 rfl) (fun K301 hK301 => ?_)
            refine d_storeX (vs := (hc (getP D.P D.s.round).h)) (cs' := (rcW D.f D.c D.epoch D.replica D.s.round D.s.step D.s.lr D.s.vr ((getP D.P D.s.round).h) D.s.valid D.s.decided D.s.decision t (.slice ua D.P.length uc) true D.sp D.sc)) rfl H296 0 rfl rfl rfl rfl (by kernel_rfl) (Nat.le_of_ble_eq_true (by kernel_rfl)) (Nat.le_of_ble_eq_true (by kernel_rfl)) (by kernel_rfl) (by kernel_rfl) ?_
            intro w302 (H303 : Sat w [cellC p 83 (rcW D.f D.c D.epoch D.replica D.s.round D.s.step D.s.lr D.s.vr ((getP D.P D.s.round).h) D.s.valid D.s.decided D.s.decision t (.slice ua D.P.length uc) true D.sp D.sc), cellC t 101 ([(.int .i64 (D.f)), (.int .i64 (D.c)), (.slice va D.L.length vc)] : List Value), rowC 143 35 (.slice va D.L.length vc) D.L.length (D.L.flatMap encV), rowC 129 35 (.slice ua D.P.length uc) D.P.length (D.P.flatMap encQ), restC w (rcC p t (.slice va D.L.length vc) (.slice ua D.P.length uc) D).fp, cellC b148 129 (([(.int .i64 (zP D.P D.s.round)), (.int .i64 ((getP D.P D.s.round).valid))] : List Value) ++ hc (getP D.P D.s.round).h ++ ([(.bool ((getP D.P D.s.round).ok))] : List Value))] w302)
            refine hK301 _ _ ?_
            clear hK301 K301
            refine wv 303 (pt p 0) ?_
            refine wv 304 (pt p 4) ?_
            refine wv 305 (pt p 6) ?_
            refine wl_do (wants0 rfl) (fun K305 hK305 => ?_)
            refine d_storeX (vs := ([(.int .i64 (D.s.round))] : List Value)) (cs' := (rcW D.f D.c D.epoch D.replica D.s.round D.s.step D.s.round D.s.vr ((getP D.P D.s.round).h) D.s.valid D.s.decided D.s.decision t (.slice ua D.P.length uc) true D.sp D.sc)) rfl H303 0 rfl rfl rfl rfl (by kernel_rfl) (Nat.le_of_ble_eq_true (by kernel_rfl)) (Nat.le_of_ble_eq_true (by kernel_rfl)) (by kernel_rfl) (by kernel_rfl) ?_
            intro w306 (H307 : Sat w [cellC p 83 (rcW D.f D.c D.epoch D.replica D.s.round D.s.step D.s.round D.s.vr ((getP D.P D.s.round).h) D.s.valid D.s.decided D.s.decision t (.slice ua D.P.length uc) true D.sp D.sc), cellC t 101 ([(.int .i64 (D.f)), (.int .i64 (D.c)), (.slice va D.L.length vc)] : List Value), rowC 143 35 (.slice va D.L.length vc) D.L.length (D.L.flatMap encV), rowC 129 35 (.slice ua D.P.length uc) D.P.length (D.P.flatMap encQ), restC w (rcC p t (.slice va D.L.length vc) (.slice ua D.P.length uc) D).fp, cellC b148 129 (([(.int .i64 (zP D.P D.s.round)), (.int .i64 ((getP D.P D.s.round).valid))] : List Value) ++ hc (getP D.P D.s.round).h ++ ([(.bool ((getP D.P D.s.round).ok))] : List Value))] w306)
            refine hK305 _ _ ?_
            clear hK305 K305
            refine w_nil ?_
            refine then_normal ?_
            refine w_lit ?_
            refine wv 306 (pt p 0) ?_
            refine wv 307 (pt b148 2) ?_
            refine wv 308 (.agg ⟨(hc (getP D.P D.s.round).h)⟩) ?_ (hr := e_loadN (vs := (hc (getP D.P D.s.round).h)) rfl (by kernel_rfl) (by kernel_rfl) (by exact Nat.le_of_ble_eq_true (by kernel_rfl)) (H307.at 5 rfl) (by kernel_rfl))
            refine wl_do (wants0 rfl) (fun K309 hK309 => ?_)
            refine d_call (d := 309) rfl (by kernel_rfl) (rcPrecommit_any w306 p t (.slice va D.L.length vc) (.slice ua D.P.length uc) (⟨D.f, D.c, D.epoch, D.replica, ⟨D.s.round, D.s.step, D.s.round, D.s.vr, (getP D.P D.s.round).h, D.s.valid, (D.s.decided), D.s.decision⟩, D.L, D.P, true, (D.sp), (D.sc)⟩ : CoreD) (ok_of (by kernel_rfl) (H307.fin [0, 1, 2, 3] (by decide) rfl)) (⟨h.f, h.ep, h.rp, h.rd, h.st, h.V, h.R, h.pk, h.pr⟩) ((getP D.P D.s.round).h)) ?_
            rintro _ w313 ⟨v310, u311, x312, rfl, S314⟩
            have H315 : Sat w [cellC p 83 (rcL t u311 (ownV (⟨D.f, D.c, D.epoch, D.replica, ⟨D.s.round, D.s.step, D.s.round, D.s.vr, (getP D.P D.s.round).h, D.s.valid, (D.s.decided), D.s.decision⟩, D.L, D.P, true, (D.sp), (D.sc)⟩ : CoreD) 2 3 ((getP D.P D.s.round).h))), cellC t 101 ([(.int .i64 ((ownV (⟨D.f, D.c, D.epoch, D.replica, ⟨D.s.round, D.s.step, D.s.round, D.s.vr, (getP D.P D.s.round).h, D.s.valid, (D.s.decided), D.s.decision⟩, D.L, D.P, true, (D.sp), (D.sc)⟩ : CoreD) 2 3 ((getP D.P D.s.round).h)).f)), (.int .i64 ((ownV (⟨D.f, D.c, D.epoch, D.replica, ⟨D.s.round, D.s.step, D.s.round, D.s.vr, (getP D.P D.s.round).h, D.s.valid, (D.s.decided), D.s.decision⟩, D.L, D.P, true, (D.sp), (D.sc)⟩ : CoreD) 2 3 ((getP D.P D.s.round).h)).c)), v310] : List Value), rowC 143 35 v310 (((ownV (⟨D.f, D.c, D.epoch, D.replica, ⟨D.s.round, D.s.step, D.s.round, D.s.vr, (getP D.P D.s.round).h, D.s.valid, (D.s.decided), D.s.decision⟩, D.L, D.P, true, (D.sp), (D.sc)⟩ : CoreD) 2 3 ((getP D.P D.s.round).h)).L).length) (((ownV (⟨D.f, D.c, D.epoch, D.replica, ⟨D.s.round, D.s.step, D.s.round, D.s.vr, (getP D.P D.s.round).h, D.s.valid, (D.s.decided), D.s.decision⟩, D.L, D.P, true, (D.sp), (D.sc)⟩ : CoreD) 2 3 ((getP D.P D.s.round).h)).L).flatMap encV), rowC 129 35 u311 (((ownV (⟨D.f, D.c, D.epoch, D.replica, ⟨D.s.round, D.s.step, D.s.round, D.s.vr, (getP D.P D.s.round).h, D.s.valid, (D.s.decided), D.s.decision⟩, D.L, D.P, true, (D.sp), (D.sc)⟩ : CoreD) 2 3 ((getP D.P D.s.round).h)).P).length) (((ownV (⟨D.f, D.c, D.epoch, D.replica, ⟨D.s.round, D.s.step, D.s.round, D.s.vr, (getP D.P D.s.round).h, D.s.valid, (D.s.decided), D.s.decision⟩, D.L, D.P, true, (D.sp), (D.sc)⟩ : CoreD) 2 3 ((getP D.P D.s.round).h)).P).flatMap encQ), restC w (rcC p t (.slice va D.L.length vc) (.slice ua D.P.length uc) D).fp, cellC b148 129 (([(.int .i64 (zP D.P D.s.round)), (.int .i64 ((getP D.P D.s.round).valid))] : List Value) ++ hc (getP D.P D.s.round).h ++ ([(.bool ((getP D.P D.s.round).ok))] : List Value)), rowC 102 35 x312 ((ownA (⟨D.f, D.c, D.epoch, D.replica, ⟨D.s.round, D.s.step, D.s.round, D.s.vr, (getP D.P D.s.round).h, D.s.valid, (D.s.decided), D.s.decision⟩, D.L, D.P, true, (D.sp), (D.sc)⟩ : CoreD) 3 ((getP D.P D.s.round).h)).length) ((ownA (⟨D.f, D.c, D.epoch, D.replica, ⟨D.s.round, D.s.step, D.s.round, D.s.vr, (getP D.P D.s.round).h, D.s.valid, (D.s.decided), D.s.decision⟩, D.L, D.P, true, (D.sp), (D.sc)⟩ : CoreD) 3 ((getP D.P D.s.round).h)).flatMap encA)] w313 := (Sat.turnL (L' := [cellC p 83 (rcL t u311 (ownV (⟨D.f, D.c, D.epoch, D.replica, ⟨D.s.round, D.s.step, D.s.round, D.s.vr, (getP D.P D.s.round).h, D.s.valid, (D.s.decided), D.s.decision⟩, D.L, D.P, true, (D.sp), (D.sc)⟩ : CoreD) 2 3 ((getP D.P D.s.round).h))), cellC t 101 ([(.int .i64 ((ownV (⟨D.f, D.c, D.epoch, D.replica, ⟨D.s.round, D.s.step, D.s.round, D.s.vr, (getP D.P D.s.round).h, D.s.valid, (D.s.decided), D.s.decision⟩, D.L, D.P, true, (D.sp), (D.sc)⟩ : CoreD) 2 3 ((getP D.P D.s.round).h)).f)), (.int .i64 ((ownV (⟨D.f, D.c, D.epoch, D.replica, ⟨D.s.round, D.s.step, D.s.round, D.s.vr, (getP D.P D.s.round).h, D.s.valid, (D.s.decided), D.s.decision⟩, D.L, D.P, true, (D.sp), (D.sc)⟩ : CoreD) 2 3 ((getP D.P D.s.round).h)).c)), v310] : List Value), rowC 143 35 v310 (((ownV (⟨D.f, D.c, D.epoch, D.replica, ⟨D.s.round, D.s.step, D.s.round, D.s.vr, (getP D.P D.s.round).h, D.s.valid, (D.s.decided), D.s.decision⟩, D.L, D.P, true, (D.sp), (D.sc)⟩ : CoreD) 2 3 ((getP D.P D.s.round).h)).L).length) (((ownV (⟨D.f, D.c, D.epoch, D.replica, ⟨D.s.round, D.s.step, D.s.round, D.s.vr, (getP D.P D.s.round).h, D.s.valid, (D.s.decided), D.s.decision⟩, D.L, D.P, true, (D.sp), (D.sc)⟩ : CoreD) 2 3 ((getP D.P D.s.round).h)).L).flatMap encV), rowC 129 35 u311 (((ownV (⟨D.f, D.c, D.epoch, D.replica, ⟨D.s.round, D.s.step, D.s.round, D.s.vr, (getP D.P D.s.round).h, D.s.valid, (D.s.decided), D.s.decision⟩, D.L, D.P, true, (D.sp), (D.sc)⟩ : CoreD) 2 3 ((getP D.P D.s.round).h)).P).length) (((ownV (⟨D.f, D.c, D.epoch, D.replica, ⟨D.s.round, D.s.step, D.s.round, D.s.vr, (getP D.P D.s.round).h, D.s.valid, (D.s.decided), D.s.decision⟩, D.L, D.P, true, (D.sp), (D.sc)⟩ : CoreD) 2 3 ((getP D.P D.s.round).h)).P).flatMap encQ), rowC 102 35 x312 ((ownA (⟨D.f, D.c, D.epoch, D.replica, ⟨D.s.round, D.s.step, D.s.round, D.s.vr, (getP D.P D.s.round).h, D.s.valid, (D.s.decided), D.s.decision⟩, D.L, D.P, true, (D.sp), (D.sc)⟩ : CoreD) 3 ((getP D.P D.s.round).h)).length) ((ownA (⟨D.f, D.c, D.epoch, D.replica, ⟨D.s.round, D.s.step, D.s.round, D.s.vr, (getP D.P D.s.round).h, D.s.valid, (D.s.decided), D.s.decision⟩, D.L, D.P, true, (D.sp), (D.sc)⟩ : CoreD) 3 ((getP D.P D.s.round).h)).flatMap encA)]) (R := [restC w (rcC p t (.slice va D.L.length vc) (.slice ua D.P.length uc) D).fp, cellC b148 129 (([(.int .i64 (zP D.P D.s.round)), (.int .i64 ((getP D.P D.s.round).valid))] : List Value) ++ hc (getP D.P D.s.round).h ++ ([(.bool ((getP D.P D.s.round).ok))] : List Value))]) H307 [0, 1, 2, 3] [4, 5] (by decide) (by kernel_rfl) rfl S314).pick [0, 1, 2, 3, 5, 6, 4] (by decide)
            obtain ⟨a316, c317, rfl⟩ := ownsRow_shape (H315.at 2 rfl)
            obtain ⟨a318, c319, rfl⟩ := ownsRow_shape (H315.at 3 rfl)
            obtain ⟨a320, c321, rfl⟩ := ownsRow_shape (H315.at 6 rfl)
            refine ⟨_, rfl, ?_⟩
            refine hK309 _ _ ?_
            clear hK309 K309
            refine wv 14 (.slice a320 ((ownA (⟨D.f, D.c, D.epoch, D.replica, ⟨D.s.round, D.s.step, D.s.round, D.s.vr, (getP D.P D.s.round).h, D.s.valid, (D.s.decided), D.s.decision⟩, D.L, D.P, true, (D.sp), (D.sc)⟩ : CoreD) 3 ((getP D.P D.s.round).h)).length) c321) ?_
            refine w_nil ?_
            refine then_normal ?_
            refine w_seq ?_
            refine w_lit ?_
            refine wv 310 (pt p 0) ?_
            refine wv 311 (pt p 0) ?_
            refine wv 312 (pt b148 2) ?_
            refine wv 313 (.agg ⟨(hc (getP D.P D.s.round).h)⟩) ?_ (hr := e_loadN (vs := (hc (getP D.P D.s.round).h)) rfl (by kernel_rfl) (by kernel_rfl) (by exact Nat.le_of_ble_eq_true (by kernel_rfl)) (H315.at 5 rfl) (by kernel_rfl))
            refine wv 314 (.int .i64 (D.s.round)) ?_
            refine wv 315 (pt p 0) ?_
            refine wv 316 (pt p 4) ?_
            refine wv 317 (pt p 40) ?_
            refine wl_do (wants0 rfl) (fun K322 hK322 => ?_)
            refine d_storeX (vs := (hc (getP D.P D.s.round).h)) (cs' := (rcW ((ownV (⟨D.f, D.c, D.epoch, D.replica, ⟨D.s.round, D.s.step, D.s.round, D.s.vr, (getP D.P D.s.round).h, D.s.valid, (D.s.decided), D.s.decision⟩, D.L, D.P, true, (D.sp), (D.sc)⟩ : CoreD) 2 3 ((getP D.P D.s.round).h)).f) ((ownV (⟨D.f, D.c, D.epoch, D.replica, ⟨D.s.round, D.s.step, D.s.round, D.s.vr, (getP D.P D.s.round).h, D.s.valid, (D.s.decided), D.s.decision⟩, D.L, D.P, true, (D.sp), (D.sc)⟩ : CoreD) 2 3 ((getP D.P D.s.round).h)).c) ((ownV (⟨D.f, D.c, D.epoch, D.replica, ⟨D.s.round, D.s.step, D.s.round, D.s.vr, (getP D.P D.s.round).h, D.s.valid, (D.s.decided), D.s.decision⟩, D.L, D.P, true, (D.sp), (D.sc)⟩ : CoreD) 2 3 ((getP D.P D.s.round).h)).epoch) ((ownV (⟨D.f, D.c, D.epoch, D.replica, ⟨D.s.round, D.s.step, D.s.round, D.s.vr, (getP D.P D.s.round).h, D.s.valid, (D.s.decided), D.s.decision⟩, D.L, D.P, true, (D.sp), (D.sc)⟩ : CoreD) 2 3 ((getP D.P D.s.round).h)).replica) ((ownV (⟨D.f, D.c, D.epoch, D.replica, ⟨D.s.round, D.s.step, D.s.round, D.s.vr, (getP D.P D.s.round).h, D.s.valid, (D.s.decided), D.s.decision⟩, D.L, D.P, true, (D.sp), (D.sc)⟩ : CoreD) 2 3 ((getP D.P D.s.round).h)).s.round) ((ownV (⟨D.f, D.c, D.epoch, D.replica, ⟨D.s.round, D.s.step, D.s.round, D.s.vr, (getP D.P D.s.round).h, D.s.valid, (D.s.decided), D.s.decision⟩, D.L, D.P, true, (D.sp), (D.sc)⟩ : CoreD) 2 3 ((getP D.P D.s.round).h)).s.step) ((ownV (⟨D.f, D.c, D.epoch, D.replica, ⟨D.s.round, D.s.step, D.s.round, D.s.vr, (getP D.P D.s.round).h, D.s.valid, (D.s.decided), D.s.decision⟩, D.L, D.P, true, (D.sp), (D.sc)⟩ : CoreD) 2 3 ((getP D.P D.s.round).h)).s.lr) ((ownV (⟨D.f, D.c, D.epoch, D.replica, ⟨D.s.round, D.s.step, D.s.round, D.s.vr, (getP D.P D.s.round).h, D.s.valid, (D.s.decided), D.s.decision⟩, D.L, D.P, true, (D.sp), (D.sc)⟩ : CoreD) 2 3 ((getP D.P D.s.round).h)).s.vr) ((ownV (⟨D.f, D.c, D.epoch, D.replica, ⟨D.s.round, D.s.step, D.s.round, D.s.vr, (getP D.P D.s.round).h, D.s.valid, (D.s.decided), D.s.decision⟩, D.L, D.P, true, (D.sp), (D.sc)⟩ : CoreD) 2 3 ((getP D.P D.s.round).h)).s.locked) ((getP D.P D.s.round).h) ((ownV (⟨D.f, D.c, D.epoch, D.replica, ⟨D.s.round, D.s.step, D.s.round, D.s.vr, (getP D.P D.s.round).h, D.s.valid, (D.s.decided), D.s.decision⟩, D.L, D.P, true, (D.sp), (D.sc)⟩ : CoreD) 2 3 ((getP D.P D.s.round).h)).s.decided) ((ownV (⟨D.f, D.c, D.epoch, D.replica, ⟨D.s.round, D.s.step, D.s.round, D.s.vr, (getP D.P D.s.round).h, D.s.valid, (D.s.decided), D.s.decision⟩, D.L, D.P, true, (D.sp), (D.sc)⟩ : CoreD) 2 3 ((getP D.P D.s.round).h)).s.decision) t (.slice a318 (((ownV (⟨D.f, D.c, D.epoch, D.replica, ⟨D.s.round, D.s.step, D.s.round, D.s.vr, (getP D.P D.s.round).h, D.s.valid, (D.s.decided), D.s.decision⟩, D.L, D.P, true, (D.sp), (D.sc)⟩ : CoreD) 2 3 ((getP D.P D.s.round).h)).P).length) c319) ((ownV (⟨D.f, D.c, D.epoch, D.replica, ⟨D.s.round, D.s.step, D.s.round, D.s.vr, (getP D.P D.s.round).h, D.s.valid, (D.s.decided), D.s.decision⟩, D.L, D.P, true, (D.sp), (D.sc)⟩ : CoreD) 2 3 ((getP D.P D.s.round).h)).wv) ((ownV (⟨D.f, D.c, D.epoch, D.replica, ⟨D.s.round, D.s.step, D.s.round, D.s.vr, (getP D.P D.s.round).h, D.s.valid, (D.s.decided), D.s.decision⟩, D.L, D.P, true, (D.sp), (D.sc)⟩ : CoreD) 2 3 ((getP D.P D.s.round).h)).sp) ((ownV (⟨D.f, D.c, D.epoch, D.replica, ⟨D.s.round, D.s.step, D.s.round, D.s.vr, (getP D.P D.s.round).h, D.s.valid, (D.s.decided), D.s.decision⟩, D.L, D.P, true, (D.sp), (D.sc)⟩ : CoreD) 2 3 ((getP D.P D.s.round).h)).sc))) rfl H315 0 rfl rfl rfl rfl (by kernel_rfl) (Nat.le_of_ble_eq_true (by kernel_rfl)) (Nat.le_of_ble_eq_true (by kernel_rfl)) (by kernel_rfl) (by kernel_rfl) ?_
            intro w323 (H324 : Sat w [cellC p 83 (rcW ((ownV (⟨D.f, D.c, D.epoch, D.replica, ⟨D.s.round, D.s.step, D.s.round, D.s.vr, (getP D.P D.s.round).h, D.s.valid, (D.s.decided), D.s.decision⟩, D.L, D.P, true, (D.sp), (D.sc)⟩ : CoreD) 2 3 ((getP D.P D.s.round).h)).f) ((ownV (⟨D.f, D.c, D.epoch, D.replica, ⟨D.s.round, D.s.step, D.s.round, D.s.vr, (getP D.P D.s.round).h, D.s.valid, (D.s.decided), D.s.decision⟩, D.L, D.P, true, (D.sp), (D.sc)⟩ : CoreD) 2 3 ((getP D.P D.s.round).h)).c) ((ownV (⟨D.f, D.c, D.epoch, D.replica, ⟨D.s.round, D.s.step, D.s.round, D.s.vr, (getP D.P D.s.round).h, D.s.valid, (D.s.decided), D.s.decision⟩, D.L, D.P, true, (D.sp), (D.sc)⟩ : CoreD) 2 3 ((getP D.P D.s.round).h)).epoch) ((ownV (⟨D.f, D.c, D.epoch, D.replica, ⟨D.s.round, D.s.step, D.s.round, D.s.vr, (getP D.P D.s.round).h, D.s.valid, (D.s.decided), D.s.decision⟩, D.L, D.P, true, (D.sp), (D.sc)⟩ : CoreD) 2 3 ((getP D.P D.s.round).h)).replica) ((ownV (⟨D.f, D.c, D.epoch, D.replica, ⟨D.s.round, D.s.step, D.s.round, D.s.vr, (getP D.P D.s.round).h, D.s.valid, (D.s.decided), D.s.decision⟩, D.L, D.P, true, (D.sp), (D.sc)⟩ : CoreD) 2 3 ((getP D.P D.s.round).h)).s.round) ((ownV (⟨D.f, D.c, D.epoch, D.replica, ⟨D.s.round, D.s.step, D.s.round, D.s.vr, (getP D.P D.s.round).h, D.s.valid, (D.s.decided), D.s.decision⟩, D.L, D.P, true, (D.sp), (D.sc)⟩ : CoreD) 2 3 ((getP D.P D.s.round).h)).s.step) ((ownV (⟨D.f, D.c, D.epoch, D.replica, ⟨D.s.round, D.s.step, D.s.round, D.s.vr, (getP D.P D.s.round).h, D.s.valid, (D.s.decided), D.s.decision⟩, D.L, D.P, true, (D.sp), (D.sc)⟩ : CoreD) 2 3 ((getP D.P D.s.round).h)).s.lr) ((ownV (⟨D.f, D.c, D.epoch, D.replica, ⟨D.s.round, D.s.step, D.s.round, D.s.vr, (getP D.P D.s.round).h, D.s.valid, (D.s.decided), D.s.decision⟩, D.L, D.P, true, (D.sp), (D.sc)⟩ : CoreD) 2 3 ((getP D.P D.s.round).h)).s.vr) ((ownV (⟨D.f, D.c, D.epoch, D.replica, ⟨D.s.round, D.s.step, D.s.round, D.s.vr, (getP D.P D.s.round).h, D.s.valid, (D.s.decided), D.s.decision⟩, D.L, D.P, true, (D.sp), (D.sc)⟩ : CoreD) 2 3 ((getP D.P D.s.round).h)).s.locked) ((getP D.P D.s.round).h) ((ownV (⟨D.f, D.c, D.epoch, D.replica, ⟨D.s.round, D.s.step, D.s.round, D.s.vr, (getP D.P D.s.round).h, D.s.valid, (D.s.decided), D.s.decision⟩, D.L, D.P, true, (D.sp), (D.sc)⟩ : CoreD) 2 3 ((getP D.P D.s.round).h)).s.decided) ((ownV (⟨D.f, D.c, D.epoch, D.replica, ⟨D.s.round, D.s.step, D.s.round, D.s.vr, (getP D.P D.s.round).h, D.s.valid, (D.s.decided), D.s.decision⟩, D.L, D.P, true, (D.sp), (D.sc)⟩ : CoreD) 2 3 ((getP D.P D.s.round).h)).s.decision) t (.slice a318 (((ownV (⟨D.f, D.c, D.epoch, D.replica, ⟨D.s.round, D.s.step, D.s.round, D.s.vr, (getP D.P D.s.round).h, D.s.valid, (D.s.decided), D.s.decision⟩, D.L, D.P, true, (D.sp), (D.sc)⟩ : CoreD) 2 3 ((getP D.P D.s.round).h)).P).length) c319) ((ownV (⟨D.f, D.c, D.epoch, D.replica, ⟨D.s.round, D.s.step, D.s.round, D.s.vr, (getP D.P D.s.round).h, D.s.valid, (D.s.decided), D.s.decision⟩, D.L, D.P, true, (D.sp), (D.sc)⟩ : CoreD) 2 3 ((getP D.P D.s.round).h)).wv) ((ownV (⟨D.f, D.c, D.epoch, D.replica, ⟨D.s.round, D.s.step, D.s.round, D.s.vr, (getP D.P D.s.round).h, D.s.valid, (D.s.decided), D.s.decision⟩, D.L, D.P, true, (D.sp), (D.sc)⟩ : CoreD) 2 3 ((getP D.P D.s.round).h)).sp) ((ownV (⟨D.f, D.c, D.epoch, D.replica, ⟨D.s.round, D.s.step, D.s.round, D.s.vr, (getP D.P D.s.round).h, D.s.valid, (D.s.decided), D.s.decision⟩, D.L, D.P, true, (D.sp), (D.sc)⟩ : CoreD) 2 3 ((getP D.P D.s.round).h)).sc)), cellC t 101 ([(.int .i64 ((ownV (⟨D.f, D.c, D.epoch, D.replica, ⟨D.s.round, D.s.step, D.s.round, D.s.vr, (getP D.P D.s.round).h, D.s.valid, (D.s.decided), D.s.decision⟩, D.L, D.P, true, (D.sp), (D.sc)⟩ : CoreD) 2 3 ((getP D.P D.s.round).h)).f)), (.int .i64 ((ownV (⟨D.f, D.c, D.epoch, D.replica, ⟨D.s.round, D.s.step, D.s.round, D.s.vr, (getP D.P D.s.round).h, D.s.valid, (D.s.decided), D.s.decision⟩, D.L, D.P, true, (D.sp), (D.sc)⟩ : CoreD) 2 3 ((getP D.P D.s.round).h)).c)), (.slice a316 (((ownV (⟨D.f, D.c, D.epoch, D.replica, ⟨D.s.round, D.s.step, D.s.round, D.s.vr, (getP D.P D.s.round).h, D.s.valid, (D.s.decided), D.s.decision⟩, D.L, D.P, true, (D.sp), (D.sc)⟩ : CoreD) 2 3 ((getP D.P D.s.round).h)).L).length) c317)] : List Value), rowC 143 35 (.slice a316 (((ownV (⟨D.f, D.c, D.epoch, D.replica, ⟨D.s.round, D.s.step, D.s.round, D.s.vr, (getP D.P D.s.round).h, D.s.valid, (D.s.decided), D.s.decision⟩, D.L, D.P, true, (D.sp), (D.sc)⟩ : CoreD) 2 3 ((getP D.P D.s.round).h)).L).length) c317) (((ownV (⟨D.f, D.c, D.epoch, D.replica, ⟨D.s.round, D.s.step, D.s.round, D.s.vr, (getP D.P D.s.round).h, D.s.valid, (D.s.decided), D.s.decision⟩, D.L, D.P, true, (D.sp), (D.sc)⟩ : CoreD) 2 3 ((getP D.P D.s.round).h)).L).length) (((ownV (⟨D.f, D.c, D.epoch, D.replica, ⟨D.s.round, D.s.step, D.s.round, D.s.vr, (getP D.P D.s.round).h, D.s.valid, (D.s.decided), D.s.decision⟩, D.L, D.P, true, (D.sp), (D.sc)⟩ : CoreD) 2 3 ((getP D.P D.s.round).h)).L).flatMap encV), rowC 129 35 (.slice a318 (((ownV (⟨D.f, D.c, D.epoch, D.replica, ⟨D.s.round, D.s.step, D.s.round, D.s.vr, (getP D.P D.s.round).h, D.s.valid, (D.s.decided), D.s.decision⟩, D.L, D.P, true, (D.sp), (D.sc)⟩ : CoreD) 2 3 ((getP D.P D.s.round).h)).P).length) c319) (((ownV (⟨D.f, D.c, D.epoch, D.replica, ⟨D.s.round, D.s.step, D.s.round, D.s.vr, (getP D.P D.s.round).h, D.s.valid, (D.s.decided), D.s.decision⟩, D.L, D.P, true, (D.sp), (D.sc)⟩ : CoreD) 2 3 ((getP D.P D.s.round).h)).P).length) (((ownV (⟨D.f, D.c, D.epoch, D.replica, ⟨D.s.round, D.s.step, D.s.round, D.s.vr, (getP D.P D.s.round).h, D.s.valid, (D.s.decided), D.s.decision⟩, D.L, D.P, true, (D.sp), (D.sc)⟩ : CoreD) 2 3 ((getP D.P D.s.round).h)).P).flatMap encQ), restC w (rcC p t (.slice va D.L.length vc) (.slice ua D.P.length uc) D).fp, cellC b148 129 (([(.int .i64 (zP D.P D.s.round)), (.int .i64 ((getP D.P D.s.round).valid))] : List Value) ++ hc (getP D.P D.s.round).h ++ ([(.bool ((getP D.P D.s.round).ok))] : List Value)), rowC 102 35 (.slice a320 ((ownA (⟨D.f, D.c, D.epoch, D.replica, ⟨D.s.round, D.s.step, D.s.round, D.s.vr, (getP D.P D.s.round).h, D.s.valid, (D.s.decided), D.s.decision⟩, D.L, D.P, true, (D.sp), (D.sc)⟩ : CoreD) 3 ((getP D.P D.s.round).h)).length) c321) ((ownA (⟨D.f, D.c, D.epoch, D.replica, ⟨D.s.round, D.s.step, D.s.round, D.s.vr, (getP D.P D.s.round).h, D.s.valid, (D.s.decided), D.s.decision⟩, D.L, D.P, true, (D.sp), (D.sc)⟩ : CoreD) 3 ((getP D.P D.s.round).h)).length) ((ownA (⟨D.f, D.c, D.epoch, D.replica, ⟨D.s.round, D.s.step, D.s.round, D.s.vr, (getP D.P D.s.round).h, D.s.valid, (D.s.decided), D.s.decision⟩, D.L, D.P, true, (D.sp), (D.sc)⟩ : CoreD) 3 ((getP D.P D.s.round).h)).flatMap encA)] w323)
            refine hK322 _ _ ?_
            clear hK322 K322
            refine wv 318 (pt p 0) ?_
            refine wv 319 (pt p 4) ?_
            refine wv 320 (pt p 7) ?_
            refine wl_do (wants0 rfl) (fun K326 hK326 => ?_)
            refine d_storeX (vs := ([(.int .i64 (D.s.round))] : List Value)) (cs' := (rcW ((ownV (⟨D.f, D.c, D.epoch, D.replica, ⟨D.s.round, D.s.step, D.s.round, D.s.vr, (getP D.P D.s.round).h, D.s.valid, (D.s.decided), D.s.decision⟩, D.L, D.P, true, (D.sp), (D.sc)⟩ : CoreD) 2 3 ((getP D.P D.s.round).h)).f) ((ownV (⟨D.f, D.c, D.epoch, D.replica, ⟨D.s.round, D.s.step, D.s.round, D.s.vr, (getP D.P D.s.round).h, D.s.valid, (D.s.decided), D.s.decision⟩, D.L, D.P, true, (D.sp), (D.sc)⟩ : CoreD) 2 3 ((getP D.P D.s.round).h)).c) ((ownV (⟨D.f, D.c, D.epoch, D.replica, ⟨D.s.round, D.s.step, D.s.round, D.s.vr, (getP D.P D.s.round).h, D.s.valid, (D.s.decided), D.s.decision⟩, D.L, D.P, true, (D.sp), (D.sc)⟩ : CoreD) 2 3 ((getP D.P D.s.round).h)).epoch) ((ownV (⟨D.f, D.c, D.epoch, D.replica, ⟨D.s.round, D.s.step, D.s.round, D.s.vr, (getP D.P D.s.round).h, D.s.valid, (D.s.decided), D.s.decision⟩, D.L, D.P, true, (D.sp), (D.sc)⟩ : CoreD) 2 3 ((getP D.P D.s.round).h)).replica) ((ownV (⟨D.f, D.c, D.epoch, D.replica, ⟨D.s.round, D.s.step, D.s.round, D.s.vr, (getP D.P D.s.round).h, D.s.valid, (D.s.decided), D.s.decision⟩, D.L, D.P, true, (D.sp), (D.sc)⟩ : CoreD) 2 3 ((getP D.P D.s.round).h)).s.round) ((ownV (⟨D.f, D.c, D.epoch, D.replica, ⟨D.s.round, D.s.step, D.s.round, D.s.vr, (getP D.P D.s.round).h, D.s.valid, (D.s.decided), D.s.decision⟩, D.L, D.P, true, (D.sp), (D.sc)⟩ : CoreD) 2 3 ((getP D.P D.s.round).h)).s.step) ((ownV (⟨D.f, D.c, D.epoch, D.replica, ⟨D.s.round, D.s.step, D.s.round, D.s.vr, (getP D.P D.s.round).h, D.s.valid, (D.s.decided), D.s.decision⟩, D.L, D.P, true, (D.sp), (D.sc)⟩ : CoreD) 2 3 ((getP D.P D.s.round).h)).s.lr) D.s.round ((ownV (⟨D.f, D.c, D.epoch, D.replica, ⟨D.s.round, D.s.step, D.s.round, D.s.vr, (getP D.P D.s.round).h, D.s.valid, (D.s.decided), D.s.decision⟩, D.L, D.P, true, (D.sp), (D.sc)⟩ : CoreD) 2 3 ((getP D.P D.s.round).h)).s.locked) ((getP D.P D.s.round).h) ((ownV (⟨D.f, D.c, D.epoch, D.replica, ⟨D.s.round, D.s.step, D.s.round, D.s.vr, (getP D.P D.s.round).h, D.s.valid, (D.s.decided), D.s.decision⟩, D.L, D.P, true, (D.sp), (D.sc)⟩ : CoreD) 2 3 ((getP D.P D.s.round).h)).s.decided) ((ownV (⟨D.f, D.c, D.epoch, D.replica, ⟨D.s.round, D.s.step, D.s.round, D.s.vr, (getP D.P D.s.round).h, D.s.valid, (D.s.decided), D.s.decision⟩, D.L, D.P, true, (D.sp), (D.sc)⟩ : CoreD) 2 3 ((getP D.P D.s.round).h)).s.decision) t (.slice a318 (((ownV (⟨D.f, D.c, D.epoch, D.replica, ⟨D.s.round, D.s.step, D.s.round, D.s.vr, (getP D.P D.s.round).h, D.s.valid, (D.s.decided), D.s.decision⟩, D.L, D.P, true, (D.sp), (D.sc)⟩ : CoreD) 2 3 ((getP D.P D.s.round).h)).P).length) c319) ((ownV (⟨D.f, D.c, D.epoch, D.replica, ⟨D.s.round, D.s.step, D.s.round, D.s.vr, (getP D.P D.s.round).h, D.s.valid, (D.s.decided), D.s.decision⟩, D.L, D.P, true, (D.sp), (D.sc)⟩ : CoreD) 2 3 ((getP D.P D.s.round).h)).wv) ((ownV (⟨D.f, D.c, D.epoch, D.replica, ⟨D.s.round, D.s.step, D.s.round, D.s.vr, (getP D.P D.s.round).h, D.s.valid, (D.s.decided), D.s.decision⟩, D.L, D.P, true, (D.sp), (D.sc)⟩ : CoreD) 2 3 ((getP D.P D.s.round).h)).sp) ((ownV (⟨D.f, D.c, D.epoch, D.replica, ⟨D.s.round, D.s.step, D.s.round, D.s.vr, (getP D.P D.s.round).h, D.s.valid, (D.s.decided), D.s.decision⟩, D.L, D.P, true, (D.sp), (D.sc)⟩ : CoreD) 2 3 ((getP D.P D.s.round).h)).sc))) rfl H324 0 rfl rfl rfl rfl (by kernel_rfl) (Nat.le_of_ble_eq_true (by kernel_rfl)) (Nat.le_of_ble_eq_true (by kernel_rfl)) (by kernel_rfl) (by kernel_rfl) ?_
            intro w327 (H328 : Sat w [cellC p 83 (rcW ((ownV (⟨D.f, D.c, D.epoch, D.replica, ⟨D.s.round, D.s.step, D.s.round, D.s.vr, (getP D.P D.s.round).h, D.s.valid, (D.s.decided), D.s.decision⟩, D.L, D.P, true, (D.sp), (D.sc)⟩ : CoreD) 2 3 ((getP D.P D.s.round).h)).f) ((ownV (⟨D.f, D.c, D.epoch, D.replica, ⟨D.s.round, D.s.step, D.s.round, D.s.vr, (getP D.P D.s.round).h, D.s.valid, (D.s.decided), D.s.decision⟩, D.L, D.P, true, (D.sp), (D.sc)⟩ : CoreD) 2 3 ((getP D.P D.s.round).h)).c) ((ownV (⟨D.f, D.c, D.epoch, D.replica, ⟨D.s.round, D.s.step, D.s.round, D.s.vr, (getP D.P D.s.round).h, D.s.valid, (D.s.decided), D.s.decision⟩, D.L, D.P, true, (D.sp), (D.sc)⟩ : CoreD) 2 3 ((getP D.P D.s.round).h)).epoch) ((ownV (⟨D.f, D.c, D.epoch, D.replica, ⟨D.s.round, D.s.step, D.s.round, D.s.vr, (getP D.P D.s.round).h, D.s.valid, (D.s.decided), D.s.decision⟩, D.L, D.P, true, (D.sp), (D.sc)⟩ : CoreD) 2 3 ((getP D.P D.s.round).h)).replica) ((ownV (⟨D.f, D.c, D.epoch, D.replica, ⟨D.s.round, D.s.step, D.s.round, D.s.vr, (getP D.P D.s.round).h, D.s.valid, (D.s.decided), D.s.decision⟩, D.L, D.P, true, (D.sp), (D.sc)⟩ : CoreD) 2 3 ((getP D.P D.s.round).h)).s.round) ((ownV (⟨D.f, D.c, D.epoch, D.replica, ⟨D.s.round, D.s.step, D.s.round, D.s.vr, (getP D.P D.s.round).h, D.s.valid, (D.s.decided), D.s.decision⟩, D.L, D.P, true, (D.sp), (D.sc)⟩ : CoreD) 2 3 ((getP D.P D.s.round).h)).s.step) ((ownV (⟨D.f, D.c, D.epoch, D.replica, ⟨D.s.round, D.s.step, D.s.round, D.s.vr, (getP D.P D.s.round).h, D.s.valid, (D.s.decided), D.s.decision⟩, D.L, D.P, true, (D.sp), (D.sc)⟩ : CoreD) 2 3 ((getP D.P D.s.round).h)).s.lr) D.s.round ((ownV (⟨D.f, D.c, D.epoch, D.replica, ⟨D.s.round, D.s.step, D.s.round, D.s.vr, (getP D.P D.s.round).h, D.s.valid, (D.s.decided), D.s.decision⟩, D.L, D.P, true, (D.sp), (D.sc)⟩ : CoreD) 2 3 ((getP D.P D.s.round).h)).s.locked) ((getP D.P D.s.round).h) ((ownV (⟨D.f, D.c, D.epoch, D.replica, ⟨D.s.round, D.s.step, D.s.round, D.s.vr, (getP D.P D.s.round).h, D.s.valid, (D.s.decided), D.s.decision⟩, D.L, D.P, true, (D.sp), (D.sc)⟩ : CoreD) 2 3 ((getP D.P D.s.round).h)).s.decided) ((ownV (⟨D.f, D.c, D.epoch, D.replica, ⟨D.s.round, D.s.step, D.s.round, D.s.vr, (getP D.P D.s.round).h, D.s.valid, (D.s.decided), D.s.decision⟩, D.L, D.P, true, (D.sp), (D.sc)⟩ : CoreD) 2 3 ((getP D.P D.s.round).h)).s.decision) t (.slice a318 (((ownV (⟨D.f, D.c, D.epoch, D.replica, ⟨D.s.round, D.s.step, D.s.round, D.s.vr, (getP D.P D.s.round).h, D.s.valid, (D.s.decided), D.s.decision⟩, D.L, D.P, true, (D.sp), (D.sc)⟩ : CoreD) 2 3 ((getP D.P D.s.round).h)).P).length) c319) ((ownV (⟨D.f, D.c, D.epoch, D.replica, ⟨D.s.round, D.s.step, D.s.round, D.s.vr, (getP D.P D.s.round).h, D.s.valid, (D.s.decided), D.s.decision⟩, D.L, D.P, true, (D.sp), (D.sc)⟩ : CoreD) 2 3 ((getP D.P D.s.round).h)).wv) ((ownV (⟨D.f, D.c, D.epoch, D.replica, ⟨D.s.round, D.s.step, D.s.round, D.s.vr, (getP D.P D.s.round).h, D.s.valid, (D.s.decided), D.s.decision⟩, D.L, D.P, true, (D.sp), (D.sc)⟩ : CoreD) 2 3 ((getP D.P D.s.round).h)).sp) ((ownV (⟨D.f, D.c, D.epoch, D.replica, ⟨D.s.round, D.s.step, D.s.round, D.s.vr, (getP D.P D.s.round).h, D.s.valid, (D.s.decided), D.s.decision⟩, D.L, D.P, true, (D.sp), (D.sc)⟩ : CoreD) 2 3 ((getP D.P D.s.round).h)).sc)), cellC t 101 ([(.int .i64 ((ownV (⟨D.f, D.c, D.epoch, D.replica, ⟨D.s.round, D.s.step, D.s.round, D.s.vr, (getP D.P D.s.round).h, D.s.valid, (D.s.decided), D.s.decision⟩, D.L, D.P, true, (D.sp), (D.sc)⟩ : CoreD) 2 3 ((getP D.P D.s.round).h)).f)), (.int .i64 ((ownV (⟨D.f, D.c, D.epoch, D.replica, ⟨D.s.round, D.s.step, D.s.round, D.s.vr, (getP D.P D.s.round).h, D.s.valid, (D.s.decided), D.s.decision⟩, D.L, D.P, true, (D.sp), (D.sc)⟩ : CoreD) 2 3 ((getP D.P D.s.round).h)).c)), (.slice a316 (((ownV (⟨D.f, D.c, D.epoch, D.replica, ⟨D.s.round, D.s.step, D.s.round, D.s.vr, (getP D.P D.s.round).h, D.s.valid, (D.s.decided), D.s.decision⟩, D.L, D.P, true, (D.sp), (D.sc)⟩ : CoreD) 2 3 ((getP D.P D.s.round).h)).L).length) c317)] : List Value), rowC 143 35 (.slice a316 (((ownV (⟨D.f, D.c, D.epoch, D.replica, ⟨D.s.round, D.s.step, D.s.round, D.s.vr, (getP D.P D.s.round).h, D.s.valid, (D.s.decided), D.s.decision⟩, D.L, D.P, true, (D.sp), (D.sc)⟩ : CoreD) 2 3 ((getP D.P D.s.round).h)).L).length) c317) (((ownV (⟨D.f, D.c, D.epoch, D.replica, ⟨D.s.round, D.s.step, D.s.round, D.s.vr, (getP D.P D.s.round).h, D.s.valid, (D.s.decided), D.s.decision⟩, D.L, D.P, true, (D.sp), (D.sc)⟩ : CoreD) 2 3 ((getP D.P D.s.round).h)).L).length) (((ownV (⟨D.f, D.c, D.epoch, D.replica, ⟨D.s.round, D.s.step, D.s.round, D.s.vr, (getP D.P D.s.round).h, D.s.valid, (D.s.decided), D.s.decision⟩, D.L, D.P, true, (D.sp), (D.sc)⟩ : CoreD) 2 3 ((getP D.P D.s.round).h)).L).flatMap encV), rowC 129 35 (.slice a318 (((ownV (⟨D.f, D.c, D.epoch, D.replica, ⟨D.s.round, D.s.step, D.s.round, D.s.vr, (getP D.P D.s.round).h, D.s.valid, (D.s.decided), D.s.decision⟩, D.L, D.P, true, (D.sp), (D.sc)⟩ : CoreD) 2 3 ((getP D.P D.s.round).h)).P).length) c319) (((ownV (⟨D.f, D.c, D.epoch, D.replica, ⟨D.s.round, D.s.step, D.s.round, D.s.vr, (getP D.P D.s.round).h, D.s.valid, (D.s.decided), D.s.decision⟩, D.L, D.P, true, (D.sp), (D.sc)⟩ : CoreD) 2 3 ((getP D.P D.s.round).h)).P).length) (((ownV (⟨D.f, D.c, D.epoch, D.replica, ⟨D.s.round, D.s.step, D.s.round, D.s.vr, (getP D.P D.s.round).h, D.s.valid, (D.s.decided), D.s.decision⟩, D.L, D.P, true, (D.sp), (D.sc)⟩ : CoreD) 2 3 ((getP D.P D.s.round).h)).P).flatMap encQ), restC w (rcC p t (.slice va D.L.length vc) (.slice ua D.P.length uc) D).fp, cellC b148 129 (([(.int .i64 (zP D.P D.s.round)), (.int .i64 ((getP D.P D.s.round).valid))] : List Value) ++ hc (getP D.P D.s.round).h ++ ([(.bool ((getP D.P D.s.round).ok))] : List Value)), rowC 102 35 (.slice a320 ((ownA (⟨D.f, D.c, D.epoch, D.replica, ⟨D.s.round, D.s.step, D.s.round, D.s.vr, (getP D.P D.s.round).h, D.s.valid, (D.s.decided), D.s.decision⟩, D.L, D.P, true, (D.sp), (D.sc)⟩ : CoreD) 3 ((getP D.P D.s.round).h)).length) c321) ((ownA (⟨D.f, D.c, D.epoch, D.replica, ⟨D.s.round, D.s.step, D.s.round, D.s.vr, (getP D.P D.s.round).h, D.s.valid, (D.s.decided), D.s.decision⟩, D.L, D.P, true, (D.sp), (D.sc)⟩ : CoreD) 3 ((getP D.P D.s.round).h)).length) ((ownA (⟨D.f, D.c, D.epoch, D.replica, ⟨D.s.round, D.s.step, D.s.round, D.s.vr, (getP D.P D.s.round).h, D.s.valid, (D.s.decided), D.s.decision⟩, D.L, D.P, true, (D.sp), (D.sc)⟩ : CoreD) 3 ((getP D.P D.s.round).h)).flatMap encA)] w327)
            refine hK326 _ _ ?_
            clear hK326 K326
            refine w_nil ?_
            refine then_normal ?_
            refine w_seq ?_
            refine w_lit ?_
            refine wv 321 (.slice a320 ((ownA (⟨D.f, D.c, D.epoch, D.replica, ⟨D.s.round, D.s.step, D.s.round, D.s.vr, (getP D.P D.s.round).h, D.s.valid, (D.s.decided), D.s.decision⟩, D.L, D.P, true, (D.sp), (D.sc)⟩ : CoreD) 3 ((getP D.P D.s.round).h)).length) c321) ?_
            refine wv 2 (.slice a320 ((ownA (⟨D.f, D.c, D.epoch, D.replica, ⟨D.s.round, D.s.step, D.s.round, D.s.vr, (getP D.P D.s.round).h, D.s.valid, (D.s.decided), D.s.decision⟩, D.L, D.P, true, (D.sp), (D.sc)⟩ : CoreD) 3 ((getP D.P D.s.round).h)).length) c321) ?_
            refine wv 3 (.bool true) ?_
            refine w_nil ?_
            refine then_normal ?_
            refine w_ret ?_
            refine then_ret ?_
            refine end2 rfl (res_tmp (v := (.slice a320 ((ownA (⟨D.f, D.c, D.epoch, D.replica, ⟨D.s.round, D.s.step, D.s.round, D.s.vr, (getP D.P D.s.round).h, D.s.valid, (D.s.decided), D.s.decision⟩, D.L, D.P, true, (D.sp), (D.sc)⟩ : CoreD) 3 ((getP D.P D.s.round).h)).length) c321)) rfl) (res_tmp (v := (.bool true)) rfl) ?_
            have hl := hLe.1 (by have := of_decide_eq_false b69; omega)
            have hg := farW_no h (hfr ▸ of_decide_eq_false b125)
            have hc : (chooseD D (getP D.P D.s.round)).2 = false := by
             have q1 := of_decide_eq_false b166
             have q2 := of_decide_eq_false b217
             unfold chooseD; rw [if_pos ⟨by omega, by omega⟩]
            exact .inl ⟨(.slice a316 (((ownV (⟨D.f, D.c, D.epoch, D.replica, ⟨D.s.round, D.s.step, D.s.round, D.s.vr, (getP D.P D.s.round).h, D.s.valid, (D.s.decided), D.s.decision⟩, D.L, D.P, true, (D.sp), (D.sc)⟩ : CoreD) 2 3 ((getP D.P D.s.round).h)).L).length) c317), (.slice a318 (((ownV (⟨D.f, D.c, D.epoch, D.replica, ⟨D.s.round, D.s.step, D.s.round, D.s.vr, (getP D.P D.s.round).h, D.s.valid, (D.s.decided), D.s.decision⟩, D.L, D.P, true, (D.sp), (D.sc)⟩ : CoreD) 2 3 ((getP D.P D.s.round).h)).P).length) c319), _, validD (ownV (lockD (wvD D) (getP D.P D.s.round).h) 2 3 (getP D.P D.s.round).h) (getP D.P D.s.round).h, ownA D 3 (getP D.P D.s.round).h, rfl, (by rw [ruleD_b, if_neg (by omega), if_neg hg, if_neg (by rw [b165, hc]; simp), if_pos b293, if_pos (of_decide_eq_true b298)]), (H328.pick [0, 1, 2, 3, 6, 4] (by decide)).cast (by kernel_rfl)⟩
           ·have g330 := of_decide_eq_false b298
            refine wp_know 294 (.bool false) (congrArg Value.bool b298) ?_
            have g331 := of_decide_eq_false b298
            refine wp_iff rfl ?_
            refine w_skip ?_
            refine then_normal ?_
            refine w_seq ?_
            refine w_lit ?_
            refine wv 310 (pt p 0) ?_
            refine wv 311 (pt p 0) ?_
            refine wv 312 (pt b148 2) ?_
            refine wv 313 (.agg ⟨(hc (getP D.P D.s.round).h)⟩) ?_ (hr := e_loadN (vs := (hc (getP D.P D.s.round).h)) rfl (by kernel_rfl) (by kernel_rfl) (by exact Nat.le_of_ble_eq_true (by kernel_rfl)) (H296.at 5 rfl) (by kernel_rfl))
            refine wv 314 (.int .i64 (D.s.round)) ?_
            refine wv 315 (pt p 0) ?_
            refine wv 316 (pt p 4) ?_
            refine wv 317 (pt p 40) ?_
            refine wl_do (wants0 rfl) (fun K332 hK332 => ?_)
            refine d_storeX (vs := (hc (getP D.P D.s.round).h)) (cs' := (rcW D.f D.c D.epoch D.replica D.s.round D.s.step D.s.lr D.s.vr D.s.locked ((getP D.P D.s.round).h) D.s.decided D.s.decision t (.slice ua D.P.length uc) true D.sp D.sc)) rfl H296 0 rfl rfl rfl rfl (by kernel_rfl) (Nat.le_of_ble_eq_true (by kernel_rfl)) (Nat.le_of_ble_eq_true (by kernel_rfl)) (by kernel_rfl) (by kernel_rfl) ?_
            intro w333 (H334 : Sat w [cellC p 83 (rcW D.f D.c D.epoch D.replica D.s.round D.s.step D.s.lr D.s.vr D.s.locked ((getP D.P D.s.round).h) D.s.decided D.s.decision t (.slice ua D.P.length uc) true D.sp D.sc), cellC t 101 ([(.int .i64 (D.f)), (.int .i64 (D.c)), (.slice va D.L.length vc)] : List Value), rowC 143 35 (.slice va D.L.length vc) D.L.length (D.L.flatMap encV), rowC 129 35 (.slice ua D.P.length uc) D.P.length (D.P.flatMap encQ), restC w (rcC p t (.slice va D.L.length vc) (.slice ua D.P.length uc) D).fp, cellC b148 129 (([(.int .i64 (zP D.P D.s.round)), (.int .i64 ((getP D.P D.s.round).valid))] : List Value) ++ hc (getP D.P D.s.round).h ++ ([(.bool ((getP D.P D.s.round).ok))] : List Value))] w333)
            refine hK332 _ _ ?_
            clear hK332 K332
            refine wv 318 (pt p 0) ?_
            refine wv 319 (pt p 4) ?_
            refine wv 320 (pt p 7) ?_
            refine wl_do (wants0 rfl) (fun K336 hK336 => ?_)
            refine d_storeX (vs := ([(.int .i64 (D.s.round))] : List Value)) (cs' := (rcW D.f D.c D.epoch D.replica D.s.round D.s.step D.s.lr D.s.round D.s.locked ((getP D.P D.s.round).h) D.s.decided D.s.decision t (.slice ua D.P.length uc) true D.sp D.sc)) rfl H334 0 rfl rfl rfl rfl (by kernel_rfl) (Nat.le_of_ble_eq_true (by kernel_rfl)) (Nat.le_of_ble_eq_true (by kernel_rfl)) (by kernel_rfl) (by kernel_rfl) ?_
            intro w337 (H338 : Sat w [cellC p 83 (rcW D.f D.c D.epoch D.replica D.s.round D.s.step D.s.lr D.s.round D.s.locked ((getP D.P D.s.round).h) D.s.decided D.s.decision t (.slice ua D.P.length uc) true D.sp D.sc), cellC t 101 ([(.int .i64 (D.f)), (.int .i64 (D.c)), (.slice va D.L.length vc)] : List Value), rowC 143 35 (.slice va D.L.length vc) D.L.length (D.L.flatMap encV), rowC 129 35 (.slice ua D.P.length uc) D.P.length (D.P.flatMap encQ), restC w (rcC p t (.slice va D.L.length vc) (.slice ua D.P.length uc) D).fp, cellC b148 129 (([(.int .i64 (zP D.P D.s.round)), (.int .i64 ((getP D.P D.s.round).valid))] : List Value) ++ hc (getP D.P D.s.round).h ++ ([(.bool ((getP D.P D.s.round).ok))] : List Value))] w337)
            refine hK336 _ _ ?_
            clear hK336 K336
            refine w_nil ?_
            refine then_normal ?_
            refine w_seq ?_
            refine w_lit ?_
            refine wv 321 (.slice none 0 0) ?_
            refine wv 2 (.slice none 0 0) ?_
            refine wv 3 (.bool true) ?_
            refine w_nil ?_
            refine then_normal ?_
            refine w_ret ?_
            refine then_ret ?_
            refine end2 rfl (res_tmp (v := (.slice none 0 0)) rfl) (res_tmp (v := (.bool true)) rfl) ?_
            have hl := hLe.1 (by have := of_decide_eq_false b69; omega)
            have hg := farW_no h (hfr ▸ of_decide_eq_false b125)
            have hc : (chooseD D (getP D.P D.s.round)).2 = false := by
             have q1 := of_decide_eq_false b166
             have q2 := of_decide_eq_false b217
             unfold chooseD; rw [if_pos ⟨by omega, by omega⟩]
            have Hn := H338.addNil 102 35
            exact .inl ⟨(.slice va D.L.length vc), (.slice ua D.P.length uc), _, validD (wvD D) (getP D.P D.s.round).h, [], rfl, (by rw [ruleD_b, if_neg (by omega), if_neg hg, if_neg (by rw [b165, hc]; simp), if_pos b293, if_neg (of_decide_eq_false b298)]), (Hn.pick [0, 1, 2, 3, 6, 4] (by decide)).cast (by kernel_rfl)⟩
          ·refine wp_know 284 (.bool false) (congrArg Value.bool b293) ?_
           refine wp_iff rfl ?_
           refine w_skip ?_
           refine then_normal ?_
           refine w_seq ?_
           refine wp_meetR [322, 323, 324, 325, 326, 327, 328, 329, 330, 331, 332, 333, 334, 335, 336, 337, 338] (fun G_ W_ => G_ 338 = (.bool (c5 D)) ∧ Sat w [cellC p 83 (rcL t (.slice ua D.P.length uc) D), cellC t 101 ([(.int .i64 (D.f)), (.int .i64 (D.c)), (.slice va D.L.length vc)] : List Value), rowC 143 35 (.slice va D.L.length vc) D.L.length (D.L.flatMap encV), rowC 129 35 (.slice ua D.P.length uc) D.P.length (D.P.flatMap encQ), restC w (rcC p t (.slice va D.L.length vc) (.slice ua D.P.length uc) D).fp, cellC b148 129 (([(.int .i64 (zP D.P D.s.round)), (.int .i64 ((getP D.P D.s.round).valid))] : List Value) ++ hc (getP D.P D.s.round).h ++ ([(.bool ((getP D.P D.s.round).ok))] : List Value))] W_) ?_ ?_
           ·refine w_lit ?_
            refine wv 322 (pt p 0) ?_
            refine wv 323 (pt p 0) ?_
            refine wv 324 (pt p 4) ?_
            refine wv 325 (pt p 5) ?_
            refine wv 326 (.int .i64 (D.s.step)) ?_ (hr := e_load1 rfl (by kernel_rfl) (H291.cell 0 rfl (by kernel_rfl)))
            refine wv 327 (.bool (decide (D.s.step = 2))) ?_
            refine wv 328 (.bool (decide (D.s.step = 2))) ?_
            refine (bsplit (decide (D.s.step = 2))).elim (fun b341 => ?_) (fun b341 => ?_)
            ·have g342 := of_decide_eq_true b341
             refine wl_know 328 (.bool true) (congrArg Value.bool b341) ?_
             have g343 := of_decide_eq_true b341
             refine wy 6 328 true 329 (pt p 0) ?_
             refine wy 6 328 true 330 (pt p 0) ?_
             refine wy 6 328 true 331 (pt p 105) ?_
             refine wy 6 328 true 332 (pt t 0) ?_ (hr := e_load1 rfl (by kernel_rfl) (H291.cell 0 rfl (by kernel_rfl)))
             refine wy 6 328 true 333 (.int .i64 (D.s.round)) ?_
             refine wy 6 328 true 334 (.agg ⟨(hc hash0)⟩) ?_
             refine wl_do (wantsY 6 328 true rfl (by kernel_rfl) rfl (by kernel_rfl)) (fun K344 hK344 => ?_)
             refine d_call (d := 335) rfl (by kernel_rfl) (refFor_any w290 t (.slice va D.L.length vc) D.f D.c D.L (ok_of (by kernel_rfl) (H291.fin [1, 2] (by decide) rfl)) (by omega) 1 D.s.round hash0) ?_
             rintro _ w345 ⟨rfl, u347⟩
             have H346 := H291.keepU u347
             refine ⟨_, rfl, ?_⟩
             refine hK344 _ _ ?_
             clear hK344 K344
             refine wy 6 328 true 336 (.int .i64 (2 * D.f + 1)) ?_
             refine wy 6 328 true 337 (.bool (decide ((forV D.L 1 D.s.round hash0) ≥ (2 * D.f + 1)))) ?_
             refine wv 338 (.bool (decide ((forV D.L 1 D.s.round hash0) ≥ (2 * D.f + 1)))) ?_
             refine w_nil ?_
             refine meetR_at ?_ ⟨(congrArg Value.bool (show (decide ((forV D.L 1 D.s.round hash0) ≥ (2 * D.f + 1))) = (c5 D) by simp [c5, b341])), H346⟩
             exact (same_upd rfl (same_upd rfl (same_upd rfl (same_upd rfl (same_upd rfl (same_upd rfl (same_upd rfl (same_upd rfl (same_upd rfl (same_upd rfl (same_upd rfl (same_upd rfl (same_upd rfl (same_upd rfl (same_upd rfl (same_upd rfl (same_upd rfl (same_upd rfl (same_refl)))))))))))))))))))
            ·have g348 := of_decide_eq_false b341
             refine wl_know 328 (.bool false) (congrArg Value.bool b341) ?_
             have g349 := of_decide_eq_false b341
             iterate 9 refine wn 6 328 true ?_
             refine wv 338 (.bool false) ?_
             refine w_nil ?_
             refine meetR_at ?_ ⟨(congrArg Value.bool (show false = (c5 D) by simp [c5, b341])), H291⟩
             exact (same_upd rfl (same_upd rfl (same_upd rfl (same_upd rfl (same_upd rfl (same_upd rfl (same_upd rfl (same_upd rfl (same_upd rfl (same_upd rfl (same_upd rfl (same_upd rfl (same_upd rfl (same_upd rfl (same_upd rfl (same_upd rfl (same_upd rfl (same_upd rfl (same_refl)))))))))))))))))))
           ·rintro f350 w351 ⟨v353, H352⟩
            refine wp_know 338 _ v353 ?_
            refine (bsplit (c5 D)).elim (fun b354 => ?_) (fun b354 => ?_)
            ·refine wp_know 338 (.bool true) (congrArg Value.bool b354) ?_
             refine wp_ift rfl ?_
             refine w_seq ?_
             refine w_lit ?_
             refine wv 339 (pt p 0) ?_
             refine wv 340 (.agg ⟨(hc hash0)⟩) ?_
             refine wl_do (wants0 rfl) (fun K355 hK355 => ?_)
             refine d_call (d := 341) rfl (by kernel_rfl) (rcPrecommit_any w351 p t (.slice va D.L.length vc) (.slice ua D.P.length uc) D (ok_of (by kernel_rfl) (H352.fin [0, 1, 2, 3] (by decide) rfl)) h hash0) ?_
             rintro _ w359 ⟨v356, u357, x358, rfl, S360⟩
             have H361 : Sat w [cellC p 83 (rcL t u357 (ownV D 2 3 hash0)), cellC t 101 ([(.int .i64 ((ownV D 2 3 hash0).f)), (.int .i64 ((ownV D 2 3 hash0).c)), v356] : List Value), rowC 143 35 v356 (((ownV D 2 3 hash0).L).length) (((ownV D 2 3 hash0).L).flatMap encV), rowC 129 35 u357 (((ownV D 2 3 hash0).P).length) (((ownV D 2 3 hash0).P).flatMap encQ), restC w (rcC p t (.slice va D.L.length vc) (.slice ua D.P.length uc) D).fp, cellC b148 129 (([(.int .i64 (zP D.P D.s.round)), (.int .i64 ((getP D.P D.s.round).valid))] : List Value) ++ hc (getP D.P D.s.round).h ++ ([(.bool ((getP D.P D.s.round).ok))] : List Value)), rowC 102 35 x358 ((ownA D 3 hash0).length) ((ownA D 3 hash0).flatMap encA)] w359 := (Sat.turnL (L' := [cellC p 83 (rcL t u357 (ownV D 2 3 hash0)), cellC t 101 ([(.int .i64 ((ownV D 2 3 hash0).f)), (.int .i64 ((ownV D 2 3 hash0).c)), v356] : List Value), rowC 143 35 v356 (((ownV D 2 3 hash0).L).length) (((ownV D 2 3 hash0).L).flatMap encV), rowC 129 35 u357 (((ownV D 2 3 hash0).P).length) (((ownV D 2 3 hash0).P).flatMap encQ), rowC 102 35 x358 ((ownA D 3 hash0).length) ((ownA D 3 hash0).flatMap encA)]) (R := [restC w (rcC p t (.slice va D.L.length vc) (.slice ua D.P.length uc) D).fp, cellC b148 129 (([(.int .i64 (zP D.P D.s.round)), (.int .i64 ((getP D.P D.s.round).valid))] : List Value) ++ hc (getP D.P D.s.round).h ++ ([(.bool ((getP D.P D.s.round).ok))] : List Value))]) H352 [0, 1, 2, 3] [4, 5] (by decide) (by kernel_rfl) rfl S360).pick [0, 1, 2, 3, 5, 6, 4] (by decide)
             obtain ⟨a362, c363, rfl⟩ := ownsRow_shape (H361.at 2 rfl)
             obtain ⟨a364, c365, rfl⟩ := ownsRow_shape (H361.at 3 rfl)
             obtain ⟨a366, c367, rfl⟩ := ownsRow_shape (H361.at 6 rfl)
             refine ⟨_, rfl, ?_⟩
             refine hK355 _ _ ?_
             clear hK355 K355
             refine wv 2 (.slice a366 ((ownA D 3 hash0).length) c367) ?_
             refine wv 3 (.bool true) ?_
             refine w_nil ?_
             refine then_normal ?_
             refine w_ret ?_
             refine then_ret ?_
             refine end2 rfl (res_tmp (v := (.slice a366 ((ownA D 3 hash0).length) c367)) rfl) (res_tmp (v := (.bool true)) rfl) ?_
             have hl := hLe.1 (by have := of_decide_eq_false b69; omega)
             have hg := farW_no h (hfr ▸ of_decide_eq_false b125)
             have hc : (chooseD D (getP D.P D.s.round)).2 = false := by
              have q1 := of_decide_eq_false b166
              have q2 := of_decide_eq_false b217
              unfold chooseD; rw [if_pos ⟨by omega, by omega⟩]
             exact .inl ⟨(.slice a362 (((ownV D 2 3 hash0).L).length) c363), (.slice a364 (((ownV D 2 3 hash0).P).length) c365), _, ownV D 2 3 hash0, ownA D 3 hash0, rfl, (by rw [ruleD_b, if_neg (by omega), if_neg hg, if_neg (by rw [b165, hc]; simp), if_neg (by rw [b293]; simp), if_pos b354]), (H361.pick [0, 1, 2, 3, 6, 4] (by decide)).cast (by kernel_rfl)⟩
            ·refine wp_know 338 (.bool false) (congrArg Value.bool b354) ?_
             refine wp_iff rfl ?_
             refine w_skip ?_
             refine then_normal ?_
             refine w_seq ?_
             refine wp_meetR [342, 343, 344, 345, 346, 347, 348, 349, 350, 351, 352, 353, 354, 355, 356, 357, 358, 359, 360, 361, 362, 363, 364, 365] (fun G_ W_ => G_ 365 = (.bool (c6 D)) ∧ Sat w [cellC p 83 (rcL t (.slice ua D.P.length uc) D), cellC t 101 ([(.int .i64 (D.f)), (.int .i64 (D.c)), (.slice va D.L.length vc)] : List Value), rowC 143 35 (.slice va D.L.length vc) D.L.length (D.L.flatMap encV), rowC 129 35 (.slice ua D.P.length uc) D.P.length (D.P.flatMap encQ), restC w (rcC p t (.slice va D.L.length vc) (.slice ua D.P.length uc) D).fp, cellC b148 129 (([(.int .i64 (zP D.P D.s.round)), (.int .i64 ((getP D.P D.s.round).valid))] : List Value) ++ hc (getP D.P D.s.round).h ++ ([(.bool ((getP D.P D.s.round).ok))] : List Value))] W_) ?_ ?_
             ·refine w_lit ?_
              refine wv 342 (pt p 0) ?_
              refine wv 343 (pt p 0) ?_
              refine wv 344 (pt p 4) ?_
              refine wv 345 (pt p 5) ?_
              refine wv 346 (.int .i64 (D.s.step)) ?_ (hr := e_load1 rfl (by kernel_rfl) (H352.cell 0 rfl (by kernel_rfl)))
              refine wv 347 (.bool (decide (D.s.step = 2))) ?_
              refine wv 348 (.bool (decide (D.s.step = 2))) ?_
              refine (bsplit (decide (D.s.step = 2))).elim (fun b369 => ?_) (fun b369 => ?_)
              ·have g370 := of_decide_eq_true b369
               refine wl_know 348 (.bool true) (congrArg Value.bool b369) ?_
               have g371 := of_decide_eq_true b369
               refine wy 6 348 true 349 (pt p 0) ?_
               refine wy 6 348 true 350 (pt p 0) ?_
               refine wy 6 348 true 351 (pt p 107) ?_
               refine wy 6 348 true 352 (pt p 108) ?_
               refine wy 6 348 true 353 (.bool (D.sp)) ?_ (hr := e_load1 rfl (by kernel_rfl) (H352.cell 0 rfl (by kernel_rfl)))
               refine wy 6 348 true 354 (.bool (!(D.sp))) ?_
               refine wv 355 (.bool (!(D.sp))) ?_
               refine wv 356 (.bool (!(D.sp))) ?_
               refine (bsplit (!(D.sp))).elim (fun b372 => ?_) (fun b372 => ?_)
               ·have g373 := bnot_true b372
                refine wl_know 356 (.bool true) (congrArg Value.bool b372) ?_
                have g374 := bnot_true b372
                refine wy 14 356 true 357 (pt p 0) ?_
                refine wy 14 356 true 358 (pt p 0) ?_
                refine wy 14 356 true 359 (pt p 105) ?_
                refine wy 14 356 true 360 (pt t 0) ?_ (hr := e_load1 rfl (by kernel_rfl) (H352.cell 0 rfl (by kernel_rfl)))
                refine wy 14 356 true 361 (.int .i64 (D.s.round)) ?_
                refine wl_do (wantsY 14 356 true rfl (by kernel_rfl) rfl (by kernel_rfl)) (fun K375 hK375 => ?_)
                refine d_call (d := 362) rfl (by kernel_rfl) (refAll_any w351 t (.slice va D.L.length vc) D.f D.c D.L (ok_of (by kernel_rfl) (H352.fin [1, 2] (by decide) rfl)) (by omega) 1 D.s.round) ?_
                rintro _ w376 ⟨rfl, u378⟩
                have H377 := H352.keepU u378
                refine ⟨_, rfl, ?_⟩
                refine hK375 _ _ ?_
                clear hK375 K375
                refine wy 14 356 true 363 (.int .i64 (2 * D.f + 1)) ?_
                refine wy 14 356 true 364 (.bool (decide ((allV D.L 1 D.s.round) ≥ (2 * D.f + 1)))) ?_
                refine wv 365 (.bool (decide ((allV D.L 1 D.s.round) ≥ (2 * D.f + 1)))) ?_
                refine w_nil ?_
                refine meetR_at ?_ ⟨(congrArg Value.bool (show (decide ((allV D.L 1 D.s.round) ≥ (2 * D.f + 1))) = (c6 D) by simp [c6, b369, b372])), H377⟩
                exact (same_upd rfl (same_upd rfl (same_upd rfl (same_upd rfl (same_upd rfl (same_upd rfl (same_upd rfl (same_upd rfl (same_upd rfl (same_upd rfl (same_upd rfl (same_upd rfl (same_upd rfl (same_upd rfl (same_upd rfl (same_upd rfl (same_upd rfl (same_upd rfl (same_upd rfl (same_upd rfl (same_upd rfl (same_upd rfl (same_upd rfl (same_upd rfl (same_upd rfl (same_upd rfl (same_refl)))))))))))))))))))))))))))
               ·have g379 := bnot_false b372
                refine wl_know 356 (.bool false) (congrArg Value.bool b372) ?_
                have g380 := bnot_false b372
                iterate 8 refine wn 14 356 true ?_
                refine wv 365 (.bool false) ?_
                refine w_nil ?_
                refine meetR_at ?_ ⟨(congrArg Value.bool (show false = (c6 D) by simp [c6, b369, b372])), H352⟩
                exact (same_upd rfl (same_upd rfl (same_upd rfl (same_upd rfl (same_upd rfl (same_upd rfl (same_upd rfl (same_upd rfl (same_upd rfl (same_upd rfl (same_upd rfl (same_upd rfl (same_upd rfl (same_upd rfl (same_upd rfl (same_upd rfl (same_upd rfl (same_upd rfl (same_upd rfl (same_upd rfl (same_upd rfl (same_upd rfl (same_upd rfl (same_upd rfl (same_upd rfl (same_upd rfl (same_refl)))))))))))))))))))))))))))
              ·have g381 := of_decide_eq_false b369
               refine wl_know 348 (.bool false) (congrArg Value.bool b369) ?_
               have g382 := of_decide_eq_false b369
               iterate 6 refine wn 6 348 true ?_
               refine wv 355 (.bool false) ?_
               refine wv 356 (.bool false) ?_
               iterate 8 refine wn 14 356 true ?_
               refine wv 365 (.bool false) ?_
               refine w_nil ?_
               refine meetR_at ?_ ⟨(congrArg Value.bool (show false = (c6 D) by simp [c6, b369])), H352⟩
               exact (same_upd rfl (same_upd rfl (same_upd rfl (same_upd rfl (same_upd rfl (same_upd rfl (same_upd rfl (same_upd rfl (same_upd rfl (same_upd rfl (same_upd rfl (same_upd rfl (same_upd rfl (same_upd rfl (same_upd rfl (same_upd rfl (same_upd rfl (same_upd rfl (same_upd rfl (same_upd rfl (same_upd rfl (same_upd rfl (same_upd rfl (same_upd rfl (same_upd rfl (same_refl))))))))))))))))))))))))))
             ·rintro f383 w384 ⟨v386, H385⟩
              refine wp_know 365 _ v386 ?_
              refine (bsplit (c6 D)).elim (fun b387 => ?_) (fun b387 => ?_)
              ·refine wp_know 365 (.bool true) (congrArg Value.bool b387) ?_
               refine wp_ift rfl ?_
               refine w_seq ?_
               refine w_lit ?_
               refine wv 366 (pt p 0) ?_
               refine wv 367 (pt p 0) ?_
               refine wv 368 (pt p 107) ?_
               refine wv 369 (pt p 108) ?_
               refine wl_do (wants0 rfl) (fun K388 hK388 => ?_)
               refine d_storeX (vs := ([(.bool true)] : List Value)) (cs' := (rcW D.f D.c D.epoch D.replica D.s.round D.s.step D.s.lr D.s.vr D.s.locked D.s.valid D.s.decided D.s.decision t (.slice ua D.P.length uc) D.wv true D.sc)) rfl H385 0 rfl rfl rfl rfl (by kernel_rfl) (Nat.le_of_ble_eq_true (by kernel_rfl)) (Nat.le_of_ble_eq_true (by kernel_rfl)) (by kernel_rfl) (by kernel_rfl) ?_
               intro w389 (H390 : Sat w [cellC p 83 (rcW D.f D.c D.epoch D.replica D.s.round D.s.step D.s.lr D.s.vr D.s.locked D.s.valid D.s.decided D.s.decision t (.slice ua D.P.length uc) D.wv true D.sc), cellC t 101 ([(.int .i64 (D.f)), (.int .i64 (D.c)), (.slice va D.L.length vc)] : List Value), rowC 143 35 (.slice va D.L.length vc) D.L.length (D.L.flatMap encV), rowC 129 35 (.slice ua D.P.length uc) D.P.length (D.P.flatMap encQ), restC w (rcC p t (.slice va D.L.length vc) (.slice ua D.P.length uc) D).fp, cellC b148 129 (([(.int .i64 (zP D.P D.s.round)), (.int .i64 ((getP D.P D.s.round).valid))] : List Value) ++ hc (getP D.P D.s.round).h ++ ([(.bool ((getP D.P D.s.round).ok))] : List Value))] w389)
               refine hK388 _ _ ?_
               clear hK388 K388
               refine w_nil ?_
               refine then_normal ?_
               refine w_seq ?_
               refine w_lit ?_
               refine wv 370 (.int .i64 (D.s.round)) ?_
               refine wv 371 (.agg ⟨(([(.int .i64 (4)), (.int .i64 (D.s.round)), (.int .i64 (2))] : List Value) ++ hc hash0)⟩) ?_
               refine wl_do (wants0 rfl) (fun K392 hK392 => ?_)
               refine d_buildSlice (e := 102) (size := 35) (bytes := 56) (z := (.agg ⟨(([(.int .i64 (0)), (.int .i64 (0)), (.int .i64 (0))] : List Value) ++ hc hash0)⟩)) (pvs := [(0, (.agg ⟨(([(.int .i64 (4)), (.int .i64 (D.s.round)), (.int .i64 (2))] : List Value) ++ hc hash0)⟩))]) (vs := (([(.int .i64 (4)), (.int .i64 (D.s.round)), (.int .i64 (2))] : List Value) ++ hc hash0)) rfl H390 (by kernel_rfl) (by kernel_rfl) (by kernel_rfl) (by kernel_rfl) (by kernel_rfl) rfl rfl ?_
               intro b393 w394 (H395 : Sat w [cellC p 83 (rcW D.f D.c D.epoch D.replica D.s.round D.s.step D.s.lr D.s.vr D.s.locked D.s.valid D.s.decided D.s.decision t (.slice ua D.P.length uc) D.wv true D.sc), cellC t 101 ([(.int .i64 (D.f)), (.int .i64 (D.c)), (.slice va D.L.length vc)] : List Value), rowC 143 35 (.slice va D.L.length vc) D.L.length (D.L.flatMap encV), rowC 129 35 (.slice ua D.P.length uc) D.P.length (D.P.flatMap encQ), restC w (rcC p t (.slice va D.L.length vc) (.slice ua D.P.length uc) D).fp, cellC b148 129 (([(.int .i64 (zP D.P D.s.round)), (.int .i64 ((getP D.P D.s.round).valid))] : List Value) ++ hc (getP D.P D.s.round).h ++ ([(.bool ((getP D.P D.s.round).ok))] : List Value)), rowC 102 35 (.slice (some ⟨b393, 0, none⟩) 1 1) 1 (([(.int .i64 (4)), (.int .i64 (D.s.round)), (.int .i64 (2))] : List Value) ++ hc hash0)] w394)
               refine hK392 _ _ ?_
               clear hK392 K392
               refine wv 2 (.slice (some ⟨b393, 0, none⟩) 1 1) ?_
               refine wv 3 (.bool true) ?_
               refine w_nil ?_
               refine then_normal ?_
               refine w_ret ?_
               refine then_ret ?_
               refine end2 rfl (res_tmp (v := (.slice (some ⟨b393, 0, none⟩) 1 1)) rfl) (res_tmp (v := (.bool true)) rfl) ?_
               have hl := hLe.1 (by have := of_decide_eq_false b69; omega)
               have hg := farW_no h (hfr ▸ of_decide_eq_false b125)
               have hc : (chooseD D (getP D.P D.s.round)).2 = false := by
                have q1 := of_decide_eq_false b166
                have q2 := of_decide_eq_false b217
                unfold chooseD; rw [if_pos ⟨by omega, by omega⟩]
               exact .inl ⟨(.slice va D.L.length vc), (.slice ua D.P.length uc), _, { D with sp := true }, [⟨4, D.s.round, 2, hash0⟩], rfl, (by rw [ruleD_b, if_neg (by omega), if_neg hg, if_neg (by rw [b165, hc]; simp), if_neg (by rw [b293]; simp), if_neg (by rw [b354]; simp), if_pos b387]), (H395.pick [0, 1, 2, 3, 6, 4] (by decide)).cast (by kernel_rfl)⟩
              ·refine wp_know 365 (.bool false) (congrArg Value.bool b387) ?_
               refine wp_iff rfl ?_
               refine w_skip ?_
               refine then_normal ?_
               refine w_seq ?_
               refine wp_meetR [373, 374, 375, 376, 377, 378, 379, 380, 381, 382, 383, 384, 385, 386, 387, 388] (fun G_ W_ => G_ 388 = (.bool (c7 D)) ∧ Sat w [cellC p 83 (rcL t (.slice ua D.P.length uc) D), cellC t 101 ([(.int .i64 (D.f)), (.int .i64 (D.c)), (.slice va D.L.length vc)] : List Value), rowC 143 35 (.slice va D.L.length vc) D.L.length (D.L.flatMap encV), rowC 129 35 (.slice ua D.P.length uc) D.P.length (D.P.flatMap encQ), restC w (rcC p t (.slice va D.L.length vc) (.slice ua D.P.length uc) D).fp, cellC b148 129 (([(.int .i64 (zP D.P D.s.round)), (.int .i64 ((getP D.P D.s.round).valid))] : List Value) ++ hc (getP D.P D.s.round).h ++ ([(.bool ((getP D.P D.s.round).ok))] : List Value))] W_) ?_ ?_
               ·refine w_lit ?_
                refine wv 373 (pt p 0) ?_
                refine wv 374 (pt p 0) ?_
                refine wv 375 (pt p 107) ?_
                refine wv 376 (pt p 109) ?_
                refine wv 377 (.bool (D.sc)) ?_ (hr := e_load1 rfl (by kernel_rfl) (H385.cell 0 rfl (by kernel_rfl)))
                refine wv 378 (.bool (!(D.sc))) ?_
                refine wv 379 (.bool (!(D.sc))) ?_
                refine (bsplit (!(D.sc))).elim (fun b397 => ?_) (fun b397 => ?_)
                ·have g398 := bnot_true b397
                 refine wl_know 379 (.bool true) (congrArg Value.bool b397) ?_
                 have g399 := bnot_true b397
                 refine wy 6 379 true 380 (pt p 0) ?_
                 refine wy 6 379 true 381 (pt p 0) ?_
                 refine wy 6 379 true 382 (pt p 105) ?_
                 refine wy 6 379 true 383 (pt t 0) ?_ (hr := e_load1 rfl (by kernel_rfl) (H385.cell 0 rfl (by kernel_rfl)))
                 refine wy 6 379 true 384 (.int .i64 (D.s.round)) ?_
                 refine wl_do (wantsY 6 379 true rfl (by kernel_rfl) rfl (by kernel_rfl)) (fun K400 hK400 => ?_)
                 refine d_call (d := 385) rfl (by kernel_rfl) (refAll_any w384 t (.slice va D.L.length vc) D.f D.c D.L (ok_of (by kernel_rfl) (H385.fin [1, 2] (by decide) rfl)) (by omega) 2 D.s.round) ?_
                 rintro _ w401 ⟨rfl, u403⟩
                 have H402 := H385.keepU u403
                 refine ⟨_, rfl, ?_⟩
                 refine hK400 _ _ ?_
                 clear hK400 K400
                 refine wy 6 379 true 386 (.int .i64 (2 * D.f + 1)) ?_
                 refine wy 6 379 true 387 (.bool (decide ((allV D.L 2 D.s.round) ≥ (2 * D.f + 1)))) ?_
                 refine wv 388 (.bool (decide ((allV D.L 2 D.s.round) ≥ (2 * D.f + 1)))) ?_
                 refine w_nil ?_
                 refine meetR_at ?_ ⟨(congrArg Value.bool (show (decide ((allV D.L 2 D.s.round) ≥ (2 * D.f + 1))) = (c7 D) by simp [c7, b397])), H402⟩
                 exact (same_upd rfl (same_upd rfl (same_upd rfl (same_upd rfl (same_upd rfl (same_upd rfl (same_upd rfl (same_upd rfl (same_upd rfl (same_upd rfl (same_upd rfl (same_upd rfl (same_upd rfl (same_upd rfl (same_upd rfl (same_upd rfl (same_upd rfl (same_refl))))))))))))))))))
                ·have g404 := bnot_false b397
                 refine wl_know 379 (.bool false) (congrArg Value.bool b397) ?_
                 have g405 := bnot_false b397
                 iterate 8 refine wn 6 379 true ?_
                 refine wv 388 (.bool false) ?_
                 refine w_nil ?_
                 refine meetR_at ?_ ⟨(congrArg Value.bool (show false = (c7 D) by simp [c7, b397])), H385⟩
                 exact (same_upd rfl (same_upd rfl (same_upd rfl (same_upd rfl (same_upd rfl (same_upd rfl (same_upd rfl (same_upd rfl (same_upd rfl (same_upd rfl (same_upd rfl (same_upd rfl (same_upd rfl (same_upd rfl (same_upd rfl (same_upd rfl (same_upd rfl (same_refl))))))))))))))))))
               ·rintro f406 w407 ⟨v409, H408⟩
                refine wp_know 388 _ v409 ?_
                refine (bsplit (c7 D)).elim (fun b410 => ?_) (fun b410 => ?_)
                ·refine wp_know 388 (.bool true) (congrArg Value.bool b410) ?_
                 refine wp_ift rfl ?_
                 refine w_seq ?_
                 refine w_lit ?_
                 refine wv 389 (pt p 0) ?_
                 refine wv 390 (pt p 0) ?_
                 refine wv 391 (pt p 107) ?_
                 refine wv 392 (pt p 109) ?_
                 refine wl_do (wants0 rfl) (fun K411 hK411 => ?_)
                 refine d_storeX (vs := ([(.bool true)] : List Value)) (cs' := (rcW D.f D.c D.epoch D.replica D.s.round D.s.step D.s.lr D.s.vr D.s.locked D.s.valid D.s.decided D.s.decision t (.slice ua D.P.length uc) D.wv D.sp true)) rfl H408 0 rfl rfl rfl rfl (by kernel_rfl) (Nat.le_of_ble_eq_true (by kernel_rfl)) (Nat.le_of_ble_eq_true (by kernel_rfl)) (by kernel_rfl) (by kernel_rfl) ?_
                 intro w412 (H413 : Sat w [cellC p 83 (rcW D.f D.c D.epoch D.replica D.s.round D.s.step D.s.lr D.s.vr D.s.locked D.s.valid D.s.decided D.s.decision t (.slice ua D.P.length uc) D.wv D.sp true), cellC t 101 ([(.int .i64 (D.f)), (.int .i64 (D.c)), (.slice va D.L.length vc)] : List Value), rowC 143 35 (.slice va D.L.length vc) D.L.length (D.L.flatMap encV), rowC 129 35 (.slice ua D.P.length uc) D.P.length (D.P.flatMap encQ), restC w (rcC p t (.slice va D.L.length vc) (.slice ua D.P.length uc) D).fp, cellC b148 129 (([(.int .i64 (zP D.P D.s.round)), (.int .i64 ((getP D.P D.s.round).valid))] : List Value) ++ hc (getP D.P D.s.round).h ++ ([(.bool ((getP D.P D.s.round).ok))] : List Value))] w412)
                 refine hK411 _ _ ?_
                 clear hK411 K411
                 refine w_nil ?_
                 refine then_normal ?_
                 refine w_seq ?_
                 refine w_lit ?_
                 refine wv 393 (.int .i64 (D.s.round)) ?_
                 refine wv 394 (.agg ⟨(([(.int .i64 (4)), (.int .i64 (D.s.round)), (.int .i64 (3))] : List Value) ++ hc hash0)⟩) ?_
                 refine wl_do (wants0 rfl) (fun K415 hK415 => ?_)
                 refine d_buildSlice (e := 102) (size := 35) (bytes := 56) (z := (.agg ⟨(([(.int .i64 (0)), (.int .i64 (0)), (.int .i64 (0))] : List Value) ++ hc hash0)⟩)) (pvs := [(0, (.agg ⟨(([(.int .i64 (4)), (.int .i64 (D.s.round)), (.int .i64 (3))] : List Value) ++ hc hash0)⟩))]) (vs := (([(.int .i64 (4)), (.int .i64 (D.s.round)), (.int .i64 (3))] : List Value) ++ hc hash0)) rfl H413 (by kernel_rfl) (by kernel_rfl) (by kernel_rfl) (by kernel_rfl) (by kernel_rfl) rfl rfl ?_
                 intro b416 w417 (H418 : Sat w [cellC p 83 (rcW D.f D.c D.epoch D.replica D.s.round D.s.step D.s.lr D.s.vr D.s.locked D.s.valid D.s.decided D.s.decision t (.slice ua D.P.length uc) D.wv D.sp true), cellC t 101 ([(.int .i64 (D.f)), (.int .i64 (D.c)), (.slice va D.L.length vc)] : List Value), rowC 143 35 (.slice va D.L.length vc) D.L.length (D.L.flatMap encV), rowC 129 35 (.slice ua D.P.length uc) D.P.length (D.P.flatMap encQ), restC w (rcC p t (.slice va D.L.length vc) (.slice ua D.P.length uc) D).fp, cellC b148 129 (([(.int .i64 (zP D.P D.s.round)), (.int .i64 ((getP D.P D.s.round).valid))] : List Value) ++ hc (getP D.P D.s.round).h ++ ([(.bool ((getP D.P D.s.round).ok))] : List Value)), rowC 102 35 (.slice (some ⟨b416, 0, none⟩) 1 1) 1 (([(.int .i64 (4)), (.int .i64 (D.s.round)), (.int .i64 (3))] : List Value) ++ hc hash0)] w417)
                 refine hK415 _ _ ?_
                 clear hK415 K415
                 refine wv 2 (.slice (some ⟨b416, 0, none⟩) 1 1) ?_
                 refine wv 3 (.bool true) ?_
                 refine w_nil ?_
                 refine then_normal ?_
                 refine w_ret ?_
                 refine then_ret ?_
                 refine end2 rfl (res_tmp (v := (.slice (some ⟨b416, 0, none⟩) 1 1)) rfl) (res_tmp (v := (.bool true)) rfl) ?_
                 have hl := hLe.1 (by have := of_decide_eq_false b69; omega)
                 have hg := farW_no h (hfr ▸ of_decide_eq_false b125)
                 have hc : (chooseD D (getP D.P D.s.round)).2 = false := by
                  have q1 := of_decide_eq_false b166
                  have q2 := of_decide_eq_false b217
                  unfold chooseD; rw [if_pos ⟨by omega, by omega⟩]
                 exact .inl ⟨(.slice va D.L.length vc), (.slice ua D.P.length uc), _, { D with sc := true }, [⟨4, D.s.round, 3, hash0⟩], rfl, (by rw [ruleD_b, if_neg (by omega), if_neg hg, if_neg (by rw [b165, hc]; simp), if_neg (by rw [b293]; simp), if_neg (by rw [b354]; simp), if_neg (by rw [b387]; simp), if_pos b410]), (H418.pick [0, 1, 2, 3, 6, 4] (by decide)).cast (by kernel_rfl)⟩
                ·refine wp_know 388 (.bool false) (congrArg Value.bool b410) ?_
                 refine wp_iff rfl ?_
                 refine w_skip ?_
                 refine then_normal ?_
                 refine w_seq ?_
                 refine w_lit ?_
                 refine wv 2 (.slice none 0 0) ?_
                 refine wv 3 (.bool false) ?_
                 refine w_nil ?_
                 refine then_normal ?_
                 refine w_ret ?_
                 refine end2 rfl (res_tmp (v := (.slice none 0 0)) rfl) (res_tmp (v := (.bool false)) rfl) ?_
                 have hl := hLe.1 (by have := of_decide_eq_false b69; omega)
                 have hg := farW_no h (hfr ▸ of_decide_eq_false b125)
                 have hc : (chooseD D (getP D.P D.s.round)).2 = false := by
                  have q1 := of_decide_eq_false b166
                  have q2 := of_decide_eq_false b217
                  unfold chooseD; rw [if_pos ⟨by omega, by omega⟩]
                 have Hn := H408.addNil 102 35
                 exact .inr ⟨(.slice va D.L.length vc), (.slice ua D.P.length uc), _, rfl, (by rw [ruleD_b, if_neg (by omega), if_neg hg, if_neg (by rw [b165, hc]; simp), if_neg (by rw [b293]; simp), if_neg (by rw [b354]; simp), if_neg (by rw [b387]; simp), if_neg (by rw [b410]; simp)]), (Hn.pick [0, 1, 2, 3, 6, 4] (by decide)).cast (by kernel_rfl)⟩
      ·refine wp_know 181 (.bool false) (congrArg Value.bool b165) ?_
       refine wp_iff rfl ?_
       refine w_skip ?_
       refine then_normal ?_
       refine w_seq ?_
       refine wp_meetR [252, 253, 254, 255, 256, 257, 258, 259, 260, 261, 262, 263, 264, 265, 266, 267, 268, 269, 270, 271, 272, 273, 274, 275, 276, 277, 278, 279, 280, 281, 282, 283, 284] (fun G_ W_ => G_ 284 = (.bool (c4 D)) ∧ Sat w [cellC p 83 (rcL t (.slice ua D.P.length uc) D), cellC t 101 ([(.int .i64 (D.f)), (.int .i64 (D.c)), (.slice va D.L.length vc)] : List Value), rowC 143 35 (.slice va D.L.length vc) D.L.length (D.L.flatMap encV), rowC 129 35 (.slice ua D.P.length uc) D.P.length (D.P.flatMap encQ), restC w (rcC p t (.slice va D.L.length vc) (.slice ua D.P.length uc) D).fp, cellC b148 129 (([(.int .i64 (zP D.P D.s.round)), (.int .i64 ((getP D.P D.s.round).valid))] : List Value) ++ hc (getP D.P D.s.round).h ++ ([(.bool ((getP D.P D.s.round).ok))] : List Value))] W_) ?_ ?_
       ·refine q_start H163 (by kernel_rfl) (by kernel_rfl) ?_
        refine qv 252 (pt p 0) ?_
        refine qv 253 (pt p 0) ?_
        refine qv 254 (pt p 4) ?_
        refine qv 255 (pt p 5) ?_
        refine qv 256 (.int .i64 (D.s.step)) ?_ (hr := fun _ H' => (e_load1 rfl (by kernel_rfl) (H'.cell 0 rfl (by kernel_rfl))))
        refine qv 257 (.bool (decide (D.s.step ≥ 2))) ?_
        refine qv 258 (.bool (decide (D.s.step ≥ 2))) ?_
        refine (bsplit (decide (D.s.step ≥ 2))).elim (fun b420 => ?_) (fun b420 => ?_)
        ·have g421 := of_decide_eq_true b420
         refine q_know 258 (.bool true) (congrArg Value.bool b420) ?_
         have g422 := of_decide_eq_true b420
         refine qy 6 258 true 259 (.bool (hasP D.P D.s.round)) ?_
         refine qv 260 (.bool (hasP D.P D.s.round)) ?_
         refine qv 261 (.bool (hasP D.P D.s.round)) ?_
         refine (bsplit (hasP D.P D.s.round)).elim (fun b423 => ?_) (fun b423 => ?_)
         ·refine q_know 261 (.bool true) (congrArg Value.bool b423) ?_
          refine qy 9 261 true 262 (pt b148 34) ?_
          refine qy 9 261 true 263 (.bool ((getP D.P D.s.round).ok)) ?_ (hr := fun _ H' => (e_load1 rfl (by kernel_rfl) (H'.cell 5 rfl (by kernel_rfl))))
          refine qv 264 (.bool ((getP D.P D.s.round).ok)) ?_
          refine qv 265 (.bool ((getP D.P D.s.round).ok)) ?_
          refine (bsplit ((getP D.P D.s.round).ok)).elim (fun b424 => ?_) (fun b424 => ?_)
          ·refine q_know 265 (.bool true) (congrArg Value.bool b424) ?_
           refine qy 13 265 true 266 (pt p 0) ?_
           refine qy 13 265 true 267 (pt p 0) ?_
           refine qy 13 265 true 268 (pt p 107) ?_
           refine qy 13 265 true 269 (pt p 107) ?_
           refine qy 13 265 true 270 (.bool (D.wv)) ?_ (hr := fun _ H' => (e_load1 rfl (by kernel_rfl) (H'.cell 0 rfl (by kernel_rfl))))
           refine qy 13 265 true 271 (.bool (!(D.wv))) ?_
           refine qv 272 (.bool (!(D.wv))) ?_
           refine qv 273 (.bool (!(D.wv))) ?_
           refine (bsplit (!(D.wv))).elim (fun b425 => ?_) (fun b425 => ?_)
           ·have g426 := bnot_true b425
            refine q_know 273 (.bool true) (congrArg Value.bool b425) ?_
            have g427 := bnot_true b425
            refine qy 21 273 true 274 (pt p 0) ?_
            refine qy 21 273 true 275 (pt p 0) ?_
            refine qy 21 273 true 276 (pt p 105) ?_
            refine qy 21 273 true 277 (pt t 0) ?_ (hr := fun _ H' => (e_load1 rfl (by kernel_rfl) (H'.cell 0 rfl (by kernel_rfl))))
            refine qy 21 273 true 278 (.int .i64 (D.s.round)) ?_
            refine qy 21 273 true 279 (pt b148 2) ?_
            refine qy 21 273 true 280 (.agg ⟨(hc (getP D.P D.s.round).h)⟩) ?_ (hr := fun _ H' => (e_loadN (vs := (hc (getP D.P D.s.round).h)) rfl (by kernel_rfl) (by kernel_rfl) (by exact Nat.le_of_ble_eq_true (by kernel_rfl)) (H'.at 5 rfl) (by kernel_rfl)))
            refine q_call (wantsY 21 273 true rfl (by kernel_rfl) rfl (by kernel_rfl)) (d := 281) (v := (.int .i64 (forV D.L 1 D.s.round ((getP D.P D.s.round).h)))) rfl (fun _ _ => by kernel_rfl) (fun w' H' => (refFor_any w' t (.slice va D.L.length vc) D.f D.c D.L (ok_of (by kernel_rfl) (H'.fin [1, 2] (by decide) rfl)) (by omega) 1 D.s.round ((getP D.P D.s.round).h)).mono fun _ _ h => ⟨h.1, H'.keepU h.2⟩) ?_
            refine qy 21 273 true 282 (.int .i64 (2 * D.f + 1)) ?_
            refine qy 21 273 true 283 (.bool (decide ((forV D.L 1 D.s.round ((getP D.P D.s.round).h)) ≥ (2 * D.f + 1)))) ?_
            refine qv 284 (.bool (decide ((forV D.L 1 D.s.round ((getP D.P D.s.round).h)) ≥ (2 * D.f + 1)))) ?_
            refine q_end ?_
            intro w428 H429
            refine meetR_at ?_ ⟨(congrArg Value.bool (show (decide ((forV D.L 1 D.s.round ((getP D.P D.s.round).h)) ≥ (2 * D.f + 1))) = (c4 D) by simp [c4, b420, b423, b424, b425])), H429⟩
            exact (same_upd rfl (same_upd rfl (same_upd rfl (same_upd rfl (same_upd rfl (same_upd rfl (same_upd rfl (same_upd rfl (same_upd rfl (same_upd rfl (same_upd rfl (same_upd rfl (same_upd rfl (same_upd rfl (same_upd rfl (same_upd rfl (same_upd rfl (same_upd rfl (same_upd rfl (same_upd rfl (same_upd rfl (same_upd rfl (same_upd rfl (same_upd rfl (same_upd rfl (same_upd rfl (same_upd rfl (same_upd rfl (same_upd rfl (same_upd rfl (same_upd rfl (same_upd rfl (same_upd rfl (same_upd rfl (same_upd rfl (same_upd rfl (same_upd rfl (same_refl))))))))))))))))))))))))))))))))))))))
           ·have g430 := bnot_false b425
            refine q_know 273 (.bool false) (congrArg Value.bool b425) ?_
            have g431 := bnot_false b425
            iterate 10 refine qn 21 273 true ?_
            refine qv 284 (.bool false) ?_
            refine q_end ?_
            intro w432 H433
            refine meetR_at ?_ ⟨(congrArg Value.bool (show false = (c4 D) by simp [c4, b420, b423, b424, b425])), H433⟩
            exact (same_upd rfl (same_upd rfl (same_upd rfl (same_upd rfl (same_upd rfl (same_upd rfl (same_upd rfl (same_upd rfl (same_upd rfl (same_upd rfl (same_upd rfl (same_upd rfl (same_upd rfl (same_upd rfl (same_upd rfl (same_upd rfl (same_upd rfl (same_upd rfl (same_upd rfl (same_upd rfl (same_upd rfl (same_upd rfl (same_upd rfl (same_upd rfl (same_upd rfl (same_upd rfl (same_upd rfl (same_upd rfl (same_upd rfl (same_upd rfl (same_upd rfl (same_upd rfl (same_upd rfl (same_upd rfl (same_upd rfl (same_upd rfl (same_upd rfl (same_refl))))))))))))))))))))))))))))))))))))))
          ·refine q_know 265 (.bool false) (congrArg Value.bool b424) ?_
           iterate 6 refine qn 13 265 true ?_
           refine qv 272 (.bool false) ?_
           refine qv 273 (.bool false) ?_
           iterate 10 refine qn 21 273 true ?_
           refine qv 284 (.bool false) ?_
           refine q_end ?_
           intro w434 H435
           refine meetR_at ?_ ⟨(congrArg Value.bool (show false = (c4 D) by simp [c4, b420, b423, b424])), H435⟩
           exact (same_upd rfl (same_upd rfl (same_upd rfl (same_upd rfl (same_upd rfl (same_upd rfl (same_upd rfl (same_upd rfl (same_upd rfl (same_upd rfl (same_upd rfl (same_upd rfl (same_upd rfl (same_upd rfl (same_upd rfl (same_upd rfl (same_upd rfl (same_upd rfl (same_upd rfl (same_upd rfl (same_upd rfl (same_upd rfl (same_upd rfl (same_upd rfl (same_upd rfl (same_upd rfl (same_upd rfl (same_upd rfl (same_upd rfl (same_upd rfl (same_upd rfl (same_upd rfl (same_upd rfl (same_upd rfl (same_upd rfl (same_upd rfl (same_refl)))))))))))))))))))))))))))))))))))))
         ·refine q_know 261 (.bool false) (congrArg Value.bool b423) ?_
          iterate 2 refine qn 9 261 true ?_
          refine qv 264 (.bool false) ?_
          refine qv 265 (.bool false) ?_
          iterate 6 refine qn 13 265 true ?_
          refine qv 272 (.bool false) ?_
          refine qv 273 (.bool false) ?_
          iterate 10 refine qn 21 273 true ?_
          refine qv 284 (.bool false) ?_
          refine q_end ?_
          intro w436 H437
          refine meetR_at ?_ ⟨(congrArg Value.bool (show false = (c4 D) by simp [c4, b420, b423])), H437⟩
          exact (same_upd rfl (same_upd rfl (same_upd rfl (same_upd rfl (same_upd rfl (same_upd rfl (same_upd rfl (same_upd rfl (same_upd rfl (same_upd rfl (same_upd rfl (same_upd rfl (same_upd rfl (same_upd rfl (same_upd rfl (same_upd rfl (same_upd rfl (same_upd rfl (same_upd rfl (same_upd rfl (same_upd rfl (same_upd rfl (same_upd rfl (same_upd rfl (same_upd rfl (same_upd rfl (same_upd rfl (same_upd rfl (same_upd rfl (same_upd rfl (same_upd rfl (same_upd rfl (same_upd rfl (same_upd rfl (same_upd rfl (same_refl))))))))))))))))))))))))))))))))))))
        ·have g438 := of_decide_eq_false b420
         refine q_know 258 (.bool false) (congrArg Value.bool b420) ?_
         have g439 := of_decide_eq_false b420
         refine qn 6 258 true ?_
         refine qv 260 (.bool false) ?_
         refine qv 261 (.bool false) ?_
         iterate 2 refine qn 9 261 true ?_
         refine qv 264 (.bool false) ?_
         refine qv 265 (.bool false) ?_
         iterate 6 refine qn 13 265 true ?_
         refine qv 272 (.bool false) ?_
         refine qv 273 (.bool false) ?_
         iterate 10 refine qn 21 273 true ?_
         refine qv 284 (.bool false) ?_
         refine q_end ?_
         intro w440 H441
         refine meetR_at ?_ ⟨(congrArg Value.bool (show false = (c4 D) by simp [c4, b420])), H441⟩
         exact (same_upd rfl (same_upd rfl (same_upd rfl (same_upd rfl (same_upd rfl (same_upd rfl (same_upd rfl (same_upd rfl (same_upd rfl (same_upd rfl (same_upd rfl (same_upd rfl (same_upd rfl (same_upd rfl (same_upd rfl (same_upd rfl (same_upd rfl (same_upd rfl (same_upd rfl (same_upd rfl (same_upd rfl (same_upd rfl (same_upd rfl (same_upd rfl (same_upd rfl (same_upd rfl (same_upd rfl (same_upd rfl (same_upd rfl (same_upd rfl (same_upd rfl (same_upd rfl (same_upd rfl (same_upd rfl (same_refl)))))))))))))))))))))))))))))))))))
       ·rintro f442 w443 ⟨v445, H444⟩
        refine wp_know 284 _ v445 ?_
        refine (bsplit (c4 D)).elim (fun b446 => ?_) (fun b446 => ?_)
        ·refine wp_know 284 (.bool true) (congrArg Value.bool b446) ?_
         refine wp_ift rfl ?_
         refine w_seq ?_
         refine w_lit ?_
         refine wv 285 (pt p 0) ?_
         refine wv 286 (pt p 0) ?_
         refine wv 287 (pt p 107) ?_
         refine wv 288 (pt p 107) ?_
         refine wl_do (wants0 rfl) (fun K447 hK447 => ?_)
         refine d_storeX (vs := ([(.bool true)] : List Value)) (cs' := (rcW D.f D.c D.epoch D.replica D.s.round D.s.step D.s.lr D.s.vr D.s.locked D.s.valid D.s.decided D.s.decision t (.slice ua D.P.length uc) true D.sp D.sc)) rfl H444 0 rfl rfl rfl rfl (by kernel_rfl) (Nat.le_of_ble_eq_true (by kernel_rfl)) (Nat.le_of_ble_eq_true (by kernel_rfl)) (by kernel_rfl) (by kernel_rfl) ?_
         intro w448 (H449 : Sat w [cellC p 83 (rcW D.f D.c D.epoch D.replica D.s.round D.s.step D.s.lr D.s.vr D.s.locked D.s.valid D.s.decided D.s.decision t (.slice ua D.P.length uc) true D.sp D.sc), cellC t 101 ([(.int .i64 (D.f)), (.int .i64 (D.c)), (.slice va D.L.length vc)] : List Value), rowC 143 35 (.slice va D.L.length vc) D.L.length (D.L.flatMap encV), rowC 129 35 (.slice ua D.P.length uc) D.P.length (D.P.flatMap encQ), restC w (rcC p t (.slice va D.L.length vc) (.slice ua D.P.length uc) D).fp, cellC b148 129 (([(.int .i64 (zP D.P D.s.round)), (.int .i64 ((getP D.P D.s.round).valid))] : List Value) ++ hc (getP D.P D.s.round).h ++ ([(.bool ((getP D.P D.s.round).ok))] : List Value))] w448)
         refine hK447 _ _ ?_
         clear hK447 K447
         refine w_nil ?_
         refine then_normal ?_
         refine w_seq ?_
         refine w_lit ?_
         refine wv 14 (.slice none 0 0) ?_
         refine w_nil ?_
         refine then_normal ?_
         iterate 2 refine w_seq ?_
         refine w_lit ?_
         refine wv 289 (pt p 0) ?_
         refine wv 290 (pt p 0) ?_
         refine wv 291 (pt p 4) ?_
         refine wv 292 (pt p 5) ?_
         refine wv 293 (.int .i64 (D.s.step)) ?_ (hr := e_load1 rfl (by kernel_rfl) (H449.cell 0 rfl (by kernel_rfl)))
         refine wv 294 (.bool (decide (D.s.step = 2))) ?_
         refine w_nil ?_
         refine then_normal ?_
         refine (bsplit (decide (D.s.step = 2))).elim (fun b451 => ?_) (fun b451 => ?_)
         ·have g452 := of_decide_eq_true b451
          refine wp_know 294 (.bool true) (congrArg Value.bool b451) ?_
          have g453 := of_decide_eq_true b451
          refine wp_ift rfl ?_
          refine w_seq ?_
          refine w_lit ?_
          refine wv 295 (pt p 0) ?_
          refine wv 296 (pt p 0) ?_
          refine wv 297 (pt b148 2) ?_
          refine wv 298 (.agg ⟨(hc (getP D.P D.s.round).h)⟩) ?_ (hr := e_loadN (vs := (hc (getP D.P D.s.round).h)) rfl (by kernel_rfl) (by kernel_rfl) (by exact Nat.le_of_ble_eq_true (by kernel_rfl)) (H449.at 5 rfl) (by kernel_rfl))
          refine wv 299 (.int .i64 (D.s.round)) ?_
          refine wv 300 (pt p 0) ?_
          refine wv 301 (pt p 4) ?_
          refine wv 302 (pt p 8) ?_
          refine wl_do (wants0 rfl) (fun K454 hK454 => ?_)
          refine d_storeX (vs := (hc (getP D.P D.s.round).h)) (cs' := (rcW D.f D.c D.epoch D.replica D.s.round D.s.step D.s.lr D.s.vr ((getP D.P D.s.round).h) D.s.valid D.s.decided D.s.decision t (.slice ua D.P.length uc) true D.sp D.sc)) rfl H449 0 rfl rfl rfl rfl (by kernel_rfl) (Nat.le_of_ble_eq_true (by kernel_rfl)) (Nat.le_of_ble_eq_true (by kernel_rfl)) (by kernel_rfl) (by kernel_rfl) ?_
          intro w455 (H456 : Sat w [cellC p 83 (rcW D.f D.c D.epoch D.replica D.s.round D.s.step D.s.lr D.s.vr ((getP D.P D.s.round).h) D.s.valid D.s.decided D.s.decision t (.slice ua D.P.length uc) true D.sp D.sc), cellC t 101 ([(.int .i64 (D.f)), (.int .i64 (D.c)), (.slice va D.L.length vc)] : List Value), rowC 143 35 (.slice va D.L.length vc) D.L.length (D.L.flatMap encV), rowC 129 35 (.slice ua D.P.length uc) D.P.length (D.P.flatMap encQ), restC w (rcC p t (.slice va D.L.length vc) (.slice ua D.P.length uc) D).fp, cellC b148 129 (([(.int .i64 (zP D.P D.s.round)), (.int .i64 ((getP D.P D.s.round).valid))] : List Value) ++ hc (getP D.P D.s.round).h ++ ([(.bool ((getP D.P D.s.round).ok))] : List Value))] w455)
          refine hK454 _ _ ?_
          clear hK454 K454
          refine wv 303 (pt p 0) ?_
          refine wv 304 (pt p 4) ?_
          refine wv 305 (pt p 6) ?_
          refine wl_do (wants0 rfl) (fun K458 hK458 => ?_)
          refine d_storeX (vs := ([(.int .i64 (D.s.round))] : List Value)) (cs' := (rcW D.f D.c D.epoch D.replica D.s.round D.s.step D.s.round D.s.vr ((getP D.P D.s.round).h) D.s.valid D.s.decided D.s.decision t (.slice ua D.P.length uc) true D.sp D.sc)) rfl H456 0 rfl rfl rfl rfl (by kernel_rfl) (Nat.le_of_ble_eq_true (by kernel_rfl)) (Nat.le_of_ble_eq_true (by kernel_rfl)) (by kernel_rfl) (by kernel_rfl) ?_
          intro w459 (H460 : Sat w [cellC p 83 (rcW D.f D.c D.epoch D.replica D.s.round D.s.step D.s.round D.s.vr ((getP D.P D.s.round).h) D.s.valid D.s.decided D.s.decision t (.slice ua D.P.length uc) true D.sp D.sc), cellC t 101 ([(.int .i64 (D.f)), (.int .i64 (D.c)), (.slice va D.L.length vc)] : List Value), rowC 143 35 (.slice va D.L.length vc) D.L.length (D.L.flatMap encV), rowC 129 35 (.slice ua D.P.length uc) D.P.length (D.P.flatMap encQ), restC w (rcC p t (.slice va D.L.length vc) (.slice ua D.P.length uc) D).fp, cellC b148 129 (([(.int .i64 (zP D.P D.s.round)), (.int .i64 ((getP D.P D.s.round).valid))] : List Value) ++ hc (getP D.P D.s.round).h ++ ([(.bool ((getP D.P D.s.round).ok))] : List Value))] w459)
          refine hK458 _ _ ?_
          clear hK458 K458
          refine w_nil ?_
          refine then_normal ?_
          refine w_lit ?_
          refine wv 306 (pt p 0) ?_
          refine wv 307 (pt b148 2) ?_
          refine wv 308 (.agg ⟨(hc (getP D.P D.s.round).h)⟩) ?_ (hr := e_loadN (vs := (hc (getP D.P D.s.round).h)) rfl (by kernel_rfl) (by kernel_rfl) (by exact Nat.le_of_ble_eq_true (by kernel_rfl)) (H460.at 5 rfl) (by kernel_rfl))
          refine wl_do (wants0 rfl) (fun K462 hK462 => ?_)
          refine d_call (d := 309) rfl (by kernel_rfl) (rcPrecommit_any w459 p t (.slice va D.L.length vc) (.slice ua D.P.length uc) (⟨D.f, D.c, D.epoch, D.replica, ⟨D.s.round, D.s.step, D.s.round, D.s.vr, (getP D.P D.s.round).h, D.s.valid, (D.s.decided), D.s.decision⟩, D.L, D.P, true, (D.sp), (D.sc)⟩ : CoreD) (ok_of (by kernel_rfl) (H460.fin [0, 1, 2, 3] (by decide) rfl)) (⟨h.f, h.ep, h.rp, h.rd, h.st, h.V, h.R, h.pk, h.pr⟩) ((getP D.P D.s.round).h)) ?_
          rintro _ w466 ⟨v463, u464, x465, rfl, S467⟩
          have H468 : Sat w [cellC p 83 (rcL t u464 (ownV (⟨D.f, D.c, D.epoch, D.replica, ⟨D.s.round, D.s.step, D.s.round, D.s.vr, (getP D.P D.s.round).h, D.s.valid, (D.s.decided), D.s.decision⟩, D.L, D.P, true, (D.sp), (D.sc)⟩ : CoreD) 2 3 ((getP D.P D.s.round).h))), cellC t 101 ([(.int .i64 ((ownV (⟨D.f, D.c, D.epoch, D.replica, ⟨D.s.round, D.s.step, D.s.round, D.s.vr, (getP D.P D.s.round).h, D.s.valid, (D.s.decided), D.s.decision⟩, D.L, D.P, true, (D.sp), (D.sc)⟩ : CoreD) 2 3 ((getP D.P D.s.round).h)).f)), (.int .i64 ((ownV (⟨D.f, D.c, D.epoch, D.replica, ⟨D.s.round, D.s.step, D.s.round, D.s.vr, (getP D.P D.s.round).h, D.s.valid, (D.s.decided), D.s.decision⟩, D.L, D.P, true, (D.sp), (D.sc)⟩ : CoreD) 2 3 ((getP D.P D.s.round).h)).c)), v463] : List Value), rowC 143 35 v463 (((ownV (⟨D.f, D.c, D.epoch, D.replica, ⟨D.s.round, D.s.step, D.s.round, D.s.vr, (getP D.P D.s.round).h, D.s.valid, (D.s.decided), D.s.decision⟩, D.L, D.P, true, (D.sp), (D.sc)⟩ : CoreD) 2 3 ((getP D.P D.s.round).h)).L).length) (((ownV (⟨D.f, D.c, D.epoch, D.replica, ⟨D.s.round, D.s.step, D.s.round, D.s.vr, (getP D.P D.s.round).h, D.s.valid, (D.s.decided), D.s.decision⟩, D.L, D.P, true, (D.sp), (D.sc)⟩ : CoreD) 2 3 ((getP D.P D.s.round).h)).L).flatMap encV), rowC 129 35 u464 (((ownV (⟨D.f, D.c, D.epoch, D.replica, ⟨D.s.round, D.s.step, D.s.round, D.s.vr, (getP D.P D.s.round).h, D.s.valid, (D.s.decided), D.s.decision⟩, D.L, D.P, true, (D.sp), (D.sc)⟩ : CoreD) 2 3 ((getP D.P D.s.round).h)).P).length) (((ownV (⟨D.f, D.c, D.epoch, D.replica, ⟨D.s.round, D.s.step, D.s.round, D.s.vr, (getP D.P D.s.round).h, D.s.valid, (D.s.decided), D.s.decision⟩, D.L, D.P, true, (D.sp), (D.sc)⟩ : CoreD) 2 3 ((getP D.P D.s.round).h)).P).flatMap encQ), restC w (rcC p t (.slice va D.L.length vc) (.slice ua D.P.length uc) D).fp, cellC b148 129 (([(.int .i64 (zP D.P D.s.round)), (.int .i64 ((getP D.P D.s.round).valid))] : List Value) ++ hc (getP D.P D.s.round).h ++ ([(.bool ((getP D.P D.s.round).ok))] : List Value)), rowC 102 35 x465 ((ownA (⟨D.f, D.c, D.epoch, D.replica, ⟨D.s.round, D.s.step, D.s.round, D.s.vr, (getP D.P D.s.round).h, D.s.valid, (D.s.decided), D.s.decision⟩, D.L, D.P, true, (D.sp), (D.sc)⟩ : CoreD) 3 ((getP D.P D.s.round).h)).length) ((ownA (⟨D.f, D.c, D.epoch, D.replica, ⟨D.s.round, D.s.step, D.s.round, D.s.vr, (getP D.P D.s.round).h, D.s.valid, (D.s.decided), D.s.decision⟩, D.L, D.P, true, (D.sp), (D.sc)⟩ : CoreD) 3 ((getP D.P D.s.round).h)).flatMap encA)] w466 := (Sat.turnL (L' := [cellC p 83 (rcL t u464 (ownV (⟨D.f, D.c, D.epoch, D.replica, ⟨D.s.round, D.s.step, D.s.round, D.s.vr, (getP D.P D.s.round).h, D.s.valid, (D.s.decided), D.s.decision⟩, D.L, D.P, true, (D.sp), (D.sc)⟩ : CoreD) 2 3 ((getP D.P D.s.round).h))), cellC t 101 ([(.int .i64 ((ownV (⟨D.f, D.c, D.epoch, D.replica, ⟨D.s.round, D.s.step, D.s.round, D.s.vr, (getP D.P D.s.round).h, D.s.valid, (D.s.decided), D.s.decision⟩, D.L, D.P, true, (D.sp), (D.sc)⟩ : CoreD) 2 3 ((getP D.P D.s.round).h)).f)), (.int .i64 ((ownV (⟨D.f, D.c, D.epoch, D.replica, ⟨D.s.round, D.s.step, D.s.round, D.s.vr, (getP D.P D.s.round).h, D.s.valid, (D.s.decided), D.s.decision⟩, D.L, D.P, true, (D.sp), (D.sc)⟩ : CoreD) 2 3 ((getP D.P D.s.round).h)).c)), v463] : List Value), rowC 143 35 v463 (((ownV (⟨D.f, D.c, D.epoch, D.replica, ⟨D.s.round, D.s.step, D.s.round, D.s.vr, (getP D.P D.s.round).h, D.s.valid, (D.s.decided), D.s.decision⟩, D.L, D.P, true, (D.sp), (D.sc)⟩ : CoreD) 2 3 ((getP D.P D.s.round).h)).L).length) (((ownV (⟨D.f, D.c, D.epoch, D.replica, ⟨D.s.round, D.s.step, D.s.round, D.s.vr, (getP D.P D.s.round).h, D.s.valid, (D.s.decided), D.s.decision⟩, D.L, D.P, true, (D.sp), (D.sc)⟩ : CoreD) 2 3 ((getP D.P D.s.round).h)).L).flatMap encV), rowC 129 35 u464 (((ownV (⟨D.f, D.c, D.epoch, D.replica, ⟨D.s.round, D.s.step, D.s.round, D.s.vr, (getP D.P D.s.round).h, D.s.valid, (D.s.decided), D.s.decision⟩, D.L, D.P, true, (D.sp), (D.sc)⟩ : CoreD) 2 3 ((getP D.P D.s.round).h)).P).length) (((ownV (⟨D.f, D.c, D.epoch, D.replica, ⟨D.s.round, D.s.step, D.s.round, D.s.vr, (getP D.P D.s.round).h, D.s.valid, (D.s.decided), D.s.decision⟩, D.L, D.P, true, (D.sp), (D.sc)⟩ : CoreD) 2 3 ((getP D.P D.s.round).h)).P).flatMap encQ), rowC 102 35 x465 ((ownA (⟨D.f, D.c, D.epoch, D.replica, ⟨D.s.round, D.s.step, D.s.round, D.s.vr, (getP D.P D.s.round).h, D.s.valid, (D.s.decided), D.s.decision⟩, D.L, D.P, true, (D.sp), (D.sc)⟩ : CoreD) 3 ((getP D.P D.s.round).h)).length) ((ownA (⟨D.f, D.c, D.epoch, D.replica, ⟨D.s.round, D.s.step, D.s.round, D.s.vr, (getP D.P D.s.round).h, D.s.valid, (D.s.decided), D.s.decision⟩, D.L, D.P, true, (D.sp), (D.sc)⟩ : CoreD) 3 ((getP D.P D.s.round).h)).flatMap encA)]) (R := [restC w (rcC p t (.slice va D.L.length vc) (.slice ua D.P.length uc) D).fp, cellC b148 129 (([(.int .i64 (zP D.P D.s.round)), (.int .i64 ((getP D.P D.s.round).valid))] : List Value) ++ hc (getP D.P D.s.round).h ++ ([(.bool ((getP D.P D.s.round).ok))] : List Value))]) H460 [0, 1, 2, 3] [4, 5] (by decide) (by kernel_rfl) rfl S467).pick [0, 1, 2, 3, 5, 6, 4] (by decide)
          obtain ⟨a469, c470, rfl⟩ := ownsRow_shape (H468.at 2 rfl)
          obtain ⟨a471, c472, rfl⟩ := ownsRow_shape (H468.at 3 rfl)
          obtain ⟨a473, c474, rfl⟩ := ownsRow_shape (H468.at 6 rfl)
          refine ⟨_, rfl, ?_⟩
          refine hK462 _ _ ?_
          clear hK462 K462
          refine wv 14 (.slice a473 ((ownA (⟨D.f, D.c, D.epoch, D.replica, ⟨D.s.round, D.s.step, D.s.round, D.s.vr, (getP D.P D.s.round).h, D.s.valid, (D.s.decided), D.s.decision⟩, D.L, D.P, true, (D.sp), (D.sc)⟩ : CoreD) 3 ((getP D.P D.s.round).h)).length) c474) ?_
          refine w_nil ?_
          refine then_normal ?_
          refine w_seq ?_
          refine w_lit ?_
          refine wv 310 (pt p 0) ?_
          refine wv 311 (pt p 0) ?_
          refine wv 312 (pt b148 2) ?_
          refine wv 313 (.agg ⟨(hc (getP D.P D.s.round).h)⟩) ?_ (hr := e_loadN (vs := (hc (getP D.P D.s.round).h)) rfl (by kernel_rfl) (by kernel_rfl) (by exact Nat.le_of_ble_eq_true (by kernel_rfl)) (H468.at 5 rfl) (by kernel_rfl))
          refine wv 314 (.int .i64 (D.s.round)) ?_
          refine wv 315 (pt p 0) ?_
          refine wv 316 (pt p 4) ?_
          refine wv 317 (pt p 40) ?_
          refine wl_do (wants0 rfl) (fun K475 hK475 => ?_)
          refine d_storeX (vs := (hc (getP D.P D.s.round).h)) (cs' := (rcW ((ownV (⟨D.f, D.c, D.epoch, D.replica, ⟨D.s.round, D.s.step, D.s.round, D.s.vr, (getP D.P D.s.round).h, D.s.valid, (D.s.decided), D.s.decision⟩, D.L, D.P, true, (D.sp), (D.sc)⟩ : CoreD) 2 3 ((getP D.P D.s.round).h)).f) ((ownV (⟨D.f, D.c, D.epoch, D.replica, ⟨D.s.round, D.s.step, D.s.round, D.s.vr, (getP D.P D.s.round).h, D.s.valid, (D.s.decided), D.s.decision⟩, D.L, D.P, true, (D.sp), (D.sc)⟩ : CoreD) 2 3 ((getP D.P D.s.round).h)).c) ((ownV (⟨D.f, D.c, D.epoch, D.replica, ⟨D.s.round, D.s.step, D.s.round, D.s.vr, (getP D.P D.s.round).h, D.s.valid, (D.s.decided), D.s.decision⟩, D.L, D.P, true, (D.sp), (D.sc)⟩ : CoreD) 2 3 ((getP D.P D.s.round).h)).epoch) ((ownV (⟨D.f, D.c, D.epoch, D.replica, ⟨D.s.round, D.s.step, D.s.round, D.s.vr, (getP D.P D.s.round).h, D.s.valid, (D.s.decided), D.s.decision⟩, D.L, D.P, true, (D.sp), (D.sc)⟩ : CoreD) 2 3 ((getP D.P D.s.round).h)).replica) ((ownV (⟨D.f, D.c, D.epoch, D.replica, ⟨D.s.round, D.s.step, D.s.round, D.s.vr, (getP D.P D.s.round).h, D.s.valid, (D.s.decided), D.s.decision⟩, D.L, D.P, true, (D.sp), (D.sc)⟩ : CoreD) 2 3 ((getP D.P D.s.round).h)).s.round) ((ownV (⟨D.f, D.c, D.epoch, D.replica, ⟨D.s.round, D.s.step, D.s.round, D.s.vr, (getP D.P D.s.round).h, D.s.valid, (D.s.decided), D.s.decision⟩, D.L, D.P, true, (D.sp), (D.sc)⟩ : CoreD) 2 3 ((getP D.P D.s.round).h)).s.step) ((ownV (⟨D.f, D.c, D.epoch, D.replica, ⟨D.s.round, D.s.step, D.s.round, D.s.vr, (getP D.P D.s.round).h, D.s.valid, (D.s.decided), D.s.decision⟩, D.L, D.P, true, (D.sp), (D.sc)⟩ : CoreD) 2 3 ((getP D.P D.s.round).h)).s.lr) ((ownV (⟨D.f, D.c, D.epoch, D.replica, ⟨D.s.round, D.s.step, D.s.round, D.s.vr, (getP D.P D.s.round).h, D.s.valid, (D.s.decided), D.s.decision⟩, D.L, D.P, true, (D.sp), (D.sc)⟩ : CoreD) 2 3 ((getP D.P D.s.round).h)).s.vr) ((ownV (⟨D.f, D.c, D.epoch, D.replica, ⟨D.s.round, D.s.step, D.s.round, D.s.vr, (getP D.P D.s.round).h, D.s.valid, (D.s.decided), D.s.decision⟩, D.L, D.P, true, (D.sp), (D.sc)⟩ : CoreD) 2 3 ((getP D.P D.s.round).h)).s.locked) ((getP D.P D.s.round).h) ((ownV (⟨D.f, D.c, D.epoch, D.replica, ⟨D.s.round, D.s.step, D.s.round, D.s.vr, (getP D.P D.s.round).h, D.s.valid, (D.s.decided), D.s.decision⟩, D.L, D.P, true, (D.sp), (D.sc)⟩ : CoreD) 2 3 ((getP D.P D.s.round).h)).s.decided) ((ownV (⟨D.f, D.c, D.epoch, D.replica, ⟨D.s.round, D.s.step, D.s.round, D.s.vr, (getP D.P D.s.round).h, D.s.valid, (D.s.decided), D.s.decision⟩, D.L, D.P, true, (D.sp), (D.sc)⟩ : CoreD) 2 3 ((getP D.P D.s.round).h)).s.decision) t (.slice a471 (((ownV (⟨D.f, D.c, D.epoch, D.replica, ⟨D.s.round, D.s.step, D.s.round, D.s.vr, (getP D.P D.s.round).h, D.s.valid, (D.s.decided), D.s.decision⟩, D.L, D.P, true, (D.sp), (D.sc)⟩ : CoreD) 2 3 ((getP D.P D.s.round).h)).P).length) c472) ((ownV (⟨D.f, D.c, D.epoch, D.replica, ⟨D.s.round, D.s.step, D.s.round, D.s.vr, (getP D.P D.s.round).h, D.s.valid, (D.s.decided), D.s.decision⟩, D.L, D.P, true, (D.sp), (D.sc)⟩ : CoreD) 2 3 ((getP D.P D.s.round).h)).wv) ((ownV (⟨D.f, D.c, D.epoch, D.replica, ⟨D.s.round, D.s.step, D.s.round, D.s.vr, (getP D.P D.s.round).h, D.s.valid, (D.s.decided), D.s.decision⟩, D.L, D.P, true, (D.sp), (D.sc)⟩ : CoreD) 2 3 ((getP D.P D.s.round).h)).sp) ((ownV (⟨D.f, D.c, D.epoch, D.replica, ⟨D.s.round, D.s.step, D.s.round, D.s.vr, (getP D.P D.s.round).h, D.s.valid, (D.s.decided), D.s.decision⟩, D.L, D.P, true, (D.sp), (D.sc)⟩ : CoreD) 2 3 ((getP D.P D.s.round).h)).sc))) rfl H468 0 rfl rfl rfl rfl (by kernel_rfl) (Nat.le_of_ble_eq_true (by kernel_rfl)) (Nat.le_of_ble_eq_true (by kernel_rfl)) (by kernel_rfl) (by kernel_rfl) ?_
          intro w476 (H477 : Sat w [cellC p 83 (rcW ((ownV (⟨D.f, D.c, D.epoch, D.replica, ⟨D.s.round, D.s.step, D.s.round, D.s.vr, (getP D.P D.s.round).h, D.s.valid, (D.s.decided), D.s.decision⟩, D.L, D.P, true, (D.sp), (D.sc)⟩ : CoreD) 2 3 ((getP D.P D.s.round).h)).f) ((ownV (⟨D.f, D.c, D.epoch, D.replica, ⟨D.s.round, D.s.step, D.s.round, D.s.vr, (getP D.P D.s.round).h, D.s.valid, (D.s.decided), D.s.decision⟩, D.L, D.P, true, (D.sp), (D.sc)⟩ : CoreD) 2 3 ((getP D.P D.s.round).h)).c) ((ownV (⟨D.f, D.c, D.epoch, D.replica, ⟨D.s.round, D.s.step, D.s.round, D.s.vr, (getP D.P D.s.round).h, D.s.valid, (D.s.decided), D.s.decision⟩, D.L, D.P, true, (D.sp), (D.sc)⟩ : CoreD) 2 3 ((getP D.P D.s.round).h)).epoch) ((ownV (⟨D.f, D.c, D.epoch, D.replica, ⟨D.s.round, D.s.step, D.s.round, D.s.vr, (getP D.P D.s.round).h, D.s.valid, (D.s.decided), D.s.decision⟩, D.L, D.P, true, (D.sp), (D.sc)⟩ : CoreD) 2 3 ((getP D.P D.s.round).h)).replica) ((ownV (⟨D.f, D.c, D.epoch, D.replica, ⟨D.s.round, D.s.step, D.s.round, D.s.vr, (getP D.P D.s.round).h, D.s.valid, (D.s.decided), D.s.decision⟩, D.L, D.P, true, (D.sp), (D.sc)⟩ : CoreD) 2 3 ((getP D.P D.s.round).h)).s.round) ((ownV (⟨D.f, D.c, D.epoch, D.replica, ⟨D.s.round, D.s.step, D.s.round, D.s.vr, (getP D.P D.s.round).h, D.s.valid, (D.s.decided), D.s.decision⟩, D.L, D.P, true, (D.sp), (D.sc)⟩ : CoreD) 2 3 ((getP D.P D.s.round).h)).s.step) ((ownV (⟨D.f, D.c, D.epoch, D.replica, ⟨D.s.round, D.s.step, D.s.round, D.s.vr, (getP D.P D.s.round).h, D.s.valid, (D.s.decided), D.s.decision⟩, D.L, D.P, true, (D.sp), (D.sc)⟩ : CoreD) 2 3 ((getP D.P D.s.round).h)).s.lr) ((ownV (⟨D.f, D.c, D.epoch, D.replica, ⟨D.s.round, D.s.step, D.s.round, D.s.vr, (getP D.P D.s.round).h, D.s.valid, (D.s.decided), D.s.decision⟩, D.L, D.P, true, (D.sp), (D.sc)⟩ : CoreD) 2 3 ((getP D.P D.s.round).h)).s.vr) ((ownV (⟨D.f, D.c, D.epoch, D.replica, ⟨D.s.round, D.s.step, D.s.round, D.s.vr, (getP D.P D.s.round).h, D.s.valid, (D.s.decided), D.s.decision⟩, D.L, D.P, true, (D.sp), (D.sc)⟩ : CoreD) 2 3 ((getP D.P D.s.round).h)).s.locked) ((getP D.P D.s.round).h) ((ownV (⟨D.f, D.c, D.epoch, D.replica, ⟨D.s.round, D.s.step, D.s.round, D.s.vr, (getP D.P D.s.round).h, D.s.valid, (D.s.decided), D.s.decision⟩, D.L, D.P, true, (D.sp), (D.sc)⟩ : CoreD) 2 3 ((getP D.P D.s.round).h)).s.decided) ((ownV (⟨D.f, D.c, D.epoch, D.replica, ⟨D.s.round, D.s.step, D.s.round, D.s.vr, (getP D.P D.s.round).h, D.s.valid, (D.s.decided), D.s.decision⟩, D.L, D.P, true, (D.sp), (D.sc)⟩ : CoreD) 2 3 ((getP D.P D.s.round).h)).s.decision) t (.slice a471 (((ownV (⟨D.f, D.c, D.epoch, D.replica, ⟨D.s.round, D.s.step, D.s.round, D.s.vr, (getP D.P D.s.round).h, D.s.valid, (D.s.decided), D.s.decision⟩, D.L, D.P, true, (D.sp), (D.sc)⟩ : CoreD) 2 3 ((getP D.P D.s.round).h)).P).length) c472) ((ownV (⟨D.f, D.c, D.epoch, D.replica, ⟨D.s.round, D.s.step, D.s.round, D.s.vr, (getP D.P D.s.round).h, D.s.valid, (D.s.decided), D.s.decision⟩, D.L, D.P, true, (D.sp), (D.sc)⟩ : CoreD) 2 3 ((getP D.P D.s.round).h)).wv) ((ownV (⟨D.f, D.c, D.epoch, D.replica, ⟨D.s.round, D.s.step, D.s.round, D.s.vr, (getP D.P D.s.round).h, D.s.valid, (D.s.decided), D.s.decision⟩, D.L, D.P, true, (D.sp), (D.sc)⟩ : CoreD) 2 3 ((getP D.P D.s.round).h)).sp) ((ownV (⟨D.f, D.c, D.epoch, D.replica, ⟨D.s.round, D.s.step, D.s.round, D.s.vr, (getP D.P D.s.round).h, D.s.valid, (D.s.decided), D.s.decision⟩, D.L, D.P, true, (D.sp), (D.sc)⟩ : CoreD) 2 3 ((getP D.P D.s.round).h)).sc)), cellC t 101 ([(.int .i64 ((ownV (⟨D.f, D.c, D.epoch, D.replica, ⟨D.s.round, D.s.step, D.s.round, D.s.vr, (getP D.P D.s.round).h, D.s.valid, (D.s.decided), D.s.decision⟩, D.L, D.P, true, (D.sp), (D.sc)⟩ : CoreD) 2 3 ((getP D.P D.s.round).h)).f)), (.int .i64 ((ownV (⟨D.f, D.c, D.epoch, D.replica, ⟨D.s.round, D.s.step, D.s.round, D.s.vr, (getP D.P D.s.round).h, D.s.valid, (D.s.decided), D.s.decision⟩, D.L, D.P, true, (D.sp), (D.sc)⟩ : CoreD) 2 3 ((getP D.P D.s.round).h)).c)), (.slice a469 (((ownV (⟨D.f, D.c, D.epoch, D.replica, ⟨D.s.round, D.s.step, D.s.round, D.s.vr, (getP D.P D.s.round).h, D.s.valid, (D.s.decided), D.s.decision⟩, D.L, D.P, true, (D.sp), (D.sc)⟩ : CoreD) 2 3 ((getP D.P D.s.round).h)).L).length) c470)] : List Value), rowC 143 35 (.slice a469 (((ownV (⟨D.f, D.c, D.epoch, D.replica, ⟨D.s.round, D.s.step, D.s.round, D.s.vr, (getP D.P D.s.round).h, D.s.valid, (D.s.decided), D.s.decision⟩, D.L, D.P, true, (D.sp), (D.sc)⟩ : CoreD) 2 3 ((getP D.P D.s.round).h)).L).length) c470) (((ownV (⟨D.f, D.c, D.epoch, D.replica, ⟨D.s.round, D.s.step, D.s.round, D.s.vr, (getP D.P D.s.round).h, D.s.valid, (D.s.decided), D.s.decision⟩, D.L, D.P, true, (D.sp), (D.sc)⟩ : CoreD) 2 3 ((getP D.P D.s.round).h)).L).length) (((ownV (⟨D.f, D.c, D.epoch, D.replica, ⟨D.s.round, D.s.step, D.s.round, D.s.vr, (getP D.P D.s.round).h, D.s.valid, (D.s.decided), D.s.decision⟩, D.L, D.P, true, (D.sp), (D.sc)⟩ : CoreD) 2 3 ((getP D.P D.s.round).h)).L).flatMap encV), rowC 129 35 (.slice a471 (((ownV (⟨D.f, D.c, D.epoch, D.replica, ⟨D.s.round, D.s.step, D.s.round, D.s.vr, (getP D.P D.s.round).h, D.s.valid, (D.s.decided), D.s.decision⟩, D.L, D.P, true, (D.sp), (D.sc)⟩ : CoreD) 2 3 ((getP D.P D.s.round).h)).P).length) c472) (((ownV (⟨D.f, D.c, D.epoch, D.replica, ⟨D.s.round, D.s.step, D.s.round, D.s.vr, (getP D.P D.s.round).h, D.s.valid, (D.s.decided), D.s.decision⟩, D.L, D.P, true, (D.sp), (D.sc)⟩ : CoreD) 2 3 ((getP D.P D.s.round).h)).P).length) (((ownV (⟨D.f, D.c, D.epoch, D.replica, ⟨D.s.round, D.s.step, D.s.round, D.s.vr, (getP D.P D.s.round).h, D.s.valid, (D.s.decided), D.s.decision⟩, D.L, D.P, true, (D.sp), (D.sc)⟩ : CoreD) 2 3 ((getP D.P D.s.round).h)).P).flatMap encQ), restC w (rcC p t (.slice va D.L.length vc) (.slice ua D.P.length uc) D).fp, cellC b148 129 (([(.int .i64 (zP D.P D.s.round)), (.int .i64 ((getP D.P D.s.round).valid))] : List Value) ++ hc (getP D.P D.s.round).h ++ ([(.bool ((getP D.P D.s.round).ok))] : List Value)), rowC 102 35 (.slice a473 ((ownA (⟨D.f, D.c, D.epoch, D.replica, ⟨D.s.round, D.s.step, D.s.round, D.s.vr, (getP D.P D.s.round).h, D.s.valid, (D.s.decided), D.s.decision⟩, D.L, D.P, true, (D.sp), (D.sc)⟩ : CoreD) 3 ((getP D.P D.s.round).h)).length) c474) ((ownA (⟨D.f, D.c, D.epoch, D.replica, ⟨D.s.round, D.s.step, D.s.round, D.s.vr, (getP D.P D.s.round).h, D.s.valid, (D.s.decided), D.s.decision⟩, D.L, D.P, true, (D.sp), (D.sc)⟩ : CoreD) 3 ((getP D.P D.s.round).h)).length) ((ownA (⟨D.f, D.c, D.epoch, D.replica, ⟨D.s.round, D.s.step, D.s.round, D.s.vr, (getP D.P D.s.round).h, D.s.valid, (D.s.decided), D.s.decision⟩, D.L, D.P, true, (D.sp), (D.sc)⟩ : CoreD) 3 ((getP D.P D.s.round).h)).flatMap encA)] w476)
          refine hK475 _ _ ?_
          clear hK475 K475
          refine wv 318 (pt p 0) ?_
          refine wv 319 (pt p 4) ?_
          refine wv 320 (pt p 7) ?_
          refine wl_do (wants0 rfl) (fun K479 hK479 => ?_)
          refine d_storeX (vs := ([(.int .i64 (D.s.round))] : List Value)) (cs' := (rcW ((ownV (⟨D.f, D.c, D.epoch, D.replica, ⟨D.s.round, D.s.step, D.s.round, D.s.vr, (getP D.P D.s.round).h, D.s.valid, (D.s.decided), D.s.decision⟩, D.L, D.P, true, (D.sp), (D.sc)⟩ : CoreD) 2 3 ((getP D.P D.s.round).h)).f) ((ownV (⟨D.f, D.c, D.epoch, D.replica, ⟨D.s.round, D.s.step, D.s.round, D.s.vr, (getP D.P D.s.round).h, D.s.valid, (D.s.decided), D.s.decision⟩, D.L, D.P, true, (D.sp), (D.sc)⟩ : CoreD) 2 3 ((getP D.P D.s.round).h)).c) ((ownV (⟨D.f, D.c, D.epoch, D.replica, ⟨D.s.round, D.s.step, D.s.round, D.s.vr, (getP D.P D.s.round).h, D.s.valid, (D.s.decided), D.s.decision⟩, D.L, D.P, true, (D.sp), (D.sc)⟩ : CoreD) 2 3 ((getP D.P D.s.round).h)).epoch) ((ownV (⟨D.f, D.c, D.epoch, D.replica, ⟨D.s.round, D.s.step, D.s.round, D.s.vr, (getP D.P D.s.round).h, D.s.valid, (D.s.decided), D.s.decision⟩, D.L, D.P, true, (D.sp), (D.sc)⟩ : CoreD) 2 3 ((getP D.P D.s.round).h)).replica) ((ownV (⟨D.f, D.c, D.epoch, D.replica, ⟨D.s.round, D.s.step, D.s.round, D.s.vr, (getP D.P D.s.round).h, D.s.valid, (D.s.decided), D.s.decision⟩, D.L, D.P, true, (D.sp), (D.sc)⟩ : CoreD) 2 3 ((getP D.P D.s.round).h)).s.round) ((ownV (⟨D.f, D.c, D.epoch, D.replica, ⟨D.s.round, D.s.step, D.s.round, D.s.vr, (getP D.P D.s.round).h, D.s.valid, (D.s.decided), D.s.decision⟩, D.L, D.P, true, (D.sp), (D.sc)⟩ : CoreD) 2 3 ((getP D.P D.s.round).h)).s.step) ((ownV (⟨D.f, D.c, D.epoch, D.replica, ⟨D.s.round, D.s.step, D.s.round, D.s.vr, (getP D.P D.s.round).h, D.s.valid, (D.s.decided), D.s.decision⟩, D.L, D.P, true, (D.sp), (D.sc)⟩ : CoreD) 2 3 ((getP D.P D.s.round).h)).s.lr) D.s.round ((ownV (⟨D.f, D.c, D.epoch, D.replica, ⟨D.s.round, D.s.step, D.s.round, D.s.vr, (getP D.P D.s.round).h, D.s.valid, (D.s.decided), D.s.decision⟩, D.L, D.P, true, (D.sp), (D.sc)⟩ : CoreD) 2 3 ((getP D.P D.s.round).h)).s.locked) ((getP D.P D.s.round).h) ((ownV (⟨D.f, D.c, D.epoch, D.replica, ⟨D.s.round, D.s.step, D.s.round, D.s.vr, (getP D.P D.s.round).h, D.s.valid, (D.s.decided), D.s.decision⟩, D.L, D.P, true, (D.sp), (D.sc)⟩ : CoreD) 2 3 ((getP D.P D.s.round).h)).s.decided) ((ownV (⟨D.f, D.c, D.epoch, D.replica, ⟨D.s.round, D.s.step, D.s.round, D.s.vr, (getP D.P D.s.round).h, D.s.valid, (D.s.decided), D.s.decision⟩, D.L, D.P, true, (D.sp), (D.sc)⟩ : CoreD) 2 3 ((getP D.P D.s.round).h)).s.decision) t (.slice a471 (((ownV (⟨D.f, D.c, D.epoch, D.replica, ⟨D.s.round, D.s.step, D.s.round, D.s.vr, (getP D.P D.s.round).h, D.s.valid, (D.s.decided), D.s.decision⟩, D.L, D.P, true, (D.sp), (D.sc)⟩ : CoreD) 2 3 ((getP D.P D.s.round).h)).P).length) c472) ((ownV (⟨D.f, D.c, D.epoch, D.replica, ⟨D.s.round, D.s.step, D.s.round, D.s.vr, (getP D.P D.s.round).h, D.s.valid, (D.s.decided), D.s.decision⟩, D.L, D.P, true, (D.sp), (D.sc)⟩ : CoreD) 2 3 ((getP D.P D.s.round).h)).wv) ((ownV (⟨D.f, D.c, D.epoch, D.replica, ⟨D.s.round, D.s.step, D.s.round, D.s.vr, (getP D.P D.s.round).h, D.s.valid, (D.s.decided), D.s.decision⟩, D.L, D.P, true, (D.sp), (D.sc)⟩ : CoreD) 2 3 ((getP D.P D.s.round).h)).sp) ((ownV (⟨D.f, D.c, D.epoch, D.replica, ⟨D.s.round, D.s.step, D.s.round, D.s.vr, (getP D.P D.s.round).h, D.s.valid, (D.s.decided), D.s.decision⟩, D.L, D.P, true, (D.sp), (D.sc)⟩ : CoreD) 2 3 ((getP D.P D.s.round).h)).sc))) rfl H477 0 rfl rfl rfl rfl (by kernel_rfl) (Nat.le_of_ble_eq_true (by kernel_rfl)) (Nat.le_of_ble_eq_true (by kernel_rfl)) (by kernel_rfl) (by kernel_rfl) ?_
          intro w480 (H481 : Sat w [cellC p 83 (rcW ((ownV (⟨D.f, D.c, D.epoch, D.replica, ⟨D.s.round, D.s.step, D.s.round, D.s.vr, (getP D.P D.s.round).h, D.s.valid, (D.s.decided), D.s.decision⟩, D.L, D.P, true, (D.sp), (D.sc)⟩ : CoreD) 2 3 ((getP D.P D.s.round).h)).f) ((ownV (⟨D.f, D.c, D.epoch, D.replica, ⟨D.s.round, D.s.step, D.s.round, D.s.vr, (getP D.P D.s.round).h, D.s.valid, (D.s.decided), D.s.decision⟩, D.L, D.P, true, (D.sp), (D.sc)⟩ : CoreD) 2 3 ((getP D.P D.s.round).h)).c) ((ownV (⟨D.f, D.c, D.epoch, D.replica, ⟨D.s.round, D.s.step, D.s.round, D.s.vr, (getP D.P D.s.round).h, D.s.valid, (D.s.decided), D.s.decision⟩, D.L, D.P, true, (D.sp), (D.sc)⟩ : CoreD) 2 3 ((getP D.P D.s.round).h)).epoch) ((ownV (⟨D.f, D.c, D.epoch, D.replica, ⟨D.s.round, D.s.step, D.s.round, D.s.vr, (getP D.P D.s.round).h, D.s.valid, (D.s.decided), D.s.decision⟩, D.L, D.P, true, (D.sp), (D.sc)⟩ : CoreD) 2 3 ((getP D.P D.s.round).h)).replica) ((ownV (⟨D.f, D.c, D.epoch, D.replica, ⟨D.s.round, D.s.step, D.s.round, D.s.vr, (getP D.P D.s.round).h, D.s.valid, (D.s.decided), D.s.decision⟩, D.L, D.P, true, (D.sp), (D.sc)⟩ : CoreD) 2 3 ((getP D.P D.s.round).h)).s.round) ((ownV (⟨D.f, D.c, D.epoch, D.replica, ⟨D.s.round, D.s.step, D.s.round, D.s.vr, (getP D.P D.s.round).h, D.s.valid, (D.s.decided), D.s.decision⟩, D.L, D.P, true, (D.sp), (D.sc)⟩ : CoreD) 2 3 ((getP D.P D.s.round).h)).s.step) ((ownV (⟨D.f, D.c, D.epoch, D.replica, ⟨D.s.round, D.s.step, D.s.round, D.s.vr, (getP D.P D.s.round).h, D.s.valid, (D.s.decided), D.s.decision⟩, D.L, D.P, true, (D.sp), (D.sc)⟩ : CoreD) 2 3 ((getP D.P D.s.round).h)).s.lr) D.s.round ((ownV (⟨D.f, D.c, D.epoch, D.replica, ⟨D.s.round, D.s.step, D.s.round, D.s.vr, (getP D.P D.s.round).h, D.s.valid, (D.s.decided), D.s.decision⟩, D.L, D.P, true, (D.sp), (D.sc)⟩ : CoreD) 2 3 ((getP D.P D.s.round).h)).s.locked) ((getP D.P D.s.round).h) ((ownV (⟨D.f, D.c, D.epoch, D.replica, ⟨D.s.round, D.s.step, D.s.round, D.s.vr, (getP D.P D.s.round).h, D.s.valid, (D.s.decided), D.s.decision⟩, D.L, D.P, true, (D.sp), (D.sc)⟩ : CoreD) 2 3 ((getP D.P D.s.round).h)).s.decided) ((ownV (⟨D.f, D.c, D.epoch, D.replica, ⟨D.s.round, D.s.step, D.s.round, D.s.vr, (getP D.P D.s.round).h, D.s.valid, (D.s.decided), D.s.decision⟩, D.L, D.P, true, (D.sp), (D.sc)⟩ : CoreD) 2 3 ((getP D.P D.s.round).h)).s.decision) t (.slice a471 (((ownV (⟨D.f, D.c, D.epoch, D.replica, ⟨D.s.round, D.s.step, D.s.round, D.s.vr, (getP D.P D.s.round).h, D.s.valid, (D.s.decided), D.s.decision⟩, D.L, D.P, true, (D.sp), (D.sc)⟩ : CoreD) 2 3 ((getP D.P D.s.round).h)).P).length) c472) ((ownV (⟨D.f, D.c, D.epoch, D.replica, ⟨D.s.round, D.s.step, D.s.round, D.s.vr, (getP D.P D.s.round).h, D.s.valid, (D.s.decided), D.s.decision⟩, D.L, D.P, true, (D.sp), (D.sc)⟩ : CoreD) 2 3 ((getP D.P D.s.round).h)).wv) ((ownV (⟨D.f, D.c, D.epoch, D.replica, ⟨D.s.round, D.s.step, D.s.round, D.s.vr, (getP D.P D.s.round).h, D.s.valid, (D.s.decided), D.s.decision⟩, D.L, D.P, true, (D.sp), (D.sc)⟩ : CoreD) 2 3 ((getP D.P D.s.round).h)).sp) ((ownV (⟨D.f, D.c, D.epoch, D.replica, ⟨D.s.round, D.s.step, D.s.round, D.s.vr, (getP D.P D.s.round).h, D.s.valid, (D.s.decided), D.s.decision⟩, D.L, D.P, true, (D.sp), (D.sc)⟩ : CoreD) 2 3 ((getP D.P D.s.round).h)).sc)), cellC t 101 ([(.int .i64 ((ownV (⟨D.f, D.c, D.epoch, D.replica, ⟨D.s.round, D.s.step, D.s.round, D.s.vr, (getP D.P D.s.round).h, D.s.valid, (D.s.decided), D.s.decision⟩, D.L, D.P, true, (D.sp), (D.sc)⟩ : CoreD) 2 3 ((getP D.P D.s.round).h)).f)), (.int .i64 ((ownV (⟨D.f, D.c, D.epoch, D.replica, ⟨D.s.round, D.s.step, D.s.round, D.s.vr, (getP D.P D.s.round).h, D.s.valid, (D.s.decided), D.s.decision⟩, D.L, D.P, true, (D.sp), (D.sc)⟩ : CoreD) 2 3 ((getP D.P D.s.round).h)).c)), (.slice a469 (((ownV (⟨D.f, D.c, D.epoch, D.replica, ⟨D.s.round, D.s.step, D.s.round, D.s.vr, (getP D.P D.s.round).h, D.s.valid, (D.s.decided), D.s.decision⟩, D.L, D.P, true, (D.sp), (D.sc)⟩ : CoreD) 2 3 ((getP D.P D.s.round).h)).L).length) c470)] : List Value), rowC 143 35 (.slice a469 (((ownV (⟨D.f, D.c, D.epoch, D.replica, ⟨D.s.round, D.s.step, D.s.round, D.s.vr, (getP D.P D.s.round).h, D.s.valid, (D.s.decided), D.s.decision⟩, D.L, D.P, true, (D.sp), (D.sc)⟩ : CoreD) 2 3 ((getP D.P D.s.round).h)).L).length) c470) (((ownV (⟨D.f, D.c, D.epoch, D.replica, ⟨D.s.round, D.s.step, D.s.round, D.s.vr, (getP D.P D.s.round).h, D.s.valid, (D.s.decided), D.s.decision⟩, D.L, D.P, true, (D.sp), (D.sc)⟩ : CoreD) 2 3 ((getP D.P D.s.round).h)).L).length) (((ownV (⟨D.f, D.c, D.epoch, D.replica, ⟨D.s.round, D.s.step, D.s.round, D.s.vr, (getP D.P D.s.round).h, D.s.valid, (D.s.decided), D.s.decision⟩, D.L, D.P, true, (D.sp), (D.sc)⟩ : CoreD) 2 3 ((getP D.P D.s.round).h)).L).flatMap encV), rowC 129 35 (.slice a471 (((ownV (⟨D.f, D.c, D.epoch, D.replica, ⟨D.s.round, D.s.step, D.s.round, D.s.vr, (getP D.P D.s.round).h, D.s.valid, (D.s.decided), D.s.decision⟩, D.L, D.P, true, (D.sp), (D.sc)⟩ : CoreD) 2 3 ((getP D.P D.s.round).h)).P).length) c472) (((ownV (⟨D.f, D.c, D.epoch, D.replica, ⟨D.s.round, D.s.step, D.s.round, D.s.vr, (getP D.P D.s.round).h, D.s.valid, (D.s.decided), D.s.decision⟩, D.L, D.P, true, (D.sp), (D.sc)⟩ : CoreD) 2 3 ((getP D.P D.s.round).h)).P).length) (((ownV (⟨D.f, D.c, D.epoch, D.replica, ⟨D.s.round, D.s.step, D.s.round, D.s.vr, (getP D.P D.s.round).h, D.s.valid, (D.s.decided), D.s.decision⟩, D.L, D.P, true, (D.sp), (D.sc)⟩ : CoreD) 2 3 ((getP D.P D.s.round).h)).P).flatMap encQ), restC w (rcC p t (.slice va D.L.length vc) (.slice ua D.P.length uc) D).fp, cellC b148 129 (([(.int .i64 (zP D.P D.s.round)), (.int .i64 ((getP D.P D.s.round).valid))] : List Value) ++ hc (getP D.P D.s.round).h ++ ([(.bool ((getP D.P D.s.round).ok))] : List Value)), rowC 102 35 (.slice a473 ((ownA (⟨D.f, D.c, D.epoch, D.replica, ⟨D.s.round, D.s.step, D.s.round, D.s.vr, (getP D.P D.s.round).h, D.s.valid, (D.s.decided), D.s.decision⟩, D.L, D.P, true, (D.sp), (D.sc)⟩ : CoreD) 3 ((getP D.P D.s.round).h)).length) c474) ((ownA (⟨D.f, D.c, D.epoch, D.replica, ⟨D.s.round, D.s.step, D.s.round, D.s.vr, (getP D.P D.s.round).h, D.s.valid, (D.s.decided), D.s.decision⟩, D.L, D.P, true, (D.sp), (D.sc)⟩ : CoreD) 3 ((getP D.P D.s.round).h)).length) ((ownA (⟨D.f, D.c, D.epoch, D.replica, ⟨D.s.round, D.s.step, D.s.round, D.s.vr, (getP D.P D.s.round).h, D.s.valid, (D.s.decided), D.s.decision⟩, D.L, D.P, true, (D.sp), (D.sc)⟩ : CoreD) 3 ((getP D.P D.s.round).h)).flatMap encA)] w480)
          refine hK479 _ _ ?_
          clear hK479 K479
          refine w_nil ?_
          refine then_normal ?_
          refine w_seq ?_
          refine w_lit ?_
          refine wv 321 (.slice a473 ((ownA (⟨D.f, D.c, D.epoch, D.replica, ⟨D.s.round, D.s.step, D.s.round, D.s.vr, (getP D.P D.s.round).h, D.s.valid, (D.s.decided), D.s.decision⟩, D.L, D.P, true, (D.sp), (D.sc)⟩ : CoreD) 3 ((getP D.P D.s.round).h)).length) c474) ?_
          refine wv 2 (.slice a473 ((ownA (⟨D.f, D.c, D.epoch, D.replica, ⟨D.s.round, D.s.step, D.s.round, D.s.vr, (getP D.P D.s.round).h, D.s.valid, (D.s.decided), D.s.decision⟩, D.L, D.P, true, (D.sp), (D.sc)⟩ : CoreD) 3 ((getP D.P D.s.round).h)).length) c474) ?_
          refine wv 3 (.bool true) ?_
          refine w_nil ?_
          refine then_normal ?_
          refine w_ret ?_
          refine then_ret ?_
          refine end2 rfl (res_tmp (v := (.slice a473 ((ownA (⟨D.f, D.c, D.epoch, D.replica, ⟨D.s.round, D.s.step, D.s.round, D.s.vr, (getP D.P D.s.round).h, D.s.valid, (D.s.decided), D.s.decision⟩, D.L, D.P, true, (D.sp), (D.sc)⟩ : CoreD) 3 ((getP D.P D.s.round).h)).length) c474)) rfl) (res_tmp (v := (.bool true)) rfl) ?_
          have hl := hLe.1 (by have := of_decide_eq_false b69; omega)
          have hg := farW_no h (hfr ▸ of_decide_eq_false b125)
          exact .inl ⟨(.slice a469 (((ownV (⟨D.f, D.c, D.epoch, D.replica, ⟨D.s.round, D.s.step, D.s.round, D.s.vr, (getP D.P D.s.round).h, D.s.valid, (D.s.decided), D.s.decision⟩, D.L, D.P, true, (D.sp), (D.sc)⟩ : CoreD) 2 3 ((getP D.P D.s.round).h)).L).length) c470), (.slice a471 (((ownV (⟨D.f, D.c, D.epoch, D.replica, ⟨D.s.round, D.s.step, D.s.round, D.s.vr, (getP D.P D.s.round).h, D.s.valid, (D.s.decided), D.s.decision⟩, D.L, D.P, true, (D.sp), (D.sc)⟩ : CoreD) 2 3 ((getP D.P D.s.round).h)).P).length) c472), _, validD (ownV (lockD (wvD D) (getP D.P D.s.round).h) 2 3 (getP D.P D.s.round).h) (getP D.P D.s.round).h, ownA D 3 (getP D.P D.s.round).h, rfl, (by rw [ruleD_b, if_neg (by omega), if_neg hg, if_neg (by rw [b165]; simp), if_pos b446, if_pos (of_decide_eq_true b451)]), (H481.pick [0, 1, 2, 3, 6, 4] (by decide)).cast (by kernel_rfl)⟩
         ·have g483 := of_decide_eq_false b451
          refine wp_know 294 (.bool false) (congrArg Value.bool b451) ?_
          have g484 := of_decide_eq_false b451
          refine wp_iff rfl ?_
          refine w_skip ?_
          refine then_normal ?_
          refine w_seq ?_
          refine w_lit ?_
          refine wv 310 (pt p 0) ?_
          refine wv 311 (pt p 0) ?_
          refine wv 312 (pt b148 2) ?_
          refine wv 313 (.agg ⟨(hc (getP D.P D.s.round).h)⟩) ?_ (hr := e_loadN (vs := (hc (getP D.P D.s.round).h)) rfl (by kernel_rfl) (by kernel_rfl) (by exact Nat.le_of_ble_eq_true (by kernel_rfl)) (H449.at 5 rfl) (by kernel_rfl))
          refine wv 314 (.int .i64 (D.s.round)) ?_
          refine wv 315 (pt p 0) ?_
          refine wv 316 (pt p 4) ?_
          refine wv 317 (pt p 40) ?_
          refine wl_do (wants0 rfl) (fun K485 hK485 => ?_)
          refine d_storeX (vs := (hc (getP D.P D.s.round).h)) (cs' := (rcW D.f D.c D.epoch D.replica D.s.round D.s.step D.s.lr D.s.vr D.s.locked ((getP D.P D.s.round).h) D.s.decided D.s.decision t (.slice ua D.P.length uc) true D.sp D.sc)) rfl H449 0 rfl rfl rfl rfl (by kernel_rfl) (Nat.le_of_ble_eq_true (by kernel_rfl)) (Nat.le_of_ble_eq_true (by kernel_rfl)) (by kernel_rfl) (by kernel_rfl) ?_
          intro w486 (H487 : Sat w [cellC p 83 (rcW D.f D.c D.epoch D.replica D.s.round D.s.step D.s.lr D.s.vr D.s.locked ((getP D.P D.s.round).h) D.s.decided D.s.decision t (.slice ua D.P.length uc) true D.sp D.sc), cellC t 101 ([(.int .i64 (D.f)), (.int .i64 (D.c)), (.slice va D.L.length vc)] : List Value), rowC 143 35 (.slice va D.L.length vc) D.L.length (D.L.flatMap encV), rowC 129 35 (.slice ua D.P.length uc) D.P.length (D.P.flatMap encQ), restC w (rcC p t (.slice va D.L.length vc) (.slice ua D.P.length uc) D).fp, cellC b148 129 (([(.int .i64 (zP D.P D.s.round)), (.int .i64 ((getP D.P D.s.round).valid))] : List Value) ++ hc (getP D.P D.s.round).h ++ ([(.bool ((getP D.P D.s.round).ok))] : List Value))] w486)
          refine hK485 _ _ ?_
          clear hK485 K485
          refine wv 318 (pt p 0) ?_
          refine wv 319 (pt p 4) ?_
          refine wv 320 (pt p 7) ?_
          refine wl_do (wants0 rfl) (fun K489 hK489 => ?_)
          refine d_storeX (vs := ([(.int .i64 (D.s.round))] : List Value)) (cs' := (rcW D.f D.c D.epoch D.replica D.s.round D.s.step D.s.lr D.s.round D.s.locked ((getP D.P D.s.round).h) D.s.decided D.s.decision t (.slice ua D.P.length uc) true D.sp D.sc)) rfl H487 0 rfl rfl rfl rfl (by kernel_rfl) (Nat.le_of_ble_eq_true (by kernel_rfl)) (Nat.le_of_ble_eq_true (by kernel_rfl)) (by kernel_rfl) (by kernel_rfl) ?_
          intro w490 (H491 : Sat w [cellC p 83 (rcW D.f D.c D.epoch D.replica D.s.round D.s.step D.s.lr D.s.round D.s.locked ((getP D.P D.s.round).h) D.s.decided D.s.decision t (.slice ua D.P.length uc) true D.sp D.sc), cellC t 101 ([(.int .i64 (D.f)), (.int .i64 (D.c)), (.slice va D.L.length vc)] : List Value), rowC 143 35 (.slice va D.L.length vc) D.L.length (D.L.flatMap encV), rowC 129 35 (.slice ua D.P.length uc) D.P.length (D.P.flatMap encQ), restC w (rcC p t (.slice va D.L.length vc) (.slice ua D.P.length uc) D).fp, cellC b148 129 (([(.int .i64 (zP D.P D.s.round)), (.int .i64 ((getP D.P D.s.round).valid))] : List Value) ++ hc (getP D.P D.s.round).h ++ ([(.bool ((getP D.P D.s.round).ok))] : List Value))] w490)
          refine hK489 _ _ ?_
          clear hK489 K489
          refine w_nil ?_
          refine then_normal ?_
          refine w_seq ?_
          refine w_lit ?_
          refine wv 321 (.slice none 0 0) ?_
          refine wv 2 (.slice none 0 0) ?_
          refine wv 3 (.bool true) ?_
          refine w_nil ?_
          refine then_normal ?_
          refine w_ret ?_
          refine then_ret ?_
          refine end2 rfl (res_tmp (v := (.slice none 0 0)) rfl) (res_tmp (v := (.bool true)) rfl) ?_
          have hl := hLe.1 (by have := of_decide_eq_false b69; omega)
          have hg := farW_no h (hfr ▸ of_decide_eq_false b125)
          have Hn := H491.addNil 102 35
          exact .inl ⟨(.slice va D.L.length vc), (.slice ua D.P.length uc), _, validD (wvD D) (getP D.P D.s.round).h, [], rfl, (by rw [ruleD_b, if_neg (by omega), if_neg hg, if_neg (by rw [b165]; simp), if_pos b446, if_neg (of_decide_eq_false b451)]), (Hn.pick [0, 1, 2, 3, 6, 4] (by decide)).cast (by kernel_rfl)⟩
        ·refine wp_know 284 (.bool false) (congrArg Value.bool b446) ?_
         refine wp_iff rfl ?_
         refine w_skip ?_
         refine then_normal ?_
         refine w_seq ?_
         refine wp_meetR [322, 323, 324, 325, 326, 327, 328, 329, 330, 331, 332, 333, 334, 335, 336, 337, 338] (fun G_ W_ => G_ 338 = (.bool (c5 D)) ∧ Sat w [cellC p 83 (rcL t (.slice ua D.P.length uc) D), cellC t 101 ([(.int .i64 (D.f)), (.int .i64 (D.c)), (.slice va D.L.length vc)] : List Value), rowC 143 35 (.slice va D.L.length vc) D.L.length (D.L.flatMap encV), rowC 129 35 (.slice ua D.P.length uc) D.P.length (D.P.flatMap encQ), restC w (rcC p t (.slice va D.L.length vc) (.slice ua D.P.length uc) D).fp, cellC b148 129 (([(.int .i64 (zP D.P D.s.round)), (.int .i64 ((getP D.P D.s.round).valid))] : List Value) ++ hc (getP D.P D.s.round).h ++ ([(.bool ((getP D.P D.s.round).ok))] : List Value))] W_) ?_ ?_
         ·refine w_lit ?_
          refine wv 322 (pt p 0) ?_
          refine wv 323 (pt p 0) ?_
          refine wv 324 (pt p 4) ?_
          refine wv 325 (pt p 5) ?_
          refine wv 326 (.int .i64 (D.s.step)) ?_ (hr := e_load1 rfl (by kernel_rfl) (H444.cell 0 rfl (by kernel_rfl)))
          refine wv 327 (.bool (decide (D.s.step = 2))) ?_
          refine wv 328 (.bool (decide (D.s.step = 2))) ?_
          refine (bsplit (decide (D.s.step = 2))).elim (fun b494 => ?_) (fun b494 => ?_)
          ·have g495 := of_decide_eq_true b494
           refine wl_know 328 (.bool true) (congrArg Value.bool b494) ?_
           have g496 := of_decide_eq_true b494
           refine wy 6 328 true 329 (pt p 0) ?_
           refine wy 6 328 true 330 (pt p 0) ?_
           refine wy 6 328 true 331 (pt p 105) ?_
           refine wy 6 328 true 332 (pt t 0) ?_ (hr := e_load1 rfl (by kernel_rfl) (H444.cell 0 rfl (by kernel_rfl)))
           refine wy 6 328 true 333 (.int .i64 (D.s.round)) ?_
           refine wy 6 328 true 334 (.agg ⟨(hc hash0)⟩) ?_
           refine wl_do (wantsY 6 328 true rfl (by kernel_rfl) rfl (by kernel_rfl)) (fun K497 hK497 => ?_)
           refine d_call (d := 335) rfl (by kernel_rfl) (refFor_any w443 t (.slice va D.L.length vc) D.f D.c D.L (ok_of (by kernel_rfl) (H444.fin [1, 2] (by decide) rfl)) (by omega) 1 D.s.round hash0) ?_
           rintro _ w498 ⟨rfl, u500⟩
           have H499 := H444.keepU u500
           refine ⟨_, rfl, ?_⟩
           refine hK497 _ _ ?_
           clear hK497 K497
           refine wy 6 328 true 336 (.int .i64 (2 * D.f + 1)) ?_
           refine wy 6 328 true 337 (.bool (decide ((forV D.L 1 D.s.round hash0) ≥ (2 * D.f + 1)))) ?_
           refine wv 338 (.bool (decide ((forV D.L 1 D.s.round hash0) ≥ (2 * D.f + 1)))) ?_
           refine w_nil ?_
           refine meetR_at ?_ ⟨(congrArg Value.bool (show (decide ((forV D.L 1 D.s.round hash0) ≥ (2 * D.f + 1))) = (c5 D) by simp [c5, b494])), H499⟩
           exact (same_upd rfl (same_upd rfl (same_upd rfl (same_upd rfl (same_upd rfl (same_upd rfl (same_upd rfl (same_upd rfl (same_upd rfl (same_upd rfl (same_upd rfl (same_upd rfl (same_upd rfl (same_upd rfl (same_upd rfl (same_upd rfl (same_upd rfl (same_upd rfl (same_refl)))))))))))))))))))
          ·have g501 := of_decide_eq_false b494
           refine wl_know 328 (.bool false) (congrArg Value.bool b494) ?_
           have g502 := of_decide_eq_false b494
           iterate 9 refine wn 6 328 true ?_
           refine wv 338 (.bool false) ?_
           refine w_nil ?_
           refine meetR_at ?_ ⟨(congrArg Value.bool (show false = (c5 D) by simp [c5, b494])), H444⟩
           exact (same_upd rfl (same_upd rfl (same_upd rfl (same_upd rfl (same_upd rfl (same_upd rfl (same_upd rfl (same_upd rfl (same_upd rfl (same_upd rfl (same_upd rfl (same_upd rfl (same_upd rfl (same_upd rfl (same_upd rfl (same_upd rfl (same_upd rfl (same_upd rfl (same_refl)))))))))))))))))))
         ·rintro f503 w504 ⟨v506, H505⟩
          refine wp_know 338 _ v506 ?_
          refine (bsplit (c5 D)).elim (fun b507 => ?_) (fun b507 => ?_)
          ·refine wp_know 338 (.bool true) (congrArg Value.bool b507) ?_
           refine wp_ift rfl ?_
           refine w_seq ?_
           refine w_lit ?_
           refine wv 339 (pt p 0) ?_
           refine wv 340 (.agg ⟨(hc hash0)⟩) ?_
           refine wl_do (wants0 rfl) (fun K508 hK508 => ?_)
           refine d_call (d := 341) rfl (by kernel_rfl) (rcPrecommit_any w504 p t (.slice va D.L.length vc) (.slice ua D.P.length uc) D (ok_of (by kernel_rfl) (H505.fin [0, 1, 2, 3] (by decide) rfl)) h hash0) ?_
           rintro _ w512 ⟨v509, u510, x511, rfl, S513⟩
           have H514 : Sat w [cellC p 83 (rcL t u510 (ownV D 2 3 hash0)), cellC t 101 ([(.int .i64 ((ownV D 2 3 hash0).f)), (.int .i64 ((ownV D 2 3 hash0).c)), v509] : List Value), rowC 143 35 v509 (((ownV D 2 3 hash0).L).length) (((ownV D 2 3 hash0).L).flatMap encV), rowC 129 35 u510 (((ownV D 2 3 hash0).P).length) (((ownV D 2 3 hash0).P).flatMap encQ), restC w (rcC p t (.slice va D.L.length vc) (.slice ua D.P.length uc) D).fp, cellC b148 129 (([(.int .i64 (zP D.P D.s.round)), (.int .i64 ((getP D.P D.s.round).valid))] : List Value) ++ hc (getP D.P D.s.round).h ++ ([(.bool ((getP D.P D.s.round).ok))] : List Value)), rowC 102 35 x511 ((ownA D 3 hash0).length) ((ownA D 3 hash0).flatMap encA)] w512 := (Sat.turnL (L' := [cellC p 83 (rcL t u510 (ownV D 2 3 hash0)), cellC t 101 ([(.int .i64 ((ownV D 2 3 hash0).f)), (.int .i64 ((ownV D 2 3 hash0).c)), v509] : List Value), rowC 143 35 v509 (((ownV D 2 3 hash0).L).length) (((ownV D 2 3 hash0).L).flatMap encV), rowC 129 35 u510 (((ownV D 2 3 hash0).P).length) (((ownV D 2 3 hash0).P).flatMap encQ), rowC 102 35 x511 ((ownA D 3 hash0).length) ((ownA D 3 hash0).flatMap encA)]) (R := [restC w (rcC p t (.slice va D.L.length vc) (.slice ua D.P.length uc) D).fp, cellC b148 129 (([(.int .i64 (zP D.P D.s.round)), (.int .i64 ((getP D.P D.s.round).valid))] : List Value) ++ hc (getP D.P D.s.round).h ++ ([(.bool ((getP D.P D.s.round).ok))] : List Value))]) H505 [0, 1, 2, 3] [4, 5] (by decide) (by kernel_rfl) rfl S513).pick [0, 1, 2, 3, 5, 6, 4] (by decide)
           obtain ⟨a515, c516, rfl⟩ := ownsRow_shape (H514.at 2 rfl)
           obtain ⟨a517, c518, rfl⟩ := ownsRow_shape (H514.at 3 rfl)
           obtain ⟨a519, c520, rfl⟩ := ownsRow_shape (H514.at 6 rfl)
           refine ⟨_, rfl, ?_⟩
           refine hK508 _ _ ?_
           clear hK508 K508
           refine wv 2 (.slice a519 ((ownA D 3 hash0).length) c520) ?_
           refine wv 3 (.bool true) ?_
           refine w_nil ?_
           refine then_normal ?_
           refine w_ret ?_
           refine then_ret ?_
           refine end2 rfl (res_tmp (v := (.slice a519 ((ownA D 3 hash0).length) c520)) rfl) (res_tmp (v := (.bool true)) rfl) ?_
           have hl := hLe.1 (by have := of_decide_eq_false b69; omega)
           have hg := farW_no h (hfr ▸ of_decide_eq_false b125)
           exact .inl ⟨(.slice a515 (((ownV D 2 3 hash0).L).length) c516), (.slice a517 (((ownV D 2 3 hash0).P).length) c518), _, ownV D 2 3 hash0, ownA D 3 hash0, rfl, (by rw [ruleD_b, if_neg (by omega), if_neg hg, if_neg (by rw [b165]; simp), if_neg (by rw [b446]; simp), if_pos b507]), (H514.pick [0, 1, 2, 3, 6, 4] (by decide)).cast (by kernel_rfl)⟩
          ·refine wp_know 338 (.bool false) (congrArg Value.bool b507) ?_
           refine wp_iff rfl ?_
           refine w_skip ?_
           refine then_normal ?_
           refine w_seq ?_
           refine wp_meetR [342, 343, 344, 345, 346, 347, 348, 349, 350, 351, 352, 353, 354, 355, 356, 357, 358, 359, 360, 361, 362, 363, 364, 365] (fun G_ W_ => G_ 365 = (.bool (c6 D)) ∧ Sat w [cellC p 83 (rcL t (.slice ua D.P.length uc) D), cellC t 101 ([(.int .i64 (D.f)), (.int .i64 (D.c)), (.slice va D.L.length vc)] : List Value), rowC 143 35 (.slice va D.L.length vc) D.L.length (D.L.flatMap encV), rowC 129 35 (.slice ua D.P.length uc) D.P.length (D.P.flatMap encQ), restC w (rcC p t (.slice va D.L.length vc) (.slice ua D.P.length uc) D).fp, cellC b148 129 (([(.int .i64 (zP D.P D.s.round)), (.int .i64 ((getP D.P D.s.round).valid))] : List Value) ++ hc (getP D.P D.s.round).h ++ ([(.bool ((getP D.P D.s.round).ok))] : List Value))] W_) ?_ ?_
           ·refine w_lit ?_
            refine wv 342 (pt p 0) ?_
            refine wv 343 (pt p 0) ?_
            refine wv 344 (pt p 4) ?_
            refine wv 345 (pt p 5) ?_
            refine wv 346 (.int .i64 (D.s.step)) ?_ (hr := e_load1 rfl (by kernel_rfl) (H505.cell 0 rfl (by kernel_rfl)))
            refine wv 347 (.bool (decide (D.s.step = 2))) ?_
            refine wv 348 (.bool (decide (D.s.step = 2))) ?_
            refine (bsplit (decide (D.s.step = 2))).elim (fun b522 => ?_) (fun b522 => ?_)
            ·have g523 := of_decide_eq_true b522
             refine wl_know 348 (.bool true) (congrArg Value.bool b522) ?_
             have g524 := of_decide_eq_true b522
             refine wy 6 348 true 349 (pt p 0) ?_
             refine wy 6 348 true 350 (pt p 0) ?_
             refine wy 6 348 true 351 (pt p 107) ?_
             refine wy 6 348 true 352 (pt p 108) ?_
             refine wy 6 348 true 353 (.bool (D.sp)) ?_ (hr := e_load1 rfl (by kernel_rfl) (H505.cell 0 rfl (by kernel_rfl)))
             refine wy 6 348 true 354 (.bool (!(D.sp))) ?_
             refine wv 355 (.bool (!(D.sp))) ?_
             refine wv 356 (.bool (!(D.sp))) ?_
             refine (bsplit (!(D.sp))).elim (fun b525 => ?_) (fun b525 => ?_)
             ·have g526 := bnot_true b525
              refine wl_know 356 (.bool true) (congrArg Value.bool b525) ?_
              have g527 := bnot_true b525
              refine wy 14 356 true 357 (pt p 0) ?_
              refine wy 14 356 true 358 (pt p 0) ?_
              refine wy 14 356 true 359 (pt p 105) ?_
              refine wy 14 356 true 360 (pt t 0) ?_ (hr := e_load1 rfl (by kernel_rfl) (H505.cell 0 rfl (by kernel_rfl)))
              refine wy 14 356 true 361 (.int .i64 (D.s.round)) ?_
              refine wl_do (wantsY 14 356 true rfl (by kernel_rfl) rfl (by kernel_rfl)) (fun K528 hK528 => ?_)
              refine d_call (d := 362) rfl (by kernel_rfl) (refAll_any w504 t (.slice va D.L.length vc) D.f D.c D.L (ok_of (by kernel_rfl) (H505.fin [1, 2] (by decide) rfl)) (by omega) 1 D.s.round) ?_
              rintro _ w529 ⟨rfl, u531⟩
              have H530 := H505.keepU u531
              refine ⟨_, rfl, ?_⟩
              refine hK528 _ _ ?_
              clear hK528 K528
              refine wy 14 356 true 363 (.int .i64 (2 * D.f + 1)) ?_
              refine wy 14 356 true 364 (.bool (decide ((allV D.L 1 D.s.round) ≥ (2 * D.f + 1)))) ?_
              refine wv 365 (.bool (decide ((allV D.L 1 D.s.round) ≥ (2 * D.f + 1)))) ?_
              refine w_nil ?_
              refine meetR_at ?_ ⟨(congrArg Value.bool (show (decide ((allV D.L 1 D.s.round) ≥ (2 * D.f + 1))) = (c6 D) by simp [c6, b522, b525])), H530⟩
              exact (same_upd rfl (same_upd rfl (same_upd rfl (same_upd rfl (same_upd rfl (same_upd rfl (same_upd rfl (same_upd rfl (same_upd rfl (same_upd rfl (same_upd rfl (same_upd rfl (same_upd rfl (same_upd rfl (same_upd rfl (same_upd rfl (same_upd rfl (same_upd rfl (same_upd rfl (same_upd rfl (same_upd rfl (same_upd rfl (same_upd rfl (same_upd rfl (same_upd rfl (same_upd rfl (same_refl)))))))))))))))))))))))))))
             ·have g532 := bnot_false b525
              refine wl_know 356 (.bool false) (congrArg Value.bool b525) ?_
              have g533 := bnot_false b525
              iterate 8 refine wn 14 356 true ?_
              refine wv 365 (.bool false) ?_
              refine w_nil ?_
              refine meetR_at ?_ ⟨(congrArg Value.bool (show false = (c6 D) by simp [c6, b522, b525])), H505⟩
              exact (same_upd rfl (same_upd rfl (same_upd rfl (same_upd rfl (same_upd rfl (same_upd rfl (same_upd rfl (same_upd rfl (same_upd rfl (same_upd rfl (same_upd rfl (same_upd rfl (same_upd rfl (same_upd rfl (same_upd rfl (same_upd rfl (same_upd rfl (same_upd rfl (same_upd rfl (same_upd rfl (same_upd rfl (same_upd rfl (same_upd rfl (same_upd rfl (same_upd rfl (same_upd rfl (same_refl)))))))))))))))))))))))))))
            ·have g534 := of_decide_eq_false b522
             refine wl_know 348 (.bool false) (congrArg Value.bool b522) ?_
             have g535 := of_decide_eq_false b522
             iterate 6 refine wn 6 348 true ?_
             refine wv 355 (.bool false) ?_
             refine wv 356 (.bool false) ?_
             iterate 8 refine wn 14 356 true ?_
             refine wv 365 (.bool false) ?_
             refine w_nil ?_
             refine meetR_at ?_ ⟨(congrArg Value.bool (show false = (c6 D) by simp [c6, b522])), H505⟩
             exact (same_upd rfl (same_upd rfl (same_upd rfl (same_upd rfl (same_upd rfl (same_upd rfl (same_upd rfl (same_upd rfl (same_upd rfl (same_upd rfl (same_upd rfl (same_upd rfl (same_upd rfl (same_upd rfl (same_upd rfl (same_upd rfl (same_upd rfl (same_upd rfl (same_upd rfl (same_upd rfl (same_upd rfl (same_upd rfl (same_upd rfl (same_upd rfl (same_upd rfl (same_refl))))))))))))))))))))))))))
           ·rintro f536 w537 ⟨v539, H538⟩
            refine wp_know 365 _ v539 ?_
            refine (bsplit (c6 D)).elim (fun b540 => ?_) (fun b540 => ?_)
            ·refine wp_know 365 (.bool true) (congrArg Value.bool b540) ?_
             refine wp_ift rfl ?_
             refine w_seq ?_
             refine w_lit ?_
             refine wv 366 (pt p 0) ?_
             refine wv 367 (pt p 0) ?_
             refine wv 368 (pt p 107) ?_
             refine wv 369 (pt p 108) ?_
             refine wl_do (wants0 rfl) (fun K541 hK541 => ?_)
             refine d_storeX (vs := ([(.bool true)] : List Value)) (cs' := (rcW D.f D.c D.epoch D.replica D.s.round D.s.step D.s.lr D.s.vr D.s.locked D.s.valid D.s.decided D.s.decision t (.slice ua D.P.length uc) D.wv true D.sc)) rfl H538 0 rfl rfl rfl rfl (by kernel_rfl) (Nat.le_of_ble_eq_true (by kernel_rfl)) (Nat.le_of_ble_eq_true (by kernel_rfl)) (by kernel_rfl) (by kernel_rfl) ?_
             intro w542 (H543 : Sat w [cellC p 83 (rcW D.f D.c D.epoch D.replica D.s.round D.s.step D.s.lr D.s.vr D.s.locked D.s.valid D.s.decided D.s.decision t (.slice ua D.P.length uc) D.wv true D.sc), cellC t 101 ([(.int .i64 (D.f)), (.int .i64 (D.c)), (.slice va D.L.length vc)] : List Value), rowC 143 35 (.slice va D.L.length vc) D.L.length (D.L.flatMap encV), rowC 129 35 (.slice ua D.P.length uc) D.P.length (D.P.flatMap encQ), restC w (rcC p t (.slice va D.L.length vc) (.slice ua D.P.length uc) D).fp, cellC b148 129 (([(.int .i64 (zP D.P D.s.round)), (.int .i64 ((getP D.P D.s.round).valid))] : List Value) ++ hc (getP D.P D.s.round).h ++ ([(.bool ((getP D.P D.s.round).ok))] : List Value))] w542)
             refine hK541 _ _ ?_
             clear hK541 K541
             refine w_nil ?_
             refine then_normal ?_
             refine w_seq ?_
             refine w_lit ?_
             refine wv 370 (.int .i64 (D.s.round)) ?_
             refine wv 371 (.agg ⟨(([(.int .i64 (4)), (.int .i64 (D.s.round)), (.int .i64 (2))] : List Value) ++ hc hash0)⟩) ?_
             refine wl_do (wants0 rfl) (fun K545 hK545 => ?_)
             refine d_buildSlice (e := 102) (size := 35) (bytes := 56) (z := (.agg ⟨(([(.int .i64 (0)), (.int .i64 (0)), (.int .i64 (0))] : List Value) ++ hc hash0)⟩)) (pvs := [(0, (.agg ⟨(([(.int .i64 (4)), (.int .i64 (D.s.round)), (.int .i64 (2))] : List Value) ++ hc hash0)⟩))]) (vs := (([(.int .i64 (4)), (.int .i64 (D.s.round)), (.int .i64 (2))] : List Value) ++ hc hash0)) rfl H543 (by kernel_rfl) (by kernel_rfl) (by kernel_rfl) (by kernel_rfl) (by kernel_rfl) rfl rfl ?_
             intro b546 w547 (H548 : Sat w [cellC p 83 (rcW D.f D.c D.epoch D.replica D.s.round D.s.step D.s.lr D.s.vr D.s.locked D.s.valid D.s.decided D.s.decision t (.slice ua D.P.length uc) D.wv true D.sc), cellC t 101 ([(.int .i64 (D.f)), (.int .i64 (D.c)), (.slice va D.L.length vc)] : List Value), rowC 143 35 (.slice va D.L.length vc) D.L.length (D.L.flatMap encV), rowC 129 35 (.slice ua D.P.length uc) D.P.length (D.P.flatMap encQ), restC w (rcC p t (.slice va D.L.length vc) (.slice ua D.P.length uc) D).fp, cellC b148 129 (([(.int .i64 (zP D.P D.s.round)), (.int .i64 ((getP D.P D.s.round).valid))] : List Value) ++ hc (getP D.P D.s.round).h ++ ([(.bool ((getP D.P D.s.round).ok))] : List Value)), rowC 102 35 (.slice (some ⟨b546, 0, none⟩) 1 1) 1 (([(.int .i64 (4)), (.int .i64 (D.s.round)), (.int .i64 (2))] : List Value) ++ hc hash0)] w547)
             refine hK545 _ _ ?_
             clear hK545 K545
             refine wv 2 (.slice (some ⟨b546, 0, none⟩) 1 1) ?_
             refine wv 3 (.bool true) ?_
             refine w_nil ?_
             refine then_normal ?_
             refine w_ret ?_
             refine then_ret ?_
             refine end2 rfl (res_tmp (v := (.slice (some ⟨b546, 0, none⟩) 1 1)) rfl) (res_tmp (v := (.bool true)) rfl) ?_
             have hl := hLe.1 (by have := of_decide_eq_false b69; omega)
             have hg := farW_no h (hfr ▸ of_decide_eq_false b125)
             exact .inl ⟨(.slice va D.L.length vc), (.slice ua D.P.length uc), _, { D with sp := true }, [⟨4, D.s.round, 2, hash0⟩], rfl, (by rw [ruleD_b, if_neg (by omega), if_neg hg, if_neg (by rw [b165]; simp), if_neg (by rw [b446]; simp), if_neg (by rw [b507]; simp), if_pos b540]), (H548.pick [0, 1, 2, 3, 6, 4] (by decide)).cast (by kernel_rfl)⟩
            ·refine wp_know 365 (.bool false) (congrArg Value.bool b540) ?_
             refine wp_iff rfl ?_
             refine w_skip ?_
             refine then_normal ?_
             refine w_seq ?_
             refine wp_meetR [373, 374, 375, 376, 377, 378, 379, 380, 381, 382, 383, 384, 385, 386, 387, 388] (fun G_ W_ => G_ 388 = (.bool (c7 D)) ∧ Sat w [cellC p 83 (rcL t (.slice ua D.P.length uc) D), cellC t 101 ([(.int .i64 (D.f)), (.int .i64 (D.c)), (.slice va D.L.length vc)] : List Value), rowC 143 35 (.slice va D.L.length vc) D.L.length (D.L.flatMap encV), rowC 129 35 (.slice ua D.P.length uc) D.P.length (D.P.flatMap encQ), restC w (rcC p t (.slice va D.L.length vc) (.slice ua D.P.length uc) D).fp, cellC b148 129 (([(.int .i64 (zP D.P D.s.round)), (.int .i64 ((getP D.P D.s.round).valid))] : List Value) ++ hc (getP D.P D.s.round).h ++ ([(.bool ((getP D.P D.s.round).ok))] : List Value))] W_) ?_ ?_
             ·refine w_lit ?_
              refine wv 373 (pt p 0) ?_
              refine wv 374 (pt p 0) ?_
              refine wv 375 (pt p 107) ?_
              refine wv 376 (pt p 109) ?_
              refine wv 377 (.bool (D.sc)) ?_ (hr := e_load1 rfl (by kernel_rfl) (H538.cell 0 rfl (by kernel_rfl)))
              refine wv 378 (.bool (!(D.sc))) ?_
              refine wv 379 (.bool (!(D.sc))) ?_
              refine (bsplit (!(D.sc))).elim (fun b550 => ?_) (fun b550 => ?_)
              ·have g551 := bnot_true b550
               refine wl_know 379 (.bool true) (congrArg Value.bool b550) ?_
               have g552 := bnot_true b550
               refine wy 6 379 true 380 (pt p 0) ?_
               refine wy 6 379 true 381 (pt p 0) ?_
               refine wy 6 379 true 382 (pt p 105) ?_
               refine wy 6 379 true 383 (pt t 0) ?_ (hr := e_load1 rfl (by kernel_rfl) (H538.cell 0 rfl (by kernel_rfl)))
               refine wy 6 379 true 384 (.int .i64 (D.s.round)) ?_
               refine wl_do (wantsY 6 379 true rfl (by kernel_rfl) rfl (by kernel_rfl)) (fun K553 hK553 => ?_)
               refine d_call (d := 385) rfl (by kernel_rfl) (refAll_any w537 t (.slice va D.L.length vc) D.f D.c D.L (ok_of (by kernel_rfl) (H538.fin [1, 2] (by decide) rfl)) (by omega) 2 D.s.round) ?_
               rintro _ w554 ⟨rfl, u556⟩
               have H555 := H538.keepU u556
               refine ⟨_, rfl, ?_⟩
               refine hK553 _ _ ?_
               clear hK553 K553
               refine wy 6 379 true 386 (.int .i64 (2 * D.f + 1)) ?_
               refine wy 6 379 true 387 (.bool (decide ((allV D.L 2 D.s.round) ≥ (2 * D.f + 1)))) ?_
               refine wv 388 (.bool (decide ((allV D.L 2 D.s.round) ≥ (2 * D.f + 1)))) ?_
               refine w_nil ?_
               refine meetR_at ?_ ⟨(congrArg Value.bool (show (decide ((allV D.L 2 D.s.round) ≥ (2 * D.f + 1))) = (c7 D) by simp [c7, b550])), H555⟩
               exact (same_upd rfl (same_upd rfl (same_upd rfl (same_upd rfl (same_upd rfl (same_upd rfl (same_upd rfl (same_upd rfl (same_upd rfl (same_upd rfl (same_upd rfl (same_upd rfl (same_upd rfl (same_upd rfl (same_upd rfl (same_upd rfl (same_upd rfl (same_refl))))))))))))))))))
              ·have g557 := bnot_false b550
               refine wl_know 379 (.bool false) (congrArg Value.bool b550) ?_
               have g558 := bnot_false b550
               iterate 8 refine wn 6 379 true ?_
               refine wv 388 (.bool false) ?_
               refine w_nil ?_
               refine meetR_at ?_ ⟨(congrArg Value.bool (show false = (c7 D) by simp [c7, b550])), H538⟩
               exact (same_upd rfl (same_upd rfl (same_upd rfl (same_upd rfl (same_upd rfl (same_upd rfl (same_upd rfl (same_upd rfl (same_upd rfl (same_upd rfl (same_upd rfl (same_upd rfl (same_upd rfl (same_upd rfl (same_upd rfl (same_upd rfl (same_upd rfl (same_refl))))))))))))))))))
             ·rintro f559 w560 ⟨v562, H561⟩
              refine wp_know 388 _ v562 ?_
              refine (bsplit (c7 D)).elim (fun b563 => ?_) (fun b563 => ?_)
              ·refine wp_know 388 (.bool true) (congrArg Value.bool b563) ?_
               refine wp_ift rfl ?_
               refine w_seq ?_
               refine w_lit ?_
               refine wv 389 (pt p 0) ?_
               refine wv 390 (pt p 0) ?_
               refine wv 391 (pt p 107) ?_
               refine wv 392 (pt p 109) ?_
               refine wl_do (wants0 rfl) (fun K564 hK564 => ?_)
               refine d_storeX (vs := ([(.bool true)] : List Value)) (cs' := (rcW D.f D.c D.epoch D.replica D.s.round D.s.step D.s.lr D.s.vr D.s.locked D.s.valid D.s.decided D.s.decision t (.slice ua D.P.length uc) D.wv D.sp true)) rfl H561 0 rfl rfl rfl rfl (by kernel_rfl) (Nat.le_of_ble_eq_true (by kernel_rfl)) (Nat.le_of_ble_eq_true (by kernel_rfl)) (by kernel_rfl) (by kernel_rfl) ?_
               intro w565 (H566 : Sat w [cellC p 83 (rcW D.f D.c D.epoch D.replica D.s.round D.s.step D.s.lr D.s.vr D.s.locked D.s.valid D.s.decided D.s.decision t (.slice ua D.P.length uc) D.wv D.sp true), cellC t 101 ([(.int .i64 (D.f)), (.int .i64 (D.c)), (.slice va D.L.length vc)] : List Value), rowC 143 35 (.slice va D.L.length vc) D.L.length (D.L.flatMap encV), rowC 129 35 (.slice ua D.P.length uc) D.P.length (D.P.flatMap encQ), restC w (rcC p t (.slice va D.L.length vc) (.slice ua D.P.length uc) D).fp, cellC b148 129 (([(.int .i64 (zP D.P D.s.round)), (.int .i64 ((getP D.P D.s.round).valid))] : List Value) ++ hc (getP D.P D.s.round).h ++ ([(.bool ((getP D.P D.s.round).ok))] : List Value))] w565)
               refine hK564 _ _ ?_
               clear hK564 K564
               refine w_nil ?_
               refine then_normal ?_
               refine w_seq ?_
               refine w_lit ?_
               refine wv 393 (.int .i64 (D.s.round)) ?_
               refine wv 394 (.agg ⟨(([(.int .i64 (4)), (.int .i64 (D.s.round)), (.int .i64 (3))] : List Value) ++ hc hash0)⟩) ?_
               refine wl_do (wants0 rfl) (fun K568 hK568 => ?_)
               refine d_buildSlice (e := 102) (size := 35) (bytes := 56) (z := (.agg ⟨(([(.int .i64 (0)), (.int .i64 (0)), (.int .i64 (0))] : List Value) ++ hc hash0)⟩)) (pvs := [(0, (.agg ⟨(([(.int .i64 (4)), (.int .i64 (D.s.round)), (.int .i64 (3))] : List Value) ++ hc hash0)⟩))]) (vs := (([(.int .i64 (4)), (.int .i64 (D.s.round)), (.int .i64 (3))] : List Value) ++ hc hash0)) rfl H566 (by kernel_rfl) (by kernel_rfl) (by kernel_rfl) (by kernel_rfl) (by kernel_rfl) rfl rfl ?_
               intro b569 w570 (H571 : Sat w [cellC p 83 (rcW D.f D.c D.epoch D.replica D.s.round D.s.step D.s.lr D.s.vr D.s.locked D.s.valid D.s.decided D.s.decision t (.slice ua D.P.length uc) D.wv D.sp true), cellC t 101 ([(.int .i64 (D.f)), (.int .i64 (D.c)), (.slice va D.L.length vc)] : List Value), rowC 143 35 (.slice va D.L.length vc) D.L.length (D.L.flatMap encV), rowC 129 35 (.slice ua D.P.length uc) D.P.length (D.P.flatMap encQ), restC w (rcC p t (.slice va D.L.length vc) (.slice ua D.P.length uc) D).fp, cellC b148 129 (([(.int .i64 (zP D.P D.s.round)), (.int .i64 ((getP D.P D.s.round).valid))] : List Value) ++ hc (getP D.P D.s.round).h ++ ([(.bool ((getP D.P D.s.round).ok))] : List Value)), rowC 102 35 (.slice (some ⟨b569, 0, none⟩) 1 1) 1 (([(.int .i64 (4)), (.int .i64 (D.s.round)), (.int .i64 (3))] : List Value) ++ hc hash0)] w570)
               refine hK568 _ _ ?_
               clear hK568 K568
               refine wv 2 (.slice (some ⟨b569, 0, none⟩) 1 1) ?_
               refine wv 3 (.bool true) ?_
               refine w_nil ?_
               refine then_normal ?_
               refine w_ret ?_
               refine then_ret ?_
               refine end2 rfl (res_tmp (v := (.slice (some ⟨b569, 0, none⟩) 1 1)) rfl) (res_tmp (v := (.bool true)) rfl) ?_
               have hl := hLe.1 (by have := of_decide_eq_false b69; omega)
               have hg := farW_no h (hfr ▸ of_decide_eq_false b125)
               exact .inl ⟨(.slice va D.L.length vc), (.slice ua D.P.length uc), _, { D with sc := true }, [⟨4, D.s.round, 3, hash0⟩], rfl, (by rw [ruleD_b, if_neg (by omega), if_neg hg, if_neg (by rw [b165]; simp), if_neg (by rw [b446]; simp), if_neg (by rw [b507]; simp), if_neg (by rw [b540]; simp), if_pos b563]), (H571.pick [0, 1, 2, 3, 6, 4] (by decide)).cast (by kernel_rfl)⟩
              ·refine wp_know 388 (.bool false) (congrArg Value.bool b563) ?_
               refine wp_iff rfl ?_
               refine w_skip ?_
               refine then_normal ?_
               refine w_seq ?_
               refine w_lit ?_
               refine wv 2 (.slice none 0 0) ?_
               refine wv 3 (.bool false) ?_
               refine w_nil ?_
               refine then_normal ?_
               refine w_ret ?_
               refine end2 rfl (res_tmp (v := (.slice none 0 0)) rfl) (res_tmp (v := (.bool false)) rfl) ?_
               have hl := hLe.1 (by have := of_decide_eq_false b69; omega)
               have hg := farW_no h (hfr ▸ of_decide_eq_false b125)
               have Hn := H561.addNil 102 35
               exact .inr ⟨(.slice va D.L.length vc), (.slice ua D.P.length uc), _, rfl, (by rw [ruleD_b, if_neg (by omega), if_neg hg, if_neg (by rw [b165]; simp), if_neg (by rw [b446]; simp), if_neg (by rw [b507]; simp), if_neg (by rw [b540]; simp), if_neg (by rw [b563]; simp)]), (Hn.pick [0, 1, 2, 3, 6, 4] (by decide)).cast (by kernel_rfl)⟩

set_option maxRecDepth 100000 in
set_option maxHeartbeats 1000000 in
theorem rcSettle_any (w : World) (p t : Nat) (v u : Value) (D : CoreD) (hT : (rcC p t v u D).ok w) (h : CI D) :
  Calls Try.prog 43 #[(.pointer (some ⟨p, 0, none⟩))] w fun e w' => ∃ v' u' z', e = .returned z' ∧ Sat w [cellC p 83 (rcL t u' ((settleD D).1)), cellC t 101 ([(.int .i64 (((settleD D).1).f)), (.int .i64 (((settleD D).1).c)), v'] : List Value), rowC 143 35 (v') ((((settleD D).1).L).length) ((((settleD D).1).L).flatMap encV), rowC 129 35 (u') ((((settleD D).1).P).length) ((((settleD D).1).P).flatMap encQ), rowC 102 35 z' ((settleD D).2).length (((settleD D).2).flatMap encA), restC w (rcC p t v u D).fp] w' := by
 obtain ⟨va, vc, rfl⟩ := ownsRow_shape (rcC_parts hT).2.2.1
 obtain ⟨ua, uc, rfl⟩ := ownsRow_shape (rcC_parts hT).2.2.2
 have H : Sat w [cellC p 83 (rcL t (.slice ua D.P.length uc) D), cellC t 101 ([(.int .i64 (D.f)), (.int .i64 (D.c)), (.slice va D.L.length vc)] : List Value), rowC 143 35 (.slice va D.L.length vc) D.L.length (D.L.flatMap encV), rowC 129 35 (.slice ua D.P.length uc) D.P.length (D.P.flatMap encQ), restC w (rcC p t (.slice va D.L.length vc) (.slice ua D.P.length uc) D).fp] w := Sat.start _ hT
 have hf := h.f
 have hep := h.ep
 have hrp := h.rp
 have hrd := h.rd
 have hst := h.st
 have hvo := h.votes
 have hpo := props_few h
 refine calls_fr Try.func43 rfl 31 rfl (Nat.le_of_ble_eq_true rfl) ?_
 refine w_seq ?_
 refine w_lit ?_
 refine wv 2 (.slice none 0 0) ?_
 refine w_nil ?_
 refine then_normal ?_
 refine w_seq ?_
 refine w_lit ?_
 refine wv 3 (.slice none 0 0) ?_
 refine w_nil ?_
 refine then_normal ?_
 refine w_seq ?_
 refine w_block ?_
 have Hn := H.addNil 102 35
 refine wp_round [3, 4, 5, 6, 7, 8, 9, 10, 11, 12, 13, 14, 15, 16, 17, 18, 19, 20, 21, 22, 23, 24, 25, 26, 27, 28, 29] (fun F_ W_ m_ => ∃ (D1 : CoreD) (A : List ActD) (a : Option Addr) (q : Nat) (v1 u1 : Value), F_ 3 = (.slice a A.length q) ∧ (CI D1) ∧ (settleD D = ((settleD D1).1, A ++ (settleD D1).2)) ∧ (A.length + muD D1 ≤ muD D) ∧ Sat w [cellC p 83 (rcL t u1 D1), cellC t 101 ([(.int .i64 (D1.f)), (.int .i64 (D1.c)), v1] : List Value), rowC 143 35 v1 D1.L.length (D1.L.flatMap encV), rowC 129 35 u1 D1.P.length (D1.P.flatMap encQ), restC w (rcC p t (.slice va D.L.length vc) (.slice ua D.P.length uc) D).fp, rowC 102 35 (.slice a A.length q) A.length (A.flatMap encA)] W_ ∧ m_ = muD D1) _ ⟨D, [], none, 0, (.slice va D.L.length vc), (.slice ua D.P.length uc), (by first | rfl | go_num), h, (by simp), (by simp), Hn, rfl⟩ ?_
 rintro g1 w2 _ ⟨D1, A, a, q, v1, u1, v4, hC, hS, hL, H3, rfl⟩
 refine wp_know 3 _ v4 ?_
 have hmu := muD_le D h
 have hf := hC.f
 have hst := hC.st
 refine w_seq ?_
 refine wp_meetR [6, 7, 8, 9, 10, 11, 12, 13, 14, 15, 16, 17, 18, 19] (fun G_ W_ => G_ 19 = (.bool (goesB D1)) ∧ Sat w [cellC p 83 (rcL t u1 D1), cellC t 101 ([(.int .i64 (D1.f)), (.int .i64 (D1.c)), v1] : List Value), rowC 143 35 v1 D1.L.length (D1.L.flatMap encV), rowC 129 35 u1 D1.P.length (D1.P.flatMap encQ), restC w (rcC p t (.slice va D.L.length vc) (.slice ua D.P.length uc) D).fp, rowC 102 35 (.slice a A.length q) A.length (A.flatMap encA)] W_) ?_ ?_
 ·refine w_lit ?_
  refine wv 6 (pt p 0) ?_
  refine wv 7 (pt p 0) ?_
  refine wv 8 (pt p 4) ?_
  refine wv 9 (pt p 5) ?_
  refine wv 10 (.int .i64 (D1.s.step)) ?_ (hr := e_load1 rfl (by kernel_rfl) (H3.cell 0 rfl (by kernel_rfl)))
  refine wv 11 (.bool (decide (D1.s.step > 0))) ?_
  refine wv 12 (.bool (decide (D1.s.step > 0))) ?_
  refine (bsplit (decide (D1.s.step > 0))).elim (fun b7 => ?_) (fun b7 => ?_)
  ·have g8 := of_decide_eq_true b7
   refine wl_know 12 (.bool true) (congrArg Value.bool b7) ?_
   refine wy 6 12 true 13 (pt p 0) ?_
   refine wy 6 12 true 14 (pt p 0) ?_
   refine wy 6 12 true 15 (pt p 4) ?_
   refine wy 6 12 true 16 (pt p 72) ?_
   refine wy 6 12 true 17 (.bool (D1.s.decided)) ?_ (hr := e_load1 rfl (by kernel_rfl) (H3.cell 0 rfl (by kernel_rfl)))
   refine wy 6 12 true 18 (.bool (!(D1.s.decided))) ?_
   refine wv 19 (.bool (!(D1.s.decided))) ?_
   refine w_nil ?_
   refine meetR_at ?_ ⟨(congrArg Value.bool (show (!(D1.s.decided)) = (goesB D1) by simp [goesB, of_decide_eq_true b7] <;> omega)), H3⟩
   exact (same_upd rfl (same_upd rfl (same_upd rfl (same_upd rfl (same_upd rfl (same_upd rfl (same_upd rfl (same_upd rfl (same_upd rfl (same_upd rfl (same_upd rfl (same_upd rfl (same_upd rfl (same_upd rfl (same_upd rfl (same_refl))))))))))))))))
  ·have g9 := of_decide_eq_false b7
   refine wl_know 12 (.bool false) (congrArg Value.bool b7) ?_
   iterate 6 refine wn 6 12 true ?_
   refine wv 19 (.bool false) ?_
   refine w_nil ?_
   refine meetR_at ?_ ⟨(congrArg Value.bool (show false = (goesB D1) by simp [goesB, of_decide_eq_false b7] <;> omega)), H3⟩
   exact (same_upd rfl (same_upd rfl (same_upd rfl (same_upd rfl (same_upd rfl (same_upd rfl (same_upd rfl (same_upd rfl (same_upd rfl (same_upd rfl (same_upd rfl (same_upd rfl (same_upd rfl (same_upd rfl (same_upd rfl (same_refl))))))))))))))))
 ·rintro f10 w11 ⟨v13, H12⟩
  refine wp_know 19 _ v13 ?_
  refine (bsplit (goesB D1)).elim (fun b14 => ?_) (fun b14 => ?_)
  ·refine wp_know 19 (.bool true) (congrArg Value.bool b14) ?_
   refine wp_ift rfl ?_
   refine w_skip ?_
   refine then_normal ?_
   refine w_block ?_
   refine w_seq ?_
   refine w_lit ?_
   refine wv 21 (pt p 0) ?_
   refine wl_do (wants0 rfl) (fun K15 hK15 => ?_)
   refine d_call (d := 22) rfl (by kernel_rfl) (rcRule_any w11 p t v1 u1 D1 (ok_of (by kernel_rfl) (H12.fin [0, 1, 2, 3] (by decide) rfl)) hC) ?_
   rintro _ w19 (⟨v16, u17, x18, E21, A22, rfl, r23, S20⟩ | ⟨v16, u17, x18, rfl, r23, S20⟩)
   ·have H24 : Sat w [cellC p 83 (rcL t u17 E21), cellC t 101 ([(.int .i64 (E21.f)), (.int .i64 (E21.c)), v16] : List Value), rowC 143 35 v16 E21.L.length (E21.L.flatMap encV), rowC 129 35 u17 E21.P.length (E21.P.flatMap encQ), restC w (rcC p t (.slice va D.L.length vc) (.slice ua D.P.length uc) D).fp, rowC 102 35 (.slice a A.length q) A.length (A.flatMap encA), rowC 102 35 x18 ((A22).length) ((A22).flatMap encA)] w19 := (Sat.turnL (L' := [cellC p 83 (rcL t u17 E21), cellC t 101 ([(.int .i64 (E21.f)), (.int .i64 (E21.c)), v16] : List Value), rowC 143 35 v16 E21.L.length (E21.L.flatMap encV), rowC 129 35 u17 E21.P.length (E21.P.flatMap encQ), rowC 102 35 x18 ((A22).length) ((A22).flatMap encA)]) (R := [restC w (rcC p t (.slice va D.L.length vc) (.slice ua D.P.length uc) D).fp, rowC 102 35 (.slice a A.length q) A.length (A.flatMap encA)]) H12 [0, 1, 2, 3] [4, 5] (by decide) (by kernel_rfl) rfl S20).pick [0, 1, 2, 3, 5, 6, 4] (by decide)
    obtain ⟨a25, c26, rfl⟩ := ownsRow_shape (H24.at 2 rfl)
    obtain ⟨a27, c28, rfl⟩ := ownsRow_shape (H24.at 3 rfl)
    obtain ⟨a29, c30, rfl⟩ := ownsRow_shape (H24.at 6 rfl)
    refine ⟨_, rfl, ?_⟩
    have hlr := (muD_rule hC b14 r23).2
    refine hK15 _ _ ?_
    clear hK15 K15
    refine wv 20 (.tuple #[(.slice a29 ((A22).length) c30), (.bool true)]) ?_
    refine wv 23 (.slice a29 ((A22).length) c30) ?_
    refine wv 24 (.bool true) ?_
    refine wv 4 (.slice a29 ((A22).length) c30) ?_
    refine wv 5 (.bool true) ?_
    refine w_nil ?_
    refine then_normal ?_
    iterate 2 refine w_seq ?_
    refine w_lit ?_
    refine wv 25 (.bool true) ?_
    refine wv 26 (.bool false) ?_
    refine w_nil ?_
    refine then_normal ?_
    refine wp_iff rfl ?_
    refine w_skip ?_
    refine then_normal ?_
    refine w_lit ?_
    refine wv 27 (.slice a A.length q) ?_
    refine wv 28 (.slice a29 ((A22).length) c30) ?_
    refine wl_do (wants0 rfl) (fun K31 hK31 => ?_)
    refine d_append (T := 73) (e := 102) (size := 35) (bytes := 56) rfl H24 (by kernel_rfl) 5 6 rfl rfl rfl rfl (flat_one encA encA_one (A22)) (by omega) (by omega) ?_
    intro v32 w33 (H34 : Sat w [cellC p 83 (rcL t (.slice a27 E21.P.length c28) E21), cellC t 101 ([(.int .i64 (E21.f)), (.int .i64 (E21.c)), (.slice a25 E21.L.length c26)] : List Value), rowC 143 35 (.slice a25 E21.L.length c26) E21.L.length (E21.L.flatMap encV), rowC 129 35 (.slice a27 E21.P.length c28) E21.P.length (E21.P.flatMap encQ), restC w (rcC p t (.slice va D.L.length vc) (.slice ua D.P.length uc) D).fp, rowC 102 35 v32 (A.length + (A22).length) ((A.flatMap encA) ++ ((A22).flatMap encA)), rowC 102 35 (.slice a29 ((A22).length) c30) ((A22).length) ((A22).flatMap encA)] w33)
    obtain ⟨a35, c36, rfl⟩ := ownsRow_shape (H34.at 5 rfl)
    refine hK31 _ _ ?_
    clear hK31 K31
    refine wv 3 (.slice a35 (A.length + (A22).length) c36) ?_
    refine w_nil ?_
    refine blk_normal ?_
    have hg := b14
    have hst := settle_step hC hg r23
    have hlt := muD_rule hC hg r23
    have H37 : Sat w [cellC p 83 (rcL t (.slice a27 E21.P.length c28) E21), cellC t 101 ([(.int .i64 (E21.f)), (.int .i64 (E21.c)), (.slice a25 E21.L.length c26)] : List Value), rowC 143 35 (.slice a25 E21.L.length c26) E21.L.length (E21.L.flatMap encV), rowC 129 35 (.slice a27 E21.P.length c28) E21.P.length (E21.P.flatMap encQ), restC w (rcC p t (.slice va D.L.length vc) (.slice ua D.P.length uc) D).fp, rowC 102 35 (.slice a35 (A ++ A22).length c36) ((A ++ A22).length) ((A ++ A22).flatMap encA)] w33 := (H34.pick [0, 1, 2, 3, 4, 5] (by decide)).cast (by rw [← rows_app]; rfl)
    refine round_back ?_ _ ⟨E21, (A ++ A22), a35, c36, (.slice a25 E21.L.length c26), (.slice a27 E21.P.length c28), (show ((.slice a35 (A.length + (A22).length) c36) : Value) = _ by rw [List.length_append]), hC.rule r23, (by rw [hS, hst]; simp), (by simp only [List.length_append]; omega), H37, rfl⟩ (by omega)
    exact (same_upd rfl (same_upd rfl (same_upd rfl (same_upd rfl (same_upd rfl (same_upd rfl (same_upd rfl (same_upd rfl (same_upd rfl (same_upd rfl (same_upd rfl (same_upd rfl (same_upd rfl (same_upd rfl (same_upd rfl (same_ovr2 rfl (same_upd rfl (same_ovr))))))))))))))))))
   ·have H38 : Sat w [cellC p 83 (rcL t u17 D1), cellC t 101 ([(.int .i64 (D1.f)), (.int .i64 (D1.c)), v16] : List Value), rowC 143 35 v16 D1.L.length (D1.L.flatMap encV), rowC 129 35 u17 D1.P.length (D1.P.flatMap encQ), restC w (rcC p t (.slice va D.L.length vc) (.slice ua D.P.length uc) D).fp, rowC 102 35 (.slice a A.length q) A.length (A.flatMap encA), rowC 102 35 x18 0 ([])] w19 := (Sat.turnL (L' := [cellC p 83 (rcL t u17 D1), cellC t 101 ([(.int .i64 (D1.f)), (.int .i64 (D1.c)), v16] : List Value), rowC 143 35 v16 D1.L.length (D1.L.flatMap encV), rowC 129 35 u17 D1.P.length (D1.P.flatMap encQ), rowC 102 35 x18 0 ([])]) (R := [restC w (rcC p t (.slice va D.L.length vc) (.slice ua D.P.length uc) D).fp, rowC 102 35 (.slice a A.length q) A.length (A.flatMap encA)]) H12 [0, 1, 2, 3] [4, 5] (by decide) (by kernel_rfl) rfl S20).pick [0, 1, 2, 3, 5, 6, 4] (by decide)
    obtain ⟨a39, c40, rfl⟩ := ownsRow_shape (H38.at 2 rfl)
    obtain ⟨a41, c42, rfl⟩ := ownsRow_shape (H38.at 3 rfl)
    obtain ⟨a43, c44, rfl⟩ := ownsRow_shape (H38.at 6 rfl)
    refine ⟨_, rfl, ?_⟩
    refine hK15 _ _ ?_
    clear hK15 K15
    refine wv 20 (.tuple #[(.slice a43 0 c44), (.bool false)]) ?_
    refine wv 23 (.slice a43 0 c44) ?_
    refine wv 24 (.bool false) ?_
    refine wv 4 (.slice a43 0 c44) ?_
    refine wv 5 (.bool false) ?_
    refine w_nil ?_
    refine then_normal ?_
    iterate 2 refine w_seq ?_
    refine w_lit ?_
    refine wv 25 (.bool false) ?_
    refine wv 26 (.bool true) ?_
    refine w_nil ?_
    refine then_normal ?_
    refine wp_ift rfl ?_
    refine w_exit ?_
    refine then_exit ?_
    refine blk_miss rfl ?_
    refine back_exit ?_
    refine blk_hit ?_
    refine then_normal ?_
    refine w_seq ?_
    refine w_lit ?_
    refine wv 30 (.slice a A.length q) ?_
    refine wv 2 (.slice a A.length q) ?_
    refine w_nil ?_
    refine then_normal ?_
    refine w_ret ?_
    refine end1 rfl (res_tmp (v := (.slice a A.length q)) rfl) ?_
    have hE : settleD D = (D1, A) := by rw [hS, settle_none r23]; simp
    rw [hE]
    exact ⟨(.slice a39 D1.L.length c40), (.slice a41 D1.P.length c42), _, rfl, (H38.pick [0, 1, 2, 3, 5, 4] (by decide)).cast (by kernel_rfl)⟩
  ·refine wp_know 19 (.bool false) (congrArg Value.bool b14) ?_
   refine wp_iff rfl ?_
   refine w_exit ?_
   refine then_exit ?_
   refine back_exit ?_
   refine blk_hit ?_
   refine then_normal ?_
   refine w_seq ?_
   refine w_lit ?_
   refine wv 30 (.slice a A.length q) ?_
   refine wv 2 (.slice a A.length q) ?_
   refine w_nil ?_
   refine then_normal ?_
   refine w_ret ?_
   refine end1 rfl (res_tmp (v := (.slice a A.length q)) rfl) ?_
   have hE : settleD D = (D1, A) := by rw [hS, settle_stop b14]; simp
   rw [hE]
   exact ⟨v1, u1, _, rfl, (H12.pick [0, 1, 2, 3, 5, 4] (by decide)).cast (by kernel_rfl)⟩

end Go.Proofs.Ythjmbhneifjeeaa
