/- WHAT IS PROVED: what comes goes alike to both cores. Conditions: stated with each. -/
import Derived.Test.YthjmbhneifjeeaaShort
import Derived.Test.YthjmbhneifjeeaaRcPlay
import Derived.Test.YthjmbhneifjeeaaRc3
import Derived.Test.YthjmbhneifjeeaaCore4
import Derived.Test.YthjmbhneifjeeaaCoreRun
import Derived.Test.YthjmbhneifjeeaaInputs14
namespace Go.Proofs.Ythjmbhneifjeeaa
open Go.RowKit

set_option maxRecDepth 100000 in
set_option maxHeartbeats 400000 in
theorem acts_any (w : World) (va vb : Value) (A B : List ActD) (h1 : (rowC 45 35 va A.length (A.flatMap encA)).ok w) (h2 : (rowC 102 35 vb B.length (B.flatMap encA)).ok w) (hAB : B = A) (hl : A.length ≤ 100000000) :
  Calls Try.prog 27 #[va, vb] w fun e w' => e = .returned (.bool true) ∧ Upd [] w w' := by
 have hBA := hAB.symm
 subst hBA
 obtain ⟨a1, c1, rfl⟩ := ownsRow_shape h1
 obtain ⟨a2, c2, rfl⟩ := ownsRow_shape h2
 have H := Sat.start0 w
 refine calls_fr Try.func27 rfl 26 rfl (Nat.le_of_ble_eq_true rfl) ?_
 refine w_seq ?_
 refine w_lit ?_
 refine wv 4 (.bool false) ?_
 refine w_nil ?_
 refine then_normal ?_
 iterate 2 refine w_seq ?_
 refine w_lit ?_
 refine wv 6 (.slice a1 A.length c1) ?_
 refine wv 7 (.int .i64 ((A.length : Int))) ?_
 refine wv 8 (.slice a2 A.length c2) ?_
 refine wv 9 (.int .i64 ((A.length : Int))) ?_
 refine wv 10 (.bool (!(decide ((A.length : Int) = (A.length : Int))))) ?_
 refine w_nil ?_
 refine then_normal ?_
 have b1 : (!(decide ((A.length : Int) = (A.length : Int)))) = false := by simp
 refine wp_know 10 (.bool false) (congrArg Value.bool b1) ?_
 refine wp_iff rfl ?_
 refine w_skip ?_
 refine then_normal ?_
 iterate 2 refine w_seq ?_
 refine w_lit ?_
 refine wv 11 (.slice a1 A.length c1) ?_
 refine wv 12 (.int .i64 ((A.length : Int))) ?_
 refine wv 13 (.int .i64 (0)) ?_
 refine w_nil ?_
 refine then_normal ?_
 refine w_block ?_
 refine wp_round [4, 5, 13, 14, 15, 16, 17, 18, 19, 20, 21, 22, 23, 24, 25] (fun F_ W_ m_ => ∃ (i : Nat), F_ 13 = (.int .i64 ((i : Int))) ∧ (i ≤ A.length) ∧ Sat w [restC w (fun _ => False)] W_ ∧ m_ = A.length - i) _ ⟨0, (show ((.int .i64 (0)) : Value) = _ by first | rfl | go_num), (Nat.zero_le _), H, rfl⟩ ?_
 rintro g2 w3 _ ⟨i, v5, hi, H4, rfl⟩
 refine wp_know 13 _ v5 ?_
 refine w_seq ?_
 refine w_lit ?_
 refine wv 14 (.bool (decide ((i : Int) < (A.length : Int)))) ?_
 refine w_nil ?_
 refine then_normal ?_
 refine w_seq ?_
 refine (bsplit (decide ((i : Int) < (A.length : Int)))).elim (fun b7 => ?_) (fun b7 => ?_)
 ·have g8 := of_decide_eq_true b7
  refine wp_know 14 (.bool true) (congrArg Value.bool b7) ?_
  refine wp_ift rfl ?_
  refine w_skip ?_
  refine then_normal ?_
  refine w_seq ?_
  refine w_block ?_
  refine w_seq ?_
  refine w_lit ?_
  refine wv 15 (.int .i64 ((i : Int))) ?_
  refine wv 5 (.int .i64 ((i : Int))) ?_
  refine w_nil ?_
  refine then_normal ?_
  refine w_seq ?_
  refine q_start H4 (by kernel_rfl) (by kernel_rfl) ?_
  refine qv 16 (.slice a1 A.length c1) ?_
  refine qv 17 (.int .i64 ((i : Int))) ?_
  obtain ⟨g9, c10, e11⟩ := row_shape h1 (by omega)
  obtain ⟨x12, h13⟩ := get_at (show i < A.length by omega)
  refine qv 18 (.pointer (some ⟨g9, 0 + ((i : Int)).toNat * 35, none⟩)) ?_ (hr := fun _ H' => (e_indexAddrV (E := 45) (by kernel_rfl) (by kernel_rfl) (Nat.le_of_ble_eq_true rfl) rfl e11 rfl (by omega) (by omega)))
  refine qv 19 (.agg ⟨(([(.int .i64 (x12.kind)), (.int .i64 (x12.round)), (.int .i64 (x12.valid))] : List Value) ++ hc x12.h)⟩) ?_ (hr := fun _ H' => (e_loadRun (vs := (([(.int .i64 (x12.kind)), (.int .i64 (x12.round)), (.int .i64 (x12.valid))] : List Value) ++ hc x12.h)) rfl (by kernel_rfl) (by kernel_rfl) (Nat.le_of_ble_eq_true (by kernel_rfl)) (rows_run (H'.roCk 0 rfl h1 (fun _ _ h => h)) e11 encA_len h13 0 (show 0 + ((i : Int)).toNat * 35 = i * 35 + 0 by omega) (by kernel_rfl) (by kernel_rfl))))
  refine qv 20 (.slice a2 A.length c2) ?_
  refine qv 21 (.int .i64 ((i : Int))) ?_
  obtain ⟨g14, c15, e16⟩ := row_shape h2 (by omega)
  obtain ⟨x17, h18⟩ := get_at (show i < A.length by omega)
  refine qv 22 (.pointer (some ⟨g14, 0 + ((i : Int)).toNat * 35, none⟩)) ?_ (hr := fun _ H' => (e_indexAddrV (E := 102) (by kernel_rfl) (by kernel_rfl) (Nat.le_of_ble_eq_true rfl) rfl e16 rfl (by omega) (by omega)))
  refine qv 23 (.agg ⟨(([(.int .i64 (x17.kind)), (.int .i64 (x17.round)), (.int .i64 (x17.valid))] : List Value) ++ hc x17.h)⟩) ?_ (hr := fun _ H' => (e_loadRun (vs := (([(.int .i64 (x17.kind)), (.int .i64 (x17.round)), (.int .i64 (x17.valid))] : List Value) ++ hc x17.h)) rfl (by kernel_rfl) (by kernel_rfl) (Nat.le_of_ble_eq_true (by kernel_rfl)) (rows_run (H'.roCk 0 rfl h2 (fun _ _ h => h)) e16 encA_len h18 0 (show 0 + ((i : Int)).toNat * 35 = i * 35 + 0 by omega) (by kernel_rfl) (by kernel_rfl))))
  refine qv 24 (.bool (!(decide (x12 = x17)))) ?_ (hr := fun _ H' => (ractF.e_ne x12 x17 rfl rfl))
  refine q_end ?_
  intro w19 H20
  refine then_normal ?_
  have b21 : (!(decide (x12 = x17))) = false := by (have q : x12 = x17 := Option.some.inj (h13.symm.trans h18); simp [q])
  refine wp_know 24 (.bool false) (congrArg Value.bool b21) ?_
  refine wp_iff rfl ?_
  refine w_skip ?_
  refine blk_normal ?_
  refine then_normal ?_
  refine w_lit ?_
  refine wv 25 (.int .i64 ((i : Int) + 1)) ?_ (hr := e_int (z := (i : Int) + 1) (by kernel_rfl) (IntWalk.i64_in _ (by omega)))
  refine wv 13 (.int .i64 ((i : Int) + 1)) ?_
  refine w_nil ?_
  refine round_back ?_ _ ⟨(i + 1), (show ((.int .i64 ((i : Int) + 1)) : Value) = _ by first | rfl | go_num), (by omega), H20, rfl⟩ (by omega)
  iterate 17 refine same_upd rfl ?_
  exact same_ovr
 ·have g22 := of_decide_eq_false b7
  refine wp_know 14 (.bool false) (congrArg Value.bool b7) ?_
  refine wp_iff rfl ?_
  refine w_exit ?_
  refine then_exit ?_
  refine back_exit ?_
  refine blk_hit ?_
  refine then_normal ?_
  refine w_seq ?_
  refine w_lit ?_
  refine wv 4 (.bool true) ?_
  refine w_nil ?_
  refine then_normal ?_
  refine w_ret ?_
  refine end1 rfl (res_tmp (v := (.bool true)) rfl) ?_
  exact ⟨rfl, H4.upd 0 rfl [] (fun _ h => h.elim)⟩

set_option maxRecDepth 100000 in
set_option maxHeartbeats 2000000 in
theorem give_any (w : World) (k t hb cb ab lb pb p rt : Nat) (v u : Value) (D R : CoreD) (hT : (sepC [coreC k t hb cb ab lb pb D, rcC p rt v u R]).ok w) (hRel : RelC D R) (x : InputD) :
  Calls Try.prog 29 #[(.pointer (some ⟨k, 0, none⟩)), (.pointer (some ⟨p, 0, none⟩)), (.agg ⟨(([(.int .i64 (x.doo)), (.int .i64 (x.kind)), (.int .i64 (x.round)), (.int .i64 (x.valid)), (.int .i64 (x.replica))] : List Value) ++ hc x.h ++ ([(.bool (x.ok)), (.bool (x.raw))] : List Value))⟩)] w fun e w' => e = .returned (.bool true) ∧ ∃ v' u' D' R', RelC D' R' ∧ Sat w [coreC k t hb cb ab lb pb (D'), rcC p rt (v') (u') (R'), restC w (sepC [coreC k t hb cb ab lb pb D, rcC p rt v u R]).fp] w' := by
 have hRc : (rcC p rt v u R).ok w := hT.1 _ (List.mem_cons_of_mem _ (List.mem_cons_self ..))
 obtain ⟨va, vc, rfl⟩ := ownsRow_shape (rcC_parts hRc).2.2.1
 obtain ⟨ua, uc, rfl⟩ := ownsRow_shape (rcC_parts hRc).2.2.2
 have H : Sat w [coreC k t hb cb ab lb pb D, rcC p rt (.slice va R.L.length vc) (.slice ua R.P.length uc) R, restC w (sepC [coreC k t hb cb ab lb pb D, rcC p rt (.slice va R.L.length vc) (.slice ua R.P.length uc) R]).fp] w := Sat.start [coreC k t hb cb ab lb pb D, rcC p rt (.slice va R.L.length vc) (.slice ua R.P.length uc) R] hT
 have Ha : Sat w [cellC k 92 (coreL t pb D), talC t hb cb ab lb D.f D.c D.L, mapC pb (Value.int .i64) propV D.P, rcC p rt (.slice va R.L.length vc) (.slice ua R.P.length uc) R, restC w (sepC [coreC k t hb cb ab lb pb D, rcC p rt (.slice va R.L.length vc) (.slice ua R.P.length uc) R]).fp] w := H.open 0 rfl
 have Hb : Sat w [cellC k 92 (coreL t pb D), talC t hb cb ab lb D.f D.c D.L, mapC pb (Value.int .i64) propV D.P, cellC p 83 (rcL rt (.slice ua R.P.length uc) R), cellC rt 101 ([(.int .i64 (R.f)), (.int .i64 (R.c)), (.slice va R.L.length vc)] : List Value), rowC 143 35 (.slice va R.L.length vc) R.L.length (R.L.flatMap encV), rowC 129 35 (.slice ua R.P.length uc) R.P.length (R.P.flatMap encQ), restC w (sepC [coreC k t hb cb ab lb pb D, rcC p rt (.slice va R.L.length vc) (.slice ua R.P.length uc) R]).fp] w := Ha.open 3 rfl
 have H := Hb
 have hwd := within_lim x.doo 8 (by omega)
 refine calls_fr Try.func29 rfl 88 rfl (Nat.le_of_ble_eq_true rfl) ?_
 refine w_seq ?_
 refine w_lit ?_
 refine wl_do (wants0 rfl) (fun K1 hK1 => ?_)
 refine d_box (vs := (([(.int .i64 (x.doo)), (.int .i64 (x.kind)), (.int .i64 (x.round)), (.int .i64 (x.valid)), (.int .i64 (x.replica))] : List Value) ++ hc x.h ++ ([(.bool (x.ok)), (.bool (x.raw))] : List Value))) rfl Hb rfl rfl ?_
 intro b2 w3 (H4 : Sat w [cellC k 92 (coreL t pb D), talC t hb cb ab lb D.f D.c D.L, mapC pb (Value.int .i64) propV D.P, cellC p 83 (rcL rt (.slice ua R.P.length uc) R), cellC rt 101 ([(.int .i64 (R.f)), (.int .i64 (R.c)), (.slice va R.L.length vc)] : List Value), rowC 143 35 (.slice va R.L.length vc) R.L.length (R.L.flatMap encV), rowC 129 35 (.slice ua R.P.length uc) R.P.length (R.P.flatMap encQ), restC w (sepC [coreC k t hb cb ab lb pb D, rcC p rt (.slice va R.L.length vc) (.slice ua R.P.length uc) R]).fp, cellC b2 57 (([(.int .i64 (x.doo)), (.int .i64 (x.kind)), (.int .i64 (x.round)), (.int .i64 (x.valid)), (.int .i64 (x.replica))] : List Value) ++ hc x.h ++ ([(.bool (x.ok)), (.bool (x.raw))] : List Value))] w3)
 refine hK1 _ _ ?_
 clear hK1 K1
 refine wv 6 (.bool false) ?_
 refine w_nil ?_
 refine then_normal ?_
 refine w_seq ?_
 refine w_lit ?_
 refine wv 7 (.bool false) ?_
 refine w_nil ?_
 refine then_normal ?_
 iterate 2 refine w_seq ?_
 refine w_lit ?_
 refine wv 9 (pt b2 0) ?_
 refine wv 10 (.int .i64 (x.doo)) ?_ (hr := e_load1 rfl (by kernel_rfl) (H4.cell 8 rfl (by kernel_rfl)))
 refine wl_do (wants0 rfl) (fun K5 hK5 => ?_)
 refine d_call (d := 11) rfl (by kernel_rfl) (within_any w3 x.doo 8 (by omega)) ?_
 rintro _ w6 ⟨rfl, u8⟩
 have H7 := H4.keepU u8
 refine ⟨_, rfl, ?_⟩
 refine hK5 _ _ ?_
 clear hK5 K5
 refine w_nil ?_
 refine then_normal ?_
 refine w_block ?_
 iterate 2 refine w_seq ?_
 refine w_lit ?_
 refine wv 34 (.bool (decide ((withinV x.doo 8) = 0))) ?_
 refine wv 33 (.bool (decide ((withinV x.doo 8) = 0))) ?_
 refine w_nil ?_
 refine then_normal ?_
 refine (bsplit (decide ((withinV x.doo 8) = 0))).elim (fun b9 => ?_) (fun b9 => ?_)
 ·have g10 := of_decide_eq_true b9
  refine wp_know 33 (.bool true) (congrArg Value.bool b9) ?_
  have g11 := of_decide_eq_true b9
  refine wp_ift rfl ?_
  refine w_skip ?_
  refine then_normal ?_
  refine wp_ift rfl ?_
  refine h_start H7 [restC w (sepC [coreC k t hb cb ab lb pb D, rcC p rt (.slice va R.L.length vc) (.slice ua R.P.length uc) R]).fp, cellC b2 57 (([(.int .i64 (x.doo)), (.int .i64 (x.kind)), (.int .i64 (x.round)), (.int .i64 (x.valid)), (.int .i64 (x.replica))] : List Value) ++ hc x.h ++ ([(.bool (x.ok)), (.bool (x.raw))] : List Value))] 22 rfl (by kernel_rfl) (fun Hx => (Hx.pick [7, 8] (by decide))) ?_
  intro w12 H13 S14
  refine hv0 0 S14 36 (pt k 0) ?_
  refine hv0 1 S14 37 (pt b2 2) ?_
  refine hv0 2 S14 38 (.int .i64 (x.round)) ?_ (he := fun _ H' => (e_load1 rfl (by kernel_rfl) (H'.cell 1 rfl (by kernel_rfl))))
  refine hv0 3 S14 39 (pt b2 3) ?_
  refine hv0 4 S14 40 (.int .i64 (x.valid)) ?_ (he := fun _ H' => (e_load1 rfl (by kernel_rfl) (H'.cell 1 rfl (by kernel_rfl))))
  refine hv0 5 S14 41 (pt b2 5) ?_
  refine hv0 6 S14 42 (.agg ⟨(hc x.h)⟩) ?_ (he := fun _ H' => (e_loadN (vs := (hc x.h)) rfl (by kernel_rfl) (by kernel_rfl) (by exact Nat.le_of_ble_eq_true (by kernel_rfl)) (H'.at 1 rfl) (by kernel_rfl)))
  refine hv0 7 S14 43 (pt b2 37) ?_
  refine hv0 8 S14 44 (.bool (x.ok)) ?_ (he := fun _ H' => (e_load1 rfl (by kernel_rfl) (H'.cell 1 rfl (by kernel_rfl))))
  refine hv0 10 S14 46 (pt p 0) ?_
  refine hv0 11 S14 47 (pt b2 2) ?_
  refine hv0 12 S14 48 (.int .i64 (x.round)) ?_ (he := fun _ H' => (e_load1 rfl (by kernel_rfl) (H'.cell 1 rfl (by kernel_rfl))))
  refine hv0 13 S14 49 (pt b2 3) ?_
  refine hv0 14 S14 50 (.int .i64 (x.valid)) ?_ (he := fun _ H' => (e_load1 rfl (by kernel_rfl) (H'.cell 1 rfl (by kernel_rfl))))
  refine hv0 15 S14 51 (pt b2 5) ?_
  refine hv0 16 S14 52 (.agg ⟨(hc x.h)⟩) ?_ (he := fun _ H' => (e_loadN (vs := (hc x.h)) rfl (by kernel_rfl) (by kernel_rfl) (by exact Nat.le_of_ble_eq_true (by kernel_rfl)) (H'.at 1 rfl) (by kernel_rfl)))
  refine hv0 17 S14 53 (pt b2 37) ?_
  refine hv0 18 S14 54 (.bool (x.ok)) ?_ (he := fun _ H' => (e_load1 rfl (by kernel_rfl) (H'.cell 1 rfl (by kernel_rfl))))
  refine h_do 9 rfl (by kernel_rfl) (wants0 rfl) (fun K15 hK15 => ?_)
  refine d_call (d := 45) rfl (by kernel_rfl) (corePropose_any w12 k t hb cb ab lb pb D (ok_of (by kernel_rfl) (H13.fin [0, 1, 2] (by decide) rfl)) hRel.ci x.round x.valid x.h (x.ok)) ?_
  rintro _ w17 ⟨v16, rfl, S18⟩
  replace S18 := Sat.cast (G' := [cellC k 92 (coreL t pb ((proposeD D x.round x.valid x.h (x.ok)).1)), talC t hb cb ab lb ((proposeD D x.round x.valid x.h (x.ok)).1).f ((proposeD D x.round x.valid x.h (x.ok)).1).c ((proposeD D x.round x.valid x.h (x.ok)).1).L, mapC pb (Value.int .i64) propV ((proposeD D x.round x.valid x.h (x.ok)).1).P, rowC 45 35 v16 (((proposeD D x.round x.valid x.h (x.ok)).2).length) (((proposeD D x.round x.valid x.h (x.ok)).2).flatMap encA), restC w12 (coreC k t hb cb ab lb pb D).fp]) S18 (by kernel_rfl)
  have H20 : Sat w [cellC k 92 (coreL t pb ((proposeD D x.round x.valid x.h (x.ok)).1)), talC t hb cb ab lb ((proposeD D x.round x.valid x.h (x.ok)).1).f ((proposeD D x.round x.valid x.h (x.ok)).1).c ((proposeD D x.round x.valid x.h (x.ok)).1).L, mapC pb (Value.int .i64) propV ((proposeD D x.round x.valid x.h (x.ok)).1).P, cellC p 83 (rcL rt (.slice ua R.P.length uc) R), cellC rt 101 ([(.int .i64 (R.f)), (.int .i64 (R.c)), (.slice va R.L.length vc)] : List Value), rowC 143 35 (.slice va R.L.length vc) R.L.length (R.L.flatMap encV), rowC 129 35 (.slice ua R.P.length uc) R.P.length (R.P.flatMap encQ), restC w (sepC [coreC k t hb cb ab lb pb D, rcC p rt (.slice va R.L.length vc) (.slice ua R.P.length uc) R]).fp, cellC b2 57 (([(.int .i64 (x.doo)), (.int .i64 (x.kind)), (.int .i64 (x.round)), (.int .i64 (x.valid)), (.int .i64 (x.replica))] : List Value) ++ hc x.h ++ ([(.bool (x.ok)), (.bool (x.raw))] : List Value)), rowC 45 35 v16 (((proposeD D x.round x.valid x.h (x.ok)).2).length) (((proposeD D x.round x.valid x.h (x.ok)).2).flatMap encA)] w17 := (Sat.turnL (L' := [cellC k 92 (coreL t pb ((proposeD D x.round x.valid x.h (x.ok)).1)), talC t hb cb ab lb ((proposeD D x.round x.valid x.h (x.ok)).1).f ((proposeD D x.round x.valid x.h (x.ok)).1).c ((proposeD D x.round x.valid x.h (x.ok)).1).L, mapC pb (Value.int .i64) propV ((proposeD D x.round x.valid x.h (x.ok)).1).P, rowC 45 35 v16 (((proposeD D x.round x.valid x.h (x.ok)).2).length) (((proposeD D x.round x.valid x.h (x.ok)).2).flatMap encA)]) (R := [cellC p 83 (rcL rt (.slice ua R.P.length uc) R), cellC rt 101 ([(.int .i64 (R.f)), (.int .i64 (R.c)), (.slice va R.L.length vc)] : List Value), rowC 143 35 (.slice va R.L.length vc) R.L.length (R.L.flatMap encV), rowC 129 35 (.slice ua R.P.length uc) R.P.length (R.P.flatMap encQ), restC w (sepC [coreC k t hb cb ab lb pb D, rcC p rt (.slice va R.L.length vc) (.slice ua R.P.length uc) R]).fp, cellC b2 57 (([(.int .i64 (x.doo)), (.int .i64 (x.kind)), (.int .i64 (x.round)), (.int .i64 (x.valid)), (.int .i64 (x.replica))] : List Value) ++ hc x.h ++ ([(.bool (x.ok)), (.bool (x.raw))] : List Value))]) H13 [0, 1, 2] [3, 4, 5, 6, 7, 8] (by decide) (by kernel_rfl) rfl S18).pick [0, 1, 2, 4, 5, 6, 7, 8, 9, 3] (by decide)
  obtain ⟨a21, c22, rfl⟩ := ownsRow_shape (H20.at 9 rfl)
  refine ⟨_, rfl, ?_⟩
  have S23 := H20.pick [7, 8] (by decide)
  refine hK15 _ _ S23 ?_
  clear hK15 K15
  refine h_do 19 rfl (by kernel_rfl) (wants0 rfl) (fun K24 hK24 => ?_)
  refine d_call (d := 55) rfl (by kernel_rfl) (rcPropose_any w17 p rt (.slice va R.L.length vc) (.slice ua R.P.length uc) R (ok_of (by kernel_rfl) (H20.fin [3, 4, 5, 6] (by decide) rfl)) hRel.cr x.round x.valid x.h (x.ok)) ?_
  rintro _ w28 ⟨v25, u26, x27, rfl, S29⟩
  have H30 : Sat w [cellC k 92 (coreL t pb ((proposeD D x.round x.valid x.h (x.ok)).1)), talC t hb cb ab lb ((proposeD D x.round x.valid x.h (x.ok)).1).f ((proposeD D x.round x.valid x.h (x.ok)).1).c ((proposeD D x.round x.valid x.h (x.ok)).1).L, mapC pb (Value.int .i64) propV ((proposeD D x.round x.valid x.h (x.ok)).1).P, cellC p 83 (rcL rt u26 ((refPropD R x.round x.valid x.h (x.ok)).1)), cellC rt 101 ([(.int .i64 (((refPropD R x.round x.valid x.h (x.ok)).1).f)), (.int .i64 (((refPropD R x.round x.valid x.h (x.ok)).1).c)), v25] : List Value), rowC 143 35 v25 ((((refPropD R x.round x.valid x.h (x.ok)).1).L).length) ((((refPropD R x.round x.valid x.h (x.ok)).1).L).flatMap encV), rowC 129 35 u26 ((((refPropD R x.round x.valid x.h (x.ok)).1).P).length) ((((refPropD R x.round x.valid x.h (x.ok)).1).P).flatMap encQ), restC w (sepC [coreC k t hb cb ab lb pb D, rcC p rt (.slice va R.L.length vc) (.slice ua R.P.length uc) R]).fp, cellC b2 57 (([(.int .i64 (x.doo)), (.int .i64 (x.kind)), (.int .i64 (x.round)), (.int .i64 (x.valid)), (.int .i64 (x.replica))] : List Value) ++ hc x.h ++ ([(.bool (x.ok)), (.bool (x.raw))] : List Value)), rowC 45 35 (.slice a21 (((proposeD D x.round x.valid x.h (x.ok)).2).length) c22) (((proposeD D x.round x.valid x.h (x.ok)).2).length) (((proposeD D x.round x.valid x.h (x.ok)).2).flatMap encA), rowC 102 35 x27 (((refPropD R x.round x.valid x.h (x.ok)).2).length) (((refPropD R x.round x.valid x.h (x.ok)).2).flatMap encA)] w28 := (Sat.turnL (L' := [cellC p 83 (rcL rt u26 ((refPropD R x.round x.valid x.h (x.ok)).1)), cellC rt 101 ([(.int .i64 (((refPropD R x.round x.valid x.h (x.ok)).1).f)), (.int .i64 (((refPropD R x.round x.valid x.h (x.ok)).1).c)), v25] : List Value), rowC 143 35 v25 ((((refPropD R x.round x.valid x.h (x.ok)).1).L).length) ((((refPropD R x.round x.valid x.h (x.ok)).1).L).flatMap encV), rowC 129 35 u26 ((((refPropD R x.round x.valid x.h (x.ok)).1).P).length) ((((refPropD R x.round x.valid x.h (x.ok)).1).P).flatMap encQ), rowC 102 35 x27 (((refPropD R x.round x.valid x.h (x.ok)).2).length) (((refPropD R x.round x.valid x.h (x.ok)).2).flatMap encA)]) (R := [cellC k 92 (coreL t pb ((proposeD D x.round x.valid x.h (x.ok)).1)), talC t hb cb ab lb ((proposeD D x.round x.valid x.h (x.ok)).1).f ((proposeD D x.round x.valid x.h (x.ok)).1).c ((proposeD D x.round x.valid x.h (x.ok)).1).L, mapC pb (Value.int .i64) propV ((proposeD D x.round x.valid x.h (x.ok)).1).P, restC w (sepC [coreC k t hb cb ab lb pb D, rcC p rt (.slice va R.L.length vc) (.slice ua R.P.length uc) R]).fp, cellC b2 57 (([(.int .i64 (x.doo)), (.int .i64 (x.kind)), (.int .i64 (x.round)), (.int .i64 (x.valid)), (.int .i64 (x.replica))] : List Value) ++ hc x.h ++ ([(.bool (x.ok)), (.bool (x.raw))] : List Value)), rowC 45 35 (.slice a21 (((proposeD D x.round x.valid x.h (x.ok)).2).length) c22) (((proposeD D x.round x.valid x.h (x.ok)).2).length) (((proposeD D x.round x.valid x.h (x.ok)).2).flatMap encA)]) H20 [3, 4, 5, 6] [0, 1, 2, 7, 8, 9] (by decide) (by kernel_rfl) rfl S29).pick [5, 6, 7, 0, 1, 2, 3, 8, 9, 10, 4] (by decide)
  obtain ⟨a31, c32, rfl⟩ := ownsRow_shape (H30.at 5 rfl)
  obtain ⟨a33, c34, rfl⟩ := ownsRow_shape (H30.at 6 rfl)
  obtain ⟨a35, c36, rfl⟩ := ownsRow_shape (H30.at 10 rfl)
  refine ⟨_, rfl, ?_⟩
  have S37 := H30.pick [7, 8] (by decide)
  refine hK24 _ _ S37 ?_
  clear hK24 K24
  refine h_do 20 rfl (by kernel_rfl) (wants0 rfl) (fun K38 hK38 => ?_)
  refine d_call (d := 56) rfl (by kernel_rfl) (acts_any w28 (.slice a21 (((proposeD D x.round x.valid x.h (x.ok)).2).length) c22) (.slice a35 (((refPropD R x.round x.valid x.h (x.ok)).2).length) c36) _ _ (H30.at 9 rfl) (H30.at 10 rfl) (hRel.prop _ _ _ _).1 (Nat.le_trans (propose_le hRel.ci _ _ _ _) (by decide))) ?_
  rintro _ w39 ⟨rfl, u41⟩
  have H40 := H30.keepU u41
  refine ⟨_, rfl, ?_⟩
  have S42 := H40.pick [7, 8] (by decide)
  refine hK38 _ _ S42 ?_
  clear hK38 K38
  refine hv0 21 S42 7 (.bool true) ?_
  refine h_fin (by kernel_rfl) ?_
  refine blk_normal ?_
  refine then_normal ?_
  refine w_seq ?_
  refine q_start H40 (by kernel_rfl) (by kernel_rfl) ?_
  refine qv 78 (.bool true) ?_
  refine qv 79 (.bool true) ?_
  refine qy 1 79 true 80 (pt k 0) ?_
  refine q_call (wantsY 1 79 true rfl (by kernel_rfl) rfl (by kernel_rfl)) (d := 81) (v := (.agg ⟨(([(.int .i64 (((proposeD D x.round x.valid x.h (x.ok)).1).s.round)), (.int .i64 (((proposeD D x.round x.valid x.h (x.ok)).1).s.step)), (.int .i64 (((proposeD D x.round x.valid x.h (x.ok)).1).s.lr)), (.int .i64 (((proposeD D x.round x.valid x.h (x.ok)).1).s.vr))] : List Value) ++ hc ((proposeD D x.round x.valid x.h (x.ok)).1).s.locked ++ hc ((proposeD D x.round x.valid x.h (x.ok)).1).s.valid ++ ([(.bool (((proposeD D x.round x.valid x.h (x.ok)).1).s.decided))] : List Value) ++ hc ((proposeD D x.round x.valid x.h (x.ok)).1).s.decision)⟩)) rfl (fun _ _ => by kernel_rfl) (fun w' H' => (coreState_any w' k t hb cb ab lb pb ((proposeD D x.round x.valid x.h (x.ok)).1) (ok_of (by kernel_rfl) (H'.fin [0, 1, 2] (by decide) rfl)) ((hRel.prop _ _ _ _).2.ci)).mono fun _ _ h => ⟨h.1, H'.keepU h.2⟩) ?_
  refine qy 1 79 true 82 (pt p 0) ?_
  refine qy 1 79 true 83 (pt p 0) ?_
  refine qy 1 79 true 84 (pt p 4) ?_
  refine qy 1 79 true 85 (.agg ⟨(([(.int .i64 (((refPropD R x.round x.valid x.h (x.ok)).1).s.round)), (.int .i64 (((refPropD R x.round x.valid x.h (x.ok)).1).s.step)), (.int .i64 (((refPropD R x.round x.valid x.h (x.ok)).1).s.lr)), (.int .i64 (((refPropD R x.round x.valid x.h (x.ok)).1).s.vr))] : List Value) ++ hc ((refPropD R x.round x.valid x.h (x.ok)).1).s.locked ++ hc ((refPropD R x.round x.valid x.h (x.ok)).1).s.valid ++ ([(.bool (((refPropD R x.round x.valid x.h (x.ok)).1).s.decided))] : List Value) ++ hc ((refPropD R x.round x.valid x.h (x.ok)).1).s.decision)⟩) ?_ (hr := fun _ H' => (e_loadN (vs := (([(.int .i64 (((refPropD R x.round x.valid x.h (x.ok)).1).s.round)), (.int .i64 (((refPropD R x.round x.valid x.h (x.ok)).1).s.step)), (.int .i64 (((refPropD R x.round x.valid x.h (x.ok)).1).s.lr)), (.int .i64 (((refPropD R x.round x.valid x.h (x.ok)).1).s.vr))] : List Value) ++ hc ((refPropD R x.round x.valid x.h (x.ok)).1).s.locked ++ hc ((refPropD R x.round x.valid x.h (x.ok)).1).s.valid ++ ([(.bool (((refPropD R x.round x.valid x.h (x.ok)).1).s.decided))] : List Value) ++ hc ((refPropD R x.round x.valid x.h (x.ok)).1).s.decision)) rfl (by kernel_rfl) (by kernel_rfl) (by exact Nat.le_of_ble_eq_true (by kernel_rfl)) (H'.at 3 rfl) (by kernel_rfl)))
  refine qy 1 79 true 86 (.bool (decide ((((proposeD D x.round x.valid x.h (x.ok)).1).s) = (((refPropD R x.round x.valid x.h (x.ok)).1).s)))) ?_ (hr := fun _ H' => (rstateF.e_eq (((proposeD D x.round x.valid x.h (x.ok)).1).s) (((refPropD R x.round x.valid x.h (x.ok)).1).s) rfl rfl))
  refine qv 87 (.bool (decide ((((proposeD D x.round x.valid x.h (x.ok)).1).s) = (((refPropD R x.round x.valid x.h (x.ok)).1).s)))) ?_
  refine qv 6 (.bool (decide ((((proposeD D x.round x.valid x.h (x.ok)).1).s) = (((refPropD R x.round x.valid x.h (x.ok)).1).s)))) ?_
  refine q_end ?_
  intro w43 H44
  refine then_normal ?_
  refine w_ret ?_
  refine end1 rfl (res_tmp (v := (.bool (decide ((((proposeD D x.round x.valid x.h (x.ok)).1).s) = (((refPropD R x.round x.valid x.h (x.ok)).1).s))))) rfl) ?_
  have H45 : Sat w [rcC p rt (.slice a31 ((((refPropD R x.round x.valid x.h (x.ok)).1).L).length) c32) (.slice a33 ((((refPropD R x.round x.valid x.h (x.ok)).1).P).length) c34) ((refPropD R x.round x.valid x.h (x.ok)).1), cellC k 92 (coreL t pb ((proposeD D x.round x.valid x.h (x.ok)).1)), talC t hb cb ab lb ((proposeD D x.round x.valid x.h (x.ok)).1).f ((proposeD D x.round x.valid x.h (x.ok)).1).c ((proposeD D x.round x.valid x.h (x.ok)).1).L, mapC pb (Value.int .i64) propV ((proposeD D x.round x.valid x.h (x.ok)).1).P, restC w (sepC [coreC k t hb cb ab lb pb D, rcC p rt (.slice va R.L.length vc) (.slice ua R.P.length uc) R]).fp] w43 := Sat.closeL (L := [cellC p 83 (rcL rt (.slice a33 ((((refPropD R x.round x.valid x.h (x.ok)).1).P).length) c34) ((refPropD R x.round x.valid x.h (x.ok)).1)), cellC rt 101 ([(.int .i64 (((refPropD R x.round x.valid x.h (x.ok)).1).f)), (.int .i64 (((refPropD R x.round x.valid x.h (x.ok)).1).c)), (.slice a31 ((((refPropD R x.round x.valid x.h (x.ok)).1).L).length) c32)] : List Value), rowC 143 35 (.slice a31 ((((refPropD R x.round x.valid x.h (x.ok)).1).L).length) c32) ((((refPropD R x.round x.valid x.h (x.ok)).1).L).length) ((((refPropD R x.round x.valid x.h (x.ok)).1).L).flatMap encV), rowC 129 35 (.slice a33 ((((refPropD R x.round x.valid x.h (x.ok)).1).P).length) c34) ((((refPropD R x.round x.valid x.h (x.ok)).1).P).length) ((((refPropD R x.round x.valid x.h (x.ok)).1).P).flatMap encQ)]) (R := [cellC k 92 (coreL t pb ((proposeD D x.round x.valid x.h (x.ok)).1)), talC t hb cb ab lb ((proposeD D x.round x.valid x.h (x.ok)).1).f ((proposeD D x.round x.valid x.h (x.ok)).1).c ((proposeD D x.round x.valid x.h (x.ok)).1).L, mapC pb (Value.int .i64) propV ((proposeD D x.round x.valid x.h (x.ok)).1).P, restC w (sepC [coreC k t hb cb ab lb pb D, rcC p rt (.slice va R.L.length vc) (.slice ua R.P.length uc) R]).fp]) (H44.pick [3, 4, 5, 6, 0, 1, 2, 7] (by decide))
  have H46 : Sat w [coreC k t hb cb ab lb pb ((proposeD D x.round x.valid x.h (x.ok)).1), rcC p rt (.slice a31 ((((refPropD R x.round x.valid x.h (x.ok)).1).L).length) c32) (.slice a33 ((((refPropD R x.round x.valid x.h (x.ok)).1).P).length) c34) ((refPropD R x.round x.valid x.h (x.ok)).1), restC w (sepC [coreC k t hb cb ab lb pb D, rcC p rt (.slice va R.L.length vc) (.slice ua R.P.length uc) R]).fp] w43 := Sat.closeL (L := [cellC k 92 (coreL t pb ((proposeD D x.round x.valid x.h (x.ok)).1)), talC t hb cb ab lb ((proposeD D x.round x.valid x.h (x.ok)).1).f ((proposeD D x.round x.valid x.h (x.ok)).1).c ((proposeD D x.round x.valid x.h (x.ok)).1).L, mapC pb (Value.int .i64) propV ((proposeD D x.round x.valid x.h (x.ok)).1).P]) (R := [rcC p rt (.slice a31 ((((refPropD R x.round x.valid x.h (x.ok)).1).L).length) c32) (.slice a33 ((((refPropD R x.round x.valid x.h (x.ok)).1).P).length) c34) ((refPropD R x.round x.valid x.h (x.ok)).1), restC w (sepC [coreC k t hb cb ab lb pb D, rcC p rt (.slice va R.L.length vc) (.slice ua R.P.length uc) R]).fp]) (H45.pick [1, 2, 3, 0, 4] (by decide))
  exact ⟨by simp [(hRel.prop _ _ _ _).2.s], _, _, _, _, (hRel.prop _ _ _ _).2, H46⟩
 ·have g47 := of_decide_eq_false b9
  refine wp_know 33 (.bool false) (congrArg Value.bool b9) ?_
  have g48 := of_decide_eq_false b9
  refine wp_iff rfl ?_
  refine w_lit ?_
  refine wv 35 (.bool (decide ((withinV x.doo 8) = 1))) ?_
  refine wv 33 (.bool (decide ((withinV x.doo 8) = 1))) ?_
  refine w_nil ?_
  refine then_normal ?_
  refine (bsplit (decide ((withinV x.doo 8) = 1))).elim (fun b49 => ?_) (fun b49 => ?_)
  ·have g50 := of_decide_eq_true b49
   refine wp_know 33 (.bool true) (congrArg Value.bool b49) ?_
   have g51 := of_decide_eq_true b49
   refine wp_ift rfl ?_
   refine h_start H7 [restC w (sepC [coreC k t hb cb ab lb pb D, rcC p rt (.slice va R.L.length vc) (.slice ua R.P.length uc) R]).fp, cellC b2 57 (([(.int .i64 (x.doo)), (.int .i64 (x.kind)), (.int .i64 (x.round)), (.int .i64 (x.valid)), (.int .i64 (x.replica))] : List Value) ++ hc x.h ++ ([(.bool (x.ok)), (.bool (x.raw))] : List Value))] 22 rfl (by kernel_rfl) (fun Hx => (Hx.pick [7, 8] (by decide))) ?_
   intro w52 H53 S54
   refine hv0 0 S54 36 (pt k 0) ?_
   refine hv0 1 S54 37 (pt b2 2) ?_
   refine hv0 2 S54 38 (.int .i64 (x.round)) ?_ (he := fun _ H' => (e_load1 rfl (by kernel_rfl) (H'.cell 1 rfl (by kernel_rfl))))
   refine hv0 3 S54 39 (pt b2 3) ?_
   refine hv0 4 S54 40 (.int .i64 (x.valid)) ?_ (he := fun _ H' => (e_load1 rfl (by kernel_rfl) (H'.cell 1 rfl (by kernel_rfl))))
   refine hv0 5 S54 41 (pt b2 5) ?_
   refine hv0 6 S54 42 (.agg ⟨(hc x.h)⟩) ?_ (he := fun _ H' => (e_loadN (vs := (hc x.h)) rfl (by kernel_rfl) (by kernel_rfl) (by exact Nat.le_of_ble_eq_true (by kernel_rfl)) (H'.at 1 rfl) (by kernel_rfl)))
   refine hv0 7 S54 43 (pt b2 37) ?_
   refine hv0 8 S54 44 (.bool (x.ok)) ?_ (he := fun _ H' => (e_load1 rfl (by kernel_rfl) (H'.cell 1 rfl (by kernel_rfl))))
   refine hv0 10 S54 46 (pt p 0) ?_
   refine hv0 11 S54 47 (pt b2 2) ?_
   refine hv0 12 S54 48 (.int .i64 (x.round)) ?_ (he := fun _ H' => (e_load1 rfl (by kernel_rfl) (H'.cell 1 rfl (by kernel_rfl))))
   refine hv0 13 S54 49 (pt b2 3) ?_
   refine hv0 14 S54 50 (.int .i64 (x.valid)) ?_ (he := fun _ H' => (e_load1 rfl (by kernel_rfl) (H'.cell 1 rfl (by kernel_rfl))))
   refine hv0 15 S54 51 (pt b2 5) ?_
   refine hv0 16 S54 52 (.agg ⟨(hc x.h)⟩) ?_ (he := fun _ H' => (e_loadN (vs := (hc x.h)) rfl (by kernel_rfl) (by kernel_rfl) (by exact Nat.le_of_ble_eq_true (by kernel_rfl)) (H'.at 1 rfl) (by kernel_rfl)))
   refine hv0 17 S54 53 (pt b2 37) ?_
   refine hv0 18 S54 54 (.bool (x.ok)) ?_ (he := fun _ H' => (e_load1 rfl (by kernel_rfl) (H'.cell 1 rfl (by kernel_rfl))))
   refine h_do 9 rfl (by kernel_rfl) (wants0 rfl) (fun K55 hK55 => ?_)
   refine d_call (d := 45) rfl (by kernel_rfl) (corePropose_any w52 k t hb cb ab lb pb D (ok_of (by kernel_rfl) (H53.fin [0, 1, 2] (by decide) rfl)) hRel.ci x.round x.valid x.h (x.ok)) ?_
   rintro _ w57 ⟨v56, rfl, S58⟩
   replace S58 := Sat.cast (G' := [cellC k 92 (coreL t pb ((proposeD D x.round x.valid x.h (x.ok)).1)), talC t hb cb ab lb ((proposeD D x.round x.valid x.h (x.ok)).1).f ((proposeD D x.round x.valid x.h (x.ok)).1).c ((proposeD D x.round x.valid x.h (x.ok)).1).L, mapC pb (Value.int .i64) propV ((proposeD D x.round x.valid x.h (x.ok)).1).P, rowC 45 35 v56 (((proposeD D x.round x.valid x.h (x.ok)).2).length) (((proposeD D x.round x.valid x.h (x.ok)).2).flatMap encA), restC w52 (coreC k t hb cb ab lb pb D).fp]) S58 (by kernel_rfl)
   have H60 : Sat w [cellC k 92 (coreL t pb ((proposeD D x.round x.valid x.h (x.ok)).1)), talC t hb cb ab lb ((proposeD D x.round x.valid x.h (x.ok)).1).f ((proposeD D x.round x.valid x.h (x.ok)).1).c ((proposeD D x.round x.valid x.h (x.ok)).1).L, mapC pb (Value.int .i64) propV ((proposeD D x.round x.valid x.h (x.ok)).1).P, cellC p 83 (rcL rt (.slice ua R.P.length uc) R), cellC rt 101 ([(.int .i64 (R.f)), (.int .i64 (R.c)), (.slice va R.L.length vc)] : List Value), rowC 143 35 (.slice va R.L.length vc) R.L.length (R.L.flatMap encV), rowC 129 35 (.slice ua R.P.length uc) R.P.length (R.P.flatMap encQ), restC w (sepC [coreC k t hb cb ab lb pb D, rcC p rt (.slice va R.L.length vc) (.slice ua R.P.length uc) R]).fp, cellC b2 57 (([(.int .i64 (x.doo)), (.int .i64 (x.kind)), (.int .i64 (x.round)), (.int .i64 (x.valid)), (.int .i64 (x.replica))] : List Value) ++ hc x.h ++ ([(.bool (x.ok)), (.bool (x.raw))] : List Value)), rowC 45 35 v56 (((proposeD D x.round x.valid x.h (x.ok)).2).length) (((proposeD D x.round x.valid x.h (x.ok)).2).flatMap encA)] w57 := (Sat.turnL (L' := [cellC k 92 (coreL t pb ((proposeD D x.round x.valid x.h (x.ok)).1)), talC t hb cb ab lb ((proposeD D x.round x.valid x.h (x.ok)).1).f ((proposeD D x.round x.valid x.h (x.ok)).1).c ((proposeD D x.round x.valid x.h (x.ok)).1).L, mapC pb (Value.int .i64) propV ((proposeD D x.round x.valid x.h (x.ok)).1).P, rowC 45 35 v56 (((proposeD D x.round x.valid x.h (x.ok)).2).length) (((proposeD D x.round x.valid x.h (x.ok)).2).flatMap encA)]) (R := [cellC p 83 (rcL rt (.slice ua R.P.length uc) R), cellC rt 101 ([(.int .i64 (R.f)), (.int .i64 (R.c)), (.slice va R.L.length vc)] : List Value), rowC 143 35 (.slice va R.L.length vc) R.L.length (R.L.flatMap encV), rowC 129 35 (.slice ua R.P.length uc) R.P.length (R.P.flatMap encQ), restC w (sepC [coreC k t hb cb ab lb pb D, rcC p rt (.slice va R.L.length vc) (.slice ua R.P.length uc) R]).fp, cellC b2 57 (([(.int .i64 (x.doo)), (.int .i64 (x.kind)), (.int .i64 (x.round)), (.int .i64 (x.valid)), (.int .i64 (x.replica))] : List Value) ++ hc x.h ++ ([(.bool (x.ok)), (.bool (x.raw))] : List Value))]) H53 [0, 1, 2] [3, 4, 5, 6, 7, 8] (by decide) (by kernel_rfl) rfl S58).pick [0, 1, 2, 4, 5, 6, 7, 8, 9, 3] (by decide)
   obtain ⟨a61, c62, rfl⟩ := ownsRow_shape (H60.at 9 rfl)
   refine ⟨_, rfl, ?_⟩
   have S63 := H60.pick [7, 8] (by decide)
   refine hK55 _ _ S63 ?_
   clear hK55 K55
   refine h_do 19 rfl (by kernel_rfl) (wants0 rfl) (fun K64 hK64 => ?_)
   refine d_call (d := 55) rfl (by kernel_rfl) (rcPropose_any w57 p rt (.slice va R.L.length vc) (.slice ua R.P.length uc) R (ok_of (by kernel_rfl) (H60.fin [3, 4, 5, 6] (by decide) rfl)) hRel.cr x.round x.valid x.h (x.ok)) ?_
   rintro _ w68 ⟨v65, u66, x67, rfl, S69⟩
   have H70 : Sat w [cellC k 92 (coreL t pb ((proposeD D x.round x.valid x.h (x.ok)).1)), talC t hb cb ab lb ((proposeD D x.round x.valid x.h (x.ok)).1).f ((proposeD D x.round x.valid x.h (x.ok)).1).c ((proposeD D x.round x.valid x.h (x.ok)).1).L, mapC pb (Value.int .i64) propV ((proposeD D x.round x.valid x.h (x.ok)).1).P, cellC p 83 (rcL rt u66 ((refPropD R x.round x.valid x.h (x.ok)).1)), cellC rt 101 ([(.int .i64 (((refPropD R x.round x.valid x.h (x.ok)).1).f)), (.int .i64 (((refPropD R x.round x.valid x.h (x.ok)).1).c)), v65] : List Value), rowC 143 35 v65 ((((refPropD R x.round x.valid x.h (x.ok)).1).L).length) ((((refPropD R x.round x.valid x.h (x.ok)).1).L).flatMap encV), rowC 129 35 u66 ((((refPropD R x.round x.valid x.h (x.ok)).1).P).length) ((((refPropD R x.round x.valid x.h (x.ok)).1).P).flatMap encQ), restC w (sepC [coreC k t hb cb ab lb pb D, rcC p rt (.slice va R.L.length vc) (.slice ua R.P.length uc) R]).fp, cellC b2 57 (([(.int .i64 (x.doo)), (.int .i64 (x.kind)), (.int .i64 (x.round)), (.int .i64 (x.valid)), (.int .i64 (x.replica))] : List Value) ++ hc x.h ++ ([(.bool (x.ok)), (.bool (x.raw))] : List Value)), rowC 45 35 (.slice a61 (((proposeD D x.round x.valid x.h (x.ok)).2).length) c62) (((proposeD D x.round x.valid x.h (x.ok)).2).length) (((proposeD D x.round x.valid x.h (x.ok)).2).flatMap encA), rowC 102 35 x67 (((refPropD R x.round x.valid x.h (x.ok)).2).length) (((refPropD R x.round x.valid x.h (x.ok)).2).flatMap encA)] w68 := (Sat.turnL (L' := [cellC p 83 (rcL rt u66 ((refPropD R x.round x.valid x.h (x.ok)).1)), cellC rt 101 ([(.int .i64 (((refPropD R x.round x.valid x.h (x.ok)).1).f)), (.int .i64 (((refPropD R x.round x.valid x.h (x.ok)).1).c)), v65] : List Value), rowC 143 35 v65 ((((refPropD R x.round x.valid x.h (x.ok)).1).L).length) ((((refPropD R x.round x.valid x.h (x.ok)).1).L).flatMap encV), rowC 129 35 u66 ((((refPropD R x.round x.valid x.h (x.ok)).1).P).length) ((((refPropD R x.round x.valid x.h (x.ok)).1).P).flatMap encQ), rowC 102 35 x67 (((refPropD R x.round x.valid x.h (x.ok)).2).length) (((refPropD R x.round x.valid x.h (x.ok)).2).flatMap encA)]) (R := [cellC k 92 (coreL t pb ((proposeD D x.round x.valid x.h (x.ok)).1)), talC t hb cb ab lb ((proposeD D x.round x.valid x.h (x.ok)).1).f ((proposeD D x.round x.valid x.h (x.ok)).1).c ((proposeD D x.round x.valid x.h (x.ok)).1).L, mapC pb (Value.int .i64) propV ((proposeD D x.round x.valid x.h (x.ok)).1).P, restC w (sepC [coreC k t hb cb ab lb pb D, rcC p rt (.slice va R.L.length vc) (.slice ua R.P.length uc) R]).fp, cellC b2 57 (([(.int .i64 (x.doo)), (.int .i64 (x.kind)), (.int .i64 (x.round)), (.int .i64 (x.valid)), (.int .i64 (x.replica))] : List Value) ++ hc x.h ++ ([(.bool (x.ok)), (.bool (x.raw))] : List Value)), rowC 45 35 (.slice a61 (((proposeD D x.round x.valid x.h (x.ok)).2).length) c62) (((proposeD D x.round x.valid x.h (x.ok)).2).length) (((proposeD D x.round x.valid x.h (x.ok)).2).flatMap encA)]) H60 [3, 4, 5, 6] [0, 1, 2, 7, 8, 9] (by decide) (by kernel_rfl) rfl S69).pick [5, 6, 7, 0, 1, 2, 3, 8, 9, 10, 4] (by decide)
   obtain ⟨a71, c72, rfl⟩ := ownsRow_shape (H70.at 5 rfl)
   obtain ⟨a73, c74, rfl⟩ := ownsRow_shape (H70.at 6 rfl)
   obtain ⟨a75, c76, rfl⟩ := ownsRow_shape (H70.at 10 rfl)
   refine ⟨_, rfl, ?_⟩
   have S77 := H70.pick [7, 8] (by decide)
   refine hK64 _ _ S77 ?_
   clear hK64 K64
   refine h_do 20 rfl (by kernel_rfl) (wants0 rfl) (fun K78 hK78 => ?_)
   refine d_call (d := 56) rfl (by kernel_rfl) (acts_any w68 (.slice a61 (((proposeD D x.round x.valid x.h (x.ok)).2).length) c62) (.slice a75 (((refPropD R x.round x.valid x.h (x.ok)).2).length) c76) _ _ (H70.at 9 rfl) (H70.at 10 rfl) (hRel.prop _ _ _ _).1 (Nat.le_trans (propose_le hRel.ci _ _ _ _) (by decide))) ?_
   rintro _ w79 ⟨rfl, u81⟩
   have H80 := H70.keepU u81
   refine ⟨_, rfl, ?_⟩
   have S82 := H80.pick [7, 8] (by decide)
   refine hK78 _ _ S82 ?_
   clear hK78 K78
   refine hv0 21 S82 7 (.bool true) ?_
   refine h_fin (by kernel_rfl) ?_
   refine blk_normal ?_
   refine then_normal ?_
   refine w_seq ?_
   refine q_start H80 (by kernel_rfl) (by kernel_rfl) ?_
   refine qv 78 (.bool true) ?_
   refine qv 79 (.bool true) ?_
   refine qy 1 79 true 80 (pt k 0) ?_
   refine q_call (wantsY 1 79 true rfl (by kernel_rfl) rfl (by kernel_rfl)) (d := 81) (v := (.agg ⟨(([(.int .i64 (((proposeD D x.round x.valid x.h (x.ok)).1).s.round)), (.int .i64 (((proposeD D x.round x.valid x.h (x.ok)).1).s.step)), (.int .i64 (((proposeD D x.round x.valid x.h (x.ok)).1).s.lr)), (.int .i64 (((proposeD D x.round x.valid x.h (x.ok)).1).s.vr))] : List Value) ++ hc ((proposeD D x.round x.valid x.h (x.ok)).1).s.locked ++ hc ((proposeD D x.round x.valid x.h (x.ok)).1).s.valid ++ ([(.bool (((proposeD D x.round x.valid x.h (x.ok)).1).s.decided))] : List Value) ++ hc ((proposeD D x.round x.valid x.h (x.ok)).1).s.decision)⟩)) rfl (fun _ _ => by kernel_rfl) (fun w' H' => (coreState_any w' k t hb cb ab lb pb ((proposeD D x.round x.valid x.h (x.ok)).1) (ok_of (by kernel_rfl) (H'.fin [0, 1, 2] (by decide) rfl)) ((hRel.prop _ _ _ _).2.ci)).mono fun _ _ h => ⟨h.1, H'.keepU h.2⟩) ?_
   refine qy 1 79 true 82 (pt p 0) ?_
   refine qy 1 79 true 83 (pt p 0) ?_
   refine qy 1 79 true 84 (pt p 4) ?_
   refine qy 1 79 true 85 (.agg ⟨(([(.int .i64 (((refPropD R x.round x.valid x.h (x.ok)).1).s.round)), (.int .i64 (((refPropD R x.round x.valid x.h (x.ok)).1).s.step)), (.int .i64 (((refPropD R x.round x.valid x.h (x.ok)).1).s.lr)), (.int .i64 (((refPropD R x.round x.valid x.h (x.ok)).1).s.vr))] : List Value) ++ hc ((refPropD R x.round x.valid x.h (x.ok)).1).s.locked ++ hc ((refPropD R x.round x.valid x.h (x.ok)).1).s.valid ++ ([(.bool (((refPropD R x.round x.valid x.h (x.ok)).1).s.decided))] : List Value) ++ hc ((refPropD R x.round x.valid x.h (x.ok)).1).s.decision)⟩) ?_ (hr := fun _ H' => (e_loadN (vs := (([(.int .i64 (((refPropD R x.round x.valid x.h (x.ok)).1).s.round)), (.int .i64 (((refPropD R x.round x.valid x.h (x.ok)).1).s.step)), (.int .i64 (((refPropD R x.round x.valid x.h (x.ok)).1).s.lr)), (.int .i64 (((refPropD R x.round x.valid x.h (x.ok)).1).s.vr))] : List Value) ++ hc ((refPropD R x.round x.valid x.h (x.ok)).1).s.locked ++ hc ((refPropD R x.round x.valid x.h (x.ok)).1).s.valid ++ ([(.bool (((refPropD R x.round x.valid x.h (x.ok)).1).s.decided))] : List Value) ++ hc ((refPropD R x.round x.valid x.h (x.ok)).1).s.decision)) rfl (by kernel_rfl) (by kernel_rfl) (by exact Nat.le_of_ble_eq_true (by kernel_rfl)) (H'.at 3 rfl) (by kernel_rfl)))
   refine qy 1 79 true 86 (.bool (decide ((((proposeD D x.round x.valid x.h (x.ok)).1).s) = (((refPropD R x.round x.valid x.h (x.ok)).1).s)))) ?_ (hr := fun _ H' => (rstateF.e_eq (((proposeD D x.round x.valid x.h (x.ok)).1).s) (((refPropD R x.round x.valid x.h (x.ok)).1).s) rfl rfl))
   refine qv 87 (.bool (decide ((((proposeD D x.round x.valid x.h (x.ok)).1).s) = (((refPropD R x.round x.valid x.h (x.ok)).1).s)))) ?_
   refine qv 6 (.bool (decide ((((proposeD D x.round x.valid x.h (x.ok)).1).s) = (((refPropD R x.round x.valid x.h (x.ok)).1).s)))) ?_
   refine q_end ?_
   intro w83 H84
   refine then_normal ?_
   refine w_ret ?_
   refine end1 rfl (res_tmp (v := (.bool (decide ((((proposeD D x.round x.valid x.h (x.ok)).1).s) = (((refPropD R x.round x.valid x.h (x.ok)).1).s))))) rfl) ?_
   have H85 : Sat w [rcC p rt (.slice a71 ((((refPropD R x.round x.valid x.h (x.ok)).1).L).length) c72) (.slice a73 ((((refPropD R x.round x.valid x.h (x.ok)).1).P).length) c74) ((refPropD R x.round x.valid x.h (x.ok)).1), cellC k 92 (coreL t pb ((proposeD D x.round x.valid x.h (x.ok)).1)), talC t hb cb ab lb ((proposeD D x.round x.valid x.h (x.ok)).1).f ((proposeD D x.round x.valid x.h (x.ok)).1).c ((proposeD D x.round x.valid x.h (x.ok)).1).L, mapC pb (Value.int .i64) propV ((proposeD D x.round x.valid x.h (x.ok)).1).P, restC w (sepC [coreC k t hb cb ab lb pb D, rcC p rt (.slice va R.L.length vc) (.slice ua R.P.length uc) R]).fp] w83 := Sat.closeL (L := [cellC p 83 (rcL rt (.slice a73 ((((refPropD R x.round x.valid x.h (x.ok)).1).P).length) c74) ((refPropD R x.round x.valid x.h (x.ok)).1)), cellC rt 101 ([(.int .i64 (((refPropD R x.round x.valid x.h (x.ok)).1).f)), (.int .i64 (((refPropD R x.round x.valid x.h (x.ok)).1).c)), (.slice a71 ((((refPropD R x.round x.valid x.h (x.ok)).1).L).length) c72)] : List Value), rowC 143 35 (.slice a71 ((((refPropD R x.round x.valid x.h (x.ok)).1).L).length) c72) ((((refPropD R x.round x.valid x.h (x.ok)).1).L).length) ((((refPropD R x.round x.valid x.h (x.ok)).1).L).flatMap encV), rowC 129 35 (.slice a73 ((((refPropD R x.round x.valid x.h (x.ok)).1).P).length) c74) ((((refPropD R x.round x.valid x.h (x.ok)).1).P).length) ((((refPropD R x.round x.valid x.h (x.ok)).1).P).flatMap encQ)]) (R := [cellC k 92 (coreL t pb ((proposeD D x.round x.valid x.h (x.ok)).1)), talC t hb cb ab lb ((proposeD D x.round x.valid x.h (x.ok)).1).f ((proposeD D x.round x.valid x.h (x.ok)).1).c ((proposeD D x.round x.valid x.h (x.ok)).1).L, mapC pb (Value.int .i64) propV ((proposeD D x.round x.valid x.h (x.ok)).1).P, restC w (sepC [coreC k t hb cb ab lb pb D, rcC p rt (.slice va R.L.length vc) (.slice ua R.P.length uc) R]).fp]) (H84.pick [3, 4, 5, 6, 0, 1, 2, 7] (by decide))
   have H86 : Sat w [coreC k t hb cb ab lb pb ((proposeD D x.round x.valid x.h (x.ok)).1), rcC p rt (.slice a71 ((((refPropD R x.round x.valid x.h (x.ok)).1).L).length) c72) (.slice a73 ((((refPropD R x.round x.valid x.h (x.ok)).1).P).length) c74) ((refPropD R x.round x.valid x.h (x.ok)).1), restC w (sepC [coreC k t hb cb ab lb pb D, rcC p rt (.slice va R.L.length vc) (.slice ua R.P.length uc) R]).fp] w83 := Sat.closeL (L := [cellC k 92 (coreL t pb ((proposeD D x.round x.valid x.h (x.ok)).1)), talC t hb cb ab lb ((proposeD D x.round x.valid x.h (x.ok)).1).f ((proposeD D x.round x.valid x.h (x.ok)).1).c ((proposeD D x.round x.valid x.h (x.ok)).1).L, mapC pb (Value.int .i64) propV ((proposeD D x.round x.valid x.h (x.ok)).1).P]) (R := [rcC p rt (.slice a71 ((((refPropD R x.round x.valid x.h (x.ok)).1).L).length) c72) (.slice a73 ((((refPropD R x.round x.valid x.h (x.ok)).1).P).length) c74) ((refPropD R x.round x.valid x.h (x.ok)).1), restC w (sepC [coreC k t hb cb ab lb pb D, rcC p rt (.slice va R.L.length vc) (.slice ua R.P.length uc) R]).fp]) (H85.pick [1, 2, 3, 0, 4] (by decide))
   exact ⟨by simp [(hRel.prop _ _ _ _).2.s], _, _, _, _, (hRel.prop _ _ _ _).2, H86⟩
  ·have g87 := of_decide_eq_false b49
   refine wp_know 33 (.bool false) (congrArg Value.bool b49) ?_
   have g88 := of_decide_eq_false b49
   refine wp_iff rfl ?_
   refine w_seq ?_
   refine w_lit ?_
   refine wv 58 (.bool (decide ((withinV x.doo 8) = 6))) ?_
   refine wv 57 (.bool (decide ((withinV x.doo 8) = 6))) ?_
   refine w_nil ?_
   refine then_normal ?_
   refine (bsplit (decide ((withinV x.doo 8) = 6))).elim (fun b89 => ?_) (fun b89 => ?_)
   ·have g90 := of_decide_eq_true b89
    refine wp_know 57 (.bool true) (congrArg Value.bool b89) ?_
    have g91 := of_decide_eq_true b89
    refine wp_ift rfl ?_
    refine w_seq ?_
    refine w_lit ?_
    refine wv 59 (pt b2 1) ?_
    refine wv 60 (.int .i64 (x.kind)) ?_ (hr := e_load1 rfl (by kernel_rfl) (H7.cell 8 rfl (by kernel_rfl)))
    refine wv 61 (pt b2 2) ?_
    refine wv 62 (.int .i64 (x.round)) ?_ (hr := e_load1 rfl (by kernel_rfl) (H7.cell 8 rfl (by kernel_rfl)))
    refine wv 63 (.agg ⟨([(.int .i64 (x.kind)), (.int .i64 (x.round))] : List Value)⟩) ?_
    refine wl_do (wants0 rfl) (fun K92 hK92 => ?_)
    refine d_alloc (zs := ([(.int .i64 (0)), (.int .i64 (0))] : List Value)) (z := (.agg ⟨([(.int .i64 (0)), (.int .i64 (0))] : List Value)⟩)) rfl H7 (by kernel_rfl) (by kernel_rfl) ?_
    intro b93 w94 (H95 : Sat w [cellC k 92 (coreL t pb D), talC t hb cb ab lb D.f D.c D.L, mapC pb (Value.int .i64) propV D.P, cellC p 83 (rcL rt (.slice ua R.P.length uc) R), cellC rt 101 ([(.int .i64 (R.f)), (.int .i64 (R.c)), (.slice va R.L.length vc)] : List Value), rowC 143 35 (.slice va R.L.length vc) R.L.length (R.L.flatMap encV), rowC 129 35 (.slice ua R.P.length uc) R.P.length (R.P.flatMap encQ), restC w (sepC [coreC k t hb cb ab lb pb D, rcC p rt (.slice va R.L.length vc) (.slice ua R.P.length uc) R]).fp, cellC b2 57 (([(.int .i64 (x.doo)), (.int .i64 (x.kind)), (.int .i64 (x.round)), (.int .i64 (x.valid)), (.int .i64 (x.replica))] : List Value) ++ hc x.h ++ ([(.bool (x.ok)), (.bool (x.raw))] : List Value)), cellC b93 63 ([(.int .i64 (0)), (.int .i64 (0))] : List Value)] w94)
    refine hK92 _ _ ?_
    clear hK92 K92
    refine wl_do (wants0 rfl) (fun K96 hK96 => ?_)
    refine d_storeX (vs := ([(.int .i64 (x.kind)), (.int .i64 (x.round))] : List Value)) (cs' := ([(.int .i64 (x.kind)), (.int .i64 (x.round))] : List Value)) rfl H95 9 rfl rfl rfl rfl (by kernel_rfl) (Nat.le_of_ble_eq_true (by kernel_rfl)) (Nat.le_of_ble_eq_true (by kernel_rfl)) (by kernel_rfl) (by kernel_rfl) ?_
    intro w97 (H98 : Sat w [cellC k 92 (coreL t pb D), talC t hb cb ab lb D.f D.c D.L, mapC pb (Value.int .i64) propV D.P, cellC p 83 (rcL rt (.slice ua R.P.length uc) R), cellC rt 101 ([(.int .i64 (R.f)), (.int .i64 (R.c)), (.slice va R.L.length vc)] : List Value), rowC 143 35 (.slice va R.L.length vc) R.L.length (R.L.flatMap encV), rowC 129 35 (.slice ua R.P.length uc) R.P.length (R.P.flatMap encQ), restC w (sepC [coreC k t hb cb ab lb pb D, rcC p rt (.slice va R.L.length vc) (.slice ua R.P.length uc) R]).fp, cellC b2 57 (([(.int .i64 (x.doo)), (.int .i64 (x.kind)), (.int .i64 (x.round)), (.int .i64 (x.valid)), (.int .i64 (x.replica))] : List Value) ++ hc x.h ++ ([(.bool (x.ok)), (.bool (x.raw))] : List Value)), cellC b93 63 ([(.int .i64 (x.kind)), (.int .i64 (x.round))] : List Value)] w97)
    refine hK96 _ _ ?_
    clear hK96 K96
    refine w_nil ?_
    refine then_normal ?_
    refine h_start H98 [restC w (sepC [coreC k t hb cb ab lb pb D, rcC p rt (.slice va R.L.length vc) (.slice ua R.P.length uc) R]).fp, cellC b2 57 (([(.int .i64 (x.doo)), (.int .i64 (x.kind)), (.int .i64 (x.round)), (.int .i64 (x.valid)), (.int .i64 (x.replica))] : List Value) ++ hc x.h ++ ([(.bool (x.ok)), (.bool (x.raw))] : List Value)), cellC b93 63 ([(.int .i64 (x.kind)), (.int .i64 (x.round))] : List Value)] 8 rfl (by kernel_rfl) (fun Hx => (Hx.pick [7, 8, 9] (by decide))) ?_
    intro w100 H101 S102
    refine hv0 0 S102 64 (pt k 0) ?_
    refine hv0 1 S102 65 (.agg ⟨([(.int .i64 (x.kind)), (.int .i64 (x.round))] : List Value)⟩) ?_ (he := fun _ H' => (e_loadN (vs := ([(.int .i64 (x.kind)), (.int .i64 (x.round))] : List Value)) rfl (by kernel_rfl) (by kernel_rfl) (by exact Nat.le_of_ble_eq_true (by kernel_rfl)) (H'.at 2 rfl) (by kernel_rfl)))
    refine hv0 3 S102 67 (pt p 0) ?_
    refine hv0 4 S102 68 (.agg ⟨([(.int .i64 (x.kind)), (.int .i64 (x.round))] : List Value)⟩) ?_ (he := fun _ H' => (e_loadN (vs := ([(.int .i64 (x.kind)), (.int .i64 (x.round))] : List Value)) rfl (by kernel_rfl) (by kernel_rfl) (by exact Nat.le_of_ble_eq_true (by kernel_rfl)) (H'.at 2 rfl) (by kernel_rfl)))
    refine h_do 2 rfl (by kernel_rfl) (wants0 rfl) (fun K103 hK103 => ?_)
    refine d_call (d := 66) rfl (by kernel_rfl) (coreTimeout_any w100 k t hb cb ab lb pb D (ok_of (by kernel_rfl) (H101.fin [0, 1, 2] (by decide) rfl)) hRel.ci x.kind x.round) ?_
    rintro _ w105 ⟨v104, rfl, S106⟩
    replace S106 := Sat.cast (G' := [cellC k 92 (coreL t pb ((timeD D x.kind x.round).1)), talC t hb cb ab lb ((timeD D x.kind x.round).1).f ((timeD D x.kind x.round).1).c ((timeD D x.kind x.round).1).L, mapC pb (Value.int .i64) propV ((timeD D x.kind x.round).1).P, rowC 45 35 v104 (((timeD D x.kind x.round).2).length) (((timeD D x.kind x.round).2).flatMap encA), restC w100 (coreC k t hb cb ab lb pb D).fp]) S106 (by kernel_rfl)
    have H108 : Sat w [cellC k 92 (coreL t pb ((timeD D x.kind x.round).1)), talC t hb cb ab lb ((timeD D x.kind x.round).1).f ((timeD D x.kind x.round).1).c ((timeD D x.kind x.round).1).L, mapC pb (Value.int .i64) propV ((timeD D x.kind x.round).1).P, cellC p 83 (rcL rt (.slice ua R.P.length uc) R), cellC rt 101 ([(.int .i64 (R.f)), (.int .i64 (R.c)), (.slice va R.L.length vc)] : List Value), rowC 143 35 (.slice va R.L.length vc) R.L.length (R.L.flatMap encV), rowC 129 35 (.slice ua R.P.length uc) R.P.length (R.P.flatMap encQ), restC w (sepC [coreC k t hb cb ab lb pb D, rcC p rt (.slice va R.L.length vc) (.slice ua R.P.length uc) R]).fp, cellC b2 57 (([(.int .i64 (x.doo)), (.int .i64 (x.kind)), (.int .i64 (x.round)), (.int .i64 (x.valid)), (.int .i64 (x.replica))] : List Value) ++ hc x.h ++ ([(.bool (x.ok)), (.bool (x.raw))] : List Value)), cellC b93 63 ([(.int .i64 (x.kind)), (.int .i64 (x.round))] : List Value), rowC 45 35 v104 (((timeD D x.kind x.round).2).length) (((timeD D x.kind x.round).2).flatMap encA)] w105 := (Sat.turnL (L' := [cellC k 92 (coreL t pb ((timeD D x.kind x.round).1)), talC t hb cb ab lb ((timeD D x.kind x.round).1).f ((timeD D x.kind x.round).1).c ((timeD D x.kind x.round).1).L, mapC pb (Value.int .i64) propV ((timeD D x.kind x.round).1).P, rowC 45 35 v104 (((timeD D x.kind x.round).2).length) (((timeD D x.kind x.round).2).flatMap encA)]) (R := [cellC p 83 (rcL rt (.slice ua R.P.length uc) R), cellC rt 101 ([(.int .i64 (R.f)), (.int .i64 (R.c)), (.slice va R.L.length vc)] : List Value), rowC 143 35 (.slice va R.L.length vc) R.L.length (R.L.flatMap encV), rowC 129 35 (.slice ua R.P.length uc) R.P.length (R.P.flatMap encQ), restC w (sepC [coreC k t hb cb ab lb pb D, rcC p rt (.slice va R.L.length vc) (.slice ua R.P.length uc) R]).fp, cellC b2 57 (([(.int .i64 (x.doo)), (.int .i64 (x.kind)), (.int .i64 (x.round)), (.int .i64 (x.valid)), (.int .i64 (x.replica))] : List Value) ++ hc x.h ++ ([(.bool (x.ok)), (.bool (x.raw))] : List Value)), cellC b93 63 ([(.int .i64 (x.kind)), (.int .i64 (x.round))] : List Value)]) H101 [0, 1, 2] [3, 4, 5, 6, 7, 8, 9] (by decide) (by kernel_rfl) rfl S106).pick [0, 1, 2, 4, 5, 6, 7, 8, 9, 10, 3] (by decide)
    obtain ⟨a109, c110, rfl⟩ := ownsRow_shape (H108.at 10 rfl)
    refine ⟨_, rfl, ?_⟩
    have S111 := H108.pick [7, 8, 9] (by decide)
    refine hK103 _ _ S111 ?_
    clear hK103 K103
    refine h_do 5 rfl (by kernel_rfl) (wants0 rfl) (fun K112 hK112 => ?_)
    refine d_call (d := 69) rfl (by kernel_rfl) (rcTimeout_any w105 p rt (.slice va R.L.length vc) (.slice ua R.P.length uc) R (ok_of (by kernel_rfl) (H108.fin [3, 4, 5, 6] (by decide) rfl)) hRel.cr x.kind x.round) ?_
    rintro _ w116 ⟨v113, u114, x115, rfl, S117⟩
    have H118 : Sat w [cellC k 92 (coreL t pb ((timeD D x.kind x.round).1)), talC t hb cb ab lb ((timeD D x.kind x.round).1).f ((timeD D x.kind x.round).1).c ((timeD D x.kind x.round).1).L, mapC pb (Value.int .i64) propV ((timeD D x.kind x.round).1).P, cellC p 83 (rcL rt u114 ((timeD R x.kind x.round).1)), cellC rt 101 ([(.int .i64 (((timeD R x.kind x.round).1).f)), (.int .i64 (((timeD R x.kind x.round).1).c)), v113] : List Value), rowC 143 35 v113 ((((timeD R x.kind x.round).1).L).length) ((((timeD R x.kind x.round).1).L).flatMap encV), rowC 129 35 u114 ((((timeD R x.kind x.round).1).P).length) ((((timeD R x.kind x.round).1).P).flatMap encQ), restC w (sepC [coreC k t hb cb ab lb pb D, rcC p rt (.slice va R.L.length vc) (.slice ua R.P.length uc) R]).fp, cellC b2 57 (([(.int .i64 (x.doo)), (.int .i64 (x.kind)), (.int .i64 (x.round)), (.int .i64 (x.valid)), (.int .i64 (x.replica))] : List Value) ++ hc x.h ++ ([(.bool (x.ok)), (.bool (x.raw))] : List Value)), cellC b93 63 ([(.int .i64 (x.kind)), (.int .i64 (x.round))] : List Value), rowC 45 35 (.slice a109 (((timeD D x.kind x.round).2).length) c110) (((timeD D x.kind x.round).2).length) (((timeD D x.kind x.round).2).flatMap encA), rowC 102 35 x115 (((timeD R x.kind x.round).2).length) (((timeD R x.kind x.round).2).flatMap encA)] w116 := (Sat.turnL (L' := [cellC p 83 (rcL rt u114 ((timeD R x.kind x.round).1)), cellC rt 101 ([(.int .i64 (((timeD R x.kind x.round).1).f)), (.int .i64 (((timeD R x.kind x.round).1).c)), v113] : List Value), rowC 143 35 v113 ((((timeD R x.kind x.round).1).L).length) ((((timeD R x.kind x.round).1).L).flatMap encV), rowC 129 35 u114 ((((timeD R x.kind x.round).1).P).length) ((((timeD R x.kind x.round).1).P).flatMap encQ), rowC 102 35 x115 (((timeD R x.kind x.round).2).length) (((timeD R x.kind x.round).2).flatMap encA)]) (R := [cellC k 92 (coreL t pb ((timeD D x.kind x.round).1)), talC t hb cb ab lb ((timeD D x.kind x.round).1).f ((timeD D x.kind x.round).1).c ((timeD D x.kind x.round).1).L, mapC pb (Value.int .i64) propV ((timeD D x.kind x.round).1).P, restC w (sepC [coreC k t hb cb ab lb pb D, rcC p rt (.slice va R.L.length vc) (.slice ua R.P.length uc) R]).fp, cellC b2 57 (([(.int .i64 (x.doo)), (.int .i64 (x.kind)), (.int .i64 (x.round)), (.int .i64 (x.valid)), (.int .i64 (x.replica))] : List Value) ++ hc x.h ++ ([(.bool (x.ok)), (.bool (x.raw))] : List Value)), cellC b93 63 ([(.int .i64 (x.kind)), (.int .i64 (x.round))] : List Value), rowC 45 35 (.slice a109 (((timeD D x.kind x.round).2).length) c110) (((timeD D x.kind x.round).2).length) (((timeD D x.kind x.round).2).flatMap encA)]) H108 [3, 4, 5, 6] [0, 1, 2, 7, 8, 9, 10] (by decide) (by kernel_rfl) rfl S117).pick [5, 6, 7, 0, 1, 2, 3, 8, 9, 10, 11, 4] (by decide)
    obtain ⟨a119, c120, rfl⟩ := ownsRow_shape (H118.at 5 rfl)
    obtain ⟨a121, c122, rfl⟩ := ownsRow_shape (H118.at 6 rfl)
    obtain ⟨a123, c124, rfl⟩ := ownsRow_shape (H118.at 11 rfl)
    refine ⟨_, rfl, ?_⟩
    have S125 := H118.pick [7, 8, 9] (by decide)
    refine hK112 _ _ S125 ?_
    clear hK112 K112
    refine h_do 6 rfl (by kernel_rfl) (wants0 rfl) (fun K126 hK126 => ?_)
    refine d_call (d := 70) rfl (by kernel_rfl) (acts_any w116 (.slice a109 (((timeD D x.kind x.round).2).length) c110) (.slice a123 (((timeD R x.kind x.round).2).length) c124) _ _ (H118.at 10 rfl) (H118.at 11 rfl) (hRel.time _ _).1 (Nat.le_trans (time_le hRel.ci _ _) (by decide))) ?_
    rintro _ w127 ⟨rfl, u129⟩
    have H128 := H118.keepU u129
    refine ⟨_, rfl, ?_⟩
    have S130 := H128.pick [7, 8, 9] (by decide)
    refine hK126 _ _ S130 ?_
    clear hK126 K126
    refine hv0 7 S130 7 (.bool true) ?_
    refine h_fin (by kernel_rfl) ?_
    refine blk_normal ?_
    refine then_normal ?_
    refine w_seq ?_
    refine q_start H128 (by kernel_rfl) (by kernel_rfl) ?_
    refine qv 78 (.bool true) ?_
    refine qv 79 (.bool true) ?_
    refine qy 1 79 true 80 (pt k 0) ?_
    refine q_call (wantsY 1 79 true rfl (by kernel_rfl) rfl (by kernel_rfl)) (d := 81) (v := (.agg ⟨(([(.int .i64 (((timeD D x.kind x.round).1).s.round)), (.int .i64 (((timeD D x.kind x.round).1).s.step)), (.int .i64 (((timeD D x.kind x.round).1).s.lr)), (.int .i64 (((timeD D x.kind x.round).1).s.vr))] : List Value) ++ hc ((timeD D x.kind x.round).1).s.locked ++ hc ((timeD D x.kind x.round).1).s.valid ++ ([(.bool (((timeD D x.kind x.round).1).s.decided))] : List Value) ++ hc ((timeD D x.kind x.round).1).s.decision)⟩)) rfl (fun _ _ => by kernel_rfl) (fun w' H' => (coreState_any w' k t hb cb ab lb pb ((timeD D x.kind x.round).1) (ok_of (by kernel_rfl) (H'.fin [0, 1, 2] (by decide) rfl)) ((hRel.time _ _).2.ci)).mono fun _ _ h => ⟨h.1, H'.keepU h.2⟩) ?_
    refine qy 1 79 true 82 (pt p 0) ?_
    refine qy 1 79 true 83 (pt p 0) ?_
    refine qy 1 79 true 84 (pt p 4) ?_
    refine qy 1 79 true 85 (.agg ⟨(([(.int .i64 (((timeD R x.kind x.round).1).s.round)), (.int .i64 (((timeD R x.kind x.round).1).s.step)), (.int .i64 (((timeD R x.kind x.round).1).s.lr)), (.int .i64 (((timeD R x.kind x.round).1).s.vr))] : List Value) ++ hc ((timeD R x.kind x.round).1).s.locked ++ hc ((timeD R x.kind x.round).1).s.valid ++ ([(.bool (((timeD R x.kind x.round).1).s.decided))] : List Value) ++ hc ((timeD R x.kind x.round).1).s.decision)⟩) ?_ (hr := fun _ H' => (e_loadN (vs := (([(.int .i64 (((timeD R x.kind x.round).1).s.round)), (.int .i64 (((timeD R x.kind x.round).1).s.step)), (.int .i64 (((timeD R x.kind x.round).1).s.lr)), (.int .i64 (((timeD R x.kind x.round).1).s.vr))] : List Value) ++ hc ((timeD R x.kind x.round).1).s.locked ++ hc ((timeD R x.kind x.round).1).s.valid ++ ([(.bool (((timeD R x.kind x.round).1).s.decided))] : List Value) ++ hc ((timeD R x.kind x.round).1).s.decision)) rfl (by kernel_rfl) (by kernel_rfl) (by exact Nat.le_of_ble_eq_true (by kernel_rfl)) (H'.at 3 rfl) (by kernel_rfl)))
    refine qy 1 79 true 86 (.bool (decide ((((timeD D x.kind x.round).1).s) = (((timeD R x.kind x.round).1).s)))) ?_ (hr := fun _ H' => (rstateF.e_eq (((timeD D x.kind x.round).1).s) (((timeD R x.kind x.round).1).s) rfl rfl))
    refine qv 87 (.bool (decide ((((timeD D x.kind x.round).1).s) = (((timeD R x.kind x.round).1).s)))) ?_
    refine qv 6 (.bool (decide ((((timeD D x.kind x.round).1).s) = (((timeD R x.kind x.round).1).s)))) ?_
    refine q_end ?_
    intro w131 H132
    refine then_normal ?_
    refine w_ret ?_
    refine end1 rfl (res_tmp (v := (.bool (decide ((((timeD D x.kind x.round).1).s) = (((timeD R x.kind x.round).1).s))))) rfl) ?_
    have H133 : Sat w [rcC p rt (.slice a119 ((((timeD R x.kind x.round).1).L).length) c120) (.slice a121 ((((timeD R x.kind x.round).1).P).length) c122) ((timeD R x.kind x.round).1), cellC k 92 (coreL t pb ((timeD D x.kind x.round).1)), talC t hb cb ab lb ((timeD D x.kind x.round).1).f ((timeD D x.kind x.round).1).c ((timeD D x.kind x.round).1).L, mapC pb (Value.int .i64) propV ((timeD D x.kind x.round).1).P, restC w (sepC [coreC k t hb cb ab lb pb D, rcC p rt (.slice va R.L.length vc) (.slice ua R.P.length uc) R]).fp] w131 := Sat.closeL (L := [cellC p 83 (rcL rt (.slice a121 ((((timeD R x.kind x.round).1).P).length) c122) ((timeD R x.kind x.round).1)), cellC rt 101 ([(.int .i64 (((timeD R x.kind x.round).1).f)), (.int .i64 (((timeD R x.kind x.round).1).c)), (.slice a119 ((((timeD R x.kind x.round).1).L).length) c120)] : List Value), rowC 143 35 (.slice a119 ((((timeD R x.kind x.round).1).L).length) c120) ((((timeD R x.kind x.round).1).L).length) ((((timeD R x.kind x.round).1).L).flatMap encV), rowC 129 35 (.slice a121 ((((timeD R x.kind x.round).1).P).length) c122) ((((timeD R x.kind x.round).1).P).length) ((((timeD R x.kind x.round).1).P).flatMap encQ)]) (R := [cellC k 92 (coreL t pb ((timeD D x.kind x.round).1)), talC t hb cb ab lb ((timeD D x.kind x.round).1).f ((timeD D x.kind x.round).1).c ((timeD D x.kind x.round).1).L, mapC pb (Value.int .i64) propV ((timeD D x.kind x.round).1).P, restC w (sepC [coreC k t hb cb ab lb pb D, rcC p rt (.slice va R.L.length vc) (.slice ua R.P.length uc) R]).fp]) (H132.pick [3, 4, 5, 6, 0, 1, 2, 7] (by decide))
    have H134 : Sat w [coreC k t hb cb ab lb pb ((timeD D x.kind x.round).1), rcC p rt (.slice a119 ((((timeD R x.kind x.round).1).L).length) c120) (.slice a121 ((((timeD R x.kind x.round).1).P).length) c122) ((timeD R x.kind x.round).1), restC w (sepC [coreC k t hb cb ab lb pb D, rcC p rt (.slice va R.L.length vc) (.slice ua R.P.length uc) R]).fp] w131 := Sat.closeL (L := [cellC k 92 (coreL t pb ((timeD D x.kind x.round).1)), talC t hb cb ab lb ((timeD D x.kind x.round).1).f ((timeD D x.kind x.round).1).c ((timeD D x.kind x.round).1).L, mapC pb (Value.int .i64) propV ((timeD D x.kind x.round).1).P]) (R := [rcC p rt (.slice a119 ((((timeD R x.kind x.round).1).L).length) c120) (.slice a121 ((((timeD R x.kind x.round).1).P).length) c122) ((timeD R x.kind x.round).1), restC w (sepC [coreC k t hb cb ab lb pb D, rcC p rt (.slice va R.L.length vc) (.slice ua R.P.length uc) R]).fp]) (H133.pick [1, 2, 3, 0, 4] (by decide))
    exact ⟨by simp [(hRel.time _ _).2.s], _, _, _, _, (hRel.time _ _).2, H134⟩
   ·have g135 := of_decide_eq_false b89
    refine wp_know 57 (.bool false) (congrArg Value.bool b89) ?_
    have g136 := of_decide_eq_false b89
    refine wp_iff rfl ?_
    refine w_seq ?_
    refine w_lit ?_
    refine wv 72 (.bool (decide ((withinV x.doo 8) = 7))) ?_
    refine wv 71 (.bool (decide ((withinV x.doo 8) = 7))) ?_
    refine w_nil ?_
    refine then_normal ?_
    refine (bsplit (decide ((withinV x.doo 8) = 7))).elim (fun b137 => ?_) (fun b137 => ?_)
    ·have g138 := of_decide_eq_true b137
     refine wp_know 71 (.bool true) (congrArg Value.bool b137) ?_
     have g139 := of_decide_eq_true b137
     refine wp_ift rfl ?_
     refine w_lit ?_
     refine wv 73 (pt k 0) ?_
     refine wl_do (wants0 rfl) (fun K140 hK140 => ?_)
     refine d_call (d := 74) rfl (by kernel_rfl) (coreStart_any w6 k t hb cb ab lb pb D (ok_of (by kernel_rfl) (H7.fin [0, 1, 2] (by decide) rfl)) hRel.ci ) ?_
     rintro _ w142 ⟨v141, rfl, S143⟩
     replace S143 := Sat.cast (G' := [cellC k 92 (coreL t pb ((startD D).1)), talC t hb cb ab lb ((startD D).1).f ((startD D).1).c ((startD D).1).L, mapC pb (Value.int .i64) propV ((startD D).1).P, rowC 45 35 v141 (((startD D).2).length) (((startD D).2).flatMap encA), restC w6 (coreC k t hb cb ab lb pb D).fp]) S143 (by kernel_rfl)
     have H145 : Sat w [cellC k 92 (coreL t pb ((startD D).1)), talC t hb cb ab lb ((startD D).1).f ((startD D).1).c ((startD D).1).L, mapC pb (Value.int .i64) propV ((startD D).1).P, cellC p 83 (rcL rt (.slice ua R.P.length uc) R), cellC rt 101 ([(.int .i64 (R.f)), (.int .i64 (R.c)), (.slice va R.L.length vc)] : List Value), rowC 143 35 (.slice va R.L.length vc) R.L.length (R.L.flatMap encV), rowC 129 35 (.slice ua R.P.length uc) R.P.length (R.P.flatMap encQ), restC w (sepC [coreC k t hb cb ab lb pb D, rcC p rt (.slice va R.L.length vc) (.slice ua R.P.length uc) R]).fp, cellC b2 57 (([(.int .i64 (x.doo)), (.int .i64 (x.kind)), (.int .i64 (x.round)), (.int .i64 (x.valid)), (.int .i64 (x.replica))] : List Value) ++ hc x.h ++ ([(.bool (x.ok)), (.bool (x.raw))] : List Value)), rowC 45 35 v141 (((startD D).2).length) (((startD D).2).flatMap encA)] w142 := (Sat.turnL (L' := [cellC k 92 (coreL t pb ((startD D).1)), talC t hb cb ab lb ((startD D).1).f ((startD D).1).c ((startD D).1).L, mapC pb (Value.int .i64) propV ((startD D).1).P, rowC 45 35 v141 (((startD D).2).length) (((startD D).2).flatMap encA)]) (R := [cellC p 83 (rcL rt (.slice ua R.P.length uc) R), cellC rt 101 ([(.int .i64 (R.f)), (.int .i64 (R.c)), (.slice va R.L.length vc)] : List Value), rowC 143 35 (.slice va R.L.length vc) R.L.length (R.L.flatMap encV), rowC 129 35 (.slice ua R.P.length uc) R.P.length (R.P.flatMap encQ), restC w (sepC [coreC k t hb cb ab lb pb D, rcC p rt (.slice va R.L.length vc) (.slice ua R.P.length uc) R]).fp, cellC b2 57 (([(.int .i64 (x.doo)), (.int .i64 (x.kind)), (.int .i64 (x.round)), (.int .i64 (x.valid)), (.int .i64 (x.replica))] : List Value) ++ hc x.h ++ ([(.bool (x.ok)), (.bool (x.raw))] : List Value))]) H7 [0, 1, 2] [3, 4, 5, 6, 7, 8] (by decide) (by kernel_rfl) rfl S143).pick [0, 1, 2, 4, 5, 6, 7, 8, 9, 3] (by decide)
     obtain ⟨a146, c147, rfl⟩ := ownsRow_shape (H145.at 9 rfl)
     refine ⟨_, rfl, ?_⟩
     refine hK140 _ _ ?_
     clear hK140 K140
     refine wv 75 (pt p 0) ?_
     refine wl_do (wants0 rfl) (fun K148 hK148 => ?_)
     refine d_call (d := 76) rfl (by kernel_rfl) (rcStart_any w142 p rt (.slice va R.L.length vc) (.slice ua R.P.length uc) R (ok_of (by kernel_rfl) (H145.fin [3, 4, 5, 6] (by decide) rfl)) hRel.cr ) ?_
     rintro _ w152 ⟨v149, u150, x151, rfl, S153⟩
     have H154 : Sat w [cellC k 92 (coreL t pb ((startD D).1)), talC t hb cb ab lb ((startD D).1).f ((startD D).1).c ((startD D).1).L, mapC pb (Value.int .i64) propV ((startD D).1).P, cellC p 83 (rcL rt u150 ((startD R).1)), cellC rt 101 ([(.int .i64 (((startD R).1).f)), (.int .i64 (((startD R).1).c)), v149] : List Value), rowC 143 35 v149 ((((startD R).1).L).length) ((((startD R).1).L).flatMap encV), rowC 129 35 u150 ((((startD R).1).P).length) ((((startD R).1).P).flatMap encQ), restC w (sepC [coreC k t hb cb ab lb pb D, rcC p rt (.slice va R.L.length vc) (.slice ua R.P.length uc) R]).fp, cellC b2 57 (([(.int .i64 (x.doo)), (.int .i64 (x.kind)), (.int .i64 (x.round)), (.int .i64 (x.valid)), (.int .i64 (x.replica))] : List Value) ++ hc x.h ++ ([(.bool (x.ok)), (.bool (x.raw))] : List Value)), rowC 45 35 (.slice a146 (((startD D).2).length) c147) (((startD D).2).length) (((startD D).2).flatMap encA), rowC 102 35 x151 (((startD R).2).length) (((startD R).2).flatMap encA)] w152 := (Sat.turnL (L' := [cellC p 83 (rcL rt u150 ((startD R).1)), cellC rt 101 ([(.int .i64 (((startD R).1).f)), (.int .i64 (((startD R).1).c)), v149] : List Value), rowC 143 35 v149 ((((startD R).1).L).length) ((((startD R).1).L).flatMap encV), rowC 129 35 u150 ((((startD R).1).P).length) ((((startD R).1).P).flatMap encQ), rowC 102 35 x151 (((startD R).2).length) (((startD R).2).flatMap encA)]) (R := [cellC k 92 (coreL t pb ((startD D).1)), talC t hb cb ab lb ((startD D).1).f ((startD D).1).c ((startD D).1).L, mapC pb (Value.int .i64) propV ((startD D).1).P, restC w (sepC [coreC k t hb cb ab lb pb D, rcC p rt (.slice va R.L.length vc) (.slice ua R.P.length uc) R]).fp, cellC b2 57 (([(.int .i64 (x.doo)), (.int .i64 (x.kind)), (.int .i64 (x.round)), (.int .i64 (x.valid)), (.int .i64 (x.replica))] : List Value) ++ hc x.h ++ ([(.bool (x.ok)), (.bool (x.raw))] : List Value)), rowC 45 35 (.slice a146 (((startD D).2).length) c147) (((startD D).2).length) (((startD D).2).flatMap encA)]) H145 [3, 4, 5, 6] [0, 1, 2, 7, 8, 9] (by decide) (by kernel_rfl) rfl S153).pick [5, 6, 7, 0, 1, 2, 3, 8, 9, 10, 4] (by decide)
     obtain ⟨a155, c156, rfl⟩ := ownsRow_shape (H154.at 5 rfl)
     obtain ⟨a157, c158, rfl⟩ := ownsRow_shape (H154.at 6 rfl)
     obtain ⟨a159, c160, rfl⟩ := ownsRow_shape (H154.at 10 rfl)
     refine ⟨_, rfl, ?_⟩
     refine hK148 _ _ ?_
     clear hK148 K148
     refine wl_do (wants0 rfl) (fun K161 hK161 => ?_)
     refine d_call (d := 77) rfl (by kernel_rfl) (acts_any w152 (.slice a146 (((startD D).2).length) c147) (.slice a159 (((startD R).2).length) c160) _ _ (H154.at 9 rfl) (H154.at 10 rfl) (hRel.start).1 (Nat.le_trans (start_le hRel.ci) (by decide))) ?_
     rintro _ w162 ⟨rfl, u164⟩
     have H163 := H154.keepU u164
     refine ⟨_, rfl, ?_⟩
     refine hK161 _ _ ?_
     clear hK161 K161
     refine wv 7 (.bool true) ?_
     refine w_nil ?_
     refine blk_normal ?_
     refine then_normal ?_
     refine w_seq ?_
     refine q_start H163 (by kernel_rfl) (by kernel_rfl) ?_
     refine qv 78 (.bool true) ?_
     refine qv 79 (.bool true) ?_
     refine qy 1 79 true 80 (pt k 0) ?_
     refine q_call (wantsY 1 79 true rfl (by kernel_rfl) rfl (by kernel_rfl)) (d := 81) (v := (.agg ⟨(([(.int .i64 (((startD D).1).s.round)), (.int .i64 (((startD D).1).s.step)), (.int .i64 (((startD D).1).s.lr)), (.int .i64 (((startD D).1).s.vr))] : List Value) ++ hc ((startD D).1).s.locked ++ hc ((startD D).1).s.valid ++ ([(.bool (((startD D).1).s.decided))] : List Value) ++ hc ((startD D).1).s.decision)⟩)) rfl (fun _ _ => by kernel_rfl) (fun w' H' => (coreState_any w' k t hb cb ab lb pb ((startD D).1) (ok_of (by kernel_rfl) (H'.fin [0, 1, 2] (by decide) rfl)) ((hRel.start).2.ci)).mono fun _ _ h => ⟨h.1, H'.keepU h.2⟩) ?_
     refine qy 1 79 true 82 (pt p 0) ?_
     refine qy 1 79 true 83 (pt p 0) ?_
     refine qy 1 79 true 84 (pt p 4) ?_
     refine qy 1 79 true 85 (.agg ⟨(([(.int .i64 (((startD R).1).s.round)), (.int .i64 (((startD R).1).s.step)), (.int .i64 (((startD R).1).s.lr)), (.int .i64 (((startD R).1).s.vr))] : List Value) ++ hc ((startD R).1).s.locked ++ hc ((startD R).1).s.valid ++ ([(.bool (((startD R).1).s.decided))] : List Value) ++ hc ((startD R).1).s.decision)⟩) ?_ (hr := fun _ H' => (e_loadN (vs := (([(.int .i64 (((startD R).1).s.round)), (.int .i64 (((startD R).1).s.step)), (.int .i64 (((startD R).1).s.lr)), (.int .i64 (((startD R).1).s.vr))] : List Value) ++ hc ((startD R).1).s.locked ++ hc ((startD R).1).s.valid ++ ([(.bool (((startD R).1).s.decided))] : List Value) ++ hc ((startD R).1).s.decision)) rfl (by kernel_rfl) (by kernel_rfl) (by exact Nat.le_of_ble_eq_true (by kernel_rfl)) (H'.at 3 rfl) (by kernel_rfl)))
     refine qy 1 79 true 86 (.bool (decide ((((startD D).1).s) = (((startD R).1).s)))) ?_ (hr := fun _ H' => (rstateF.e_eq (((startD D).1).s) (((startD R).1).s) rfl rfl))
     refine qv 87 (.bool (decide ((((startD D).1).s) = (((startD R).1).s)))) ?_
     refine qv 6 (.bool (decide ((((startD D).1).s) = (((startD R).1).s)))) ?_
     refine q_end ?_
     intro w165 H166
     refine then_normal ?_
     refine w_ret ?_
     refine end1 rfl (res_tmp (v := (.bool (decide ((((startD D).1).s) = (((startD R).1).s))))) rfl) ?_
     have H167 : Sat w [rcC p rt (.slice a155 ((((startD R).1).L).length) c156) (.slice a157 ((((startD R).1).P).length) c158) ((startD R).1), cellC k 92 (coreL t pb ((startD D).1)), talC t hb cb ab lb ((startD D).1).f ((startD D).1).c ((startD D).1).L, mapC pb (Value.int .i64) propV ((startD D).1).P, restC w (sepC [coreC k t hb cb ab lb pb D, rcC p rt (.slice va R.L.length vc) (.slice ua R.P.length uc) R]).fp] w165 := Sat.closeL (L := [cellC p 83 (rcL rt (.slice a157 ((((startD R).1).P).length) c158) ((startD R).1)), cellC rt 101 ([(.int .i64 (((startD R).1).f)), (.int .i64 (((startD R).1).c)), (.slice a155 ((((startD R).1).L).length) c156)] : List Value), rowC 143 35 (.slice a155 ((((startD R).1).L).length) c156) ((((startD R).1).L).length) ((((startD R).1).L).flatMap encV), rowC 129 35 (.slice a157 ((((startD R).1).P).length) c158) ((((startD R).1).P).length) ((((startD R).1).P).flatMap encQ)]) (R := [cellC k 92 (coreL t pb ((startD D).1)), talC t hb cb ab lb ((startD D).1).f ((startD D).1).c ((startD D).1).L, mapC pb (Value.int .i64) propV ((startD D).1).P, restC w (sepC [coreC k t hb cb ab lb pb D, rcC p rt (.slice va R.L.length vc) (.slice ua R.P.length uc) R]).fp]) (H166.pick [3, 4, 5, 6, 0, 1, 2, 7] (by decide))
     have H168 : Sat w [coreC k t hb cb ab lb pb ((startD D).1), rcC p rt (.slice a155 ((((startD R).1).L).length) c156) (.slice a157 ((((startD R).1).P).length) c158) ((startD R).1), restC w (sepC [coreC k t hb cb ab lb pb D, rcC p rt (.slice va R.L.length vc) (.slice ua R.P.length uc) R]).fp] w165 := Sat.closeL (L := [cellC k 92 (coreL t pb ((startD D).1)), talC t hb cb ab lb ((startD D).1).f ((startD D).1).c ((startD D).1).L, mapC pb (Value.int .i64) propV ((startD D).1).P]) (R := [rcC p rt (.slice a155 ((((startD R).1).L).length) c156) (.slice a157 ((((startD R).1).P).length) c158) ((startD R).1), restC w (sepC [coreC k t hb cb ab lb pb D, rcC p rt (.slice va R.L.length vc) (.slice ua R.P.length uc) R]).fp]) (H167.pick [1, 2, 3, 0, 4] (by decide))
     exact ⟨by simp [(hRel.start).2.s], _, _, _, _, (hRel.start).2, H168⟩
    ·have g169 := of_decide_eq_false b137
     refine wp_know 71 (.bool false) (congrArg Value.bool b137) ?_
     have g170 := of_decide_eq_false b137
     refine wp_iff rfl ?_
     refine h_start H7 [restC w (sepC [coreC k t hb cb ab lb pb D, rcC p rt (.slice va R.L.length vc) (.slice ua R.P.length uc) R]).fp, cellC b2 57 (([(.int .i64 (x.doo)), (.int .i64 (x.kind)), (.int .i64 (x.round)), (.int .i64 (x.valid)), (.int .i64 (x.replica))] : List Value) ++ hc x.h ++ ([(.bool (x.ok)), (.bool (x.raw))] : List Value))] 22 rfl (by kernel_rfl) (fun Hx => (Hx.pick [7, 8] (by decide))) ?_
     intro w171 H172 S173
     refine hv0 0 S173 12 (pt k 0) ?_
     refine hv0 1 S173 13 (pt b2 1) ?_
     refine hv0 2 S173 14 (.int .i64 (x.kind)) ?_ (he := fun _ H' => (e_load1 rfl (by kernel_rfl) (H'.cell 1 rfl (by kernel_rfl))))
     refine hv0 3 S173 15 (pt b2 2) ?_
     refine hv0 4 S173 16 (.int .i64 (x.round)) ?_ (he := fun _ H' => (e_load1 rfl (by kernel_rfl) (H'.cell 1 rfl (by kernel_rfl))))
     refine hv0 5 S173 17 (pt b2 4) ?_
     refine hv0 6 S173 18 (.int .i64 (x.replica)) ?_ (he := fun _ H' => (e_load1 rfl (by kernel_rfl) (H'.cell 1 rfl (by kernel_rfl))))
     refine hv0 7 S173 19 (pt b2 5) ?_
     refine hv0 8 S173 20 (.agg ⟨(hc x.h)⟩) ?_ (he := fun _ H' => (e_loadN (vs := (hc x.h)) rfl (by kernel_rfl) (by kernel_rfl) (by exact Nat.le_of_ble_eq_true (by kernel_rfl)) (H'.at 1 rfl) (by kernel_rfl)))
     refine hv0 10 S173 22 (pt p 0) ?_
     refine hv0 11 S173 23 (pt b2 1) ?_
     refine hv0 12 S173 24 (.int .i64 (x.kind)) ?_ (he := fun _ H' => (e_load1 rfl (by kernel_rfl) (H'.cell 1 rfl (by kernel_rfl))))
     refine hv0 13 S173 25 (pt b2 2) ?_
     refine hv0 14 S173 26 (.int .i64 (x.round)) ?_ (he := fun _ H' => (e_load1 rfl (by kernel_rfl) (H'.cell 1 rfl (by kernel_rfl))))
     refine hv0 15 S173 27 (pt b2 4) ?_
     refine hv0 16 S173 28 (.int .i64 (x.replica)) ?_ (he := fun _ H' => (e_load1 rfl (by kernel_rfl) (H'.cell 1 rfl (by kernel_rfl))))
     refine hv0 17 S173 29 (pt b2 5) ?_
     refine hv0 18 S173 30 (.agg ⟨(hc x.h)⟩) ?_ (he := fun _ H' => (e_loadN (vs := (hc x.h)) rfl (by kernel_rfl) (by kernel_rfl) (by exact Nat.le_of_ble_eq_true (by kernel_rfl)) (H'.at 1 rfl) (by kernel_rfl)))
     refine h_do 9 rfl (by kernel_rfl) (wants0 rfl) (fun K174 hK174 => ?_)
     refine d_call (d := 21) rfl (by kernel_rfl) (coreVote_any w171 k t hb cb ab lb pb D (ok_of (by kernel_rfl) (H172.fin [0, 1, 2] (by decide) rfl)) hRel.ci x.kind x.round x.replica x.h) ?_
     rintro _ w176 ⟨v175, rfl, S177⟩
     replace S177 := Sat.cast (G' := [cellC k 92 (coreL t pb ((voteD' D x.kind x.round x.replica x.h).1)), talC t hb cb ab lb ((voteD' D x.kind x.round x.replica x.h).1).f ((voteD' D x.kind x.round x.replica x.h).1).c ((voteD' D x.kind x.round x.replica x.h).1).L, mapC pb (Value.int .i64) propV ((voteD' D x.kind x.round x.replica x.h).1).P, rowC 45 35 v175 (((voteD' D x.kind x.round x.replica x.h).2).length) (((voteD' D x.kind x.round x.replica x.h).2).flatMap encA), restC w171 (coreC k t hb cb ab lb pb D).fp]) S177 (by kernel_rfl)
     have H179 : Sat w [cellC k 92 (coreL t pb ((voteD' D x.kind x.round x.replica x.h).1)), talC t hb cb ab lb ((voteD' D x.kind x.round x.replica x.h).1).f ((voteD' D x.kind x.round x.replica x.h).1).c ((voteD' D x.kind x.round x.replica x.h).1).L, mapC pb (Value.int .i64) propV ((voteD' D x.kind x.round x.replica x.h).1).P, cellC p 83 (rcL rt (.slice ua R.P.length uc) R), cellC rt 101 ([(.int .i64 (R.f)), (.int .i64 (R.c)), (.slice va R.L.length vc)] : List Value), rowC 143 35 (.slice va R.L.length vc) R.L.length (R.L.flatMap encV), rowC 129 35 (.slice ua R.P.length uc) R.P.length (R.P.flatMap encQ), restC w (sepC [coreC k t hb cb ab lb pb D, rcC p rt (.slice va R.L.length vc) (.slice ua R.P.length uc) R]).fp, cellC b2 57 (([(.int .i64 (x.doo)), (.int .i64 (x.kind)), (.int .i64 (x.round)), (.int .i64 (x.valid)), (.int .i64 (x.replica))] : List Value) ++ hc x.h ++ ([(.bool (x.ok)), (.bool (x.raw))] : List Value)), rowC 45 35 v175 (((voteD' D x.kind x.round x.replica x.h).2).length) (((voteD' D x.kind x.round x.replica x.h).2).flatMap encA)] w176 := (Sat.turnL (L' := [cellC k 92 (coreL t pb ((voteD' D x.kind x.round x.replica x.h).1)), talC t hb cb ab lb ((voteD' D x.kind x.round x.replica x.h).1).f ((voteD' D x.kind x.round x.replica x.h).1).c ((voteD' D x.kind x.round x.replica x.h).1).L, mapC pb (Value.int .i64) propV ((voteD' D x.kind x.round x.replica x.h).1).P, rowC 45 35 v175 (((voteD' D x.kind x.round x.replica x.h).2).length) (((voteD' D x.kind x.round x.replica x.h).2).flatMap encA)]) (R := [cellC p 83 (rcL rt (.slice ua R.P.length uc) R), cellC rt 101 ([(.int .i64 (R.f)), (.int .i64 (R.c)), (.slice va R.L.length vc)] : List Value), rowC 143 35 (.slice va R.L.length vc) R.L.length (R.L.flatMap encV), rowC 129 35 (.slice ua R.P.length uc) R.P.length (R.P.flatMap encQ), restC w (sepC [coreC k t hb cb ab lb pb D, rcC p rt (.slice va R.L.length vc) (.slice ua R.P.length uc) R]).fp, cellC b2 57 (([(.int .i64 (x.doo)), (.int .i64 (x.kind)), (.int .i64 (x.round)), (.int .i64 (x.valid)), (.int .i64 (x.replica))] : List Value) ++ hc x.h ++ ([(.bool (x.ok)), (.bool (x.raw))] : List Value))]) H172 [0, 1, 2] [3, 4, 5, 6, 7, 8] (by decide) (by kernel_rfl) rfl S177).pick [0, 1, 2, 4, 5, 6, 7, 8, 9, 3] (by decide)
     obtain ⟨a180, c181, rfl⟩ := ownsRow_shape (H179.at 9 rfl)
     refine ⟨_, rfl, ?_⟩
     have S182 := H179.pick [7, 8] (by decide)
     refine hK174 _ _ S182 ?_
     clear hK174 K174
     refine h_do 19 rfl (by kernel_rfl) (wants0 rfl) (fun K183 hK183 => ?_)
     refine d_call (d := 31) rfl (by kernel_rfl) (rcVote_any w176 p rt (.slice va R.L.length vc) (.slice ua R.P.length uc) R (ok_of (by kernel_rfl) (H179.fin [3, 4, 5, 6] (by decide) rfl)) hRel.cr x.kind x.round x.replica x.h) ?_
     rintro _ w187 ⟨v184, u185, x186, rfl, S188⟩
     have H189 : Sat w [cellC k 92 (coreL t pb ((voteD' D x.kind x.round x.replica x.h).1)), talC t hb cb ab lb ((voteD' D x.kind x.round x.replica x.h).1).f ((voteD' D x.kind x.round x.replica x.h).1).c ((voteD' D x.kind x.round x.replica x.h).1).L, mapC pb (Value.int .i64) propV ((voteD' D x.kind x.round x.replica x.h).1).P, cellC p 83 (rcL rt u185 ((refVoteD R x.kind x.round x.replica x.h).1)), cellC rt 101 ([(.int .i64 (((refVoteD R x.kind x.round x.replica x.h).1).f)), (.int .i64 (((refVoteD R x.kind x.round x.replica x.h).1).c)), v184] : List Value), rowC 143 35 v184 ((((refVoteD R x.kind x.round x.replica x.h).1).L).length) ((((refVoteD R x.kind x.round x.replica x.h).1).L).flatMap encV), rowC 129 35 u185 ((((refVoteD R x.kind x.round x.replica x.h).1).P).length) ((((refVoteD R x.kind x.round x.replica x.h).1).P).flatMap encQ), restC w (sepC [coreC k t hb cb ab lb pb D, rcC p rt (.slice va R.L.length vc) (.slice ua R.P.length uc) R]).fp, cellC b2 57 (([(.int .i64 (x.doo)), (.int .i64 (x.kind)), (.int .i64 (x.round)), (.int .i64 (x.valid)), (.int .i64 (x.replica))] : List Value) ++ hc x.h ++ ([(.bool (x.ok)), (.bool (x.raw))] : List Value)), rowC 45 35 (.slice a180 (((voteD' D x.kind x.round x.replica x.h).2).length) c181) (((voteD' D x.kind x.round x.replica x.h).2).length) (((voteD' D x.kind x.round x.replica x.h).2).flatMap encA), rowC 102 35 x186 (((refVoteD R x.kind x.round x.replica x.h).2).length) (((refVoteD R x.kind x.round x.replica x.h).2).flatMap encA)] w187 := (Sat.turnL (L' := [cellC p 83 (rcL rt u185 ((refVoteD R x.kind x.round x.replica x.h).1)), cellC rt 101 ([(.int .i64 (((refVoteD R x.kind x.round x.replica x.h).1).f)), (.int .i64 (((refVoteD R x.kind x.round x.replica x.h).1).c)), v184] : List Value), rowC 143 35 v184 ((((refVoteD R x.kind x.round x.replica x.h).1).L).length) ((((refVoteD R x.kind x.round x.replica x.h).1).L).flatMap encV), rowC 129 35 u185 ((((refVoteD R x.kind x.round x.replica x.h).1).P).length) ((((refVoteD R x.kind x.round x.replica x.h).1).P).flatMap encQ), rowC 102 35 x186 (((refVoteD R x.kind x.round x.replica x.h).2).length) (((refVoteD R x.kind x.round x.replica x.h).2).flatMap encA)]) (R := [cellC k 92 (coreL t pb ((voteD' D x.kind x.round x.replica x.h).1)), talC t hb cb ab lb ((voteD' D x.kind x.round x.replica x.h).1).f ((voteD' D x.kind x.round x.replica x.h).1).c ((voteD' D x.kind x.round x.replica x.h).1).L, mapC pb (Value.int .i64) propV ((voteD' D x.kind x.round x.replica x.h).1).P, restC w (sepC [coreC k t hb cb ab lb pb D, rcC p rt (.slice va R.L.length vc) (.slice ua R.P.length uc) R]).fp, cellC b2 57 (([(.int .i64 (x.doo)), (.int .i64 (x.kind)), (.int .i64 (x.round)), (.int .i64 (x.valid)), (.int .i64 (x.replica))] : List Value) ++ hc x.h ++ ([(.bool (x.ok)), (.bool (x.raw))] : List Value)), rowC 45 35 (.slice a180 (((voteD' D x.kind x.round x.replica x.h).2).length) c181) (((voteD' D x.kind x.round x.replica x.h).2).length) (((voteD' D x.kind x.round x.replica x.h).2).flatMap encA)]) H179 [3, 4, 5, 6] [0, 1, 2, 7, 8, 9] (by decide) (by kernel_rfl) rfl S188).pick [5, 6, 7, 0, 1, 2, 3, 8, 9, 10, 4] (by decide)
     obtain ⟨a190, c191, rfl⟩ := ownsRow_shape (H189.at 5 rfl)
     obtain ⟨a192, c193, rfl⟩ := ownsRow_shape (H189.at 6 rfl)
     obtain ⟨a194, c195, rfl⟩ := ownsRow_shape (H189.at 10 rfl)
     refine ⟨_, rfl, ?_⟩
     have S196 := H189.pick [7, 8] (by decide)
     refine hK183 _ _ S196 ?_
     clear hK183 K183
     refine h_do 20 rfl (by kernel_rfl) (wants0 rfl) (fun K197 hK197 => ?_)
     refine d_call (d := 32) rfl (by kernel_rfl) (acts_any w187 (.slice a180 (((voteD' D x.kind x.round x.replica x.h).2).length) c181) (.slice a194 (((refVoteD R x.kind x.round x.replica x.h).2).length) c195) _ _ (H189.at 9 rfl) (H189.at 10 rfl) (hRel.vote _ _ _ _).1 (Nat.le_trans (vote_le hRel.ci _ _ _ _) (by decide))) ?_
     rintro _ w198 ⟨rfl, u200⟩
     have H199 := H189.keepU u200
     refine ⟨_, rfl, ?_⟩
     have S201 := H199.pick [7, 8] (by decide)
     refine hK197 _ _ S201 ?_
     clear hK197 K197
     refine hv0 21 S201 7 (.bool true) ?_
     refine h_fin (by kernel_rfl) ?_
     refine blk_normal ?_
     refine then_normal ?_
     refine w_seq ?_
     refine q_start H199 (by kernel_rfl) (by kernel_rfl) ?_
     refine qv 78 (.bool true) ?_
     refine qv 79 (.bool true) ?_
     refine qy 1 79 true 80 (pt k 0) ?_
     refine q_call (wantsY 1 79 true rfl (by kernel_rfl) rfl (by kernel_rfl)) (d := 81) (v := (.agg ⟨(([(.int .i64 (((voteD' D x.kind x.round x.replica x.h).1).s.round)), (.int .i64 (((voteD' D x.kind x.round x.replica x.h).1).s.step)), (.int .i64 (((voteD' D x.kind x.round x.replica x.h).1).s.lr)), (.int .i64 (((voteD' D x.kind x.round x.replica x.h).1).s.vr))] : List Value) ++ hc ((voteD' D x.kind x.round x.replica x.h).1).s.locked ++ hc ((voteD' D x.kind x.round x.replica x.h).1).s.valid ++ ([(.bool (((voteD' D x.kind x.round x.replica x.h).1).s.decided))] : List Value) ++ hc ((voteD' D x.kind x.round x.replica x.h).1).s.decision)⟩)) rfl (fun _ _ => by kernel_rfl) (fun w' H' => (coreState_any w' k t hb cb ab lb pb ((voteD' D x.kind x.round x.replica x.h).1) (ok_of (by kernel_rfl) (H'.fin [0, 1, 2] (by decide) rfl)) ((hRel.vote _ _ _ _).2.ci)).mono fun _ _ h => ⟨h.1, H'.keepU h.2⟩) ?_
     refine qy 1 79 true 82 (pt p 0) ?_
     refine qy 1 79 true 83 (pt p 0) ?_
     refine qy 1 79 true 84 (pt p 4) ?_
     refine qy 1 79 true 85 (.agg ⟨(([(.int .i64 (((refVoteD R x.kind x.round x.replica x.h).1).s.round)), (.int .i64 (((refVoteD R x.kind x.round x.replica x.h).1).s.step)), (.int .i64 (((refVoteD R x.kind x.round x.replica x.h).1).s.lr)), (.int .i64 (((refVoteD R x.kind x.round x.replica x.h).1).s.vr))] : List Value) ++ hc ((refVoteD R x.kind x.round x.replica x.h).1).s.locked ++ hc ((refVoteD R x.kind x.round x.replica x.h).1).s.valid ++ ([(.bool (((refVoteD R x.kind x.round x.replica x.h).1).s.decided))] : List Value) ++ hc ((refVoteD R x.kind x.round x.replica x.h).1).s.decision)⟩) ?_ (hr := fun _ H' => (e_loadN (vs := (([(.int .i64 (((refVoteD R x.kind x.round x.replica x.h).1).s.round)), (.int .i64 (((refVoteD R x.kind x.round x.replica x.h).1).s.step)), (.int .i64 (((refVoteD R x.kind x.round x.replica x.h).1).s.lr)), (.int .i64 (((refVoteD R x.kind x.round x.replica x.h).1).s.vr))] : List Value) ++ hc ((refVoteD R x.kind x.round x.replica x.h).1).s.locked ++ hc ((refVoteD R x.kind x.round x.replica x.h).1).s.valid ++ ([(.bool (((refVoteD R x.kind x.round x.replica x.h).1).s.decided))] : List Value) ++ hc ((refVoteD R x.kind x.round x.replica x.h).1).s.decision)) rfl (by kernel_rfl) (by kernel_rfl) (by exact Nat.le_of_ble_eq_true (by kernel_rfl)) (H'.at 3 rfl) (by kernel_rfl)))
     refine qy 1 79 true 86 (.bool (decide ((((voteD' D x.kind x.round x.replica x.h).1).s) = (((refVoteD R x.kind x.round x.replica x.h).1).s)))) ?_ (hr := fun _ H' => (rstateF.e_eq (((voteD' D x.kind x.round x.replica x.h).1).s) (((refVoteD R x.kind x.round x.replica x.h).1).s) rfl rfl))
     refine qv 87 (.bool (decide ((((voteD' D x.kind x.round x.replica x.h).1).s) = (((refVoteD R x.kind x.round x.replica x.h).1).s)))) ?_
     refine qv 6 (.bool (decide ((((voteD' D x.kind x.round x.replica x.h).1).s) = (((refVoteD R x.kind x.round x.replica x.h).1).s)))) ?_
     refine q_end ?_
     intro w202 H203
     refine then_normal ?_
     refine w_ret ?_
     refine end1 rfl (res_tmp (v := (.bool (decide ((((voteD' D x.kind x.round x.replica x.h).1).s) = (((refVoteD R x.kind x.round x.replica x.h).1).s))))) rfl) ?_
     have H204 : Sat w [rcC p rt (.slice a190 ((((refVoteD R x.kind x.round x.replica x.h).1).L).length) c191) (.slice a192 ((((refVoteD R x.kind x.round x.replica x.h).1).P).length) c193) ((refVoteD R x.kind x.round x.replica x.h).1), cellC k 92 (coreL t pb ((voteD' D x.kind x.round x.replica x.h).1)), talC t hb cb ab lb ((voteD' D x.kind x.round x.replica x.h).1).f ((voteD' D x.kind x.round x.replica x.h).1).c ((voteD' D x.kind x.round x.replica x.h).1).L, mapC pb (Value.int .i64) propV ((voteD' D x.kind x.round x.replica x.h).1).P, restC w (sepC [coreC k t hb cb ab lb pb D, rcC p rt (.slice va R.L.length vc) (.slice ua R.P.length uc) R]).fp] w202 := Sat.closeL (L := [cellC p 83 (rcL rt (.slice a192 ((((refVoteD R x.kind x.round x.replica x.h).1).P).length) c193) ((refVoteD R x.kind x.round x.replica x.h).1)), cellC rt 101 ([(.int .i64 (((refVoteD R x.kind x.round x.replica x.h).1).f)), (.int .i64 (((refVoteD R x.kind x.round x.replica x.h).1).c)), (.slice a190 ((((refVoteD R x.kind x.round x.replica x.h).1).L).length) c191)] : List Value), rowC 143 35 (.slice a190 ((((refVoteD R x.kind x.round x.replica x.h).1).L).length) c191) ((((refVoteD R x.kind x.round x.replica x.h).1).L).length) ((((refVoteD R x.kind x.round x.replica x.h).1).L).flatMap encV), rowC 129 35 (.slice a192 ((((refVoteD R x.kind x.round x.replica x.h).1).P).length) c193) ((((refVoteD R x.kind x.round x.replica x.h).1).P).length) ((((refVoteD R x.kind x.round x.replica x.h).1).P).flatMap encQ)]) (R := [cellC k 92 (coreL t pb ((voteD' D x.kind x.round x.replica x.h).1)), talC t hb cb ab lb ((voteD' D x.kind x.round x.replica x.h).1).f ((voteD' D x.kind x.round x.replica x.h).1).c ((voteD' D x.kind x.round x.replica x.h).1).L, mapC pb (Value.int .i64) propV ((voteD' D x.kind x.round x.replica x.h).1).P, restC w (sepC [coreC k t hb cb ab lb pb D, rcC p rt (.slice va R.L.length vc) (.slice ua R.P.length uc) R]).fp]) (H203.pick [3, 4, 5, 6, 0, 1, 2, 7] (by decide))
     have H205 : Sat w [coreC k t hb cb ab lb pb ((voteD' D x.kind x.round x.replica x.h).1), rcC p rt (.slice a190 ((((refVoteD R x.kind x.round x.replica x.h).1).L).length) c191) (.slice a192 ((((refVoteD R x.kind x.round x.replica x.h).1).P).length) c193) ((refVoteD R x.kind x.round x.replica x.h).1), restC w (sepC [coreC k t hb cb ab lb pb D, rcC p rt (.slice va R.L.length vc) (.slice ua R.P.length uc) R]).fp] w202 := Sat.closeL (L := [cellC k 92 (coreL t pb ((voteD' D x.kind x.round x.replica x.h).1)), talC t hb cb ab lb ((voteD' D x.kind x.round x.replica x.h).1).f ((voteD' D x.kind x.round x.replica x.h).1).c ((voteD' D x.kind x.round x.replica x.h).1).L, mapC pb (Value.int .i64) propV ((voteD' D x.kind x.round x.replica x.h).1).P]) (R := [rcC p rt (.slice a190 ((((refVoteD R x.kind x.round x.replica x.h).1).L).length) c191) (.slice a192 ((((refVoteD R x.kind x.round x.replica x.h).1).P).length) c193) ((refVoteD R x.kind x.round x.replica x.h).1), restC w (sepC [coreC k t hb cb ab lb pb D, rcC p rt (.slice va R.L.length vc) (.slice ua R.P.length uc) R]).fp]) (H204.pick [1, 2, 3, 0, 4] (by decide))
     exact ⟨by simp [(hRel.vote _ _ _ _).2.s], _, _, _, _, (hRel.vote _ _ _ _).2, H205⟩

end Go.Proofs.Ythjmbhneifjeeaa
