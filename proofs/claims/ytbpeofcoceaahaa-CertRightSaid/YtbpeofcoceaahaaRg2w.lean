/- WHAT IS PROVED: right certificates, their times, the program's way: contracts. Conditions: stated with each. -/
import Derived.Test.YtbpeofcoceaahaaShort
import Derived.Test.YtbpeofcoceaahaaRightD
import Derived.Test.YtbpeofcoceaahaaWt2
import Derived.Test.YtbpeofcoceaahaaPBook
import Derived.Test.YtbpeofcoceaahaaNumsS
namespace Go.Proofs.Ytbpeofcoceaahaa
open Go.RowKit

set_option maxRecDepth 100000 in
set_option maxHeartbeats 400000 in
theorem pRightQ_any (w : World) (b mb : Nat) (L : List Signed) (hb : (cellC b 107 [.map (some mb)]).ok w) (hm : MapAt w mb signedV (Value.int .i64) (marks L)) (ta : Option Addr) (tc : Nat) (tx : List UInt8) (ht : ListAt encB 1 w (.slice ta tx.length tc) tx) (p m : Int) :
  Calls Try.prog 43 #[(.pointer (some ⟨b, 0, none⟩)), (.agg ⟨([(.int .i64 (p)), (.int .i64 (m))] : List Value)⟩), (.slice ta tx.length tc)] w fun e w' => e = .returned (.bool (rightB L p m tx)) ∧ Upd [] w w' := by
 have H := Sat.start0 w
 have hmk : (lookM (marks L) (⟨p, tx⟩ : Signed)).getD 0 = markOf L (⟨p, tx⟩ : Signed) := by rw [look_marks]; rfl
 refine calls_fr Try.func43 rfl 26 rfl (Nat.le_of_ble_eq_true rfl) ?_
 refine w_seq ?_
 refine w_lit ?_
 refine wl_do (wants0 rfl) (fun K1 hK1 => ?_)
 refine d_box (vs := ([(.int .i64 (p)), (.int .i64 (m))] : List Value)) rfl H rfl rfl ?_
 intro b2 w3 (H4 : Sat w [restC w (fun _ => False), cellC b2 42 ([(.int .i64 (p)), (.int .i64 (m))] : List Value)] w3)
 refine hK1 _ _ ?_
 clear hK1 K1
 refine wv 6 (.bool false) ?_
 refine w_nil ?_
 refine then_normal ?_
 refine w_seq ?_
 refine q_start H4 (by kernel_rfl) (by kernel_rfl) ?_
 refine qv 8 (pt b 0) ?_
 refine qv 9 (pt b 0) ?_
 refine qv 10 (pt b 0) ?_
 refine qv 11 (.map (some mb)) ?_ (hr := fun _ H' => (e_load1 rfl (by kernel_rfl) (H'.roCell 0 rfl hb (fun h => h) rfl)))
 refine qv 12 (pt b2 0) ?_
 refine qv 13 (.int .i64 (p)) ?_ (hr := fun _ H' => (e_load1 rfl (by kernel_rfl) (H'.cell 1 rfl rfl)))
 refine qv 14 (.slice ta tx.length tc) ?_
 refine qv 15 (strV tx) ?_ (hr := fun _ H' => (e_convBytes (e := 5) (s := tx) (by kernel_rfl) (by kernel_rfl) (by kernel_rfl) rfl (list_bytes (ListAt.now H' 0 rfl ht))))
 refine q_val (wants0 rfl) (d := 16) (v := (.agg ⟨([(.int .i64 (p)), (strV tx)] : List Value)⟩)) rfl (fun _ H' => (by kernel_rfl)) ?_
 refine qv 17 (.int .i64 ((lookM (marks L) (⟨p, tx⟩ : Signed)).getD 0)) ?_ (hr := fun _ H' => (e_lookup (kt := 111) (et := 3) signedK (by kernel_rfl) (fun w => by kernel_rfl) rfl (⟨p, tx⟩ : Signed) rfl (H'.roMap 0 rfl hm (fun h => h)) (optD (Value.int .i64) _ _)))
 refine qv 7 (.int .i64 ((lookM (marks L) (⟨p, tx⟩ : Signed)).getD 0)) ?_
 refine q_end ?_
 intro w5 H6
 refine then_normal ?_
 refine w_seq ?_
 refine w_lit ?_
 refine wv 18 (.int .i64 ((lookM (marks L) (⟨p, tx⟩ : Signed)).getD 0)) ?_
 refine wv 19 (.bool (decide (((lookM (marks L) (⟨p, tx⟩ : Signed)).getD 0) > 0))) ?_
 refine wv 20 (.bool (decide (((lookM (marks L) (⟨p, tx⟩ : Signed)).getD 0) > 0))) ?_
 refine (bsplit (decide (((lookM (marks L) (⟨p, tx⟩ : Signed)).getD 0) > 0))).elim (fun b7 => ?_) (fun b7 => ?_)
 ·have g8 := of_decide_eq_true b7
  refine wl_know 20 (.bool true) (congrArg Value.bool b7) ?_
  have g9 := of_decide_eq_true b7
  refine wy 2 20 true 21 (.int .i64 ((lookM (marks L) (⟨p, tx⟩ : Signed)).getD 0)) ?_
  refine wy 2 20 true 22 (pt b2 1) ?_
  refine wy 2 20 true 23 (.int .i64 (m)) ?_ (hr := e_load1 rfl (by kernel_rfl) (H6.cell 1 rfl rfl))
  refine wy 2 20 true 24 (.bool (decide (((lookM (marks L) (⟨p, tx⟩ : Signed)).getD 0) = m))) ?_
  refine wv 25 (.bool (decide (((lookM (marks L) (⟨p, tx⟩ : Signed)).getD 0) = m))) ?_
  refine wv 6 (.bool (decide (((lookM (marks L) (⟨p, tx⟩ : Signed)).getD 0) = m))) ?_
  refine w_nil ?_
  refine then_normal ?_
  refine w_ret ?_
  refine end1 rfl (res_tmp (v := (.bool (decide (((lookM (marks L) (⟨p, tx⟩ : Signed)).getD 0) = m)))) rfl) ?_
  exact ⟨by unfold rightB; rw [← hmk]; simp [b7], H6.upd 0 rfl [] (fun _ h => h.elim)⟩
 ·have g10 := of_decide_eq_false b7
  refine wl_know 20 (.bool false) (congrArg Value.bool b7) ?_
  have g11 := of_decide_eq_false b7
  iterate 4 refine wn 2 20 true ?_
  refine wv 25 (.bool false) ?_
  refine wv 6 (.bool false) ?_
  refine w_nil ?_
  refine then_normal ?_
  refine w_ret ?_
  refine end1 rfl (res_tmp (v := (.bool false)) rfl) ?_
  exact ⟨by unfold rightB; rw [← hmk]; simp [b7], H6.upd 0 rfl [] (fun _ h => h.elim)⟩

set_option maxRecDepth 100000 in
set_option maxHeartbeats 400000 in
theorem wN_any (w : World) (f cn : Int) (hf : -1099511627776 ≤ f ∧ f ≤ 1099511627776) :
  Calls Try.prog 64 #[(.agg ⟨([(.int .i64 (f)), (.int .i64 (cn))] : List Value)⟩)] w fun e w' => e = .returned (.int .i64 (3 * f + 1)) ∧ Upd [] w w' := by
 have H := Sat.start0 w
 refine calls_fr Try.func64 rfl 7 rfl (Nat.le_of_ble_eq_true rfl) ?_
 refine w_seq ?_
 refine w_lit ?_
 refine wl_do (wants0 rfl) (fun K1 hK1 => ?_)
 refine d_box (vs := ([(.int .i64 (f)), (.int .i64 (cn))] : List Value)) rfl H rfl rfl ?_
 intro b2 w3 (H4 : Sat w [restC w (fun _ => False), cellC b2 36 ([(.int .i64 (f)), (.int .i64 (cn))] : List Value)] w3)
 refine hK1 _ _ ?_
 clear hK1 K1
 refine wv 2 (.int .i64 (0)) ?_
 refine w_nil ?_
 refine then_normal ?_
 refine w_seq ?_
 refine w_lit ?_
 refine wv 3 (pt b2 0) ?_
 refine wv 4 (.int .i64 (f)) ?_ (hr := e_load1 rfl (by kernel_rfl) (H4.cell 1 rfl rfl))
 refine wv 5 (.int .i64 (3 * f)) ?_ (hr := e_int (z := 3 * f) (by kernel_rfl) (IntWalk.i64_in _ (by omega)))
 refine wv 6 (.int .i64 ((3 * f) + 1)) ?_ (hr := e_int (z := (3 * f) + 1) (by kernel_rfl) (IntWalk.i64_in _ (by omega)))
 refine wv 2 (.int .i64 ((3 * f) + 1)) ?_
 refine w_nil ?_
 refine then_normal ?_
 refine w_ret ?_
 refine end1 rfl (res_tmp (v := (.int .i64 ((3 * f) + 1))) rfl) ?_
 exact ⟨rfl, H4.upd 0 rfl [] (fun _ h => h.elim)⟩

set_option maxRecDepth 100000 in
set_option maxHeartbeats 400000 in
theorem wQ_any (w : World) (f cn : Int) (hf : -1099511627776 ≤ f ∧ f ≤ 1099511627776) :
  Calls Try.prog 39 #[(.agg ⟨([(.int .i64 (f)), (.int .i64 (cn))] : List Value)⟩)] w fun e w' => e = .returned (.int .i64 (2 * f + 1)) ∧ Upd [] w w' := by
 have H := Sat.start0 w
 refine calls_fr Try.func39 rfl 7 rfl (Nat.le_of_ble_eq_true rfl) ?_
 refine w_seq ?_
 refine w_lit ?_
 refine wl_do (wants0 rfl) (fun K1 hK1 => ?_)
 refine d_box (vs := ([(.int .i64 (f)), (.int .i64 (cn))] : List Value)) rfl H rfl rfl ?_
 intro b2 w3 (H4 : Sat w [restC w (fun _ => False), cellC b2 36 ([(.int .i64 (f)), (.int .i64 (cn))] : List Value)] w3)
 refine hK1 _ _ ?_
 clear hK1 K1
 refine wv 2 (.int .i64 (0)) ?_
 refine w_nil ?_
 refine then_normal ?_
 refine w_seq ?_
 refine w_lit ?_
 refine wv 3 (pt b2 0) ?_
 refine wv 4 (.int .i64 (f)) ?_ (hr := e_load1 rfl (by kernel_rfl) (H4.cell 1 rfl rfl))
 refine wv 5 (.int .i64 (2 * f)) ?_ (hr := e_int (z := 2 * f) (by kernel_rfl) (IntWalk.i64_in _ (by omega)))
 refine wv 6 (.int .i64 ((2 * f) + 1)) ?_ (hr := e_int (z := (2 * f) + 1) (by kernel_rfl) (IntWalk.i64_in _ (by omega)))
 refine wv 2 (.int .i64 ((2 * f) + 1)) ?_
 refine w_nil ?_
 refine then_normal ?_
 refine w_ret ?_
 refine end1 rfl (res_tmp (v := (.int .i64 ((2 * f) + 1))) rfl) ?_
 exact ⟨rfl, H4.upd 0 rfl [] (fun _ h => h.elim)⟩

set_option maxRecDepth 100000 in
set_option maxHeartbeats 400000 in
theorem wIn_any (w : World) (f cn r : Int) (hf : -1099511627776 ≤ f ∧ f ≤ 1099511627776) :
  Calls Try.prog 42 #[(.agg ⟨([(.int .i64 (f)), (.int .i64 (cn))] : List Value)⟩), (.int .i64 (r))] w fun e w' => e = .returned (.bool (inB f r)) ∧ Upd [] w w' := by
 have H := Sat.start0 w
 refine calls_fr Try.func42 rfl 13 rfl (Nat.le_of_ble_eq_true rfl) ?_
 refine w_seq ?_
 refine w_lit ?_
 refine wl_do (wants0 rfl) (fun K1 hK1 => ?_)
 refine d_box (vs := ([(.int .i64 (f)), (.int .i64 (cn))] : List Value)) rfl H rfl rfl ?_
 intro b2 w3 (H4 : Sat w [restC w (fun _ => False), cellC b2 36 ([(.int .i64 (f)), (.int .i64 (cn))] : List Value)] w3)
 refine hK1 _ _ ?_
 clear hK1 K1
 refine wv 4 (.bool false) ?_
 refine w_nil ?_
 refine then_normal ?_
 refine wp_meetR [4, 5, 6, 7, 8, 9, 10, 11, 12] (fun G_ W_ => G_ 4 = (.bool (inB f r)) ∧ Sat w [restC w (fun _ => False), cellC b2 36 ([(.int .i64 (f)), (.int .i64 (cn))] : List Value)] W_) ?_ ?_
 ·refine w_lit ?_
  refine wv 5 (.int .i64 (r)) ?_
  refine wv 6 (.bool (decide (r ≥ 0))) ?_
  refine wv 7 (.bool (decide (r ≥ 0))) ?_
  refine (bsplit (decide (r ≥ 0))).elim (fun b6 => ?_) (fun b6 => ?_)
  ·have g7 := of_decide_eq_true b6
   refine wl_know 7 (.bool true) (congrArg Value.bool b6) ?_
   refine wy 2 7 true 8 (.int .i64 (r)) ?_
   refine wy 2 7 true 9 (.agg ⟨([(.int .i64 (f)), (.int .i64 (cn))] : List Value)⟩) ?_ (hr := e_loadN (vs := ([(.int .i64 (f)), (.int .i64 (cn))] : List Value)) rfl (by kernel_rfl) (by kernel_rfl) (by exact Nat.le_of_ble_eq_true (by kernel_rfl)) (H4.at 1 rfl) (by kernel_rfl))
   refine wl_do (wantsY 2 7 true rfl (by kernel_rfl) rfl (by kernel_rfl)) (fun K8 hK8 => ?_)
   refine d_call (d := 10) rfl (by kernel_rfl) (wN_any w3 f cn (by omega)) ?_
   rintro _ w9 ⟨rfl, u11⟩
   have H10 := H4.keepU u11
   refine ⟨_, rfl, ?_⟩
   refine hK8 _ _ ?_
   clear hK8 K8
   refine wy 2 7 true 11 (.bool (decide (r < (3 * f + 1)))) ?_
   refine wv 12 (.bool (decide (r < (3 * f + 1)))) ?_
   refine wv 4 (.bool (decide (r < (3 * f + 1)))) ?_
   refine w_nil ?_
   refine meetR_at ?_ ⟨(congrArg Value.bool (show (decide (r < (3 * f + 1))) = (inB f r) by simp [inB, b6])), H10⟩
   exact (same_upd rfl (same_upd rfl (same_upd rfl (same_upd rfl (same_upd rfl (same_upd rfl (same_upd rfl (same_upd rfl (same_upd rfl (same_upd rfl (same_refl)))))))))))
  ·have g12 := of_decide_eq_false b6
   refine wl_know 7 (.bool false) (congrArg Value.bool b6) ?_
   iterate 4 refine wn 2 7 true ?_
   refine wv 12 (.bool false) ?_
   refine wv 4 (.bool false) ?_
   refine w_nil ?_
   refine meetR_at ?_ ⟨(congrArg Value.bool (show false = (inB f r) by simp [inB, b6])), H4⟩
   exact (same_upd rfl (same_upd rfl (same_upd rfl (same_upd rfl (same_upd rfl (same_upd rfl (same_upd rfl (same_upd rfl (same_upd rfl (same_upd rfl (same_refl)))))))))))
 ·rintro f13 w14 ⟨v16, H15⟩
  refine wp_know 4 _ v16 ?_
  refine w_ret ?_
  refine end1 rfl (res_tmp (v := (.bool (inB f r))) rfl) ?_
  exact ⟨rfl, H15.upd 0 rfl [] (fun _ h => h.elim)⟩

set_option maxRecDepth 100000 in
set_option maxHeartbeats 1000000 in
theorem wValid_any (w : World) (f cn : Int) (x : CommitD) :
  Calls Try.prog 60 #[(.agg ⟨([(.int .i64 (f)), (.int .i64 (cn))] : List Value)⟩), (.agg ⟨(([(.int .i64 (x.cl)), (.int .i64 (x.seq))] : List Value) ++ hc x.h ++ ([(.int .i64 (x.len)), (.int .i64 (x.sb)), (.int .i64 (x.sm))] : List Value))⟩)] w fun e w' => e = .returned (.bool (validC cn x)) ∧ Upd [] w w' := by
 have H := Sat.start0 w
 refine calls_fr Try.func60 rfl 38 rfl (Nat.le_of_ble_eq_true rfl) ?_
 refine w_seq ?_
 refine w_lit ?_
 refine wl_do (wants0 rfl) (fun K1 hK1 => ?_)
 refine d_box (vs := ([(.int .i64 (f)), (.int .i64 (cn))] : List Value)) rfl H rfl rfl ?_
 intro b2 w3 (H4 : Sat w [restC w (fun _ => False), cellC b2 36 ([(.int .i64 (f)), (.int .i64 (cn))] : List Value)] w3)
 refine hK1 _ _ ?_
 clear hK1 K1
 refine wl_do (wants0 rfl) (fun K5 hK5 => ?_)
 refine d_box (vs := (([(.int .i64 (x.cl)), (.int .i64 (x.seq))] : List Value) ++ hc x.h ++ ([(.int .i64 (x.len)), (.int .i64 (x.sb)), (.int .i64 (x.sm))] : List Value))) rfl H4 rfl rfl ?_
 intro b6 w7 (H8 : Sat w [restC w (fun _ => False), cellC b2 36 ([(.int .i64 (f)), (.int .i64 (cn))] : List Value), cellC b6 44 (([(.int .i64 (x.cl)), (.int .i64 (x.seq))] : List Value) ++ hc x.h ++ ([(.int .i64 (x.len)), (.int .i64 (x.sb)), (.int .i64 (x.sm))] : List Value))] w7)
 refine hK5 _ _ ?_
 clear hK5 K5
 refine wv 4 (.bool false) ?_
 refine w_nil ?_
 refine then_normal ?_
 refine w_seq ?_
 refine w_lit ?_
 refine wv 6 (pt b6 0) ?_
 refine wv 7 (.agg ⟨([(.int .i64 (x.cl)), (.int .i64 (x.seq))] : List Value)⟩) ?_ (hr := e_loadN (vs := ([(.int .i64 (x.cl)), (.int .i64 (x.seq))] : List Value)) rfl (by kernel_rfl) (by kernel_rfl) (by exact Nat.le_of_ble_eq_true (by kernel_rfl)) (H8.at 2 rfl) (by kernel_rfl))
 refine wl_do (wants0 rfl) (fun K9 hK9 => ?_)
 refine d_alloc (zs := ([(.int .i64 (0)), (.int .i64 (0))] : List Value)) (z := (.agg ⟨([(.int .i64 (0)), (.int .i64 (0))] : List Value)⟩)) rfl H8 (by kernel_rfl) (by kernel_rfl) ?_
 intro b10 w11 (H12 : Sat w [restC w (fun _ => False), cellC b2 36 ([(.int .i64 (f)), (.int .i64 (cn))] : List Value), cellC b6 44 (([(.int .i64 (x.cl)), (.int .i64 (x.seq))] : List Value) ++ hc x.h ++ ([(.int .i64 (x.len)), (.int .i64 (x.sb)), (.int .i64 (x.sm))] : List Value)), cellC b10 38 ([(.int .i64 (0)), (.int .i64 (0))] : List Value)] w11)
 refine hK9 _ _ ?_
 clear hK9 K9
 refine wl_do (wants0 rfl) (fun K13 hK13 => ?_)
 refine d_storeX (vs := ([(.int .i64 (x.cl)), (.int .i64 (x.seq))] : List Value)) (cs' := ([(.int .i64 (x.cl)), (.int .i64 (x.seq))] : List Value)) rfl H12 3 rfl rfl rfl rfl (by kernel_rfl) (Nat.le_of_ble_eq_true (by kernel_rfl)) (Nat.le_of_ble_eq_true (by kernel_rfl)) (by kernel_rfl) (by kernel_rfl) ?_
 intro w14 (H15 : Sat w [restC w (fun _ => False), cellC b2 36 ([(.int .i64 (f)), (.int .i64 (cn))] : List Value), cellC b6 44 (([(.int .i64 (x.cl)), (.int .i64 (x.seq))] : List Value) ++ hc x.h ++ ([(.int .i64 (x.len)), (.int .i64 (x.sb)), (.int .i64 (x.sm))] : List Value)), cellC b10 38 ([(.int .i64 (x.cl)), (.int .i64 (x.seq))] : List Value)] w14)
 refine hK13 _ _ ?_
 clear hK13 K13
 refine w_nil ?_
 refine then_normal ?_
 refine wp_meetR [4, 8, 9, 10, 11, 12, 13, 14, 15, 16, 17, 18, 19, 20, 21, 22, 23, 24, 25, 26, 27, 28, 29, 30, 31, 32, 33, 34, 35, 36, 37] (fun G_ W_ => G_ 4 = (.bool (validC cn x)) ∧ Sat w [restC w (fun _ => False), cellC b2 36 ([(.int .i64 (f)), (.int .i64 (cn))] : List Value), cellC b6 44 (([(.int .i64 (x.cl)), (.int .i64 (x.seq))] : List Value) ++ hc x.h ++ ([(.int .i64 (x.len)), (.int .i64 (x.sb)), (.int .i64 (x.sm))] : List Value)), cellC b10 38 ([(.int .i64 (x.cl)), (.int .i64 (x.seq))] : List Value)] W_) ?_ ?_
 ·refine w_lit ?_
  refine wv 8 (pt b10 0) ?_
  refine wv 9 (.int .i64 (x.cl)) ?_ (hr := e_load1 rfl (by kernel_rfl) (H15.cell 3 rfl rfl))
  refine wv 10 (.bool (decide (x.cl ≥ 0))) ?_
  refine wv 11 (.bool (decide (x.cl ≥ 0))) ?_
  refine (bsplit (decide (x.cl ≥ 0))).elim (fun b18 => ?_) (fun b18 => ?_)
  ·have g19 := of_decide_eq_true b18
   refine wl_know 11 (.bool true) (congrArg Value.bool b18) ?_
   refine wy 3 11 true 12 (pt b10 0) ?_
   refine wy 3 11 true 13 (.int .i64 (x.cl)) ?_ (hr := e_load1 rfl (by kernel_rfl) (H15.cell 3 rfl rfl))
   refine wy 3 11 true 14 (pt b2 1) ?_
   refine wy 3 11 true 15 (.int .i64 (cn)) ?_ (hr := e_load1 rfl (by kernel_rfl) (H15.cell 1 rfl rfl))
   refine wy 3 11 true 16 (.bool (decide (x.cl < cn))) ?_
   refine wv 17 (.bool (decide (x.cl < cn))) ?_
   refine wv 18 (.bool (decide (x.cl < cn))) ?_
   refine (bsplit (decide (x.cl < cn))).elim (fun b20 => ?_) (fun b20 => ?_)
   ·have g21 := of_decide_eq_true b20
    refine wl_know 18 (.bool true) (congrArg Value.bool b20) ?_
    refine wy 10 18 true 19 (pt b10 1) ?_
    refine wy 10 18 true 20 (.int .i64 (x.seq)) ?_ (hr := e_load1 rfl (by kernel_rfl) (H15.cell 3 rfl rfl))
    refine wy 10 18 true 21 (.bool (decide (x.seq ≥ 1))) ?_
    refine wv 22 (.bool (decide (x.seq ≥ 1))) ?_
    refine wv 23 (.bool (decide (x.seq ≥ 1))) ?_
    refine (bsplit (decide (x.seq ≥ 1))).elim (fun b22 => ?_) (fun b22 => ?_)
    ·have g23 := of_decide_eq_true b22
     refine wl_know 23 (.bool true) (congrArg Value.bool b22) ?_
     refine wy 15 23 true 24 (pt b10 1) ?_
     refine wy 15 23 true 25 (.int .i64 (x.seq)) ?_ (hr := e_load1 rfl (by kernel_rfl) (H15.cell 3 rfl rfl))
     refine wy 15 23 true 26 (.bool (decide (x.seq ≤ 1048576))) ?_
     refine wv 27 (.bool (decide (x.seq ≤ 1048576))) ?_
     refine wv 28 (.bool (decide (x.seq ≤ 1048576))) ?_
     refine (bsplit (decide (x.seq ≤ 1048576))).elim (fun b24 => ?_) (fun b24 => ?_)
     ·have g25 := of_decide_eq_true b24
      refine wl_know 28 (.bool true) (congrArg Value.bool b24) ?_
      refine wy 20 28 true 29 (pt b6 34) ?_
      refine wy 20 28 true 30 (.int .i64 (x.len)) ?_ (hr := e_load1 rfl (by kernel_rfl) (H15.cell 2 rfl (by kernel_rfl)))
      refine wy 20 28 true 31 (.bool (decide (x.len ≥ 0))) ?_
      refine wv 32 (.bool (decide (x.len ≥ 0))) ?_
      refine wv 33 (.bool (decide (x.len ≥ 0))) ?_
      refine (bsplit (decide (x.len ≥ 0))).elim (fun b26 => ?_) (fun b26 => ?_)
      ·have g27 := of_decide_eq_true b26
       refine wl_know 33 (.bool true) (congrArg Value.bool b26) ?_
       refine wy 25 33 true 34 (pt b6 34) ?_
       refine wy 25 33 true 35 (.int .i64 (x.len)) ?_ (hr := e_load1 rfl (by kernel_rfl) (H15.cell 2 rfl (by kernel_rfl)))
       refine wy 25 33 true 36 (.bool (decide (x.len ≤ 256))) ?_
       refine wv 37 (.bool (decide (x.len ≤ 256))) ?_
       refine wv 4 (.bool (decide (x.len ≤ 256))) ?_
       refine w_nil ?_
       refine meetR_at ?_ ⟨(congrArg Value.bool (show (decide (x.len ≤ 256)) = (validC cn x) by simp [validC, b18, b20, b22, b24, b26])), H15⟩
       exact (same_upd rfl (same_upd rfl (same_upd rfl (same_upd rfl (same_upd rfl (same_upd rfl (same_upd rfl (same_upd rfl (same_upd rfl (same_upd rfl (same_upd rfl (same_upd rfl (same_upd rfl (same_upd rfl (same_upd rfl (same_upd rfl (same_upd rfl (same_upd rfl (same_upd rfl (same_upd rfl (same_upd rfl (same_upd rfl (same_upd rfl (same_upd rfl (same_upd rfl (same_upd rfl (same_upd rfl (same_upd rfl (same_upd rfl (same_upd rfl (same_upd rfl (same_upd rfl (same_upd rfl (same_upd rfl (same_upd rfl (same_upd rfl (same_refl)))))))))))))))))))))))))))))))))))))
      ·have g28 := of_decide_eq_false b26
       refine wl_know 33 (.bool false) (congrArg Value.bool b26) ?_
       iterate 3 refine wn 25 33 true ?_
       refine wv 37 (.bool false) ?_
       refine wv 4 (.bool false) ?_
       refine w_nil ?_
       refine meetR_at ?_ ⟨(congrArg Value.bool (show false = (validC cn x) by simp [validC, b18, b20, b22, b24, b26])), H15⟩
       exact (same_upd rfl (same_upd rfl (same_upd rfl (same_upd rfl (same_upd rfl (same_upd rfl (same_upd rfl (same_upd rfl (same_upd rfl (same_upd rfl (same_upd rfl (same_upd rfl (same_upd rfl (same_upd rfl (same_upd rfl (same_upd rfl (same_upd rfl (same_upd rfl (same_upd rfl (same_upd rfl (same_upd rfl (same_upd rfl (same_upd rfl (same_upd rfl (same_upd rfl (same_upd rfl (same_upd rfl (same_upd rfl (same_upd rfl (same_upd rfl (same_upd rfl (same_upd rfl (same_upd rfl (same_upd rfl (same_upd rfl (same_upd rfl (same_refl)))))))))))))))))))))))))))))))))))))
     ·have g29 := of_decide_eq_false b24
      refine wl_know 28 (.bool false) (congrArg Value.bool b24) ?_
      iterate 3 refine wn 20 28 true ?_
      refine wv 32 (.bool false) ?_
      refine wv 33 (.bool false) ?_
      iterate 3 refine wn 25 33 true ?_
      refine wv 37 (.bool false) ?_
      refine wv 4 (.bool false) ?_
      refine w_nil ?_
      refine meetR_at ?_ ⟨(congrArg Value.bool (show false = (validC cn x) by simp [validC, b18, b20, b22, b24])), H15⟩
      exact (same_upd rfl (same_upd rfl (same_upd rfl (same_upd rfl (same_upd rfl (same_upd rfl (same_upd rfl (same_upd rfl (same_upd rfl (same_upd rfl (same_upd rfl (same_upd rfl (same_upd rfl (same_upd rfl (same_upd rfl (same_upd rfl (same_upd rfl (same_upd rfl (same_upd rfl (same_upd rfl (same_upd rfl (same_upd rfl (same_upd rfl (same_upd rfl (same_upd rfl (same_upd rfl (same_upd rfl (same_upd rfl (same_upd rfl (same_upd rfl (same_upd rfl (same_upd rfl (same_upd rfl (same_upd rfl (same_upd rfl (same_refl))))))))))))))))))))))))))))))))))))
    ·have g30 := of_decide_eq_false b22
     refine wl_know 23 (.bool false) (congrArg Value.bool b22) ?_
     iterate 3 refine wn 15 23 true ?_
     refine wv 27 (.bool false) ?_
     refine wv 28 (.bool false) ?_
     iterate 3 refine wn 20 28 true ?_
     refine wv 32 (.bool false) ?_
     refine wv 33 (.bool false) ?_
     iterate 3 refine wn 25 33 true ?_
     refine wv 37 (.bool false) ?_
     refine wv 4 (.bool false) ?_
     refine w_nil ?_
     refine meetR_at ?_ ⟨(congrArg Value.bool (show false = (validC cn x) by simp [validC, b18, b20, b22])), H15⟩
     exact (same_upd rfl (same_upd rfl (same_upd rfl (same_upd rfl (same_upd rfl (same_upd rfl (same_upd rfl (same_upd rfl (same_upd rfl (same_upd rfl (same_upd rfl (same_upd rfl (same_upd rfl (same_upd rfl (same_upd rfl (same_upd rfl (same_upd rfl (same_upd rfl (same_upd rfl (same_upd rfl (same_upd rfl (same_upd rfl (same_upd rfl (same_upd rfl (same_upd rfl (same_upd rfl (same_upd rfl (same_upd rfl (same_upd rfl (same_upd rfl (same_upd rfl (same_upd rfl (same_upd rfl (same_upd rfl (same_refl)))))))))))))))))))))))))))))))))))
   ·have g31 := of_decide_eq_false b20
    refine wl_know 18 (.bool false) (congrArg Value.bool b20) ?_
    iterate 3 refine wn 10 18 true ?_
    refine wv 22 (.bool false) ?_
    refine wv 23 (.bool false) ?_
    iterate 3 refine wn 15 23 true ?_
    refine wv 27 (.bool false) ?_
    refine wv 28 (.bool false) ?_
    iterate 3 refine wn 20 28 true ?_
    refine wv 32 (.bool false) ?_
    refine wv 33 (.bool false) ?_
    iterate 3 refine wn 25 33 true ?_
    refine wv 37 (.bool false) ?_
    refine wv 4 (.bool false) ?_
    refine w_nil ?_
    refine meetR_at ?_ ⟨(congrArg Value.bool (show false = (validC cn x) by simp [validC, b18, b20])), H15⟩
    exact (same_upd rfl (same_upd rfl (same_upd rfl (same_upd rfl (same_upd rfl (same_upd rfl (same_upd rfl (same_upd rfl (same_upd rfl (same_upd rfl (same_upd rfl (same_upd rfl (same_upd rfl (same_upd rfl (same_upd rfl (same_upd rfl (same_upd rfl (same_upd rfl (same_upd rfl (same_upd rfl (same_upd rfl (same_upd rfl (same_upd rfl (same_upd rfl (same_upd rfl (same_upd rfl (same_upd rfl (same_upd rfl (same_upd rfl (same_upd rfl (same_upd rfl (same_upd rfl (same_upd rfl (same_refl))))))))))))))))))))))))))))))))))
  ·have g32 := of_decide_eq_false b18
   refine wl_know 11 (.bool false) (congrArg Value.bool b18) ?_
   iterate 5 refine wn 3 11 true ?_
   refine wv 17 (.bool false) ?_
   refine wv 18 (.bool false) ?_
   iterate 3 refine wn 10 18 true ?_
   refine wv 22 (.bool false) ?_
   refine wv 23 (.bool false) ?_
   iterate 3 refine wn 15 23 true ?_
   refine wv 27 (.bool false) ?_
   refine wv 28 (.bool false) ?_
   iterate 3 refine wn 20 28 true ?_
   refine wv 32 (.bool false) ?_
   refine wv 33 (.bool false) ?_
   iterate 3 refine wn 25 33 true ?_
   refine wv 37 (.bool false) ?_
   refine wv 4 (.bool false) ?_
   refine w_nil ?_
   refine meetR_at ?_ ⟨(congrArg Value.bool (show false = (validC cn x) by simp [validC, b18])), H15⟩
   exact (same_upd rfl (same_upd rfl (same_upd rfl (same_upd rfl (same_upd rfl (same_upd rfl (same_upd rfl (same_upd rfl (same_upd rfl (same_upd rfl (same_upd rfl (same_upd rfl (same_upd rfl (same_upd rfl (same_upd rfl (same_upd rfl (same_upd rfl (same_upd rfl (same_upd rfl (same_upd rfl (same_upd rfl (same_upd rfl (same_upd rfl (same_upd rfl (same_upd rfl (same_upd rfl (same_upd rfl (same_upd rfl (same_upd rfl (same_upd rfl (same_upd rfl (same_upd rfl (same_refl)))))))))))))))))))))))))))))))))
 ·rintro f33 w34 ⟨v36, H35⟩
  refine wp_know 4 _ v36 ?_
  refine w_ret ?_
  refine end1 rfl (res_tmp (v := (.bool (validC cn x))) rfl) ?_
  exact ⟨rfl, H35.upd 0 rfl [] (fun _ h => h.elim)⟩

set_option maxRecDepth 100000 in
set_option maxHeartbeats 400000 in
theorem wSigner_any (w : World) (c : Int) :
  Calls Try.prog 61 #[(.int .i64 (c))] w fun e w' => e = .returned (.int .i64 (IntKind.i64.wrap (1000 + c))) ∧ Upd [] w w' := by
 have H := Sat.start0 w
 refine calls_fr Try.func61 rfl 5 rfl (Nat.le_of_ble_eq_true rfl) ?_
 refine w_seq ?_
 refine w_lit ?_
 refine wv 2 (.int .i64 (0)) ?_
 refine w_nil ?_
 refine then_normal ?_
 refine w_seq ?_
 refine w_lit ?_
 refine wv 3 (.int .i64 (c)) ?_
 refine wv 4 (.int .i64 (IntKind.i64.wrap (1000 + c))) ?_
 refine wv 2 (.int .i64 (IntKind.i64.wrap (1000 + c))) ?_
 refine w_nil ?_
 refine then_normal ?_
 refine w_ret ?_
 refine end1 rfl (res_tmp (v := (.int .i64 (IntKind.i64.wrap (1000 + c)))) rfl) ?_
 exact ⟨rfl, H.upd 0 rfl [] (fun _ h => h.elim)⟩

set_option maxRecDepth 100000 in
set_option maxHeartbeats 1000000 in
theorem wRightC_any (w : World) (f cn : Int) (_hf : -1099511627776 ≤ f ∧ f ≤ 1099511627776) (b mb : Nat) (L : List Signed) (hb : (cellC b 107 [.map (some mb)]).ok w) (hm : MapAt w mb signedV (Value.int .i64) (marks L)) (s : CommitD) (hs : CoOk s) :
  Calls Try.prog 38 #[(.agg ⟨([(.int .i64 (f)), (.int .i64 (cn))] : List Value)⟩), (.pointer (some ⟨b, 0, none⟩)), (.agg ⟨(([(.int .i64 (s.cl)), (.int .i64 (s.seq))] : List Value) ++ hc s.h ++ ([(.int .i64 (s.len)), (.int .i64 (s.sb)), (.int .i64 (s.sm))] : List Value))⟩)] w fun e w' => e = .returned (.bool (rightC cn L s)) ∧ Upd [] w w' := by
 have H := Sat.start0 w
 have hs2 := hs
 unfold CoOk at hs2
 refine calls_fr Try.func38 rfl 28 rfl (Nat.le_of_ble_eq_true rfl) ?_
 refine w_seq ?_
 refine w_lit ?_
 refine wl_do (wants0 rfl) (fun K1 hK1 => ?_)
 refine d_box (vs := ([(.int .i64 (f)), (.int .i64 (cn))] : List Value)) rfl H rfl rfl ?_
 intro b2 w3 (H4 : Sat w [restC w (fun _ => False), cellC b2 36 ([(.int .i64 (f)), (.int .i64 (cn))] : List Value)] w3)
 refine hK1 _ _ ?_
 clear hK1 K1
 refine wl_do (wants0 rfl) (fun K5 hK5 => ?_)
 refine d_box (vs := (([(.int .i64 (s.cl)), (.int .i64 (s.seq))] : List Value) ++ hc s.h ++ ([(.int .i64 (s.len)), (.int .i64 (s.sb)), (.int .i64 (s.sm))] : List Value))) rfl H4 rfl rfl ?_
 intro b6 w7 (H8 : Sat w [restC w (fun _ => False), cellC b2 36 ([(.int .i64 (f)), (.int .i64 (cn))] : List Value), cellC b6 44 (([(.int .i64 (s.cl)), (.int .i64 (s.seq))] : List Value) ++ hc s.h ++ ([(.int .i64 (s.len)), (.int .i64 (s.sb)), (.int .i64 (s.sm))] : List Value))] w7)
 refine hK5 _ _ ?_
 clear hK5 K5
 refine wv 6 (.bool false) ?_
 refine w_nil ?_
 refine then_normal ?_
 refine w_seq ?_
 refine h_start H8 [restC w (fun _ => False), cellC b2 36 ([(.int .i64 (f)), (.int .i64 (cn))] : List Value), cellC b6 44 (([(.int .i64 (s.cl)), (.int .i64 (s.seq))] : List Value) ++ hc s.h ++ ([(.int .i64 (s.len)), (.int .i64 (s.sb)), (.int .i64 (s.sm))] : List Value))] 22 rfl (by kernel_rfl) (fun Hx => (Hx.pick [0, 1, 2] (by decide))) ?_
 intro w9 H10 S11
 refine hv0 0 S11 7 (.agg ⟨([(.int .i64 (f)), (.int .i64 (cn))] : List Value)⟩) ?_ (he := fun _ H' => (e_loadN (vs := ([(.int .i64 (f)), (.int .i64 (cn))] : List Value)) rfl (by kernel_rfl) (by kernel_rfl) (by exact Nat.le_of_ble_eq_true (by kernel_rfl)) (H'.at 1 rfl) (by kernel_rfl)))
 refine hv0 1 S11 8 (.agg ⟨(([(.int .i64 (s.cl)), (.int .i64 (s.seq))] : List Value) ++ hc s.h ++ ([(.int .i64 (s.len)), (.int .i64 (s.sb)), (.int .i64 (s.sm))] : List Value))⟩) ?_ (he := fun _ H' => (e_loadN (vs := (([(.int .i64 (s.cl)), (.int .i64 (s.seq))] : List Value) ++ hc s.h ++ ([(.int .i64 (s.len)), (.int .i64 (s.sb)), (.int .i64 (s.sm))] : List Value))) rfl (by kernel_rfl) (by kernel_rfl) (by exact Nat.le_of_ble_eq_true (by kernel_rfl)) (H'.at 2 rfl) (by kernel_rfl)))
 refine h_do 2 rfl (by kernel_rfl) (wants0 rfl) (fun K12 hK12 => ?_)
 refine d_call (d := 9) rfl (by kernel_rfl) (wValid_any w9 f cn s) ?_
 rintro _ w13 ⟨rfl, u15⟩
 have H14 := H10.keepU u15
 refine ⟨_, rfl, ?_⟩
 have S16 := H14.pick [0, 1, 2] (by decide)
 refine hK12 _ _ S16 ?_
 clear hK12 K12
 refine hv0 3 S16 10 (.bool (validC cn s)) ?_
 refine (bsplit (validC cn s)).elim (fun b17 => ?_) (fun b17 => ?_)
 ·refine h_know 10 (.bool true) (congrArg Value.bool b17) ?_
  refine h_val 4 rfl (by kernel_rfl) (by kernel_rfl) (by kernel_rfl) (fun _ _ _ h => h) S16 (wantsY 3 10 true rfl (by kernel_rfl) rfl (by kernel_rfl)) (d := 11) (v := (pt b6 35)) rfl (fun _ H' => (by kernel_rfl)) ?_
  refine h_val 5 rfl (by kernel_rfl) (by kernel_rfl) (by kernel_rfl) (fun _ _ _ h => h) S16 (wantsY 3 10 true rfl (by kernel_rfl) rfl (by kernel_rfl)) (d := 12) (v := (pt b6 35)) rfl (fun _ H' => (by kernel_rfl)) ?_
  refine h_val 6 rfl (by kernel_rfl) (by kernel_rfl) (by kernel_rfl) (fun _ _ _ h => h) S16 (wantsY 3 10 true rfl (by kernel_rfl) rfl (by kernel_rfl)) (d := 13) (v := (.int .i64 (s.sb))) rfl (fun _ H' => (e_load1 rfl (by kernel_rfl) (H'.cell 2 rfl (by kernel_rfl)))) ?_
  refine h_val 7 rfl (by kernel_rfl) (by kernel_rfl) (by kernel_rfl) (fun _ _ _ h => h) S16 (wantsY 3 10 true rfl (by kernel_rfl) rfl (by kernel_rfl)) (d := 14) (v := (pt b6 0)) rfl (fun _ H' => (by kernel_rfl)) ?_
  refine h_val 8 rfl (by kernel_rfl) (by kernel_rfl) (by kernel_rfl) (fun _ _ _ h => h) S16 (wantsY 3 10 true rfl (by kernel_rfl) rfl (by kernel_rfl)) (d := 15) (v := (pt b6 0)) rfl (fun _ H' => (by kernel_rfl)) ?_
  refine h_val 9 rfl (by kernel_rfl) (by kernel_rfl) (by kernel_rfl) (fun _ _ _ h => h) S16 (wantsY 3 10 true rfl (by kernel_rfl) rfl (by kernel_rfl)) (d := 16) (v := (.int .i64 (s.cl))) rfl (fun _ H' => (e_load1 rfl (by kernel_rfl) (H'.cell 2 rfl (by kernel_rfl)))) ?_
  refine h_do 10 rfl (by kernel_rfl) (wantsY 3 10 true rfl (by kernel_rfl) rfl (by kernel_rfl)) (fun K18 hK18 => ?_)
  refine d_call (d := 17) rfl (by kernel_rfl) (wSigner_any w13 s.cl) ?_
  rintro _ w19 ⟨rfl, u21⟩
  have H20 := H14.keepU u21
  refine ⟨_, rfl, ?_⟩
  have S22 := H20.pick [0, 1, 2] (by decide)
  refine hK18 _ _ S22 ?_
  clear hK18 K18
  refine h_val 11 rfl (by kernel_rfl) (by kernel_rfl) (by kernel_rfl) (fun _ _ _ h => h) S22 (wantsY 3 10 true rfl (by kernel_rfl) rfl (by kernel_rfl)) (d := 18) (v := (.bool (decide (s.sb = (IntKind.i64.wrap (1000 + s.cl)))))) rfl (fun _ H' => (by kernel_rfl)) ?_
  refine hv0 12 S22 19 (.bool (decide (s.sb = (IntKind.i64.wrap (1000 + s.cl))))) ?_
  refine hv0 13 S22 20 (.bool (decide (s.sb = (IntKind.i64.wrap (1000 + s.cl))))) ?_
  refine (bsplit (decide (s.sb = (IntKind.i64.wrap (1000 + s.cl))))).elim (fun b23 => ?_) (fun b23 => ?_)
  ·have g24 := of_decide_eq_true b23
   refine h_know 20 (.bool true) (congrArg Value.bool b23) ?_
   have g25 := of_decide_eq_true b23
   refine h_val 14 rfl (by kernel_rfl) (by kernel_rfl) (by kernel_rfl) (fun _ _ _ h => h) S22 (wantsY 13 20 true rfl (by kernel_rfl) rfl (by kernel_rfl)) (d := 21) (v := (pt b 0)) rfl (fun _ H' => (by kernel_rfl)) ?_
   refine h_val 15 rfl (by kernel_rfl) (by kernel_rfl) (by kernel_rfl) (fun _ _ _ h => h) S22 (wantsY 13 20 true rfl (by kernel_rfl) rfl (by kernel_rfl)) (d := 22) (v := (pt b6 35)) rfl (fun _ H' => (by kernel_rfl)) ?_
   refine h_val 16 rfl (by kernel_rfl) (by kernel_rfl) (by kernel_rfl) (fun _ _ _ h => h) S22 (wantsY 13 20 true rfl (by kernel_rfl) rfl (by kernel_rfl)) (d := 23) (v := (.agg ⟨([(.int .i64 (s.sb)), (.int .i64 (s.sm))] : List Value)⟩)) rfl (fun _ H' => (e_loadN (vs := ([(.int .i64 (s.sb)), (.int .i64 (s.sm))] : List Value)) rfl (by kernel_rfl) (by kernel_rfl) (by exact Nat.le_of_ble_eq_true (by kernel_rfl)) (H'.at 2 rfl) (by kernel_rfl))) ?_
   refine h_val 17 rfl (by kernel_rfl) (by kernel_rfl) (by kernel_rfl) (fun _ _ _ h => h) S22 (wantsY 13 20 true rfl (by kernel_rfl) rfl (by kernel_rfl)) (d := 24) (v := (.agg ⟨(([(.int .i64 (s.cl)), (.int .i64 (s.seq))] : List Value) ++ hc s.h ++ ([(.int .i64 (s.len)), (.int .i64 (s.sb)), (.int .i64 (s.sm))] : List Value))⟩)) rfl (fun _ H' => (e_loadN (vs := (([(.int .i64 (s.cl)), (.int .i64 (s.seq))] : List Value) ++ hc s.h ++ ([(.int .i64 (s.len)), (.int .i64 (s.sb)), (.int .i64 (s.sm))] : List Value))) rfl (by kernel_rfl) (by kernel_rfl) (by exact Nat.le_of_ble_eq_true (by kernel_rfl)) (H'.at 2 rfl) (by kernel_rfl))) ?_
   refine h_do 18 rfl (by kernel_rfl) (wantsY 13 20 true rfl (by kernel_rfl) rfl (by kernel_rfl)) (fun K26 hK26 => ?_)
   refine d_call (d := 25) rfl (by kernel_rfl) (wCommitText_any w19 s hs) ?_
   rintro _ w27 ⟨u28, rfl, k29, p30, q31⟩
   have H32 : Sat w [restC w (fun _ => False), cellC b2 36 ([(.int .i64 (f)), (.int .i64 (cn))] : List Value), cellC b6 44 (([(.int .i64 (s.cl)), (.int .i64 (s.seq))] : List Value) ++ hc s.h ++ ([(.int .i64 (s.len)), (.int .i64 (s.sb)), (.int .i64 (s.sm))] : List Value)), rowC 5 1 u28 ((commitB s).length) ((commitB s).flatMap encB)] w27 := H20.addU p30 k29 q31
   obtain ⟨a33, c34, rfl⟩ := ownsRow_shape (H32.at 3 rfl)
   refine ⟨_, rfl, ?_⟩
   have S35 := H32.pick [0, 1, 2] (by decide)
   refine hK26 _ _ S35 ?_
   clear hK26 K26
   refine h_do 19 rfl (by kernel_rfl) (wantsY 13 20 true rfl (by kernel_rfl) rfl (by kernel_rfl)) (fun K36 hK36 => ?_)
   refine d_call (d := 26) rfl (by kernel_rfl) (pRightQ_any w27 b mb L (H32.roCk 0 rfl hb (fun _ _ h => h)) (H32.roMap 0 rfl hm (fun h => h)) a33 c34 (commitB s) (ListAt.row (enc := encB) (sz := 1) encB_len (by decide) (H32.at 3 rfl)) s.sb s.sm) ?_
   rintro _ w37 ⟨rfl, u39⟩
   have H38 := H32.keepU u39
   refine ⟨_, rfl, ?_⟩
   have S40 := H38.pick [0, 1, 2] (by decide)
   refine hK36 _ _ S40 ?_
   clear hK36 K36
   refine hv0 20 S40 27 (.bool (rightB L s.sb s.sm (commitB s))) ?_
   refine hv0 21 S40 6 (.bool (rightB L s.sb s.sm (commitB s))) ?_
   refine h_fin (by kernel_rfl) ?_
   refine then_normal ?_
   refine w_ret ?_
   refine end1 rfl (res_tmp (v := (.bool (rightB L s.sb s.sm (commitB s)))) rfl) ?_
   exact ⟨by simp [rightC, b17, b23], H38.upd 0 rfl [] (fun _ h => h.elim)⟩
  ·have g41 := of_decide_eq_false b23
   refine h_know 20 (.bool false) (congrArg Value.bool b23) ?_
   have g42 := of_decide_eq_false b23
   refine h_pass 14 rfl (by kernel_rfl) (by kernel_rfl) (by kernel_rfl) (fun _ _ _ h => h) S22 (wantsN 13 20 true rfl (by kernel_rfl) rfl (by kernel_rfl)) rfl ?_
   refine h_pass 15 rfl (by kernel_rfl) (by kernel_rfl) (by kernel_rfl) (fun _ _ _ h => h) S22 (wantsN 13 20 true rfl (by kernel_rfl) rfl (by kernel_rfl)) rfl ?_
   refine h_pass 16 rfl (by kernel_rfl) (by kernel_rfl) (by kernel_rfl) (fun _ _ _ h => h) S22 (wantsN 13 20 true rfl (by kernel_rfl) rfl (by kernel_rfl)) rfl ?_
   refine h_pass 17 rfl (by kernel_rfl) (by kernel_rfl) (by kernel_rfl) (fun _ _ _ h => h) S22 (wantsN 13 20 true rfl (by kernel_rfl) rfl (by kernel_rfl)) rfl ?_
   refine h_pass 18 rfl (by kernel_rfl) (by kernel_rfl) (by kernel_rfl) (fun _ _ _ h => h) S22 (wantsN 13 20 true rfl (by kernel_rfl) rfl (by kernel_rfl)) rfl ?_
   refine h_pass 19 rfl (by kernel_rfl) (by kernel_rfl) (by kernel_rfl) (fun _ _ _ h => h) S22 (wantsN 13 20 true rfl (by kernel_rfl) rfl (by kernel_rfl)) rfl ?_
   refine hv0 20 S22 27 (.bool false) ?_
   refine hv0 21 S22 6 (.bool false) ?_
   refine h_fin (by kernel_rfl) ?_
   refine then_normal ?_
   refine w_ret ?_
   refine end1 rfl (res_tmp (v := (.bool false)) rfl) ?_
   exact ⟨by simp [rightC, b17, b23], H20.upd 0 rfl [] (fun _ h => h.elim)⟩
 ·refine h_know 10 (.bool false) (congrArg Value.bool b17) ?_
  refine h_pass 4 rfl (by kernel_rfl) (by kernel_rfl) (by kernel_rfl) (fun _ _ _ h => h) S16 (wantsN 3 10 true rfl (by kernel_rfl) rfl (by kernel_rfl)) rfl ?_
  refine h_pass 5 rfl (by kernel_rfl) (by kernel_rfl) (by kernel_rfl) (fun _ _ _ h => h) S16 (wantsN 3 10 true rfl (by kernel_rfl) rfl (by kernel_rfl)) rfl ?_
  refine h_pass 6 rfl (by kernel_rfl) (by kernel_rfl) (by kernel_rfl) (fun _ _ _ h => h) S16 (wantsN 3 10 true rfl (by kernel_rfl) rfl (by kernel_rfl)) rfl ?_
  refine h_pass 7 rfl (by kernel_rfl) (by kernel_rfl) (by kernel_rfl) (fun _ _ _ h => h) S16 (wantsN 3 10 true rfl (by kernel_rfl) rfl (by kernel_rfl)) rfl ?_
  refine h_pass 8 rfl (by kernel_rfl) (by kernel_rfl) (by kernel_rfl) (fun _ _ _ h => h) S16 (wantsN 3 10 true rfl (by kernel_rfl) rfl (by kernel_rfl)) rfl ?_
  refine h_pass 9 rfl (by kernel_rfl) (by kernel_rfl) (by kernel_rfl) (fun _ _ _ h => h) S16 (wantsN 3 10 true rfl (by kernel_rfl) rfl (by kernel_rfl)) rfl ?_
  refine h_pass 10 rfl (by kernel_rfl) (by kernel_rfl) (by kernel_rfl) (fun _ _ _ h => h) S16 (wantsN 3 10 true rfl (by kernel_rfl) rfl (by kernel_rfl)) rfl ?_
  refine h_pass 11 rfl (by kernel_rfl) (by kernel_rfl) (by kernel_rfl) (fun _ _ _ h => h) S16 (wantsN 3 10 true rfl (by kernel_rfl) rfl (by kernel_rfl)) rfl ?_
  refine hv0 12 S16 19 (.bool false) ?_
  refine hv0 13 S16 20 (.bool false) ?_
  refine h_pass 14 rfl (by kernel_rfl) (by kernel_rfl) (by kernel_rfl) (fun _ _ _ h => h) S16 (wantsN 13 20 true rfl (by kernel_rfl) rfl (by kernel_rfl)) rfl ?_
  refine h_pass 15 rfl (by kernel_rfl) (by kernel_rfl) (by kernel_rfl) (fun _ _ _ h => h) S16 (wantsN 13 20 true rfl (by kernel_rfl) rfl (by kernel_rfl)) rfl ?_
  refine h_pass 16 rfl (by kernel_rfl) (by kernel_rfl) (by kernel_rfl) (fun _ _ _ h => h) S16 (wantsN 13 20 true rfl (by kernel_rfl) rfl (by kernel_rfl)) rfl ?_
  refine h_pass 17 rfl (by kernel_rfl) (by kernel_rfl) (by kernel_rfl) (fun _ _ _ h => h) S16 (wantsN 13 20 true rfl (by kernel_rfl) rfl (by kernel_rfl)) rfl ?_
  refine h_pass 18 rfl (by kernel_rfl) (by kernel_rfl) (by kernel_rfl) (fun _ _ _ h => h) S16 (wantsN 13 20 true rfl (by kernel_rfl) rfl (by kernel_rfl)) rfl ?_
  refine h_pass 19 rfl (by kernel_rfl) (by kernel_rfl) (by kernel_rfl) (fun _ _ _ h => h) S16 (wantsN 13 20 true rfl (by kernel_rfl) rfl (by kernel_rfl)) rfl ?_
  refine hv0 20 S16 27 (.bool false) ?_
  refine hv0 21 S16 6 (.bool false) ?_
  refine h_fin (by kernel_rfl) ?_
  refine then_normal ?_
  refine w_ret ?_
  refine end1 rfl (res_tmp (v := (.bool false)) rfl) ?_
  exact ⟨by simp [rightC, b17], H14.upd 0 rfl [] (fun _ h => h.elim)⟩

set_option maxRecDepth 100000 in
set_option maxHeartbeats 1000000 in
theorem wRightS_any (w : World) (f cn : Int) (hf : -1099511627776 ≤ f ∧ f ≤ 1099511627776) (b mb : Nat) (L : List Signed) (hb : (cellC b 107 [.map (some mb)]).ok w) (hm : MapAt w mb signedV (Value.int .i64) (marks L)) (s : StampD) (hs : StOk s) :
  Calls Try.prog 24 #[(.agg ⟨([(.int .i64 (f)), (.int .i64 (cn))] : List Value)⟩), (.pointer (some ⟨b, 0, none⟩)), (.agg ⟨(([(.int .i64 (s.r)), (.int .i64 (s.cl)), (.int .i64 (s.seq))] : List Value) ++ hc s.h ++ ([(.int .u64 (s.t)), (.int .i64 (s.sb)), (.int .i64 (s.sm))] : List Value))⟩)] w fun e w' => e = .returned (.bool (rightS f L s)) ∧ Upd [] w w' := by
 have H := Sat.start0 w
 have hs2 := hs
 unfold StOk at hs2
 refine calls_fr Try.func24 rfl 37 rfl (Nat.le_of_ble_eq_true rfl) ?_
 refine w_seq ?_
 refine w_lit ?_
 refine wl_do (wants0 rfl) (fun K1 hK1 => ?_)
 refine d_box (vs := ([(.int .i64 (f)), (.int .i64 (cn))] : List Value)) rfl H rfl rfl ?_
 intro b2 w3 (H4 : Sat w [restC w (fun _ => False), cellC b2 36 ([(.int .i64 (f)), (.int .i64 (cn))] : List Value)] w3)
 refine hK1 _ _ ?_
 clear hK1 K1
 refine wl_do (wants0 rfl) (fun K5 hK5 => ?_)
 refine d_box (vs := (([(.int .i64 (s.r)), (.int .i64 (s.cl)), (.int .i64 (s.seq))] : List Value) ++ hc s.h ++ ([(.int .u64 (s.t)), (.int .i64 (s.sb)), (.int .i64 (s.sm))] : List Value))) rfl H4 rfl rfl ?_
 intro b6 w7 (H8 : Sat w [restC w (fun _ => False), cellC b2 36 ([(.int .i64 (f)), (.int .i64 (cn))] : List Value), cellC b6 49 (([(.int .i64 (s.r)), (.int .i64 (s.cl)), (.int .i64 (s.seq))] : List Value) ++ hc s.h ++ ([(.int .u64 (s.t)), (.int .i64 (s.sb)), (.int .i64 (s.sm))] : List Value))] w7)
 refine hK5 _ _ ?_
 clear hK5 K5
 refine wv 6 (.bool false) ?_
 refine w_nil ?_
 refine then_normal ?_
 refine w_seq ?_
 refine h_start H8 [restC w (fun _ => False), cellC b2 36 ([(.int .i64 (f)), (.int .i64 (cn))] : List Value), cellC b6 49 (([(.int .i64 (s.r)), (.int .i64 (s.cl)), (.int .i64 (s.seq))] : List Value) ++ hc s.h ++ ([(.int .u64 (s.t)), (.int .i64 (s.sb)), (.int .i64 (s.sm))] : List Value))] 31 rfl (by kernel_rfl) (fun Hx => (Hx.pick [0, 1, 2] (by decide))) ?_
 intro w9 H10 S11
 refine hv0 0 S11 7 (.agg ⟨([(.int .i64 (f)), (.int .i64 (cn))] : List Value)⟩) ?_ (he := fun _ H' => (e_loadN (vs := ([(.int .i64 (f)), (.int .i64 (cn))] : List Value)) rfl (by kernel_rfl) (by kernel_rfl) (by exact Nat.le_of_ble_eq_true (by kernel_rfl)) (H'.at 1 rfl) (by kernel_rfl)))
 refine hv0 1 S11 8 (pt b6 0) ?_
 refine hv0 2 S11 9 (.int .i64 (s.r)) ?_ (he := fun _ H' => (e_load1 rfl (by kernel_rfl) (H'.cell 2 rfl (by kernel_rfl))))
 refine h_do 3 rfl (by kernel_rfl) (wants0 rfl) (fun K12 hK12 => ?_)
 refine d_call (d := 10) rfl (by kernel_rfl) (wIn_any w9 f cn s.r (by omega)) ?_
 rintro _ w13 ⟨rfl, u15⟩
 have H14 := H10.keepU u15
 refine ⟨_, rfl, ?_⟩
 have S16 := H14.pick [0, 1, 2] (by decide)
 refine hK12 _ _ S16 ?_
 clear hK12 K12
 refine hv0 4 S16 11 (.bool (inB f s.r)) ?_
 refine (bsplit (inB f s.r)).elim (fun b17 => ?_) (fun b17 => ?_)
 ·refine h_know 11 (.bool true) (congrArg Value.bool b17) ?_
  refine h_val 5 rfl (by kernel_rfl) (by kernel_rfl) (by kernel_rfl) (fun _ _ _ h => h) S16 (wantsY 4 11 true rfl (by kernel_rfl) rfl (by kernel_rfl)) (d := 12) (v := (pt b6 35)) rfl (fun _ H' => (by kernel_rfl)) ?_
  refine h_val 6 rfl (by kernel_rfl) (by kernel_rfl) (by kernel_rfl) (fun _ _ _ h => h) S16 (wantsY 4 11 true rfl (by kernel_rfl) rfl (by kernel_rfl)) (d := 13) (v := (.int .u64 (s.t))) rfl (fun _ H' => (e_load1 rfl (by kernel_rfl) (H'.cell 2 rfl (by kernel_rfl)))) ?_
  refine h_val 7 rfl (by kernel_rfl) (by kernel_rfl) (by kernel_rfl) (fun _ _ _ h => h) S16 (wantsY 4 11 true rfl (by kernel_rfl) rfl (by kernel_rfl)) (d := 14) (v := (.bool (decide (s.t ≥ 1)))) rfl (fun _ H' => (by kernel_rfl)) ?_
  refine hv0 8 S16 15 (.bool (decide (s.t ≥ 1))) ?_
  refine hv0 9 S16 16 (.bool (decide (s.t ≥ 1))) ?_
  refine (bsplit (decide (s.t ≥ 1))).elim (fun b18 => ?_) (fun b18 => ?_)
  ·have g19 := of_decide_eq_true b18
   refine h_know 16 (.bool true) (congrArg Value.bool b18) ?_
   have g20 := of_decide_eq_true b18
   refine h_val 10 rfl (by kernel_rfl) (by kernel_rfl) (by kernel_rfl) (fun _ _ _ h => h) S16 (wantsY 9 16 true rfl (by kernel_rfl) rfl (by kernel_rfl)) (d := 17) (v := (pt b6 35)) rfl (fun _ H' => (by kernel_rfl)) ?_
   refine h_val 11 rfl (by kernel_rfl) (by kernel_rfl) (by kernel_rfl) (fun _ _ _ h => h) S16 (wantsY 9 16 true rfl (by kernel_rfl) rfl (by kernel_rfl)) (d := 18) (v := (.int .u64 (s.t))) rfl (fun _ H' => (e_load1 rfl (by kernel_rfl) (H'.cell 2 rfl (by kernel_rfl)))) ?_
   refine h_val 12 rfl (by kernel_rfl) (by kernel_rfl) (by kernel_rfl) (fun _ _ _ h => h) S16 (wantsY 9 16 true rfl (by kernel_rfl) rfl (by kernel_rfl)) (d := 19) (v := (.bool (decide (s.t < 18446744073709551615)))) rfl (fun _ H' => (by kernel_rfl)) ?_
   refine hv0 13 S16 20 (.bool (decide (s.t < 18446744073709551615))) ?_
   refine hv0 14 S16 21 (.bool (decide (s.t < 18446744073709551615))) ?_
   refine (bsplit (decide (s.t < 18446744073709551615))).elim (fun b21 => ?_) (fun b21 => ?_)
   ·have g22 := of_decide_eq_true b21
    refine h_know 21 (.bool true) (congrArg Value.bool b21) ?_
    have g23 := of_decide_eq_true b21
    refine h_val 15 rfl (by kernel_rfl) (by kernel_rfl) (by kernel_rfl) (fun _ _ _ h => h) S16 (wantsY 14 21 true rfl (by kernel_rfl) rfl (by kernel_rfl)) (d := 22) (v := (pt b6 36)) rfl (fun _ H' => (by kernel_rfl)) ?_
    refine h_val 16 rfl (by kernel_rfl) (by kernel_rfl) (by kernel_rfl) (fun _ _ _ h => h) S16 (wantsY 14 21 true rfl (by kernel_rfl) rfl (by kernel_rfl)) (d := 23) (v := (pt b6 36)) rfl (fun _ H' => (by kernel_rfl)) ?_
    refine h_val 17 rfl (by kernel_rfl) (by kernel_rfl) (by kernel_rfl) (fun _ _ _ h => h) S16 (wantsY 14 21 true rfl (by kernel_rfl) rfl (by kernel_rfl)) (d := 24) (v := (.int .i64 (s.sb))) rfl (fun _ H' => (e_load1 rfl (by kernel_rfl) (H'.cell 2 rfl (by kernel_rfl)))) ?_
    refine h_val 18 rfl (by kernel_rfl) (by kernel_rfl) (by kernel_rfl) (fun _ _ _ h => h) S16 (wantsY 14 21 true rfl (by kernel_rfl) rfl (by kernel_rfl)) (d := 25) (v := (pt b6 0)) rfl (fun _ H' => (by kernel_rfl)) ?_
    refine h_val 19 rfl (by kernel_rfl) (by kernel_rfl) (by kernel_rfl) (fun _ _ _ h => h) S16 (wantsY 14 21 true rfl (by kernel_rfl) rfl (by kernel_rfl)) (d := 26) (v := (.int .i64 (s.r))) rfl (fun _ H' => (e_load1 rfl (by kernel_rfl) (H'.cell 2 rfl (by kernel_rfl)))) ?_
    refine h_val 20 rfl (by kernel_rfl) (by kernel_rfl) (by kernel_rfl) (fun _ _ _ h => h) S16 (wantsY 14 21 true rfl (by kernel_rfl) rfl (by kernel_rfl)) (d := 27) (v := (.bool (decide (s.sb = s.r)))) rfl (fun _ H' => (by kernel_rfl)) ?_
    refine hv0 21 S16 28 (.bool (decide (s.sb = s.r))) ?_
    refine hv0 22 S16 29 (.bool (decide (s.sb = s.r))) ?_
    refine (bsplit (decide (s.sb = s.r))).elim (fun b24 => ?_) (fun b24 => ?_)
    ·have g25 := of_decide_eq_true b24
     refine h_know 29 (.bool true) (congrArg Value.bool b24) ?_
     have g26 := of_decide_eq_true b24
     refine h_val 23 rfl (by kernel_rfl) (by kernel_rfl) (by kernel_rfl) (fun _ _ _ h => h) S16 (wantsY 22 29 true rfl (by kernel_rfl) rfl (by kernel_rfl)) (d := 30) (v := (pt b 0)) rfl (fun _ H' => (by kernel_rfl)) ?_
     refine h_val 24 rfl (by kernel_rfl) (by kernel_rfl) (by kernel_rfl) (fun _ _ _ h => h) S16 (wantsY 22 29 true rfl (by kernel_rfl) rfl (by kernel_rfl)) (d := 31) (v := (pt b6 36)) rfl (fun _ H' => (by kernel_rfl)) ?_
     refine h_val 25 rfl (by kernel_rfl) (by kernel_rfl) (by kernel_rfl) (fun _ _ _ h => h) S16 (wantsY 22 29 true rfl (by kernel_rfl) rfl (by kernel_rfl)) (d := 32) (v := (.agg ⟨([(.int .i64 (s.sb)), (.int .i64 (s.sm))] : List Value)⟩)) rfl (fun _ H' => (e_loadN (vs := ([(.int .i64 (s.sb)), (.int .i64 (s.sm))] : List Value)) rfl (by kernel_rfl) (by kernel_rfl) (by exact Nat.le_of_ble_eq_true (by kernel_rfl)) (H'.at 2 rfl) (by kernel_rfl))) ?_
     refine h_val 26 rfl (by kernel_rfl) (by kernel_rfl) (by kernel_rfl) (fun _ _ _ h => h) S16 (wantsY 22 29 true rfl (by kernel_rfl) rfl (by kernel_rfl)) (d := 33) (v := (.agg ⟨(([(.int .i64 (s.r)), (.int .i64 (s.cl)), (.int .i64 (s.seq))] : List Value) ++ hc s.h ++ ([(.int .u64 (s.t)), (.int .i64 (s.sb)), (.int .i64 (s.sm))] : List Value))⟩)) rfl (fun _ H' => (e_loadN (vs := (([(.int .i64 (s.r)), (.int .i64 (s.cl)), (.int .i64 (s.seq))] : List Value) ++ hc s.h ++ ([(.int .u64 (s.t)), (.int .i64 (s.sb)), (.int .i64 (s.sm))] : List Value))) rfl (by kernel_rfl) (by kernel_rfl) (by exact Nat.le_of_ble_eq_true (by kernel_rfl)) (H'.at 2 rfl) (by kernel_rfl))) ?_
     refine h_do 27 rfl (by kernel_rfl) (wantsY 22 29 true rfl (by kernel_rfl) rfl (by kernel_rfl)) (fun K27 hK27 => ?_)
     refine d_call (d := 34) rfl (by kernel_rfl) (wStampText_any w13 s hs) ?_
     rintro _ w28 ⟨u29, rfl, k30, p31, q32⟩
     have H33 : Sat w [restC w (fun _ => False), cellC b2 36 ([(.int .i64 (f)), (.int .i64 (cn))] : List Value), cellC b6 49 (([(.int .i64 (s.r)), (.int .i64 (s.cl)), (.int .i64 (s.seq))] : List Value) ++ hc s.h ++ ([(.int .u64 (s.t)), (.int .i64 (s.sb)), (.int .i64 (s.sm))] : List Value)), rowC 5 1 u29 ((stampB s).length) ((stampB s).flatMap encB)] w28 := H14.addU p31 k30 q32
     obtain ⟨a34, c35, rfl⟩ := ownsRow_shape (H33.at 3 rfl)
     refine ⟨_, rfl, ?_⟩
     have S36 := H33.pick [0, 1, 2] (by decide)
     refine hK27 _ _ S36 ?_
     clear hK27 K27
     refine h_do 28 rfl (by kernel_rfl) (wantsY 22 29 true rfl (by kernel_rfl) rfl (by kernel_rfl)) (fun K37 hK37 => ?_)
     refine d_call (d := 35) rfl (by kernel_rfl) (pRightQ_any w28 b mb L (H33.roCk 0 rfl hb (fun _ _ h => h)) (H33.roMap 0 rfl hm (fun h => h)) a34 c35 (stampB s) (ListAt.row (enc := encB) (sz := 1) encB_len (by decide) (H33.at 3 rfl)) s.sb s.sm) ?_
     rintro _ w38 ⟨rfl, u40⟩
     have H39 := H33.keepU u40
     refine ⟨_, rfl, ?_⟩
     have S41 := H39.pick [0, 1, 2] (by decide)
     refine hK37 _ _ S41 ?_
     clear hK37 K37
     refine hv0 29 S41 36 (.bool (rightB L s.sb s.sm (stampB s))) ?_
     refine hv0 30 S41 6 (.bool (rightB L s.sb s.sm (stampB s))) ?_
     refine h_fin (by kernel_rfl) ?_
     refine then_normal ?_
     refine w_ret ?_
     refine end1 rfl (res_tmp (v := (.bool (rightB L s.sb s.sm (stampB s)))) rfl) ?_
     exact ⟨by simp [rightS, b17, b18, b21, b24], H39.upd 0 rfl [] (fun _ h => h.elim)⟩
    ·have g42 := of_decide_eq_false b24
     refine h_know 29 (.bool false) (congrArg Value.bool b24) ?_
     have g43 := of_decide_eq_false b24
     refine h_pass 23 rfl (by kernel_rfl) (by kernel_rfl) (by kernel_rfl) (fun _ _ _ h => h) S16 (wantsN 22 29 true rfl (by kernel_rfl) rfl (by kernel_rfl)) rfl ?_
     refine h_pass 24 rfl (by kernel_rfl) (by kernel_rfl) (by kernel_rfl) (fun _ _ _ h => h) S16 (wantsN 22 29 true rfl (by kernel_rfl) rfl (by kernel_rfl)) rfl ?_
     refine h_pass 25 rfl (by kernel_rfl) (by kernel_rfl) (by kernel_rfl) (fun _ _ _ h => h) S16 (wantsN 22 29 true rfl (by kernel_rfl) rfl (by kernel_rfl)) rfl ?_
     refine h_pass 26 rfl (by kernel_rfl) (by kernel_rfl) (by kernel_rfl) (fun _ _ _ h => h) S16 (wantsN 22 29 true rfl (by kernel_rfl) rfl (by kernel_rfl)) rfl ?_
     refine h_pass 27 rfl (by kernel_rfl) (by kernel_rfl) (by kernel_rfl) (fun _ _ _ h => h) S16 (wantsN 22 29 true rfl (by kernel_rfl) rfl (by kernel_rfl)) rfl ?_
     refine h_pass 28 rfl (by kernel_rfl) (by kernel_rfl) (by kernel_rfl) (fun _ _ _ h => h) S16 (wantsN 22 29 true rfl (by kernel_rfl) rfl (by kernel_rfl)) rfl ?_
     refine hv0 29 S16 36 (.bool false) ?_
     refine hv0 30 S16 6 (.bool false) ?_
     refine h_fin (by kernel_rfl) ?_
     refine then_normal ?_
     refine w_ret ?_
     refine end1 rfl (res_tmp (v := (.bool false)) rfl) ?_
     exact ⟨by simp [rightS, b17, b18, b21, b24], H14.upd 0 rfl [] (fun _ h => h.elim)⟩
   ·have g44 := of_decide_eq_false b21
    refine h_know 21 (.bool false) (congrArg Value.bool b21) ?_
    have g45 := of_decide_eq_false b21
    refine h_pass 15 rfl (by kernel_rfl) (by kernel_rfl) (by kernel_rfl) (fun _ _ _ h => h) S16 (wantsN 14 21 true rfl (by kernel_rfl) rfl (by kernel_rfl)) rfl ?_
    refine h_pass 16 rfl (by kernel_rfl) (by kernel_rfl) (by kernel_rfl) (fun _ _ _ h => h) S16 (wantsN 14 21 true rfl (by kernel_rfl) rfl (by kernel_rfl)) rfl ?_
    refine h_pass 17 rfl (by kernel_rfl) (by kernel_rfl) (by kernel_rfl) (fun _ _ _ h => h) S16 (wantsN 14 21 true rfl (by kernel_rfl) rfl (by kernel_rfl)) rfl ?_
    refine h_pass 18 rfl (by kernel_rfl) (by kernel_rfl) (by kernel_rfl) (fun _ _ _ h => h) S16 (wantsN 14 21 true rfl (by kernel_rfl) rfl (by kernel_rfl)) rfl ?_
    refine h_pass 19 rfl (by kernel_rfl) (by kernel_rfl) (by kernel_rfl) (fun _ _ _ h => h) S16 (wantsN 14 21 true rfl (by kernel_rfl) rfl (by kernel_rfl)) rfl ?_
    refine h_pass 20 rfl (by kernel_rfl) (by kernel_rfl) (by kernel_rfl) (fun _ _ _ h => h) S16 (wantsN 14 21 true rfl (by kernel_rfl) rfl (by kernel_rfl)) rfl ?_
    refine hv0 21 S16 28 (.bool false) ?_
    refine hv0 22 S16 29 (.bool false) ?_
    refine h_pass 23 rfl (by kernel_rfl) (by kernel_rfl) (by kernel_rfl) (fun _ _ _ h => h) S16 (wantsN 22 29 true rfl (by kernel_rfl) rfl (by kernel_rfl)) rfl ?_
    refine h_pass 24 rfl (by kernel_rfl) (by kernel_rfl) (by kernel_rfl) (fun _ _ _ h => h) S16 (wantsN 22 29 true rfl (by kernel_rfl) rfl (by kernel_rfl)) rfl ?_
    refine h_pass 25 rfl (by kernel_rfl) (by kernel_rfl) (by kernel_rfl) (fun _ _ _ h => h) S16 (wantsN 22 29 true rfl (by kernel_rfl) rfl (by kernel_rfl)) rfl ?_
    refine h_pass 26 rfl (by kernel_rfl) (by kernel_rfl) (by kernel_rfl) (fun _ _ _ h => h) S16 (wantsN 22 29 true rfl (by kernel_rfl) rfl (by kernel_rfl)) rfl ?_
    refine h_pass 27 rfl (by kernel_rfl) (by kernel_rfl) (by kernel_rfl) (fun _ _ _ h => h) S16 (wantsN 22 29 true rfl (by kernel_rfl) rfl (by kernel_rfl)) rfl ?_
    refine h_pass 28 rfl (by kernel_rfl) (by kernel_rfl) (by kernel_rfl) (fun _ _ _ h => h) S16 (wantsN 22 29 true rfl (by kernel_rfl) rfl (by kernel_rfl)) rfl ?_
    refine hv0 29 S16 36 (.bool false) ?_
    refine hv0 30 S16 6 (.bool false) ?_
    refine h_fin (by kernel_rfl) ?_
    refine then_normal ?_
    refine w_ret ?_
    refine end1 rfl (res_tmp (v := (.bool false)) rfl) ?_
    exact ⟨by simp [rightS, b17, b18, b21], H14.upd 0 rfl [] (fun _ h => h.elim)⟩
  ·have g46 := of_decide_eq_false b18
   refine h_know 16 (.bool false) (congrArg Value.bool b18) ?_
   have g47 := of_decide_eq_false b18
   refine h_pass 10 rfl (by kernel_rfl) (by kernel_rfl) (by kernel_rfl) (fun _ _ _ h => h) S16 (wantsN 9 16 true rfl (by kernel_rfl) rfl (by kernel_rfl)) rfl ?_
   refine h_pass 11 rfl (by kernel_rfl) (by kernel_rfl) (by kernel_rfl) (fun _ _ _ h => h) S16 (wantsN 9 16 true rfl (by kernel_rfl) rfl (by kernel_rfl)) rfl ?_
   refine h_pass 12 rfl (by kernel_rfl) (by kernel_rfl) (by kernel_rfl) (fun _ _ _ h => h) S16 (wantsN 9 16 true rfl (by kernel_rfl) rfl (by kernel_rfl)) rfl ?_
   refine hv0 13 S16 20 (.bool false) ?_
   refine hv0 14 S16 21 (.bool false) ?_
   refine h_pass 15 rfl (by kernel_rfl) (by kernel_rfl) (by kernel_rfl) (fun _ _ _ h => h) S16 (wantsN 14 21 true rfl (by kernel_rfl) rfl (by kernel_rfl)) rfl ?_
   refine h_pass 16 rfl (by kernel_rfl) (by kernel_rfl) (by kernel_rfl) (fun _ _ _ h => h) S16 (wantsN 14 21 true rfl (by kernel_rfl) rfl (by kernel_rfl)) rfl ?_
   refine h_pass 17 rfl (by kernel_rfl) (by kernel_rfl) (by kernel_rfl) (fun _ _ _ h => h) S16 (wantsN 14 21 true rfl (by kernel_rfl) rfl (by kernel_rfl)) rfl ?_
   refine h_pass 18 rfl (by kernel_rfl) (by kernel_rfl) (by kernel_rfl) (fun _ _ _ h => h) S16 (wantsN 14 21 true rfl (by kernel_rfl) rfl (by kernel_rfl)) rfl ?_
   refine h_pass 19 rfl (by kernel_rfl) (by kernel_rfl) (by kernel_rfl) (fun _ _ _ h => h) S16 (wantsN 14 21 true rfl (by kernel_rfl) rfl (by kernel_rfl)) rfl ?_
   refine h_pass 20 rfl (by kernel_rfl) (by kernel_rfl) (by kernel_rfl) (fun _ _ _ h => h) S16 (wantsN 14 21 true rfl (by kernel_rfl) rfl (by kernel_rfl)) rfl ?_
   refine hv0 21 S16 28 (.bool false) ?_
   refine hv0 22 S16 29 (.bool false) ?_
   refine h_pass 23 rfl (by kernel_rfl) (by kernel_rfl) (by kernel_rfl) (fun _ _ _ h => h) S16 (wantsN 22 29 true rfl (by kernel_rfl) rfl (by kernel_rfl)) rfl ?_
   refine h_pass 24 rfl (by kernel_rfl) (by kernel_rfl) (by kernel_rfl) (fun _ _ _ h => h) S16 (wantsN 22 29 true rfl (by kernel_rfl) rfl (by kernel_rfl)) rfl ?_
   refine h_pass 25 rfl (by kernel_rfl) (by kernel_rfl) (by kernel_rfl) (fun _ _ _ h => h) S16 (wantsN 22 29 true rfl (by kernel_rfl) rfl (by kernel_rfl)) rfl ?_
   refine h_pass 26 rfl (by kernel_rfl) (by kernel_rfl) (by kernel_rfl) (fun _ _ _ h => h) S16 (wantsN 22 29 true rfl (by kernel_rfl) rfl (by kernel_rfl)) rfl ?_
   refine h_pass 27 rfl (by kernel_rfl) (by kernel_rfl) (by kernel_rfl) (fun _ _ _ h => h) S16 (wantsN 22 29 true rfl (by kernel_rfl) rfl (by kernel_rfl)) rfl ?_
   refine h_pass 28 rfl (by kernel_rfl) (by kernel_rfl) (by kernel_rfl) (fun _ _ _ h => h) S16 (wantsN 22 29 true rfl (by kernel_rfl) rfl (by kernel_rfl)) rfl ?_
   refine hv0 29 S16 36 (.bool false) ?_
   refine hv0 30 S16 6 (.bool false) ?_
   refine h_fin (by kernel_rfl) ?_
   refine then_normal ?_
   refine w_ret ?_
   refine end1 rfl (res_tmp (v := (.bool false)) rfl) ?_
   exact ⟨by simp [rightS, b17, b18], H14.upd 0 rfl [] (fun _ h => h.elim)⟩
 ·refine h_know 11 (.bool false) (congrArg Value.bool b17) ?_
  refine h_pass 5 rfl (by kernel_rfl) (by kernel_rfl) (by kernel_rfl) (fun _ _ _ h => h) S16 (wantsN 4 11 true rfl (by kernel_rfl) rfl (by kernel_rfl)) rfl ?_
  refine h_pass 6 rfl (by kernel_rfl) (by kernel_rfl) (by kernel_rfl) (fun _ _ _ h => h) S16 (wantsN 4 11 true rfl (by kernel_rfl) rfl (by kernel_rfl)) rfl ?_
  refine h_pass 7 rfl (by kernel_rfl) (by kernel_rfl) (by kernel_rfl) (fun _ _ _ h => h) S16 (wantsN 4 11 true rfl (by kernel_rfl) rfl (by kernel_rfl)) rfl ?_
  refine hv0 8 S16 15 (.bool false) ?_
  refine hv0 9 S16 16 (.bool false) ?_
  refine h_pass 10 rfl (by kernel_rfl) (by kernel_rfl) (by kernel_rfl) (fun _ _ _ h => h) S16 (wantsN 9 16 true rfl (by kernel_rfl) rfl (by kernel_rfl)) rfl ?_
  refine h_pass 11 rfl (by kernel_rfl) (by kernel_rfl) (by kernel_rfl) (fun _ _ _ h => h) S16 (wantsN 9 16 true rfl (by kernel_rfl) rfl (by kernel_rfl)) rfl ?_
  refine h_pass 12 rfl (by kernel_rfl) (by kernel_rfl) (by kernel_rfl) (fun _ _ _ h => h) S16 (wantsN 9 16 true rfl (by kernel_rfl) rfl (by kernel_rfl)) rfl ?_
  refine hv0 13 S16 20 (.bool false) ?_
  refine hv0 14 S16 21 (.bool false) ?_
  refine h_pass 15 rfl (by kernel_rfl) (by kernel_rfl) (by kernel_rfl) (fun _ _ _ h => h) S16 (wantsN 14 21 true rfl (by kernel_rfl) rfl (by kernel_rfl)) rfl ?_
  refine h_pass 16 rfl (by kernel_rfl) (by kernel_rfl) (by kernel_rfl) (fun _ _ _ h => h) S16 (wantsN 14 21 true rfl (by kernel_rfl) rfl (by kernel_rfl)) rfl ?_
  refine h_pass 17 rfl (by kernel_rfl) (by kernel_rfl) (by kernel_rfl) (fun _ _ _ h => h) S16 (wantsN 14 21 true rfl (by kernel_rfl) rfl (by kernel_rfl)) rfl ?_
  refine h_pass 18 rfl (by kernel_rfl) (by kernel_rfl) (by kernel_rfl) (fun _ _ _ h => h) S16 (wantsN 14 21 true rfl (by kernel_rfl) rfl (by kernel_rfl)) rfl ?_
  refine h_pass 19 rfl (by kernel_rfl) (by kernel_rfl) (by kernel_rfl) (fun _ _ _ h => h) S16 (wantsN 14 21 true rfl (by kernel_rfl) rfl (by kernel_rfl)) rfl ?_
  refine h_pass 20 rfl (by kernel_rfl) (by kernel_rfl) (by kernel_rfl) (fun _ _ _ h => h) S16 (wantsN 14 21 true rfl (by kernel_rfl) rfl (by kernel_rfl)) rfl ?_
  refine hv0 21 S16 28 (.bool false) ?_
  refine hv0 22 S16 29 (.bool false) ?_
  refine h_pass 23 rfl (by kernel_rfl) (by kernel_rfl) (by kernel_rfl) (fun _ _ _ h => h) S16 (wantsN 22 29 true rfl (by kernel_rfl) rfl (by kernel_rfl)) rfl ?_
  refine h_pass 24 rfl (by kernel_rfl) (by kernel_rfl) (by kernel_rfl) (fun _ _ _ h => h) S16 (wantsN 22 29 true rfl (by kernel_rfl) rfl (by kernel_rfl)) rfl ?_
  refine h_pass 25 rfl (by kernel_rfl) (by kernel_rfl) (by kernel_rfl) (fun _ _ _ h => h) S16 (wantsN 22 29 true rfl (by kernel_rfl) rfl (by kernel_rfl)) rfl ?_
  refine h_pass 26 rfl (by kernel_rfl) (by kernel_rfl) (by kernel_rfl) (fun _ _ _ h => h) S16 (wantsN 22 29 true rfl (by kernel_rfl) rfl (by kernel_rfl)) rfl ?_
  refine h_pass 27 rfl (by kernel_rfl) (by kernel_rfl) (by kernel_rfl) (fun _ _ _ h => h) S16 (wantsN 22 29 true rfl (by kernel_rfl) rfl (by kernel_rfl)) rfl ?_
  refine h_pass 28 rfl (by kernel_rfl) (by kernel_rfl) (by kernel_rfl) (fun _ _ _ h => h) S16 (wantsN 22 29 true rfl (by kernel_rfl) rfl (by kernel_rfl)) rfl ?_
  refine hv0 29 S16 36 (.bool false) ?_
  refine hv0 30 S16 6 (.bool false) ?_
  refine h_fin (by kernel_rfl) ?_
  refine then_normal ?_
  refine w_ret ?_
  refine end1 rfl (res_tmp (v := (.bool false)) rfl) ?_
  exact ⟨by simp [rightS, b17], H14.upd 0 rfl [] (fun _ h => h.elim)⟩

end Go.Proofs.Ytbpeofcoceaahaa
namespace Go.Proofs.Ytbpeofcoceaahaa
open Go.RowKit

set_option maxRecDepth 100000 in
set_option maxHeartbeats 2000000 in
theorem wRightX_any (w : World) (f cn : Int) (hf : -1099511627776 ≤ f ∧ f ≤ 1099511627776) (b mb : Nat) (L : List Signed) (hb : (cellC b 107 [.map (some mb)]).ok w) (hm : MapAt w mb signedV (Value.int .i64) (marks L)) (x : CommitD) (hx : CoOk x) (sa : Option Addr) (sc : Nat) (S : List StampD) (hS : ListAt encSt 38 w (.slice sa S.length sc) S) (hok : StsOk S) (hlS : S.length ≤ 1000000) :
  Calls Try.prog 20 #[(.agg ⟨([(.int .i64 (f)), (.int .i64 (cn))] : List Value)⟩), (.pointer (some ⟨b, 0, none⟩)), (.agg ⟨(([(.int .i64 (x.cl)), (.int .i64 (x.seq))] : List Value) ++ hc x.h ++ ([(.int .i64 (x.len)), (.int .i64 (x.sb)), (.int .i64 (x.sm)), (.slice sa S.length sc)] : List Value))⟩)] w fun e w' => e = .returned (.bool (rightX f cn L x S)) ∧ Upd [] w w' := by
 have H := Sat.start0 w
 refine calls_fr Try.func20 rfl 67 rfl (Nat.le_of_ble_eq_true rfl) ?_
 refine w_seq ?_
 refine w_lit ?_
 refine wl_do (wants0 rfl) (fun K1 hK1 => ?_)
 refine d_box (vs := ([(.int .i64 (f)), (.int .i64 (cn))] : List Value)) rfl H rfl rfl ?_
 intro b2 w3 (H4 : Sat w [restC w (fun _ => False), cellC b2 36 ([(.int .i64 (f)), (.int .i64 (cn))] : List Value)] w3)
 refine hK1 _ _ ?_
 clear hK1 K1
 refine wl_do (wants0 rfl) (fun K5 hK5 => ?_)
 refine d_box (vs := (([(.int .i64 (x.cl)), (.int .i64 (x.seq))] : List Value) ++ hc x.h ++ ([(.int .i64 (x.len)), (.int .i64 (x.sb)), (.int .i64 (x.sm)), (.slice sa S.length sc)] : List Value))) rfl H4 rfl rfl ?_
 intro b6 w7 (H8 : Sat w [restC w (fun _ => False), cellC b2 36 ([(.int .i64 (f)), (.int .i64 (cn))] : List Value), cellC b6 47 (([(.int .i64 (x.cl)), (.int .i64 (x.seq))] : List Value) ++ hc x.h ++ ([(.int .i64 (x.len)), (.int .i64 (x.sb)), (.int .i64 (x.sm)), (.slice sa S.length sc)] : List Value))] w7)
 refine hK5 _ _ ?_
 clear hK5 K5
 refine wv 6 (.bool false) ?_
 refine w_nil ?_
 refine then_normal ?_
 iterate 2 refine w_seq ?_
 refine q_start H8 (by kernel_rfl) (by kernel_rfl) ?_
 refine qv 9 (.agg ⟨([(.int .i64 (f)), (.int .i64 (cn))] : List Value)⟩) ?_ (hr := fun _ H' => (e_loadN (vs := ([(.int .i64 (f)), (.int .i64 (cn))] : List Value)) rfl (by kernel_rfl) (by kernel_rfl) (by exact Nat.le_of_ble_eq_true (by kernel_rfl)) (H'.at 1 rfl) (by kernel_rfl)))
 refine qv 10 (pt b 0) ?_
 refine qv 11 (pt b6 0) ?_
 refine qv 12 (.agg ⟨(([(.int .i64 (x.cl)), (.int .i64 (x.seq))] : List Value) ++ hc x.h ++ ([(.int .i64 (x.len)), (.int .i64 (x.sb)), (.int .i64 (x.sm))] : List Value))⟩) ?_ (hr := fun _ H' => (e_loadN (vs := (([(.int .i64 (x.cl)), (.int .i64 (x.seq))] : List Value) ++ hc x.h ++ ([(.int .i64 (x.len)), (.int .i64 (x.sb)), (.int .i64 (x.sm))] : List Value))) rfl (by kernel_rfl) (by kernel_rfl) (by exact Nat.le_of_ble_eq_true (by kernel_rfl)) (H'.at 2 rfl) (by kernel_rfl)))
 refine q_call (wants0 rfl) (d := 13) (v := (.bool (rightC cn L x))) rfl (fun _ _ => by kernel_rfl) (fun w' H' => (wRightC_any w' f cn (by omega) b mb L (H'.roCk 0 rfl hb (fun _ _ h => h)) (H'.roMap 0 rfl hm (fun h => h)) x hx).mono fun _ _ h => ⟨h.1, H'.keepU h.2⟩) ?_
 refine qv 14 (.bool (!(rightC cn L x))) ?_
 refine qv 15 (.bool (!(rightC cn L x))) ?_
 refine (bsplit (!(rightC cn L x))).elim (fun b9 => ?_) (fun b9 => ?_)
 ·have g10 := bnot_true b9
  refine q_know 15 (.bool true) (congrArg Value.bool b9) ?_
  have g11 := bnot_true b9
  iterate 6 refine qn 6 15 false ?_
  refine qv 22 (.bool true) ?_
  refine q_end ?_
  intro w12 H13
  refine then_normal ?_
  refine wp_ift rfl ?_
  refine w_seq ?_
  refine w_lit ?_
  refine wv 6 (.bool false) ?_
  refine w_nil ?_
  refine then_normal ?_
  refine w_ret ?_
  refine then_ret ?_
  refine end1 rfl (res_tmp (v := (.bool false)) rfl) ?_
  have n14 := bnot_true b9
  exact ⟨by simp only [rightX, n14, Bool.false_and], H13.upd 0 rfl [] (fun _ h => h.elim)⟩
 ·have g15 := bnot_false b9
  refine q_know 15 (.bool false) (congrArg Value.bool b9) ?_
  have g16 := bnot_false b9
  refine qy 6 15 false 16 (pt b6 37) ?_
  refine qy 6 15 false 17 (.slice sa S.length sc) ?_ (hr := fun _ H' => (e_load1 rfl (by kernel_rfl) (H'.cell 2 rfl (by kernel_rfl))))
  refine q_val (wantsY 6 15 false rfl (by kernel_rfl) rfl (by kernel_rfl)) (d := 18) (v := (.int .i64 ((S.length : Int)))) rfl (fun _ H' => (by kernel_rfl)) ?_
  refine qy 6 15 false 19 (.agg ⟨([(.int .i64 (f)), (.int .i64 (cn))] : List Value)⟩) ?_ (hr := fun _ H' => (e_loadN (vs := ([(.int .i64 (f)), (.int .i64 (cn))] : List Value)) rfl (by kernel_rfl) (by kernel_rfl) (by exact Nat.le_of_ble_eq_true (by kernel_rfl)) (H'.at 1 rfl) (by kernel_rfl)))
  refine q_call (wantsY 6 15 false rfl (by kernel_rfl) rfl (by kernel_rfl)) (d := 20) (v := (.int .i64 (2 * f + 1))) rfl (fun _ _ => by kernel_rfl) (fun w' H' => (wQ_any w' f cn (by omega)).mono fun _ _ h => ⟨h.1, H'.keepU h.2⟩) ?_
  refine qy 6 15 false 21 (.bool (!(decide ((S.length : Int) = (2 * f + 1))))) ?_
  refine qv 22 (.bool (!(decide ((S.length : Int) = (2 * f + 1))))) ?_
  refine q_end ?_
  intro w17 H18
  refine then_normal ?_
  refine (bsplit (!(decide ((S.length : Int) = (2 * f + 1))))).elim (fun b19 => ?_) (fun b19 => ?_)
  ·have g20 := bnot_true b19
   have g21 := of_decide_eq_false g20
   refine wp_know 22 (.bool true) (congrArg Value.bool b19) ?_
   have g22 := bnot_true b19
   have g23 := of_decide_eq_false g22
   refine wp_ift rfl ?_
   refine w_seq ?_
   refine w_lit ?_
   refine wv 6 (.bool false) ?_
   refine w_nil ?_
   refine then_normal ?_
   refine w_ret ?_
   refine then_ret ?_
   refine end1 rfl (res_tmp (v := (.bool false)) rfl) ?_
   have n24 := bnot_false b9
   have n25 := bnot_true b19
   exact ⟨by simp only [rightX, n24, n25, Bool.and_false, Bool.false_and], H18.upd 0 rfl [] (fun _ h => h.elim)⟩
  ·have g26 := bnot_false b19
   have g27 := of_decide_eq_true g26
   refine wp_know 22 (.bool false) (congrArg Value.bool b19) ?_
   have g28 := bnot_false b19
   have g29 := of_decide_eq_true g28
   refine wp_iff rfl ?_
   refine w_skip ?_
   refine then_normal ?_
   iterate 2 refine w_seq ?_
   refine w_lit ?_
   refine wv 23 (pt b6 37) ?_
   refine wv 24 (.slice sa S.length sc) ?_ (hr := e_load1 rfl (by kernel_rfl) (H18.cell 2 rfl (by kernel_rfl)))
   refine wv 25 (.int .i64 ((S.length : Int))) ?_
   refine wv 26 (.int .i64 (0)) ?_
   refine w_nil ?_
   refine then_normal ?_
   refine w_block ?_
   have n30 := bnot_false b9
   have n31 := bnot_false b19
   refine wp_round [6, 7, 8, 26, 27, 28, 29, 30, 31, 32, 33, 34, 35, 36, 37, 38, 39, 40, 41, 42, 43, 44, 45, 46, 47, 48, 49, 50, 51, 52, 53, 54, 55, 56, 57, 58, 59, 60, 61, 62, 63, 64, 65, 66] (fun F_ W_ m_ => ∃ (i : Nat), F_ 26 = (.int .i64 ((i : Int))) ∧ (i ≤ S.length) ∧ (∀ j, j < i → okAt f L x S j = true) ∧ Sat w [restC w (fun _ => False), cellC b2 36 ([(.int .i64 (f)), (.int .i64 (cn))] : List Value), cellC b6 47 (([(.int .i64 (x.cl)), (.int .i64 (x.seq))] : List Value) ++ hc x.h ++ ([(.int .i64 (x.len)), (.int .i64 (x.sb)), (.int .i64 (x.sm)), (.slice sa S.length sc)] : List Value))] W_ ∧ m_ = S.length - i) _ ⟨0, (show ((.int .i64 (0)) : Value) = _ by first | rfl | go_num), (Nat.zero_le _), (fun _ h => absurd h (Nat.not_lt_zero _)), H18, rfl⟩ ?_
   rintro g32 w33 _ ⟨i, v35, hi, hall, H34, rfl⟩
   refine wp_know 26 _ v35 ?_
   refine w_seq ?_
   refine w_lit ?_
   refine wv 27 (.bool (decide ((i : Int) < (S.length : Int)))) ?_
   refine w_nil ?_
   refine then_normal ?_
   refine w_seq ?_
   refine (bsplit (decide ((i : Int) < (S.length : Int)))).elim (fun b37 => ?_) (fun b37 => ?_)
   ·have g38 := of_decide_eq_true b37
    refine wp_know 27 (.bool true) (congrArg Value.bool b37) ?_
    have g39 := of_decide_eq_true b37
    refine wp_ift rfl ?_
    refine w_skip ?_
    refine then_normal ?_
    refine w_seq ?_
    refine w_block ?_
    refine w_seq ?_
    refine w_lit ?_
    refine wv 28 (.int .i64 ((i : Int))) ?_
    obtain ⟨g40, o41, c42, e43, R44⟩ := SliceOf.atD hS stamp0 (show i < S.length by omega)
    refine wv 29 (.pointer (some ⟨g40, o41 + ((i : Int)).toNat * 38, none⟩)) ?_ (hr := e_indexAddrW (E := 49) (by kernel_rfl) (by kernel_rfl) (Nat.le_of_ble_eq_true rfl) rfl e43 rfl (by omega) (by omega))
    refine wv 30 (.agg ⟨(([(.int .i64 ((S.getD i stamp0).r)), (.int .i64 ((S.getD i stamp0).cl)), (.int .i64 ((S.getD i stamp0).seq))] : List Value) ++ hc (S.getD i stamp0).h ++ ([(.int .u64 ((S.getD i stamp0).t)), (.int .i64 ((S.getD i stamp0).sb)), (.int .i64 ((S.getD i stamp0).sm))] : List Value))⟩) ?_ (hr := e_loadRun (vs := (([(.int .i64 ((S.getD i stamp0).r)), (.int .i64 ((S.getD i stamp0).cl)), (.int .i64 ((S.getD i stamp0).seq))] : List Value) ++ hc (S.getD i stamp0).h ++ ([(.int .u64 ((S.getD i stamp0).t)), (.int .i64 ((S.getD i stamp0).sb)), (.int .i64 ((S.getD i stamp0).sm))] : List Value))) rfl (by kernel_rfl) (by kernel_rfl) (Nat.le_of_ble_eq_true (by kernel_rfl)) (H34.runR 0 rfl (cells_run R44 0 (by kernel_rfl) (show o41 + ((i : Int)).toNat * 38 = o41 + i * 38 + 0 by omega)) (fun h => h)))
    refine wl_do (wants0 rfl) (fun K45 hK45 => ?_)
    refine d_alloc (zs := (([(.int .i64 (0)), (.int .i64 (0)), (.int .i64 (0))] : List Value) ++ hc hash0 ++ ([(.int .u64 (0)), (.int .i64 (0)), (.int .i64 (0))] : List Value))) (z := (.agg ⟨(([(.int .i64 (0)), (.int .i64 (0)), (.int .i64 (0))] : List Value) ++ hc hash0 ++ ([(.int .u64 (0)), (.int .i64 (0)), (.int .i64 (0))] : List Value))⟩)) rfl H34 (by kernel_rfl) (by kernel_rfl) ?_
    intro b46 w47 (H48 : Sat w [restC w (fun _ => False), cellC b2 36 ([(.int .i64 (f)), (.int .i64 (cn))] : List Value), cellC b6 47 (([(.int .i64 (x.cl)), (.int .i64 (x.seq))] : List Value) ++ hc x.h ++ ([(.int .i64 (x.len)), (.int .i64 (x.sb)), (.int .i64 (x.sm)), (.slice sa S.length sc)] : List Value)), cellC b46 49 (([(.int .i64 (0)), (.int .i64 (0)), (.int .i64 (0))] : List Value) ++ hc hash0 ++ ([(.int .u64 (0)), (.int .i64 (0)), (.int .i64 (0))] : List Value))] w47)
    refine hK45 _ _ ?_
    clear hK45 K45
    refine wv 7 (.int .i64 ((i : Int))) ?_
    refine wl_do (wants0 rfl) (fun K49 hK49 => ?_)
    refine d_storeX (vs := (([(.int .i64 ((S.getD i stamp0).r)), (.int .i64 ((S.getD i stamp0).cl)), (.int .i64 ((S.getD i stamp0).seq))] : List Value) ++ hc (S.getD i stamp0).h ++ ([(.int .u64 ((S.getD i stamp0).t)), (.int .i64 ((S.getD i stamp0).sb)), (.int .i64 ((S.getD i stamp0).sm))] : List Value))) (cs' := (([(.int .i64 ((S.getD i stamp0).r)), (.int .i64 ((S.getD i stamp0).cl)), (.int .i64 ((S.getD i stamp0).seq))] : List Value) ++ hc (S.getD i stamp0).h ++ ([(.int .u64 ((S.getD i stamp0).t)), (.int .i64 ((S.getD i stamp0).sb)), (.int .i64 ((S.getD i stamp0).sm))] : List Value))) rfl H48 3 rfl rfl rfl rfl (by kernel_rfl) (Nat.le_of_ble_eq_true (by kernel_rfl)) (Nat.le_of_ble_eq_true (by kernel_rfl)) (by kernel_rfl) (by kernel_rfl) ?_
    intro w50 (H51 : Sat w [restC w (fun _ => False), cellC b2 36 ([(.int .i64 (f)), (.int .i64 (cn))] : List Value), cellC b6 47 (([(.int .i64 (x.cl)), (.int .i64 (x.seq))] : List Value) ++ hc x.h ++ ([(.int .i64 (x.len)), (.int .i64 (x.sb)), (.int .i64 (x.sm)), (.slice sa S.length sc)] : List Value)), cellC b46 49 (([(.int .i64 ((S.getD i stamp0).r)), (.int .i64 ((S.getD i stamp0).cl)), (.int .i64 ((S.getD i stamp0).seq))] : List Value) ++ hc (S.getD i stamp0).h ++ ([(.int .u64 ((S.getD i stamp0).t)), (.int .i64 ((S.getD i stamp0).sb)), (.int .i64 ((S.getD i stamp0).sm))] : List Value))] w50)
    refine hK49 _ _ ?_
    clear hK49 K49
    refine w_nil ?_
    refine then_normal ?_
    iterate 2 refine w_seq ?_
    refine q_start H51 (by kernel_rfl) (by kernel_rfl) ?_
    refine qv 31 (.int .i64 ((i : Int))) ?_
    refine qv 32 (.bool (decide ((i : Int) > 0))) ?_
    refine qv 33 (.bool (decide ((i : Int) > 0))) ?_
    refine (bsplit (decide ((i : Int) > 0))).elim (fun b53 => ?_) (fun b53 => ?_)
    ·have g54 := of_decide_eq_true b53
     refine q_know 33 (.bool true) (congrArg Value.bool b53) ?_
     have g55 := of_decide_eq_true b53
     refine qy 2 33 true 34 (pt b46 0) ?_
     refine qy 2 33 true 35 (.int .i64 ((S.getD i stamp0).r)) ?_ (hr := fun _ H' => (e_load1 rfl (by kernel_rfl) (H'.cell 3 rfl (by kernel_rfl))))
     refine qy 2 33 true 36 (pt b6 37) ?_
     refine qy 2 33 true 37 (.slice sa S.length sc) ?_ (hr := fun _ H' => (e_load1 rfl (by kernel_rfl) (H'.cell 2 rfl (by kernel_rfl))))
     refine qy 2 33 true 38 (.int .i64 ((i : Int))) ?_
     refine qy 2 33 true 39 (.int .i64 ((i : Int) - 1)) ?_ (hr := fun _ H' => (e_int (z := (i : Int) - 1) (by kernel_rfl) (IntWalk.i64_in _ (by omega))))
     obtain ⟨g56, o57, c58, e59, R60⟩ := SliceOf.atD hS stamp0 (show ((i : Int) - 1).toNat < S.length by omega)
     refine qy 2 33 true 40 (.pointer (some ⟨g56, o57 + ((i : Int) - 1).toNat * 38, none⟩)) ?_ (hr := fun _ H' => (e_indexAddrW (E := 49) (by kernel_rfl) (by kernel_rfl) (Nat.le_of_ble_eq_true rfl) rfl e59 rfl (by omega) (by omega)))
     refine qy 2 33 true 41 (.pointer (some ⟨g56, o57 + ((i : Int) - 1).toNat * 38, none⟩)) ?_
     refine qy 2 33 true 42 (.int .i64 ((S.getD ((i : Int) - 1).toNat stamp0).r)) ?_ (hr := fun _ H' => (e_load1 rfl (by kernel_rfl) (H'.cellR 0 rfl (cells_at R60 0 (by kernel_rfl) (show o57 + ((i : Int) - 1).toNat * 38 = o57 + ((i : Int) - 1).toNat * 38 + 0 by omega)) (fun h => h))))
     refine qy 2 33 true 43 (.bool (decide (((S.getD i stamp0).r) ≤ ((S.getD ((i : Int) - 1).toNat stamp0).r)))) ?_
     refine qv 44 (.bool (decide (((S.getD i stamp0).r) ≤ ((S.getD ((i : Int) - 1).toNat stamp0).r)))) ?_
     refine q_end ?_
     intro w61 H62
     refine then_normal ?_
     refine (bsplit (decide (((S.getD i stamp0).r) ≤ ((S.getD ((i : Int) - 1).toNat stamp0).r)))).elim (fun b63 => ?_) (fun b63 => ?_)
     ·have g64 := of_decide_eq_true b63
      refine wp_know 44 (.bool true) (congrArg Value.bool b63) ?_
      have g65 := of_decide_eq_true b63
      refine wp_ift rfl ?_
      refine w_seq ?_
      refine w_lit ?_
      refine wv 6 (.bool false) ?_
      refine w_nil ?_
      refine then_normal ?_
      refine w_ret ?_
      refine then_ret ?_
      refine blk_ret ?_
      refine then_ret ?_
      refine back_ret ?_
      refine blk_ret ?_
      refine then_ret ?_
      refine end1 rfl (res_tmp (v := (.bool false)) rfl) ?_
      have e1 : ((i : Int) - 1).toNat = i - 1 := by omega
      have ho : okAt f L x S i = false := by unfold okAt sameN; rw [← e1]; simp only [b53, b63, Bool.not_true, Bool.or_false, Bool.false_and]
      exact ⟨by simp only [rightX, all_not (show i < S.length by omega) ho, Bool.and_false], H62.upd 0 rfl [] (fun _ h => h.elim)⟩
     ·have g66 := of_decide_eq_false b63
      refine wp_know 44 (.bool false) (congrArg Value.bool b63) ?_
      have g67 := of_decide_eq_false b63
      refine wp_iff rfl ?_
      refine w_skip ?_
      refine then_normal ?_
      refine w_seq ?_
      refine w_lit ?_
      refine wv 45 (pt b46 1) ?_
      refine wv 46 (.agg ⟨([(.int .i64 ((S.getD i stamp0).cl)), (.int .i64 ((S.getD i stamp0).seq))] : List Value)⟩) ?_ (hr := e_loadN (vs := ([(.int .i64 ((S.getD i stamp0).cl)), (.int .i64 ((S.getD i stamp0).seq))] : List Value)) rfl (by kernel_rfl) (by kernel_rfl) (by exact Nat.le_of_ble_eq_true (by kernel_rfl)) (H62.at 3 rfl) (by kernel_rfl))
      refine wv 47 (pt b6 0) ?_
      refine wv 48 (pt b6 0) ?_
      refine wv 49 (.agg ⟨([(.int .i64 (x.cl)), (.int .i64 (x.seq))] : List Value)⟩) ?_ (hr := e_loadN (vs := ([(.int .i64 (x.cl)), (.int .i64 (x.seq))] : List Value)) rfl (by kernel_rfl) (by kernel_rfl) (by exact Nat.le_of_ble_eq_true (by kernel_rfl)) (H62.at 2 rfl) (by kernel_rfl))
      refine wv 50 (.bool (!(decide (((S.getD i stamp0).cl) = x.cl ∧ ((S.getD i stamp0).seq) = x.seq)))) ?_ (hr := e_neqName ((S.getD i stamp0).cl) ((S.getD i stamp0).seq) x.cl x.seq rfl rfl)
      refine wv 51 (.bool (!(decide (((S.getD i stamp0).cl) = x.cl ∧ ((S.getD i stamp0).seq) = x.seq)))) ?_
      refine (bsplit (!(decide (((S.getD i stamp0).cl) = x.cl ∧ ((S.getD i stamp0).seq) = x.seq)))).elim (fun b68 => ?_) (fun b68 => ?_)
      ·have g69 := bnot_true b68
       refine wl_know 51 (.bool true) (congrArg Value.bool b68) ?_
       have g70 := bnot_true b68
       iterate 6 refine wn 6 51 false ?_
       refine wv 58 (.bool true) ?_
       refine wv 59 (.bool true) ?_
       iterate 5 refine wn 14 59 false ?_
       refine wv 65 (.bool true) ?_
       refine w_nil ?_
       refine then_normal ?_
       refine wp_ift rfl ?_
       refine w_seq ?_
       refine w_lit ?_
       refine wv 6 (.bool false) ?_
       refine w_nil ?_
       refine then_normal ?_
       refine w_ret ?_
       refine blk_ret ?_
       refine then_ret ?_
       refine back_ret ?_
       refine blk_ret ?_
       refine then_ret ?_
       refine end1 rfl (res_tmp (v := (.bool false)) rfl) ?_
       have n71 := bnot_true b68
       have e1 : ((i : Int) - 1).toNat = i - 1 := by omega
       have ho : okAt f L x S i = false := by unfold okAt sameN; rw [← e1]; simp only [b53, b63, n71, Bool.not_true, Bool.not_false, Bool.or_true, Bool.and_false, Bool.false_and]
       exact ⟨by simp only [rightX, all_not (show i < S.length by omega) ho, Bool.and_false], H62.upd 0 rfl [] (fun _ h => h.elim)⟩
      ·have g72 := bnot_false b68
       refine wl_know 51 (.bool false) (congrArg Value.bool b68) ?_
       have g73 := bnot_false b68
       refine wy 6 51 false 52 (pt b46 3) ?_
       refine wy 6 51 false 53 (.agg ⟨(hc (S.getD i stamp0).h)⟩) ?_ (hr := e_loadN (vs := (hc (S.getD i stamp0).h)) rfl (by kernel_rfl) (by kernel_rfl) (by exact Nat.le_of_ble_eq_true (by kernel_rfl)) (H62.at 3 rfl) (by kernel_rfl))
       refine wy 6 51 false 54 (pt b6 0) ?_
       refine wy 6 51 false 55 (pt b6 2) ?_
       refine wy 6 51 false 56 (.agg ⟨(hc x.h)⟩) ?_ (hr := e_loadN (vs := (hc x.h)) rfl (by kernel_rfl) (by kernel_rfl) (by exact Nat.le_of_ble_eq_true (by kernel_rfl)) (H62.at 2 rfl) (by kernel_rfl))
       refine wy 6 51 false 57 (.bool (!(decide (((S.getD i stamp0).h) = x.h)))) ?_ (hr := e_neHash ((S.getD i stamp0).h) x.h rfl rfl)
       refine wv 58 (.bool (!(decide (((S.getD i stamp0).h) = x.h)))) ?_
       refine wv 59 (.bool (!(decide (((S.getD i stamp0).h) = x.h)))) ?_
       refine (bsplit (!(decide (((S.getD i stamp0).h) = x.h)))).elim (fun b74 => ?_) (fun b74 => ?_)
       ·have g75 := bnot_true b74
        have g76 := of_decide_eq_false g75
        refine wl_know 59 (.bool true) (congrArg Value.bool b74) ?_
        have g77 := bnot_true b74
        have g78 := of_decide_eq_false g77
        iterate 5 refine wn 14 59 false ?_
        refine wv 65 (.bool true) ?_
        refine w_nil ?_
        refine then_normal ?_
        refine wp_ift rfl ?_
        refine w_seq ?_
        refine w_lit ?_
        refine wv 6 (.bool false) ?_
        refine w_nil ?_
        refine then_normal ?_
        refine w_ret ?_
        refine blk_ret ?_
        refine then_ret ?_
        refine back_ret ?_
        refine blk_ret ?_
        refine then_ret ?_
        refine end1 rfl (res_tmp (v := (.bool false)) rfl) ?_
        have n79 := bnot_false b68
        have n80 := bnot_true b74
        have e1 : ((i : Int) - 1).toNat = i - 1 := by omega
        have ho : okAt f L x S i = false := by unfold okAt sameN; rw [← e1]; simp only [b53, b63, n79, n80, Bool.not_true, Bool.not_false, Bool.or_true, Bool.and_false, Bool.false_and]
        exact ⟨by simp only [rightX, all_not (show i < S.length by omega) ho, Bool.and_false], H62.upd 0 rfl [] (fun _ h => h.elim)⟩
       ·have g81 := bnot_false b74
        have g82 := of_decide_eq_true g81
        refine wl_know 59 (.bool false) (congrArg Value.bool b74) ?_
        have g83 := bnot_false b74
        have g84 := of_decide_eq_true g83
        refine wy 14 59 false 60 (.agg ⟨([(.int .i64 (f)), (.int .i64 (cn))] : List Value)⟩) ?_ (hr := e_loadN (vs := ([(.int .i64 (f)), (.int .i64 (cn))] : List Value)) rfl (by kernel_rfl) (by kernel_rfl) (by exact Nat.le_of_ble_eq_true (by kernel_rfl)) (H62.at 1 rfl) (by kernel_rfl))
        refine wy 14 59 false 61 (pt b 0) ?_
        refine wy 14 59 false 62 (.agg ⟨(([(.int .i64 ((S.getD i stamp0).r)), (.int .i64 ((S.getD i stamp0).cl)), (.int .i64 ((S.getD i stamp0).seq))] : List Value) ++ hc (S.getD i stamp0).h ++ ([(.int .u64 ((S.getD i stamp0).t)), (.int .i64 ((S.getD i stamp0).sb)), (.int .i64 ((S.getD i stamp0).sm))] : List Value))⟩) ?_ (hr := e_loadN (vs := (([(.int .i64 ((S.getD i stamp0).r)), (.int .i64 ((S.getD i stamp0).cl)), (.int .i64 ((S.getD i stamp0).seq))] : List Value) ++ hc (S.getD i stamp0).h ++ ([(.int .u64 ((S.getD i stamp0).t)), (.int .i64 ((S.getD i stamp0).sb)), (.int .i64 ((S.getD i stamp0).sm))] : List Value))) rfl (by kernel_rfl) (by kernel_rfl) (by exact Nat.le_of_ble_eq_true (by kernel_rfl)) (H62.at 3 rfl) (by kernel_rfl))
        refine wl_do (wantsY 14 59 false rfl (by kernel_rfl) rfl (by kernel_rfl)) (fun K85 hK85 => ?_)
        refine d_call (d := 63) rfl (by kernel_rfl) (wRightS_any w61 f cn (by omega) b mb L (H62.roCk 0 rfl hb (fun _ _ h => h)) (H62.roMap 0 rfl hm (fun h => h)) (S.getD i stamp0) (hok _ (by omega))) ?_
        rintro _ w86 ⟨rfl, u88⟩
        have H87 := H62.keepU u88
        refine ⟨_, rfl, ?_⟩
        refine hK85 _ _ ?_
        clear hK85 K85
        refine wy 14 59 false 64 (.bool (!(rightS f L (S.getD i stamp0)))) ?_
        refine wv 65 (.bool (!(rightS f L (S.getD i stamp0)))) ?_
        refine w_nil ?_
        refine then_normal ?_
        refine (bsplit (!(rightS f L (S.getD i stamp0)))).elim (fun b89 => ?_) (fun b89 => ?_)
        ·have g90 := bnot_true b89
         refine wp_know 65 (.bool true) (congrArg Value.bool b89) ?_
         have g91 := bnot_true b89
         refine wp_ift rfl ?_
         refine w_seq ?_
         refine w_lit ?_
         refine wv 6 (.bool false) ?_
         refine w_nil ?_
         refine then_normal ?_
         refine w_ret ?_
         refine blk_ret ?_
         refine then_ret ?_
         refine back_ret ?_
         refine blk_ret ?_
         refine then_ret ?_
         refine end1 rfl (res_tmp (v := (.bool false)) rfl) ?_
         have n92 := bnot_false b68
         have n93 := bnot_false b74
         have n94 := bnot_true b89
         have e1 : ((i : Int) - 1).toNat = i - 1 := by omega
         have ho : okAt f L x S i = false := by unfold okAt sameN; rw [← e1]; simp only [b53, b63, n92, n93, n94, Bool.not_true, Bool.not_false, Bool.or_true, Bool.and_true, Bool.and_false]
         exact ⟨by simp only [rightX, all_not (show i < S.length by omega) ho, Bool.and_false], H87.upd 0 rfl [] (fun _ h => h.elim)⟩
        ·have g95 := bnot_false b89
         refine wp_know 65 (.bool false) (congrArg Value.bool b89) ?_
         have g96 := bnot_false b89
         refine wp_iff rfl ?_
         refine w_skip ?_
         refine blk_normal ?_
         refine then_normal ?_
         refine w_lit ?_
         refine wv 66 (.int .i64 ((i : Int) + 1)) ?_ (hr := e_int (z := (i : Int) + 1) (by kernel_rfl) (IntWalk.i64_in _ (by omega)))
         refine wv 26 (.int .i64 ((i : Int) + 1)) ?_
         refine w_nil ?_
         have n97 := bnot_false b68
         have n98 := bnot_false b74
         have n99 := bnot_false b89
         have e1 : ((i : Int) - 1).toNat = i - 1 := by omega
         have ho : okAt f L x S i = true := by unfold okAt sameN; rw [← e1]; simp only [b53, b63, n97, n98, n99, Bool.not_true, Bool.not_false, Bool.or_true, Bool.and_true]
         have H100 : Sat w [restC w (fun _ => False), cellC b2 36 ([(.int .i64 (f)), (.int .i64 (cn))] : List Value), cellC b6 47 (([(.int .i64 (x.cl)), (.int .i64 (x.seq))] : List Value) ++ hc x.h ++ ([(.int .i64 (x.len)), (.int .i64 (x.sb)), (.int .i64 (x.sm)), (.slice sa S.length sc)] : List Value))] w86 := H87.pick [0, 1, 2] (by decide)
         refine round_back ?_ _ ⟨(i + 1), (show ((.int .i64 ((i : Int) + 1)) : Value) = _ by first | rfl | go_num), (by omega), (fun j hj => by rcases Nat.lt_or_ge j i with h | h; exact hall j h; rw [show j = i by omega]; exact ho), H100, rfl⟩ (by omega)
         iterate 50 refine same_upd rfl ?_
         exact same_ovr
    ·have g101 := of_decide_eq_false b53
     refine q_know 33 (.bool false) (congrArg Value.bool b53) ?_
     have g102 := of_decide_eq_false b53
     iterate 10 refine qn 2 33 true ?_
     refine qv 44 (.bool false) ?_
     refine q_end ?_
     intro w103 H104
     refine then_normal ?_
     refine wp_iff rfl ?_
     refine w_skip ?_
     refine then_normal ?_
     refine w_seq ?_
     refine w_lit ?_
     refine wv 45 (pt b46 1) ?_
     refine wv 46 (.agg ⟨([(.int .i64 ((S.getD i stamp0).cl)), (.int .i64 ((S.getD i stamp0).seq))] : List Value)⟩) ?_ (hr := e_loadN (vs := ([(.int .i64 ((S.getD i stamp0).cl)), (.int .i64 ((S.getD i stamp0).seq))] : List Value)) rfl (by kernel_rfl) (by kernel_rfl) (by exact Nat.le_of_ble_eq_true (by kernel_rfl)) (H104.at 3 rfl) (by kernel_rfl))
     refine wv 47 (pt b6 0) ?_
     refine wv 48 (pt b6 0) ?_
     refine wv 49 (.agg ⟨([(.int .i64 (x.cl)), (.int .i64 (x.seq))] : List Value)⟩) ?_ (hr := e_loadN (vs := ([(.int .i64 (x.cl)), (.int .i64 (x.seq))] : List Value)) rfl (by kernel_rfl) (by kernel_rfl) (by exact Nat.le_of_ble_eq_true (by kernel_rfl)) (H104.at 2 rfl) (by kernel_rfl))
     refine wv 50 (.bool (!(decide (((S.getD i stamp0).cl) = x.cl ∧ ((S.getD i stamp0).seq) = x.seq)))) ?_ (hr := e_neqName ((S.getD i stamp0).cl) ((S.getD i stamp0).seq) x.cl x.seq rfl rfl)
     refine wv 51 (.bool (!(decide (((S.getD i stamp0).cl) = x.cl ∧ ((S.getD i stamp0).seq) = x.seq)))) ?_
     refine (bsplit (!(decide (((S.getD i stamp0).cl) = x.cl ∧ ((S.getD i stamp0).seq) = x.seq)))).elim (fun b105 => ?_) (fun b105 => ?_)
     ·have g106 := bnot_true b105
      refine wl_know 51 (.bool true) (congrArg Value.bool b105) ?_
      have g107 := bnot_true b105
      iterate 6 refine wn 6 51 false ?_
      refine wv 58 (.bool true) ?_
      refine wv 59 (.bool true) ?_
      iterate 5 refine wn 14 59 false ?_
      refine wv 65 (.bool true) ?_
      refine w_nil ?_
      refine then_normal ?_
      refine wp_ift rfl ?_
      refine w_seq ?_
      refine w_lit ?_
      refine wv 6 (.bool false) ?_
      refine w_nil ?_
      refine then_normal ?_
      refine w_ret ?_
      refine blk_ret ?_
      refine then_ret ?_
      refine back_ret ?_
      refine blk_ret ?_
      refine then_ret ?_
      refine end1 rfl (res_tmp (v := (.bool false)) rfl) ?_
      have n108 := bnot_true b105
      have e1 : ((i : Int) - 1).toNat = i - 1 := by omega
      have ho : okAt f L x S i = false := by unfold okAt sameN; rw [← e1]; simp only [b53, n108, Bool.not_false, Bool.true_or, Bool.and_false, Bool.false_and]
      exact ⟨by simp only [rightX, all_not (show i < S.length by omega) ho, Bool.and_false], H104.upd 0 rfl [] (fun _ h => h.elim)⟩
     ·have g109 := bnot_false b105
      refine wl_know 51 (.bool false) (congrArg Value.bool b105) ?_
      have g110 := bnot_false b105
      refine wy 6 51 false 52 (pt b46 3) ?_
      refine wy 6 51 false 53 (.agg ⟨(hc (S.getD i stamp0).h)⟩) ?_ (hr := e_loadN (vs := (hc (S.getD i stamp0).h)) rfl (by kernel_rfl) (by kernel_rfl) (by exact Nat.le_of_ble_eq_true (by kernel_rfl)) (H104.at 3 rfl) (by kernel_rfl))
      refine wy 6 51 false 54 (pt b6 0) ?_
      refine wy 6 51 false 55 (pt b6 2) ?_
      refine wy 6 51 false 56 (.agg ⟨(hc x.h)⟩) ?_ (hr := e_loadN (vs := (hc x.h)) rfl (by kernel_rfl) (by kernel_rfl) (by exact Nat.le_of_ble_eq_true (by kernel_rfl)) (H104.at 2 rfl) (by kernel_rfl))
      refine wy 6 51 false 57 (.bool (!(decide (((S.getD i stamp0).h) = x.h)))) ?_ (hr := e_neHash ((S.getD i stamp0).h) x.h rfl rfl)
      refine wv 58 (.bool (!(decide (((S.getD i stamp0).h) = x.h)))) ?_
      refine wv 59 (.bool (!(decide (((S.getD i stamp0).h) = x.h)))) ?_
      refine (bsplit (!(decide (((S.getD i stamp0).h) = x.h)))).elim (fun b111 => ?_) (fun b111 => ?_)
      ·have g112 := bnot_true b111
       have g113 := of_decide_eq_false g112
       refine wl_know 59 (.bool true) (congrArg Value.bool b111) ?_
       have g114 := bnot_true b111
       have g115 := of_decide_eq_false g114
       iterate 5 refine wn 14 59 false ?_
       refine wv 65 (.bool true) ?_
       refine w_nil ?_
       refine then_normal ?_
       refine wp_ift rfl ?_
       refine w_seq ?_
       refine w_lit ?_
       refine wv 6 (.bool false) ?_
       refine w_nil ?_
       refine then_normal ?_
       refine w_ret ?_
       refine blk_ret ?_
       refine then_ret ?_
       refine back_ret ?_
       refine blk_ret ?_
       refine then_ret ?_
       refine end1 rfl (res_tmp (v := (.bool false)) rfl) ?_
       have n116 := bnot_false b105
       have n117 := bnot_true b111
       have e1 : ((i : Int) - 1).toNat = i - 1 := by omega
       have ho : okAt f L x S i = false := by unfold okAt sameN; rw [← e1]; simp only [b53, n116, n117, Bool.not_false, Bool.true_or, Bool.and_false, Bool.false_and]
       exact ⟨by simp only [rightX, all_not (show i < S.length by omega) ho, Bool.and_false], H104.upd 0 rfl [] (fun _ h => h.elim)⟩
      ·have g118 := bnot_false b111
       have g119 := of_decide_eq_true g118
       refine wl_know 59 (.bool false) (congrArg Value.bool b111) ?_
       have g120 := bnot_false b111
       have g121 := of_decide_eq_true g120
       refine wy 14 59 false 60 (.agg ⟨([(.int .i64 (f)), (.int .i64 (cn))] : List Value)⟩) ?_ (hr := e_loadN (vs := ([(.int .i64 (f)), (.int .i64 (cn))] : List Value)) rfl (by kernel_rfl) (by kernel_rfl) (by exact Nat.le_of_ble_eq_true (by kernel_rfl)) (H104.at 1 rfl) (by kernel_rfl))
       refine wy 14 59 false 61 (pt b 0) ?_
       refine wy 14 59 false 62 (.agg ⟨(([(.int .i64 ((S.getD i stamp0).r)), (.int .i64 ((S.getD i stamp0).cl)), (.int .i64 ((S.getD i stamp0).seq))] : List Value) ++ hc (S.getD i stamp0).h ++ ([(.int .u64 ((S.getD i stamp0).t)), (.int .i64 ((S.getD i stamp0).sb)), (.int .i64 ((S.getD i stamp0).sm))] : List Value))⟩) ?_ (hr := e_loadN (vs := (([(.int .i64 ((S.getD i stamp0).r)), (.int .i64 ((S.getD i stamp0).cl)), (.int .i64 ((S.getD i stamp0).seq))] : List Value) ++ hc (S.getD i stamp0).h ++ ([(.int .u64 ((S.getD i stamp0).t)), (.int .i64 ((S.getD i stamp0).sb)), (.int .i64 ((S.getD i stamp0).sm))] : List Value))) rfl (by kernel_rfl) (by kernel_rfl) (by exact Nat.le_of_ble_eq_true (by kernel_rfl)) (H104.at 3 rfl) (by kernel_rfl))
       refine wl_do (wantsY 14 59 false rfl (by kernel_rfl) rfl (by kernel_rfl)) (fun K122 hK122 => ?_)
       refine d_call (d := 63) rfl (by kernel_rfl) (wRightS_any w103 f cn (by omega) b mb L (H104.roCk 0 rfl hb (fun _ _ h => h)) (H104.roMap 0 rfl hm (fun h => h)) (S.getD i stamp0) (hok _ (by omega))) ?_
       rintro _ w123 ⟨rfl, u125⟩
       have H124 := H104.keepU u125
       refine ⟨_, rfl, ?_⟩
       refine hK122 _ _ ?_
       clear hK122 K122
       refine wy 14 59 false 64 (.bool (!(rightS f L (S.getD i stamp0)))) ?_
       refine wv 65 (.bool (!(rightS f L (S.getD i stamp0)))) ?_
       refine w_nil ?_
       refine then_normal ?_
       refine (bsplit (!(rightS f L (S.getD i stamp0)))).elim (fun b126 => ?_) (fun b126 => ?_)
       ·have g127 := bnot_true b126
        refine wp_know 65 (.bool true) (congrArg Value.bool b126) ?_
        have g128 := bnot_true b126
        refine wp_ift rfl ?_
        refine w_seq ?_
        refine w_lit ?_
        refine wv 6 (.bool false) ?_
        refine w_nil ?_
        refine then_normal ?_
        refine w_ret ?_
        refine blk_ret ?_
        refine then_ret ?_
        refine back_ret ?_
        refine blk_ret ?_
        refine then_ret ?_
        refine end1 rfl (res_tmp (v := (.bool false)) rfl) ?_
        have n129 := bnot_false b105
        have n130 := bnot_false b111
        have n131 := bnot_true b126
        have e1 : ((i : Int) - 1).toNat = i - 1 := by omega
        have ho : okAt f L x S i = false := by unfold okAt sameN; rw [← e1]; simp only [b53, n129, n130, n131, Bool.not_false, Bool.true_or, Bool.and_true, Bool.and_false]
        exact ⟨by simp only [rightX, all_not (show i < S.length by omega) ho, Bool.and_false], H124.upd 0 rfl [] (fun _ h => h.elim)⟩
       ·have g132 := bnot_false b126
        refine wp_know 65 (.bool false) (congrArg Value.bool b126) ?_
        have g133 := bnot_false b126
        refine wp_iff rfl ?_
        refine w_skip ?_
        refine blk_normal ?_
        refine then_normal ?_
        refine w_lit ?_
        refine wv 66 (.int .i64 ((i : Int) + 1)) ?_ (hr := e_int (z := (i : Int) + 1) (by kernel_rfl) (IntWalk.i64_in _ (by omega)))
        refine wv 26 (.int .i64 ((i : Int) + 1)) ?_
        refine w_nil ?_
        have n134 := bnot_false b105
        have n135 := bnot_false b111
        have n136 := bnot_false b126
        have e1 : ((i : Int) - 1).toNat = i - 1 := by omega
        have ho : okAt f L x S i = true := by unfold okAt sameN; rw [← e1]; simp only [b53, n134, n135, n136, Bool.not_false, Bool.true_or, Bool.and_true]
        have H137 : Sat w [restC w (fun _ => False), cellC b2 36 ([(.int .i64 (f)), (.int .i64 (cn))] : List Value), cellC b6 47 (([(.int .i64 (x.cl)), (.int .i64 (x.seq))] : List Value) ++ hc x.h ++ ([(.int .i64 (x.len)), (.int .i64 (x.sb)), (.int .i64 (x.sm)), (.slice sa S.length sc)] : List Value))] w123 := H124.pick [0, 1, 2] (by decide)
        refine round_back ?_ _ ⟨(i + 1), (show ((.int .i64 ((i : Int) + 1)) : Value) = _ by first | rfl | go_num), (by omega), (fun j hj => by rcases Nat.lt_or_ge j i with h | h; exact hall j h; rw [show j = i by omega]; exact ho), H137, rfl⟩ (by omega)
        iterate 49 refine same_upd rfl ?_
        exact same_ovr
   ·have g138 := of_decide_eq_false b37
    refine wp_know 27 (.bool false) (congrArg Value.bool b37) ?_
    have g139 := of_decide_eq_false b37
    refine wp_iff rfl ?_
    refine w_exit ?_
    refine then_exit ?_
    refine back_exit ?_
    refine blk_hit ?_
    refine then_normal ?_
    refine w_seq ?_
    refine w_lit ?_
    refine wv 6 (.bool true) ?_
    refine w_nil ?_
    refine then_normal ?_
    refine w_ret ?_
    refine end1 rfl (res_tmp (v := (.bool true)) rfl) ?_
    have hn0 : i = S.length := by omega
    subst hn0
    exact ⟨by simp only [rightX, all_upto hall, n30, n31, Bool.and_true], H34.upd 0 rfl [] (fun _ h => h.elim)⟩

end Go.Proofs.Ytbpeofcoceaahaa
