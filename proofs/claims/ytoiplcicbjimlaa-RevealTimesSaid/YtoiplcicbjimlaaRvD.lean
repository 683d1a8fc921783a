/- WHAT IS PROVED: denials that come, openings, tombstones: contracts. Conditions: stated with each. -/
import Derived.Test.YtoiplcicbjimlaaShort
import Derived.Test.YtoiplcicbjimlaaRvC
namespace Go.Proofs.Ytoiplcicbjimlaa
open Go.RowKit
def rightDn (F : Int) (B : List Signed) (d : DenyD) : Bool := inB F d.r && decide (0 ≤ d.i) && decide (d.sb = d.r) && rightB B d.sb d.sm (denyB d.r d.i)
/-- an opening, as a thing of a list -/
structure OpenD where
 i : Int
 a : Option Addr
 n : Nat
 c : Nat
 h : Hash
def encOp (x : OpenD) : List Value := [.int .i64 x.i, .slice x.a x.n x.c] ++ hc x.h
theorem encOp_len (x : OpenD) : (encOp x).length = 34 := by simp [encOp, hc_len]
theorem encOp_one (x : OpenD) : (encOp x).all (·.oneCell') = true := by
 simp only [encOp, List.all_append, hc_eq]
 simp [Value.oneCell', byteV]
structure TombD where
 i : Int
 a : Option Addr
 n : Nat
 c : Nat
def encTb (x : TombD) : List Value := [.int .i64 x.i, .slice x.a x.n x.c]
theorem encTb_len (x : TombD) : (encTb x).length = 2 := rfl
theorem encTb_one (x : TombD) : (encTb x).all (·.oneCell') = true := rfl
def open0 : OpenD := ⟨0, none, 0, 0, hash0⟩
def tomb0 : TombD := ⟨0, none, 0, 0⟩
def ackB (L : List (Int × PlX)) (j : Int) : Bool := ((lookM L j).map (·.p.acked)).getD false
def denB (L : List (Int × PlX)) (j : Int) : Bool := ((lookM L j).map (·.p.denied)).getD false
def oiB (L : List (Int × PlX)) (j : Int) : Int := ((lookM L j).map (·.p.oi)).getD 0
def manyB (Q : Nat) (L : List (Int × PlX)) (j : Int) : Bool := ((lookM L j).map fun X => decide (Q ≤ X.D.length)).getD false
theorem look_key {L : List (Int × PlX)} {k : Nat} {x : Int} (hx : (sortI L)[k]? = some x) : ∃ X, lookM L x = some X := by
 have h1 : x ∈ L.map (·.1) := sortI_mem.1 (List.mem_of_getElem? hx)
 cases hX : lookM L x with
 | none => exact absurd h1 (look_noneG.1 hX)
 | some X => exact ⟨X, rfl⟩
def OpI (L : List (Int × PlX)) (k : Nat) (O : List OpenD) : Prop := O.map (·.i) = (((sortI L).take k).filter (ackB L)).map (oiB L)
theorem OpI.start (L : List (Int × PlX)) : OpI L 0 [] := by simp [OpI]
theorem OpI.len {L : List (Int × PlX)} {k : Nat} {O : List OpenD} (h : OpI L k O) : O.length ≤ (sortI L).length := by
 have h1 := congrArg List.length h
 rw [List.length_map, List.length_map] at h1
 have h2 := List.length_filter_le (ackB L) ((sortI L).take k)
 rw [List.length_take] at h2
 omega
theorem OpI.skip {L : List (Int × PlX)} {k : Nat} {O : List OpenD} {x : Int} {X : PlX} (h : OpI L k O) (hx : (sortI L)[k]? = some x) (hX : lookM L x = some X) (ha : X.p.acked = false) : OpI L (k + 1) O := by
 unfold OpI at *
 rw [take_at hx, List.filter_append, List.filter_cons, if_neg (by unfold ackB; rw [hX]; simp [ha])]
 simpa using h
theorem OpI.one {L : List (Int × PlX)} {k : Nat} {O : List OpenD} {x : Int} {X : PlX} {o : OpenD} (h : OpI L k O) (hx : (sortI L)[k]? = some x) (hX : lookM L x = some X) (ha : X.p.acked = true) (ho : o.i = X.p.oi) : OpI L (k + 1) (O ++ [o]) := by
 unfold OpI at *
 rw [take_at hx, List.filter_append, List.filter_cons, if_pos (by unfold ackB; rw [hX]; simp [ha]), List.map_append, h, List.map_append]
 simp [ho, oiB, hX]
def TbI (Q : Nat) (L : List (Int × PlX)) (k : Nat) (T : List TombD) : Prop := T.map (·.i) = ((sortI L).take k).filter (manyB Q L) ∧ ∀ t ∈ T, t.n = Q
theorem TbI.start (Q : Nat) (L : List (Int × PlX)) : TbI Q L 0 [] := by simp [TbI]
theorem TbI.len {Q : Nat} {L : List (Int × PlX)} {k : Nat} {T : List TombD} (h : TbI Q L k T) : T.length ≤ (sortI L).length := by
 have h1 := congrArg List.length h.1
 rw [List.length_map] at h1
 have h2 := List.length_filter_le (manyB Q L) ((sortI L).take k)
 rw [List.length_take] at h2
 omega
theorem TbI.skip {Q : Nat} {L : List (Int × PlX)} {k : Nat} {T : List TombD} {x : Int} {X : PlX} (h : TbI Q L k T) (hx : (sortI L)[k]? = some x) (hX : lookM L x = some X) (ha : X.D.length < Q) : TbI Q L (k + 1) T := by
 refine ⟨?_, h.2⟩
 rw [take_at hx, List.filter_append, List.filter_cons, if_neg (by unfold manyB; rw [hX]; simp; omega)]
 simpa using h.1
theorem TbI.one {Q : Nat} {L : List (Int × PlX)} {k : Nat} {T : List TombD} {x : Int} {X : PlX} {t : TombD} (h : TbI Q L k T) (hx : (sortI L)[k]? = some x) (hX : lookM L x = some X) (ha : Q ≤ X.D.length) (ht : t.i = x) (hn : t.n = Q) : TbI Q L (k + 1) (T ++ [t]) := by
 refine ⟨?_, fun u hu => ?_⟩
 ·rw [take_at hx, List.filter_append, List.filter_cons, if_pos (by unfold manyB; rw [hX]; simpa using ha), List.map_append, h.1]
  simp [ht]
 ·rcases List.mem_append.1 hu with hu | hu
  ·exact h.2 u hu
  ·rw [List.mem_singleton.1 hu]; exact hn

set_option maxRecDepth 100000 in
set_option maxHeartbeats 400000 in
theorem pRightQ_any (w : World) (b mb_ : Nat) (L_ : List Signed) (hbk : (cellC b 103 [.map (some mb_)]).ok w) (hbm : MapAt w mb_ signedV (Value.int .i64) (marks L_)) (ta : Option Addr) (tc : Nat) (tx : List UInt8) (ht : ListAt encB 1 w (.slice ta tx.length tc) tx) (p m : Int) :
  Calls Try.prog 55 #[(.pointer (some ⟨b, 0, none⟩)), (.agg ⟨([(.int .i64 (p)), (.int .i64 (m))] : List Value)⟩), (.slice ta tx.length tc)] w fun e w' => e = .returned (.bool (rightB L_ p m tx)) ∧ Upd [] w w' := by
 have H := Sat.start0 w
 have hmk : (lookM (marks L_) (⟨p, tx⟩ : Signed)).getD 0 = markOf L_ (⟨p, tx⟩ : Signed) := by rw [look_marks]; rfl
 refine calls_fr Try.func55 rfl 26 rfl (Nat.le_of_ble_eq_true rfl) ?_
 refine w_seq ?_
 refine w_lit ?_
 refine wl_do (wants0 rfl) (fun K1 hK1 => ?_)
 refine d_box (vs := ([(.int .i64 (p)), (.int .i64 (m))] : List Value)) rfl H rfl rfl ?_
 intro b2 w3 (H4 : Sat w [restC w (fun _ => False), cellC b2 61 ([(.int .i64 (p)), (.int .i64 (m))] : List Value)] w3)
 refine hK1 _ _ ?_
 clear hK1 K1
 refine wv 6 (.bool false) ?_
 refine w_nil ?_
 refine then_normal ?_
 refine w_seq ?_
 refine q_start H4 (by kernel_rfl) (by kernel_rfl) ?_
 refine qv 8 (pt b 0) ?_
 refine qv 9 (pt b 0) ?_
 refine qv 10 (pt b 0) ?_
 refine qv 11 (.map (some mb_)) ?_ (hr := fun _ H' => (e_load1 rfl (by kernel_rfl) (H'.roCell 0 rfl hbk (fun h => h) rfl)))
 refine qv 12 (pt b2 0) ?_
 refine qv 13 (.int .i64 (p)) ?_ (hr := fun _ H' => (e_load1 rfl (by kernel_rfl) (H'.cell 1 rfl rfl)))
 refine qv 14 (.slice ta tx.length tc) ?_
 refine qv 15 (strV tx) ?_ (hr := fun _ H' => (e_convBytes (e := 5) (s := tx) (by kernel_rfl) (by kernel_rfl) (by kernel_rfl) rfl (list_bytes (ListAt.now H' 0 rfl ht))))
 refine q_val (wants0 rfl) (d := 16) (v := (.agg ⟨([(.int .i64 (p)), (strV tx)] : List Value)⟩)) rfl (fun _ H' => (by kernel_rfl)) ?_
 refine qv 17 (.int .i64 ((lookM (marks L_) (⟨p, tx⟩ : Signed)).getD 0)) ?_ (hr := fun _ H' => (e_lookup (kt := 100) (et := 3) signedK (by kernel_rfl) (fun w => by kernel_rfl) rfl (⟨p, tx⟩ : Signed) rfl (H'.roMap 0 rfl hbm (fun h => h)) (optD (Value.int .i64) _ _)))
 refine qv 7 (.int .i64 ((lookM (marks L_) (⟨p, tx⟩ : Signed)).getD 0)) ?_
 refine q_end ?_
 intro w5 H6
 refine then_normal ?_
 refine w_seq ?_
 refine w_lit ?_
 refine wv 18 (.int .i64 ((lookM (marks L_) (⟨p, tx⟩ : Signed)).getD 0)) ?_
 refine wv 19 (.bool (decide (((lookM (marks L_) (⟨p, tx⟩ : Signed)).getD 0) > 0))) ?_
 refine wv 20 (.bool (decide (((lookM (marks L_) (⟨p, tx⟩ : Signed)).getD 0) > 0))) ?_
 refine (bsplit (decide (((lookM (marks L_) (⟨p, tx⟩ : Signed)).getD 0) > 0))).elim (fun b7 => ?_) (fun b7 => ?_)
 ·have g8 := of_decide_eq_true b7
  refine wl_know 20 (.bool true) (congrArg Value.bool b7) ?_
  have g9 := of_decide_eq_true b7
  refine wy 2 20 true 21 (.int .i64 ((lookM (marks L_) (⟨p, tx⟩ : Signed)).getD 0)) ?_
  refine wy 2 20 true 22 (pt b2 1) ?_
  refine wy 2 20 true 23 (.int .i64 (m)) ?_ (hr := e_load1 rfl (by kernel_rfl) (H6.cell 1 rfl rfl))
  refine wy 2 20 true 24 (.bool (decide (((lookM (marks L_) (⟨p, tx⟩ : Signed)).getD 0) = m))) ?_
  refine wv 25 (.bool (decide (((lookM (marks L_) (⟨p, tx⟩ : Signed)).getD 0) = m))) ?_
  refine wv 6 (.bool (decide (((lookM (marks L_) (⟨p, tx⟩ : Signed)).getD 0) = m))) ?_
  refine w_nil ?_
  refine then_normal ?_
  refine w_ret ?_
  refine end1 rfl (res_tmp (v := (.bool (decide (((lookM (marks L_) (⟨p, tx⟩ : Signed)).getD 0) = m)))) rfl) ?_
  exact ⟨by unfold rightB; rw [← hmk]; simp [b7], H6.upd 0 rfl [] (fun _ h => h.elim)⟩
 ·have g10 := of_decide_eq_false b7
  refine wl_know 20 (.bool false) (congrArg Value.bool b7) ?_
  have g11 := of_decide_eq_false b7
  iterate 4 refine wn 2 20 true ?_
  refine wv 25 (.bool false) ?_
  refine wv 6 (.bool false) ?_
  refine w_nil ?_
  refine then_normal ?_
  refine w_ret ?_
  refine end1 rfl (res_tmp (v := (.bool false)) rfl) ?_
  exact ⟨by unfold rightB; rw [← hmk]; simp [b7], H6.upd 0 rfl [] (fun _ h => h.elim)⟩

set_option maxRecDepth 100000 in
set_option maxHeartbeats 400000 in
theorem wQuorum_any (w : World) (f c : Int) (hf : -1000000 ≤ f ∧ f ≤ 1000000) :
  Calls Try.prog 45 #[(.agg ⟨([(.int .i64 (f)), (.int .i64 (c))] : List Value)⟩)] w fun e w' => e = .returned (.int .i64 (2 * f + 1)) ∧ Upd [] w w' := by
 have H := Sat.start0 w
 refine calls_fr Try.func45 rfl 7 rfl (Nat.le_of_ble_eq_true rfl) ?_
 refine w_seq ?_
 refine w_lit ?_
 refine wl_do (wants0 rfl) (fun K1 hK1 => ?_)
 refine d_box (vs := ([(.int .i64 (f)), (.int .i64 (c))] : List Value)) rfl H rfl rfl ?_
 intro b2 w3 (H4 : Sat w [restC w (fun _ => False), cellC b2 31 ([(.int .i64 (f)), (.int .i64 (c))] : List Value)] w3)
 refine hK1 _ _ ?_
 clear hK1 K1
 refine wv 2 (.int .i64 (0)) ?_
 refine w_nil ?_
 refine then_normal ?_
 refine w_seq ?_
 refine w_lit ?_
 refine wv 3 (pt b2 0) ?_
 refine wv 4 (.int .i64 (f)) ?_ (hr := e_load1 rfl (by kernel_rfl) (H4.cell 1 rfl rfl))
 refine wv 5 (.int .i64 (2 * f)) ?_ (hr := e_int (z := 2 * f) (by kernel_rfl) (IntWalk.i64_in _ (by omega)))
 refine wv 6 (.int .i64 ((2 * f) + 1)) ?_ (hr := e_int (z := (2 * f) + 1) (by kernel_rfl) (IntWalk.i64_in _ (by omega)))
 refine wv 2 (.int .i64 ((2 * f) + 1)) ?_
 refine w_nil ?_
 refine then_normal ?_
 refine w_ret ?_
 refine end1 rfl (res_tmp (v := (.int .i64 ((2 * f) + 1))) rfl) ?_
 exact ⟨rfl, H4.upd 0 rfl [] (fun _ h => h.elim)⟩

theorem wQuorumN_any (w : World) (F C : Int) (Q : Nat) (hQ : (Q : Int) = 2 * F + 1) (hF : -1000000 ≤ F ∧ F ≤ 1000000) : Calls Try.prog 45 #[.agg ⟨[.int .i64 F, .int .i64 C]⟩] w fun e w' => e = .returned (.int .i64 (Q : Int)) ∧ Upd [] w w' := by rw [hQ]; exact wQuorum_any w F C hF

set_option maxRecDepth 100000 in
set_option maxHeartbeats 1000000 in
theorem wRightDeny_any (w : World) (F C : Int) (hF : -1000000 ≤ F ∧ F ≤ 1000000) (b mb_ : Nat) (B : List Signed) (hbk : (cellC b 103 [.map (some mb_)]).ok w) (hbm : MapAt w mb_ signedV (Value.int .i64) (marks B)) (d : DenyD) (hd : d.r ≤ 9223372036854775807 ∧ d.i ≤ 9223372036854775807) :
  Calls Try.prog 42 #[(.agg ⟨([(.int .i64 (F)), (.int .i64 (C))] : List Value)⟩), (.pointer (some ⟨b, 0, none⟩)), (.agg ⟨([(.int .i64 (d.r)), (.int .i64 (d.i)), (.int .i64 (d.sb)), (.int .i64 (d.sm))] : List Value)⟩)] w fun e w' => e = .returned (.bool (rightDn F B d)) ∧ Upd [] w w' := by
 have H := Sat.start0 w
 refine calls_fr Try.func42 rfl 32 rfl (Nat.le_of_ble_eq_true rfl) ?_
 refine w_seq ?_
 refine w_lit ?_
 refine wl_do (wants0 rfl) (fun K1 hK1 => ?_)
 refine d_box (vs := ([(.int .i64 (F)), (.int .i64 (C))] : List Value)) rfl H rfl rfl ?_
 intro b2 w3 (H4 : Sat w [restC w (fun _ => False), cellC b2 31 ([(.int .i64 (F)), (.int .i64 (C))] : List Value)] w3)
 refine hK1 _ _ ?_
 clear hK1 K1
 refine wl_do (wants0 rfl) (fun K5 hK5 => ?_)
 refine d_box (vs := ([(.int .i64 (d.r)), (.int .i64 (d.i)), (.int .i64 (d.sb)), (.int .i64 (d.sm))] : List Value)) rfl H4 rfl rfl ?_
 intro b6 w7 (H8 : Sat w [restC w (fun _ => False), cellC b2 31 ([(.int .i64 (F)), (.int .i64 (C))] : List Value), cellC b6 63 ([(.int .i64 (d.r)), (.int .i64 (d.i)), (.int .i64 (d.sb)), (.int .i64 (d.sm))] : List Value)] w7)
 refine hK5 _ _ ?_
 clear hK5 K5
 refine wv 6 (.bool false) ?_
 refine w_nil ?_
 refine then_normal ?_
 refine w_seq ?_
 refine h_start H8 [restC w (fun _ => False), cellC b2 31 ([(.int .i64 (F)), (.int .i64 (C))] : List Value), cellC b6 63 ([(.int .i64 (d.r)), (.int .i64 (d.i)), (.int .i64 (d.sb)), (.int .i64 (d.sm))] : List Value)] 26 rfl (by kernel_rfl) (fun Hx => (Hx.pick [0, 1, 2] (by decide))) ?_
 intro w9 H10 S11
 refine hv0 0 S11 7 (.agg ⟨([(.int .i64 (F)), (.int .i64 (C))] : List Value)⟩) ?_ (he := fun _ H' => (e_loadN (vs := ([(.int .i64 (F)), (.int .i64 (C))] : List Value)) rfl (by kernel_rfl) (by kernel_rfl) (by exact Nat.le_of_ble_eq_true (by kernel_rfl)) (H'.at 1 rfl) (by kernel_rfl)))
 refine hv0 1 S11 8 (pt b6 0) ?_
 refine hv0 2 S11 9 (.int .i64 (d.r)) ?_ (he := fun _ H' => (e_load1 rfl (by kernel_rfl) (H'.cell 2 rfl rfl)))
 refine h_do 3 rfl (by kernel_rfl) (wants0 rfl) (fun K12 hK12 => ?_)
 refine d_call (d := 10) rfl (by kernel_rfl) (wireIn_any w9 F C d.r (by omega)) ?_
 rintro _ w13 ⟨rfl, u15⟩
 have H14 := H10.keepU u15
 refine ⟨_, rfl, ?_⟩
 have S16 := H14.pick [0, 1, 2] (by decide)
 refine hK12 _ _ S16 ?_
 clear hK12 K12
 refine hv0 4 S16 11 (.bool (inB F d.r)) ?_
 refine (bsplit (inB F d.r)).elim (fun b17 => ?_) (fun b17 => ?_)
 ·refine h_know 11 (.bool true) (congrArg Value.bool b17) ?_
  refine h_val 5 rfl (by kernel_rfl) (by kernel_rfl) (by kernel_rfl) (fun _ _ _ h => h) S16 (wantsY 4 11 true rfl (by kernel_rfl) rfl (by kernel_rfl)) (d := 12) (v := (pt b6 1)) rfl (fun _ H' => (by kernel_rfl)) ?_
  refine h_val 6 rfl (by kernel_rfl) (by kernel_rfl) (by kernel_rfl) (fun _ _ _ h => h) S16 (wantsY 4 11 true rfl (by kernel_rfl) rfl (by kernel_rfl)) (d := 13) (v := (.int .i64 (d.i))) rfl (fun _ H' => (e_load1 rfl (by kernel_rfl) (H'.cell 2 rfl rfl))) ?_
  refine h_val 7 rfl (by kernel_rfl) (by kernel_rfl) (by kernel_rfl) (fun _ _ _ h => h) S16 (wantsY 4 11 true rfl (by kernel_rfl) rfl (by kernel_rfl)) (d := 14) (v := (.bool (decide (d.i ≥ 0)))) rfl (fun _ H' => (by kernel_rfl)) ?_
  refine hv0 8 S16 15 (.bool (decide (d.i ≥ 0))) ?_
  refine hv0 9 S16 16 (.bool (decide (d.i ≥ 0))) ?_
  refine (bsplit (decide (d.i ≥ 0))).elim (fun b18 => ?_) (fun b18 => ?_)
  ·have g19 := of_decide_eq_true b18
   refine h_know 16 (.bool true) (congrArg Value.bool b18) ?_
   have g20 := of_decide_eq_true b18
   refine h_val 10 rfl (by kernel_rfl) (by kernel_rfl) (by kernel_rfl) (fun _ _ _ h => h) S16 (wantsY 9 16 true rfl (by kernel_rfl) rfl (by kernel_rfl)) (d := 17) (v := (pt b6 2)) rfl (fun _ H' => (by kernel_rfl)) ?_
   refine h_val 11 rfl (by kernel_rfl) (by kernel_rfl) (by kernel_rfl) (fun _ _ _ h => h) S16 (wantsY 9 16 true rfl (by kernel_rfl) rfl (by kernel_rfl)) (d := 18) (v := (pt b6 2)) rfl (fun _ H' => (by kernel_rfl)) ?_
   refine h_val 12 rfl (by kernel_rfl) (by kernel_rfl) (by kernel_rfl) (fun _ _ _ h => h) S16 (wantsY 9 16 true rfl (by kernel_rfl) rfl (by kernel_rfl)) (d := 19) (v := (.int .i64 (d.sb))) rfl (fun _ H' => (e_load1 rfl (by kernel_rfl) (H'.cell 2 rfl rfl))) ?_
   refine h_val 13 rfl (by kernel_rfl) (by kernel_rfl) (by kernel_rfl) (fun _ _ _ h => h) S16 (wantsY 9 16 true rfl (by kernel_rfl) rfl (by kernel_rfl)) (d := 20) (v := (pt b6 0)) rfl (fun _ H' => (by kernel_rfl)) ?_
   refine h_val 14 rfl (by kernel_rfl) (by kernel_rfl) (by kernel_rfl) (fun _ _ _ h => h) S16 (wantsY 9 16 true rfl (by kernel_rfl) rfl (by kernel_rfl)) (d := 21) (v := (.int .i64 (d.r))) rfl (fun _ H' => (e_load1 rfl (by kernel_rfl) (H'.cell 2 rfl rfl))) ?_
   refine h_val 15 rfl (by kernel_rfl) (by kernel_rfl) (by kernel_rfl) (fun _ _ _ h => h) S16 (wantsY 9 16 true rfl (by kernel_rfl) rfl (by kernel_rfl)) (d := 22) (v := (.bool (decide (d.sb = d.r)))) rfl (fun _ H' => (by kernel_rfl)) ?_
   refine hv0 16 S16 23 (.bool (decide (d.sb = d.r))) ?_
   refine hv0 17 S16 24 (.bool (decide (d.sb = d.r))) ?_
   refine (bsplit (decide (d.sb = d.r))).elim (fun b21 => ?_) (fun b21 => ?_)
   ·have g22 := of_decide_eq_true b21
    refine h_know 24 (.bool true) (congrArg Value.bool b21) ?_
    have g23 := of_decide_eq_true b21
    refine h_val 18 rfl (by kernel_rfl) (by kernel_rfl) (by kernel_rfl) (fun _ _ _ h => h) S16 (wantsY 17 24 true rfl (by kernel_rfl) rfl (by kernel_rfl)) (d := 25) (v := (pt b 0)) rfl (fun _ H' => (by kernel_rfl)) ?_
    refine h_val 19 rfl (by kernel_rfl) (by kernel_rfl) (by kernel_rfl) (fun _ _ _ h => h) S16 (wantsY 17 24 true rfl (by kernel_rfl) rfl (by kernel_rfl)) (d := 26) (v := (pt b6 2)) rfl (fun _ H' => (by kernel_rfl)) ?_
    refine h_val 20 rfl (by kernel_rfl) (by kernel_rfl) (by kernel_rfl) (fun _ _ _ h => h) S16 (wantsY 17 24 true rfl (by kernel_rfl) rfl (by kernel_rfl)) (d := 27) (v := (.agg ⟨([(.int .i64 (d.sb)), (.int .i64 (d.sm))] : List Value)⟩)) rfl (fun _ H' => (e_loadN (vs := ([(.int .i64 (d.sb)), (.int .i64 (d.sm))] : List Value)) rfl (by kernel_rfl) (by kernel_rfl) (by exact Nat.le_of_ble_eq_true (by kernel_rfl)) (H'.at 2 rfl) (by kernel_rfl))) ?_
    refine h_val 21 rfl (by kernel_rfl) (by kernel_rfl) (by kernel_rfl) (fun _ _ _ h => h) S16 (wantsY 17 24 true rfl (by kernel_rfl) rfl (by kernel_rfl)) (d := 28) (v := (.agg ⟨([(.int .i64 (d.r)), (.int .i64 (d.i)), (.int .i64 (d.sb)), (.int .i64 (d.sm))] : List Value)⟩)) rfl (fun _ H' => (e_loadN (vs := ([(.int .i64 (d.r)), (.int .i64 (d.i)), (.int .i64 (d.sb)), (.int .i64 (d.sm))] : List Value)) rfl (by kernel_rfl) (by kernel_rfl) (by exact Nat.le_of_ble_eq_true (by kernel_rfl)) (H'.at 2 rfl) (by kernel_rfl))) ?_
    refine h_do 22 rfl (by kernel_rfl) (wantsY 17 24 true rfl (by kernel_rfl) rfl (by kernel_rfl)) (fun K24 hK24 => ?_)
    refine d_call (d := 29) rfl (by kernel_rfl) (wDenyText_any w13 d ⟨by show d.r ≤ _; omega, by show d.i ≤ _; omega⟩) ?_
    rintro _ w25 ⟨u26, rfl, k27, p28, q29⟩
    have hdl := denyB_len d.r d.i
    have H30 : Sat w [restC w (fun _ => False), cellC b2 31 ([(.int .i64 (F)), (.int .i64 (C))] : List Value), cellC b6 63 ([(.int .i64 (d.r)), (.int .i64 (d.i)), (.int .i64 (d.sb)), (.int .i64 (d.sm))] : List Value), rowC 5 1 u26 ((denyB d.r d.i).length) ((denyB d.r d.i).flatMap encB)] w25 := H14.addU p28 k27 q29
    obtain ⟨a31, c32, rfl⟩ := ownsRow_shape (H30.at 3 rfl)
    refine ⟨_, rfl, ?_⟩
    have S33 := H30.pick [0, 1, 2] (by decide)
    refine hK24 _ _ S33 ?_
    clear hK24 K24
    refine h_do 23 rfl (by kernel_rfl) (wantsY 17 24 true rfl (by kernel_rfl) rfl (by kernel_rfl)) (fun K34 hK34 => ?_)
    refine d_call (d := 30) rfl (by kernel_rfl) (pRightQ_any w25 b mb_ B (H30.roCk 0 rfl hbk (fun _ _ h => h)) (H30.roMap 0 rfl hbm (fun h => h)) a31 c32 (denyB d.r d.i) (ListAt.row (enc := encB) (sz := 1) encB_len (by decide) (H30.at 3 rfl)) d.sb d.sm) ?_
    rintro _ w35 ⟨rfl, u37⟩
    have H36 := H30.keepU u37
    refine ⟨_, rfl, ?_⟩
    have S38 := H36.pick [0, 1, 2] (by decide)
    refine hK34 _ _ S38 ?_
    clear hK34 K34
    refine hv0 24 S38 31 (.bool (rightB B d.sb d.sm (denyB d.r d.i))) ?_
    refine hv0 25 S38 6 (.bool (rightB B d.sb d.sm (denyB d.r d.i))) ?_
    refine h_fin (by kernel_rfl) ?_
    refine then_normal ?_
    refine w_ret ?_
    refine end1 rfl (res_tmp (v := (.bool (rightB B d.sb d.sm (denyB d.r d.i)))) rfl) ?_
    exact ⟨by unfold rightDn; simp [b17, b18, b21], H36.upd 0 rfl [] (fun _ h => h.elim)⟩
   ·have g39 := of_decide_eq_false b21
    refine h_know 24 (.bool false) (congrArg Value.bool b21) ?_
    have g40 := of_decide_eq_false b21
    refine h_pass 18 rfl (by kernel_rfl) (by kernel_rfl) (by kernel_rfl) (fun _ _ _ h => h) S16 (wantsN 17 24 true rfl (by kernel_rfl) rfl (by kernel_rfl)) rfl ?_
    refine h_pass 19 rfl (by kernel_rfl) (by kernel_rfl) (by kernel_rfl) (fun _ _ _ h => h) S16 (wantsN 17 24 true rfl (by kernel_rfl) rfl (by kernel_rfl)) rfl ?_
    refine h_pass 20 rfl (by kernel_rfl) (by kernel_rfl) (by kernel_rfl) (fun _ _ _ h => h) S16 (wantsN 17 24 true rfl (by kernel_rfl) rfl (by kernel_rfl)) rfl ?_
    refine h_pass 21 rfl (by kernel_rfl) (by kernel_rfl) (by kernel_rfl) (fun _ _ _ h => h) S16 (wantsN 17 24 true rfl (by kernel_rfl) rfl (by kernel_rfl)) rfl ?_
    refine h_pass 22 rfl (by kernel_rfl) (by kernel_rfl) (by kernel_rfl) (fun _ _ _ h => h) S16 (wantsN 17 24 true rfl (by kernel_rfl) rfl (by kernel_rfl)) rfl ?_
    refine h_pass 23 rfl (by kernel_rfl) (by kernel_rfl) (by kernel_rfl) (fun _ _ _ h => h) S16 (wantsN 17 24 true rfl (by kernel_rfl) rfl (by kernel_rfl)) rfl ?_
    refine hv0 24 S16 31 (.bool false) ?_
    refine hv0 25 S16 6 (.bool false) ?_
    refine h_fin (by kernel_rfl) ?_
    refine then_normal ?_
    refine w_ret ?_
    refine end1 rfl (res_tmp (v := (.bool false)) rfl) ?_
    exact ⟨by unfold rightDn; simp [b17, b18, b21], H14.upd 0 rfl [] (fun _ h => h.elim)⟩
  ·have g41 := of_decide_eq_false b18
   refine h_know 16 (.bool false) (congrArg Value.bool b18) ?_
   have g42 := of_decide_eq_false b18
   refine h_pass 10 rfl (by kernel_rfl) (by kernel_rfl) (by kernel_rfl) (fun _ _ _ h => h) S16 (wantsN 9 16 true rfl (by kernel_rfl) rfl (by kernel_rfl)) rfl ?_
   refine h_pass 11 rfl (by kernel_rfl) (by kernel_rfl) (by kernel_rfl) (fun _ _ _ h => h) S16 (wantsN 9 16 true rfl (by kernel_rfl) rfl (by kernel_rfl)) rfl ?_
   refine h_pass 12 rfl (by kernel_rfl) (by kernel_rfl) (by kernel_rfl) (fun _ _ _ h => h) S16 (wantsN 9 16 true rfl (by kernel_rfl) rfl (by kernel_rfl)) rfl ?_
   refine h_pass 13 rfl (by kernel_rfl) (by kernel_rfl) (by kernel_rfl) (fun _ _ _ h => h) S16 (wantsN 9 16 true rfl (by kernel_rfl) rfl (by kernel_rfl)) rfl ?_
   refine h_pass 14 rfl (by kernel_rfl) (by kernel_rfl) (by kernel_rfl) (fun _ _ _ h => h) S16 (wantsN 9 16 true rfl (by kernel_rfl) rfl (by kernel_rfl)) rfl ?_
   refine h_pass 15 rfl (by kernel_rfl) (by kernel_rfl) (by kernel_rfl) (fun _ _ _ h => h) S16 (wantsN 9 16 true rfl (by kernel_rfl) rfl (by kernel_rfl)) rfl ?_
   refine hv0 16 S16 23 (.bool false) ?_
   refine hv0 17 S16 24 (.bool false) ?_
   refine h_pass 18 rfl (by kernel_rfl) (by kernel_rfl) (by kernel_rfl) (fun _ _ _ h => h) S16 (wantsN 17 24 true rfl (by kernel_rfl) rfl (by kernel_rfl)) rfl ?_
   refine h_pass 19 rfl (by kernel_rfl) (by kernel_rfl) (by kernel_rfl) (fun _ _ _ h => h) S16 (wantsN 17 24 true rfl (by kernel_rfl) rfl (by kernel_rfl)) rfl ?_
   refine h_pass 20 rfl (by kernel_rfl) (by kernel_rfl) (by kernel_rfl) (fun _ _ _ h => h) S16 (wantsN 17 24 true rfl (by kernel_rfl) rfl (by kernel_rfl)) rfl ?_
   refine h_pass 21 rfl (by kernel_rfl) (by kernel_rfl) (by kernel_rfl) (fun _ _ _ h => h) S16 (wantsN 17 24 true rfl (by kernel_rfl) rfl (by kernel_rfl)) rfl ?_
   refine h_pass 22 rfl (by kernel_rfl) (by kernel_rfl) (by kernel_rfl) (fun _ _ _ h => h) S16 (wantsN 17 24 true rfl (by kernel_rfl) rfl (by kernel_rfl)) rfl ?_
   refine h_pass 23 rfl (by kernel_rfl) (by kernel_rfl) (by kernel_rfl) (fun _ _ _ h => h) S16 (wantsN 17 24 true rfl (by kernel_rfl) rfl (by kernel_rfl)) rfl ?_
   refine hv0 24 S16 31 (.bool false) ?_
   refine hv0 25 S16 6 (.bool false) ?_
   refine h_fin (by kernel_rfl) ?_
   refine then_normal ?_
   refine w_ret ?_
   refine end1 rfl (res_tmp (v := (.bool false)) rfl) ?_
   exact ⟨by unfold rightDn; simp [b17, b18], H14.upd 0 rfl [] (fun _ h => h.elim)⟩
 ·refine h_know 11 (.bool false) (congrArg Value.bool b17) ?_
  refine h_pass 5 rfl (by kernel_rfl) (by kernel_rfl) (by kernel_rfl) (fun _ _ _ h => h) S16 (wantsN 4 11 true rfl (by kernel_rfl) rfl (by kernel_rfl)) rfl ?_
  refine h_pass 6 rfl (by kernel_rfl) (by kernel_rfl) (by kernel_rfl) (fun _ _ _ h => h) S16 (wantsN 4 11 true rfl (by kernel_rfl) rfl (by kernel_rfl)) rfl ?_
  refine h_pass 7 rfl (by kernel_rfl) (by kernel_rfl) (by kernel_rfl) (fun _ _ _ h => h) S16 (wantsN 4 11 true rfl (by kernel_rfl) rfl (by kernel_rfl)) rfl ?_
  refine hv0 8 S16 15 (.bool false) ?_
  refine hv0 9 S16 16 (.bool false) ?_
  refine h_pass 10 rfl (by kernel_rfl) (by kernel_rfl) (by kernel_rfl) (fun _ _ _ h => h) S16 (wantsN 9 16 true rfl (by kernel_rfl) rfl (by kernel_rfl)) rfl ?_
  refine h_pass 11 rfl (by kernel_rfl) (by kernel_rfl) (by kernel_rfl) (fun _ _ _ h => h) S16 (wantsN 9 16 true rfl (by kernel_rfl) rfl (by kernel_rfl)) rfl ?_
  refine h_pass 12 rfl (by kernel_rfl) (by kernel_rfl) (by kernel_rfl) (fun _ _ _ h => h) S16 (wantsN 9 16 true rfl (by kernel_rfl) rfl (by kernel_rfl)) rfl ?_
  refine h_pass 13 rfl (by kernel_rfl) (by kernel_rfl) (by kernel_rfl) (fun _ _ _ h => h) S16 (wantsN 9 16 true rfl (by kernel_rfl) rfl (by kernel_rfl)) rfl ?_
  refine h_pass 14 rfl (by kernel_rfl) (by kernel_rfl) (by kernel_rfl) (fun _ _ _ h => h) S16 (wantsN 9 16 true rfl (by kernel_rfl) rfl (by kernel_rfl)) rfl ?_
  refine h_pass 15 rfl (by kernel_rfl) (by kernel_rfl) (by kernel_rfl) (fun _ _ _ h => h) S16 (wantsN 9 16 true rfl (by kernel_rfl) rfl (by kernel_rfl)) rfl ?_
  refine hv0 16 S16 23 (.bool false) ?_
  refine hv0 17 S16 24 (.bool false) ?_
  refine h_pass 18 rfl (by kernel_rfl) (by kernel_rfl) (by kernel_rfl) (fun _ _ _ h => h) S16 (wantsN 17 24 true rfl (by kernel_rfl) rfl (by kernel_rfl)) rfl ?_
  refine h_pass 19 rfl (by kernel_rfl) (by kernel_rfl) (by kernel_rfl) (fun _ _ _ h => h) S16 (wantsN 17 24 true rfl (by kernel_rfl) rfl (by kernel_rfl)) rfl ?_
  refine h_pass 20 rfl (by kernel_rfl) (by kernel_rfl) (by kernel_rfl) (fun _ _ _ h => h) S16 (wantsN 17 24 true rfl (by kernel_rfl) rfl (by kernel_rfl)) rfl ?_
  refine h_pass 21 rfl (by kernel_rfl) (by kernel_rfl) (by kernel_rfl) (fun _ _ _ h => h) S16 (wantsN 17 24 true rfl (by kernel_rfl) rfl (by kernel_rfl)) rfl ?_
  refine h_pass 22 rfl (by kernel_rfl) (by kernel_rfl) (by kernel_rfl) (fun _ _ _ h => h) S16 (wantsN 17 24 true rfl (by kernel_rfl) rfl (by kernel_rfl)) rfl ?_
  refine h_pass 23 rfl (by kernel_rfl) (by kernel_rfl) (by kernel_rfl) (fun _ _ _ h => h) S16 (wantsN 17 24 true rfl (by kernel_rfl) rfl (by kernel_rfl)) rfl ?_
  refine hv0 24 S16 31 (.bool false) ?_
  refine hv0 25 S16 6 (.bool false) ?_
  refine h_fin (by kernel_rfl) ?_
  refine then_normal ?_
  refine w_ret ?_
  refine end1 rfl (res_tmp (v := (.bool false)) rfl) ?_
  exact ⟨by unfold rightDn; simp [b17], H14.upd 0 rfl [] (fun _ h => h.elim)⟩

set_option maxRecDepth 100000 in
set_option maxHeartbeats 2000000 in
theorem rvDeny_any (w : World) (r mb : Nat) (F C rep : Int) (L : List (Int × PlX)) (b bm : Nat) (B : List Signed) (hB : (sepC (rvL r mb F C rep L ++ [cellC b 103 [.map (some bm)], mapC bm signedV (Value.int .i64) (marks B)])).ok w) (hF : -1000000 ≤ F ∧ F ≤ 1000000) (d : DenyD) (hd : d.r ≤ 9223372036854775807 ∧ d.i ≤ 9223372036854775807) (X : PlX) (hX : lookM L d.i = some X) (hr : rightDn F B d = true) :
  Calls Try.prog 26 #[(.pointer (some ⟨r, 0, none⟩)), (.pointer (some ⟨b, 0, none⟩)), (.agg ⟨([(.int .i64 (d.r)), (.int .i64 (d.i)), (.int .i64 (d.sb)), (.int .i64 (d.sm))] : List Value)⟩)] w fun e w' => ∃ M : List (Int × PlX), e = .returned (.bool (!(lookM X.D d.r).isSome)) ∧ CountR L d X M ∧ Sat w [cellC r 86 [.int .i64 F, .int .i64 C, .int .i64 rep, .map (some mb)], mapC mb (Value.int .i64) encX M, denC M, cellC b 103 [.map (some bm)], mapC bm signedV (Value.int .i64) (marks B), restC w (sepC (rvL r mb F C rep L ++ [cellC b 103 [.map (some bm)], mapC bm signedV (Value.int .i64) (marks B)])).fp] w' := by
 have H : Sat w [cellC r 86 ([(.int .i64 (F)), (.int .i64 (C)), (.int .i64 (rep)), (.map (some mb))] : List Value), mapC mb (Value.int .i64) encX L, denC L, cellC b 103 ([(.map (some bm))] : List Value), mapC bm signedV (Value.int .i64) (marks B), restC w (sepC (rvL r mb F C rep L ++ [cellC b 103 [.map (some bm)], mapC bm signedV (Value.int .i64) (marks B)])).fp] w := Sat.start (rvL r mb F C rep L ++ [cellC b 103 [.map (some bm)], mapC bm signedV (Value.int .i64) (marks B)]) hB
 refine calls_fr Try.func26 rfl 34 rfl (Nat.le_of_ble_eq_true rfl) ?_
 refine w_seq ?_
 refine w_lit ?_
 refine wl_do (wants0 rfl) (fun K1 hK1 => ?_)
 refine d_box (vs := ([(.int .i64 (d.r)), (.int .i64 (d.i)), (.int .i64 (d.sb)), (.int .i64 (d.sm))] : List Value)) rfl H rfl rfl ?_
 intro b2 w3 (H4 : Sat w [cellC r 86 ([(.int .i64 (F)), (.int .i64 (C)), (.int .i64 (rep)), (.map (some mb))] : List Value), mapC mb (Value.int .i64) encX L, denC L, cellC b 103 ([(.map (some bm))] : List Value), mapC bm signedV (Value.int .i64) (marks B), restC w (sepC (rvL r mb F C rep L ++ [cellC b 103 [.map (some bm)], mapC bm signedV (Value.int .i64) (marks B)])).fp, cellC b2 63 ([(.int .i64 (d.r)), (.int .i64 (d.i)), (.int .i64 (d.sb)), (.int .i64 (d.sm))] : List Value)] w3)
 refine hK1 _ _ ?_
 clear hK1 K1
 refine wv 6 (.bool false) ?_
 refine w_nil ?_
 refine then_normal ?_
 iterate 2 refine w_seq ?_
 refine h_start H4 [cellC r 86 ([(.int .i64 (F)), (.int .i64 (C)), (.int .i64 (rep)), (.map (some mb))] : List Value), mapC mb (Value.int .i64) encX L, denC L, cellC b 103 ([(.map (some bm))] : List Value), mapC bm signedV (Value.int .i64) (marks B), restC w (sepC (rvL r mb F C rep L ++ [cellC b 103 [.map (some bm)], mapC bm signedV (Value.int .i64) (marks B)])).fp, cellC b2 63 ([(.int .i64 (d.r)), (.int .i64 (d.i)), (.int .i64 (d.sb)), (.int .i64 (d.sm))] : List Value)] 13 rfl (by kernel_rfl) (fun Hx => (Hx.pick [0, 1, 2, 3, 4, 5, 6] (by decide))) ?_
 intro w5 H6 S7
 refine hv0 0 S7 10 (pt r 0) ?_
 refine hv0 1 S7 11 (pt r 0) ?_
 refine hv0 2 S7 12 (pt r 3) ?_
 refine hv0 3 S7 13 (.map (some mb)) ?_ (he := fun _ H' => (e_load1 rfl (by kernel_rfl) (H'.cell 0 rfl rfl)))
 refine hv0 4 S7 14 (pt b2 1) ?_
 refine hv0 5 S7 15 (.int .i64 (d.i)) ?_ (he := fun _ H' => (e_load1 rfl (by kernel_rfl) (H'.cell 6 rfl rfl)))
 refine hv0 6 S7 16 (.tuple #[(.agg ⟨(([(.int .i64 (X.p.n1)), (.int .i64 (X.p.n2))] : List Value) ++ hc X.p.h ++ ([(.int .u64 (X.p.t)), (.int .u64 (X.p.since)), (.int .i64 (X.p.oi)), (.slice X.p.oa X.p.ol X.p.oc)] : List Value) ++ hc X.p.on ++ ([(.bool (X.p.acked)), (.bool (X.p.denied)), (.map X.p.dm)] : List Value))⟩), (.bool true)]) ?_ (he := fun _ H' => (e_lookup2 (kt := 3) (et := 89) (KeyTy.int (by kernel_rfl)) (by kernel_rfl) zeroX rfl (d.i : Int) rfl (H'.at 1 rfl) (by rw [hX]; rfl) (by rw [hX]; rfl)))
 refine hv0 7 S7 9 (.tuple #[(.agg ⟨(([(.int .i64 (X.p.n1)), (.int .i64 (X.p.n2))] : List Value) ++ hc X.p.h ++ ([(.int .u64 (X.p.t)), (.int .u64 (X.p.since)), (.int .i64 (X.p.oi)), (.slice X.p.oa X.p.ol X.p.oc)] : List Value) ++ hc X.p.on ++ ([(.bool (X.p.acked)), (.bool (X.p.denied)), (.map X.p.dm)] : List Value))⟩), (.bool true)]) ?_
 refine hv0 8 S7 17 (.agg ⟨(([(.int .i64 (X.p.n1)), (.int .i64 (X.p.n2))] : List Value) ++ hc X.p.h ++ ([(.int .u64 (X.p.t)), (.int .u64 (X.p.since)), (.int .i64 (X.p.oi)), (.slice X.p.oa X.p.ol X.p.oc)] : List Value) ++ hc X.p.on ++ ([(.bool (X.p.acked)), (.bool (X.p.denied)), (.map X.p.dm)] : List Value))⟩) ?_
 refine hv0 9 S7 18 (.bool true) ?_
 refine h_do 10 rfl (by kernel_rfl) (wants0 rfl) (fun K8 hK8 => ?_)
 refine d_alloc (zs := (([(.int .i64 (0)), (.int .i64 (0))] : List Value) ++ hc hash0 ++ ([(.int .u64 (0)), (.int .u64 (0)), (.int .i64 (0)), (.slice none 0 0)] : List Value) ++ hc hash0 ++ ([(.bool false), (.bool false), ((Go.Value.map none))] : List Value))) (z := (.agg ⟨(([(.int .i64 (0)), (.int .i64 (0))] : List Value) ++ hc hash0 ++ ([(.int .u64 (0)), (.int .u64 (0)), (.int .i64 (0)), (.slice none 0 0)] : List Value) ++ hc hash0 ++ ([(.bool false), (.bool false), ((Go.Value.map none))] : List Value))⟩)) rfl H6 (by kernel_rfl) (by kernel_rfl) ?_
 intro b9 w10 (H11 : Sat w [cellC r 86 ([(.int .i64 (F)), (.int .i64 (C)), (.int .i64 (rep)), (.map (some mb))] : List Value), mapC mb (Value.int .i64) encX L, denC L, cellC b 103 ([(.map (some bm))] : List Value), mapC bm signedV (Value.int .i64) (marks B), restC w (sepC (rvL r mb F C rep L ++ [cellC b 103 [.map (some bm)], mapC bm signedV (Value.int .i64) (marks B)])).fp, cellC b2 63 ([(.int .i64 (d.r)), (.int .i64 (d.i)), (.int .i64 (d.sb)), (.int .i64 (d.sm))] : List Value), cellC b9 89 (([(.int .i64 (0)), (.int .i64 (0))] : List Value) ++ hc hash0 ++ ([(.int .u64 (0)), (.int .u64 (0)), (.int .i64 (0)), (.slice none 0 0)] : List Value) ++ hc hash0 ++ ([(.bool false), (.bool false), ((Go.Value.map none))] : List Value))] w10)
 have S12 := H11.pick [0, 1, 2, 3, 4, 5, 6] (by decide)
 refine hK8 _ _ S12 ?_
 clear hK8 K8
 refine h_do 11 rfl (by kernel_rfl) (wants0 rfl) (fun K13 hK13 => ?_)
 refine d_storeX (vs := (([(.int .i64 (X.p.n1)), (.int .i64 (X.p.n2))] : List Value) ++ hc X.p.h ++ ([(.int .u64 (X.p.t)), (.int .u64 (X.p.since)), (.int .i64 (X.p.oi)), (.slice X.p.oa X.p.ol X.p.oc)] : List Value) ++ hc X.p.on ++ ([(.bool (X.p.acked)), (.bool (X.p.denied)), (.map X.p.dm)] : List Value))) (cs' := (([(.int .i64 (X.p.n1)), (.int .i64 (X.p.n2))] : List Value) ++ hc X.p.h ++ ([(.int .u64 (X.p.t)), (.int .u64 (X.p.since)), (.int .i64 (X.p.oi)), (.slice X.p.oa X.p.ol X.p.oc)] : List Value) ++ hc X.p.on ++ ([(.bool (X.p.acked)), (.bool (X.p.denied)), (.map X.p.dm)] : List Value))) rfl H11 7 rfl rfl rfl rfl (by kernel_rfl) (Nat.le_of_ble_eq_true (by kernel_rfl)) (Nat.le_of_ble_eq_true (by kernel_rfl)) (by kernel_rfl) (by kernel_rfl) ?_
 intro w14 (H15 : Sat w [cellC r 86 ([(.int .i64 (F)), (.int .i64 (C)), (.int .i64 (rep)), (.map (some mb))] : List Value), mapC mb (Value.int .i64) encX L, denC L, cellC b 103 ([(.map (some bm))] : List Value), mapC bm signedV (Value.int .i64) (marks B), restC w (sepC (rvL r mb F C rep L ++ [cellC b 103 [.map (some bm)], mapC bm signedV (Value.int .i64) (marks B)])).fp, cellC b2 63 ([(.int .i64 (d.r)), (.int .i64 (d.i)), (.int .i64 (d.sb)), (.int .i64 (d.sm))] : List Value), cellC b9 89 (([(.int .i64 (X.p.n1)), (.int .i64 (X.p.n2))] : List Value) ++ hc X.p.h ++ ([(.int .u64 (X.p.t)), (.int .u64 (X.p.since)), (.int .i64 (X.p.oi)), (.slice X.p.oa X.p.ol X.p.oc)] : List Value) ++ hc X.p.on ++ ([(.bool (X.p.acked)), (.bool (X.p.denied)), (.map X.p.dm)] : List Value))] w14)
 have S17 := H15.pick [0, 1, 2, 3, 4, 5, 6] (by decide)
 refine hK13 _ _ S17 ?_
 clear hK13 K13
 refine hv0 12 S17 8 (.bool true) ?_
 refine h_fin (by kernel_rfl) ?_
 refine then_normal ?_
 refine w_seq ?_
 refine q_start H15 (by kernel_rfl) (by kernel_rfl) ?_
 refine qv 19 (.bool true) ?_
 refine qv 20 (.bool false) ?_
 refine qv 21 (.bool false) ?_
 refine qy 2 21 false 22 (pt r 0) ?_
 refine qy 2 21 false 23 (pt r 0) ?_
 refine qy 2 21 false 24 (pt r 0) ?_
 refine qy 2 21 false 25 (.agg ⟨([(.int .i64 (F)), (.int .i64 (C))] : List Value)⟩) ?_ (hr := fun _ H' => (e_loadN (vs := ([(.int .i64 (F)), (.int .i64 (C))] : List Value)) rfl (by kernel_rfl) (by kernel_rfl) (by exact Nat.le_of_ble_eq_true (by kernel_rfl)) (H'.at 0 rfl) (by kernel_rfl)))
 refine qy 2 21 false 26 (pt b 0) ?_
 refine qy 2 21 false 27 (.agg ⟨([(.int .i64 (d.r)), (.int .i64 (d.i)), (.int .i64 (d.sb)), (.int .i64 (d.sm))] : List Value)⟩) ?_ (hr := fun _ H' => (e_loadN (vs := ([(.int .i64 (d.r)), (.int .i64 (d.i)), (.int .i64 (d.sb)), (.int .i64 (d.sm))] : List Value)) rfl (by kernel_rfl) (by kernel_rfl) (by exact Nat.le_of_ble_eq_true (by kernel_rfl)) (H'.at 6 rfl) (by kernel_rfl)))
 refine q_call (wantsY 2 21 false rfl (by kernel_rfl) rfl (by kernel_rfl)) (d := 28) (v := (.bool (rightDn F B d))) rfl (fun _ _ => by kernel_rfl) (fun w' H' => (wRightDeny_any w' F C (by omega) b bm B (H'.at 3 rfl) (H'.at 4 rfl) d hd).mono fun _ _ h => ⟨h.1, H'.keepU h.2⟩) ?_
 refine qy 2 21 false 29 (.bool (!(rightDn F B d))) ?_
 refine qv 30 (.bool (!(rightDn F B d))) ?_
 refine q_end ?_
 intro w18 H19
 refine then_normal ?_
 have b20 : (!(rightDn F B d)) = false := by rw [hr]; rfl
 refine wp_know 30 (.bool false) (congrArg Value.bool b20) ?_
 have g21 := bnot_false b20
 refine wp_iff rfl ?_
 refine w_skip ?_
 refine then_normal ?_
 refine w_seq ?_
 refine w_lit ?_
 refine wv 31 (pt r 0) ?_
 refine wv 32 (.agg ⟨([(.int .i64 (d.r)), (.int .i64 (d.i)), (.int .i64 (d.sb)), (.int .i64 (d.sm))] : List Value)⟩) ?_ (hr := e_loadN (vs := ([(.int .i64 (d.r)), (.int .i64 (d.i)), (.int .i64 (d.sb)), (.int .i64 (d.sm))] : List Value)) rfl (by kernel_rfl) (by kernel_rfl) (by exact Nat.le_of_ble_eq_true (by kernel_rfl)) (H19.at 6 rfl) (by kernel_rfl))
 refine wl_do (wants0 rfl) (fun K22 hK22 => ?_)
 refine d_call (d := 33) rfl (by kernel_rfl) (rvCount_any w18 r mb F C rep L (H19.fin [0, 1, 2] (by decide) rfl) d X hX) ?_
 rintro _ w23 ⟨M24, rfl, R25, T26⟩
 have H27 : Sat w [cellC r 86 ([(.int .i64 (F)), (.int .i64 (C)), (.int .i64 (rep)), (.map (some mb))] : List Value), mapC mb (Value.int .i64) encX M24, denC M24, cellC b 103 ([(.map (some bm))] : List Value), mapC bm signedV (Value.int .i64) (marks B), restC w (sepC (rvL r mb F C rep L ++ [cellC b 103 [.map (some bm)], mapC bm signedV (Value.int .i64) (marks B)])).fp, cellC b2 63 ([(.int .i64 (d.r)), (.int .i64 (d.i)), (.int .i64 (d.sb)), (.int .i64 (d.sm))] : List Value), cellC b9 89 (([(.int .i64 (X.p.n1)), (.int .i64 (X.p.n2))] : List Value) ++ hc X.p.h ++ ([(.int .u64 (X.p.t)), (.int .u64 (X.p.since)), (.int .i64 (X.p.oi)), (.slice X.p.oa X.p.ol X.p.oc)] : List Value) ++ hc X.p.on ++ ([(.bool (X.p.acked)), (.bool (X.p.denied)), (.map X.p.dm)] : List Value))] w23 := (Sat.turnL (L' := [cellC r 86 ([(.int .i64 (F)), (.int .i64 (C)), (.int .i64 (rep)), (.map (some mb))] : List Value), mapC mb (Value.int .i64) encX M24, denC M24]) (R := [cellC b 103 ([(.map (some bm))] : List Value), mapC bm signedV (Value.int .i64) (marks B), restC w (sepC (rvL r mb F C rep L ++ [cellC b 103 [.map (some bm)], mapC bm signedV (Value.int .i64) (marks B)])).fp, cellC b2 63 ([(.int .i64 (d.r)), (.int .i64 (d.i)), (.int .i64 (d.sb)), (.int .i64 (d.sm))] : List Value), cellC b9 89 (([(.int .i64 (X.p.n1)), (.int .i64 (X.p.n2))] : List Value) ++ hc X.p.h ++ ([(.int .u64 (X.p.t)), (.int .u64 (X.p.since)), (.int .i64 (X.p.oi)), (.slice X.p.oa X.p.ol X.p.oc)] : List Value) ++ hc X.p.on ++ ([(.bool (X.p.acked)), (.bool (X.p.denied)), (.map X.p.dm)] : List Value))]) H19 [0, 1, 2] [3, 4, 5, 6, 7] (by decide) (by kernel_rfl) rfl T26).pick [0, 1, 2, 3, 4, 5, 6, 7] (by decide)
 refine ⟨_, rfl, ?_⟩
 refine hK22 _ _ ?_
 clear hK22 K22
 refine wv 6 (.bool ((!(lookM (PlX.D X) (DenyD.r d)).isSome))) ?_
 refine w_nil ?_
 refine then_normal ?_
 refine w_ret ?_
 refine end1 rfl (res_tmp (v := (.bool ((!(lookM (PlX.D X) (DenyD.r d)).isSome)))) rfl) ?_
 exact ⟨M24, rfl, R25, H27.pick [0, 1, 2, 3, 4, 5] (by decide)⟩

set_option maxRecDepth 100000 in
set_option maxHeartbeats 2000000 in
theorem rvOpenings_any (w : World) (r mb : Nat) (F C rep : Int) (L : List (Int × PlX)) (hb : (cellC r 86 [.int .i64 F, .int .i64 C, .int .i64 rep, .map (some mb)]).ok w) (hm : MapAt w mb (Value.int .i64) encX L) (hl : L.length ≤ 1000) (hs : ∀ x ∈ L, I64 x.1) (hd : (denC L).ok w) (hpay : ∀ x ∈ L, x.2.pay.length ≤ 256) :
  Calls Try.prog 21 #[(.pointer (some ⟨r, 0, none⟩))] w fun e w' => ∃ (oa : Option Addr) (oc : Nat) (O : List OpenD), e = .returned (.slice oa O.length oc) ∧ O.map (·.i) = ((sortI L).filter (ackB L)).map (oiB L) ∧ (rowC 43 34 (.slice oa O.length oc) O.length (O.flatMap encOp)).ok w' ∧ Upd [] w w' ∧ ∀ q_, (rowC 43 34 (.slice oa O.length oc) O.length (O.flatMap encOp)).fp q_ → w.heap.size ≤ q_ := by
 have H := Sat.start0 w
 have hsl := sortI_len L
 refine calls_fr Try.func21 rfl 38 rfl (Nat.le_of_ble_eq_true rfl) ?_
 refine w_seq ?_
 refine w_lit ?_
 refine wv 2 (.slice none 0 0) ?_
 refine w_nil ?_
 refine then_normal ?_
 refine w_seq ?_
 refine w_lit ?_
 refine wv 3 (.slice none 0 0) ?_
 refine w_nil ?_
 refine then_normal ?_
 iterate 2 refine w_seq ?_
 refine w_lit ?_
 refine wv 7 (pt r 0) ?_
 refine wl_do (wants0 rfl) (fun K1 hK1 => ?_)
 refine d_call (d := 8) rfl (by kernel_rfl) (rvRising_any w r mb F C rep L (H.roCk 0 rfl hb (fun _ _ h => h)) (H.roMap 0 rfl hm (fun h => h)) hl hs) ?_
 rintro _ w2 ⟨u3, rfl, k4, p5, q6⟩
 have H7 : Sat w [restC w (fun _ => False), rowC 3 1 u3 ((sortI L).length) ((sortI L).flatMap encI)] w2 := H.addU p5 k4 q6
 obtain ⟨a8, c9, rfl⟩ := ownsRow_shape (H7.at 1 rfl)
 refine ⟨_, rfl, ?_⟩
 refine hK1 _ _ ?_
 clear hK1 K1
 refine wv 9 (.int .i64 (((sortI L).length : Int))) ?_
 refine wv 10 (.int .i64 (0)) ?_
 refine w_nil ?_
 refine then_normal ?_
 refine w_block ?_
 have H10 := H7.addNil 43 34
 refine wp_round [3, 5, 6, 10, 11, 12, 13, 14, 15, 16, 17, 18, 19, 20, 21, 22, 23, 24, 25, 26, 27, 28, 29, 30, 31, 32, 33, 34, 35, 36] (fun F_ W_ m_ => ∃ (k : Nat) (oa : Option Addr) (oc : Nat) (O : List OpenD), F_ 10 = (.int .i64 ((k : Int))) ∧ F_ 3 = (.slice oa O.length oc) ∧ (k ≤ (sortI L).length) ∧ (OpI L k O) ∧ Sat w [restC w (fun _ => False), rowC 3 1 (.slice a8 ((sortI L).length) c9) ((sortI L).length) ((sortI L).flatMap encI), rowC 43 34 (.slice oa O.length oc) O.length (O.flatMap encOp)] W_ ∧ m_ = (sortI L).length - k) _ ⟨0, none, 0, [], (show ((.int .i64 (0)) : Value) = _ by first | rfl | go_num), (by first | rfl | go_num), (Nat.zero_le _), (OpI.start L), H10, rfl⟩ ?_
 rintro g11 w12 _ ⟨k, oa, oc, O, v14, v15, hk, hR, H13, rfl⟩
 refine wp_know 10 _ v14 ?_
 refine wp_know 3 _ v15 ?_
 refine w_seq ?_
 refine w_lit ?_
 refine wv 11 (.bool (decide ((k : Int) < ((sortI L).length : Int)))) ?_
 refine w_nil ?_
 refine then_normal ?_
 refine w_seq ?_
 refine (bsplit (decide ((k : Int) < ((sortI L).length : Int)))).elim (fun b17 => ?_) (fun b17 => ?_)
 ·have g18 := of_decide_eq_true b17
  refine wp_know 11 (.bool true) (congrArg Value.bool b17) ?_
  have g19 := of_decide_eq_true b17
  refine wp_ift rfl ?_
  refine w_skip ?_
  refine then_normal ?_
  refine w_seq ?_
  refine w_block ?_
  refine w_seq ?_
  refine w_lit ?_
  obtain ⟨g20, c21, e22⟩ := row_shape (H13.at 1 rfl) (by omega)
  obtain ⟨x23, h24⟩ := get_at (show k < (sortI L).length by omega)
  refine wv 12 (.pointer (some ⟨g20, 0 + ((k : Int)).toNat * 1, none⟩)) ?_ (hr := e_indexAddrV (E := 3) (by kernel_rfl) (by kernel_rfl) (Nat.le_of_ble_eq_true rfl) rfl e22 rfl (by omega) (by omega))
  refine wv 13 (.int .i64 (x23)) ?_ (hr := e_load1 rfl (by kernel_rfl) (rows_cell (H13.at 1 rfl) e22 encI_len h24 0 rfl (show 0 + ((k : Int)).toNat * 1 = k * 1 + 0 by omega) (by kernel_rfl)))
  refine wv 5 (.int .i64 (x23)) ?_
  refine w_nil ?_
  refine then_normal ?_
  refine w_seq ?_
  obtain ⟨X, hXL⟩ := look_key h24
  have hxi := hs _ (mem_lookG hXL)
  have hxi1 : -9223372036854775808 ≤ x23 ∧ x23 ≤ 9223372036854775807 := hxi
  have hOl := hR.len
  refine w_lit ?_
  refine wv 14 (pt r 0) ?_
  refine wv 15 (pt r 0) ?_
  refine wv 16 (pt r 3) ?_
  refine wv 17 (.map (some mb)) ?_ (hr := e_load1 rfl (by kernel_rfl) (H13.roCell 0 rfl hb (fun h => h) rfl))
  refine wv 18 (.int .i64 (x23)) ?_
  refine wv 19 (.agg ⟨(([(.int .i64 (X.p.n1)), (.int .i64 (X.p.n2))] : List Value) ++ hc X.p.h ++ ([(.int .u64 (X.p.t)), (.int .u64 (X.p.since)), (.int .i64 (X.p.oi)), (.slice X.p.oa X.p.ol X.p.oc)] : List Value) ++ hc X.p.on ++ ([(.bool (X.p.acked)), (.bool (X.p.denied)), (.map X.p.dm)] : List Value))⟩) ?_ (hr := e_lookup (kt := 3) (et := 89) (KeyTy.int (by kernel_rfl)) (by kernel_rfl) zeroX rfl (x23 : Int) rfl (H13.roMap 0 rfl hm (fun h => h)) (by rw [hXL]; rfl))
  refine wv 20 (.agg ⟨(([(.int .i64 (X.p.oi)), (.slice X.p.oa X.p.ol X.p.oc)] : List Value) ++ hc X.p.on)⟩) ?_
  refine wl_do (wants0 rfl) (fun K25 hK25 => ?_)
  refine d_alloc (zs := (([(.int .i64 (0)), (.slice none 0 0)] : List Value) ++ hc hash0)) (z := (.agg ⟨(([(.int .i64 (0)), (.slice none 0 0)] : List Value) ++ hc hash0)⟩)) rfl H13 (by kernel_rfl) (by kernel_rfl) ?_
  intro b26 w27 (H28 : Sat w [restC w (fun _ => False), rowC 3 1 (.slice a8 ((sortI L).length) c9) ((sortI L).length) ((sortI L).flatMap encI), rowC 43 34 (.slice oa O.length oc) O.length (O.flatMap encOp), cellC b26 43 (([(.int .i64 (0)), (.slice none 0 0)] : List Value) ++ hc hash0)] w27)
  refine hK25 _ _ ?_
  clear hK25 K25
  refine wl_do (wants0 rfl) (fun K29 hK29 => ?_)
  refine d_storeX (vs := (([(.int .i64 (X.p.oi)), (.slice X.p.oa X.p.ol X.p.oc)] : List Value) ++ hc X.p.on)) (cs' := (([(.int .i64 (X.p.oi)), (.slice X.p.oa X.p.ol X.p.oc)] : List Value) ++ hc X.p.on)) rfl H28 3 rfl rfl rfl rfl (by kernel_rfl) (Nat.le_of_ble_eq_true (by kernel_rfl)) (Nat.le_of_ble_eq_true (by kernel_rfl)) (by kernel_rfl) (by kernel_rfl) ?_
  intro w30 (H31 : Sat w [restC w (fun _ => False), rowC 3 1 (.slice a8 ((sortI L).length) c9) ((sortI L).length) ((sortI L).flatMap encI), rowC 43 34 (.slice oa O.length oc) O.length (O.flatMap encOp), cellC b26 43 (([(.int .i64 (X.p.oi)), (.slice X.p.oa X.p.ol X.p.oc)] : List Value) ++ hc X.p.on)] w30)
  refine hK29 _ _ ?_
  clear hK29 K29
  refine w_nil ?_
  refine then_normal ?_
  refine w_seq ?_
  refine w_lit ?_
  refine wv 21 (pt r 0) ?_
  refine wv 22 (pt r 0) ?_
  refine wv 23 (pt r 3) ?_
  refine wv 24 (.map (some mb)) ?_ (hr := e_load1 rfl (by kernel_rfl) (H31.roCell 0 rfl hb (fun h => h) rfl))
  refine wv 25 (.int .i64 (x23)) ?_
  refine wv 26 (.agg ⟨(([(.int .i64 (X.p.n1)), (.int .i64 (X.p.n2))] : List Value) ++ hc X.p.h ++ ([(.int .u64 (X.p.t)), (.int .u64 (X.p.since)), (.int .i64 (X.p.oi)), (.slice X.p.oa X.p.ol X.p.oc)] : List Value) ++ hc X.p.on ++ ([(.bool (X.p.acked)), (.bool (X.p.denied)), (.map X.p.dm)] : List Value))⟩) ?_ (hr := e_lookup (kt := 3) (et := 89) (KeyTy.int (by kernel_rfl)) (by kernel_rfl) zeroX rfl (x23 : Int) rfl (H31.roMap 0 rfl hm (fun h => h)) (by rw [hXL]; rfl))
  refine wv 27 (.bool (X.p.acked)) ?_
  refine w_nil ?_
  refine then_normal ?_
  refine (bsplit (X.p.acked)).elim (fun b33 => ?_) (fun b33 => ?_)
  ·refine wp_know 27 (.bool true) (congrArg Value.bool b33) ?_
   refine wp_ift rfl ?_
   refine w_seq ?_
   refine w_lit ?_
   refine wv 28 (pt b26 1) ?_
   refine wv 29 (.slice X.p.oa X.p.ol X.p.oc) ?_ (hr := e_load1 rfl (by kernel_rfl) (H31.cell 3 rfl (by kernel_rfl)))
   refine wl_do (wants0 rfl) (fun K34 hK34 => ?_)
   refine d_call (d := 30) rfl (by kernel_rfl) (cloneB_any w30 (.slice X.p.oa X.p.ol X.p.oc) X.pay (H31.roCk 0 rfl (denC_get hd hXL).2 (fun _ _ h => h)) (by have q := hpay _ (mem_lookG hXL); simp only at q; omega)) ?_
   rintro _ w35 ⟨u36, rfl, k37, p38, q39⟩
   have H40 : Sat w [restC w (fun _ => False), rowC 3 1 (.slice a8 ((sortI L).length) c9) ((sortI L).length) ((sortI L).flatMap encI), rowC 43 34 (.slice oa O.length oc) O.length (O.flatMap encOp), cellC b26 43 (([(.int .i64 (X.p.oi)), (.slice X.p.oa X.p.ol X.p.oc)] : List Value) ++ hc X.p.on), rowC 5 1 u36 X.pay.length (X.pay.flatMap encB)] w35 := H31.addU p38 k37 q39
   obtain ⟨a41, c42, rfl⟩ := ownsRow_shape (H40.at 4 rfl)
   refine ⟨_, rfl, ?_⟩
   refine hK34 _ _ ?_
   clear hK34 K34
   refine wv 31 (pt b26 1) ?_
   refine wl_do (wants0 rfl) (fun K43 hK43 => ?_)
   refine d_storeX (vs := ([(.slice a41 X.pay.length c42)] : List Value)) (cs' := (([(.int .i64 (X.p.oi)), (.slice a41 X.pay.length c42)] : List Value) ++ hc X.p.on)) rfl H40 3 rfl rfl rfl rfl (by kernel_rfl) (Nat.le_of_ble_eq_true (by kernel_rfl)) (Nat.le_of_ble_eq_true (by kernel_rfl)) (by kernel_rfl) (by kernel_rfl) ?_
   intro w44 (H45 : Sat w [restC w (fun _ => False), rowC 3 1 (.slice a8 ((sortI L).length) c9) ((sortI L).length) ((sortI L).flatMap encI), rowC 43 34 (.slice oa O.length oc) O.length (O.flatMap encOp), cellC b26 43 (([(.int .i64 (X.p.oi)), (.slice a41 X.pay.length c42)] : List Value) ++ hc X.p.on), rowC 5 1 (.slice a41 X.pay.length c42) X.pay.length (X.pay.flatMap encB)] w44)
   refine hK43 _ _ ?_
   clear hK43 K43
   refine w_nil ?_
   refine then_normal ?_
   refine w_lit ?_
   refine wv 32 (.slice oa O.length oc) ?_
   refine wv 33 (.agg ⟨(([(.int .i64 (X.p.oi)), (.slice a41 X.pay.length c42)] : List Value) ++ hc X.p.on)⟩) ?_ (hr := e_loadN (vs := (([(.int .i64 (X.p.oi)), (.slice a41 X.pay.length c42)] : List Value) ++ hc X.p.on)) rfl (by kernel_rfl) (by kernel_rfl) (by exact Nat.le_of_ble_eq_true (by kernel_rfl)) (H45.at 3 rfl) (by kernel_rfl))
   refine wl_do (wants0 rfl) (fun K47 hK47 => ?_)
   refine d_buildSlice (e := 43) (size := 34) (bytes := 64) (z := (.agg ⟨(([(.int .i64 (0)), (.slice none 0 0)] : List Value) ++ hc hash0)⟩)) (pvs := [(0, (.agg ⟨(([(.int .i64 (X.p.oi)), (.slice a41 X.pay.length c42)] : List Value) ++ hc X.p.on)⟩))]) (vs := (([(.int .i64 (X.p.oi)), (.slice a41 X.pay.length c42)] : List Value) ++ hc X.p.on)) rfl H45 (by kernel_rfl) (by kernel_rfl) (by kernel_rfl) (by kernel_rfl) (by kernel_rfl) rfl rfl ?_
   intro b48 w49 (H50 : Sat w [restC w (fun _ => False), rowC 3 1 (.slice a8 ((sortI L).length) c9) ((sortI L).length) ((sortI L).flatMap encI), rowC 43 34 (.slice oa O.length oc) O.length (O.flatMap encOp), cellC b26 43 (([(.int .i64 (X.p.oi)), (.slice a41 X.pay.length c42)] : List Value) ++ hc X.p.on), rowC 5 1 (.slice a41 X.pay.length c42) X.pay.length (X.pay.flatMap encB), rowC 43 34 (.slice (some ⟨b48, 0, none⟩) 1 1) 1 (([(.int .i64 (X.p.oi)), (.slice a41 X.pay.length c42)] : List Value) ++ hc X.p.on)] w49)
   have H51 : Sat w [restC w (fun _ => False), rowC 3 1 (.slice a8 ((sortI L).length) c9) ((sortI L).length) ((sortI L).flatMap encI), rowC 43 34 (.slice oa O.length oc) O.length (O.flatMap encOp), cellC b26 43 (([(.int .i64 (X.p.oi)), (.slice a41 X.pay.length c42)] : List Value) ++ hc X.p.on), rowC 5 1 (.slice a41 X.pay.length c42) X.pay.length (X.pay.flatMap encB), rowC 43 34 (.slice (some ⟨b48, 0, none⟩) 1 1) 1 ([(⟨X.p.oi, a41, X.pay.length, c42, X.p.on⟩ : OpenD)].flatMap encOp)] w49 := H50.cast (by rw [(show ((([(.int .i64 (X.p.oi)), (.slice a41 X.pay.length c42)] : List Value) ++ hc X.p.on) : List Value) = [(⟨X.p.oi, a41, X.pay.length, c42, X.p.on⟩ : OpenD)].flatMap encOp by kernel_rfl)])
   refine hK47 _ _ ?_
   clear hK47 K47
   refine wl_do (wants0 rfl) (fun K52 hK52 => ?_)
   refine d_append (T := 65) (e := 43) (size := 34) (bytes := 64) rfl H51 (by kernel_rfl) 2 5 rfl rfl rfl rfl (flat_one encOp encOp_one [(⟨X.p.oi, a41, X.pay.length, c42, X.p.on⟩ : OpenD)]) (by omega) (by omega) ?_
   intro v53 w54 (H55 : Sat w [restC w (fun _ => False), rowC 3 1 (.slice a8 ((sortI L).length) c9) ((sortI L).length) ((sortI L).flatMap encI), rowC 43 34 v53 (O.length + 1) ((O.flatMap encOp) ++ ([(⟨X.p.oi, a41, X.pay.length, c42, X.p.on⟩ : OpenD)].flatMap encOp)), cellC b26 43 (([(.int .i64 (X.p.oi)), (.slice a41 X.pay.length c42)] : List Value) ++ hc X.p.on), rowC 5 1 (.slice a41 X.pay.length c42) X.pay.length (X.pay.flatMap encB), rowC 43 34 (.slice (some ⟨b48, 0, none⟩) 1 1) 1 ([(⟨X.p.oi, a41, X.pay.length, c42, X.p.on⟩ : OpenD)].flatMap encOp)] w54)
   have H58 : Sat w [restC w (fun _ => False), rowC 3 1 (.slice a8 ((sortI L).length) c9) ((sortI L).length) ((sortI L).flatMap encI), rowC 43 34 v53 ((O ++ [(⟨X.p.oi, a41, X.pay.length, c42, X.p.on⟩ : OpenD)]).length) ((O ++ [(⟨X.p.oi, a41, X.pay.length, c42, X.p.on⟩ : OpenD)]).flatMap encOp), cellC b26 43 (([(.int .i64 (X.p.oi)), (.slice a41 X.pay.length c42)] : List Value) ++ hc X.p.on), rowC 5 1 (.slice a41 X.pay.length c42) X.pay.length (X.pay.flatMap encB), rowC 43 34 (.slice (some ⟨b48, 0, none⟩) 1 1) 1 ([(⟨X.p.oi, a41, X.pay.length, c42, X.p.on⟩ : OpenD)].flatMap encOp)] w54 := H55.cast (by simp only [List.length_append, List.flatMap_append] <;> rfl)
   obtain ⟨a56, c57, rfl⟩ := ownsRow_shape (H58.at 2 rfl)
   refine hK52 _ _ ?_
   clear hK52 K52
   refine wv 3 (.slice a56 ((O ++ [(⟨X.p.oi, a41, X.pay.length, c42, X.p.on⟩ : OpenD)]).length) c57) ?_
   refine w_nil ?_
   refine blk_normal ?_
   refine then_normal ?_
   refine w_lit ?_
   refine wv 36 (.int .i64 ((k : Int) + 1)) ?_ (hr := e_int (z := (k : Int) + 1) (by kernel_rfl) (IntWalk.i64_in _ (by omega)))
   refine wv 10 (.int .i64 ((k : Int) + 1)) ?_
   refine w_nil ?_
   have H59 : Sat w [restC w (fun _ => False), rowC 3 1 (.slice a8 ((sortI L).length) c9) ((sortI L).length) ((sortI L).flatMap encI), rowC 43 34 (.slice a56 ((O ++ [(⟨X.p.oi, a41, X.pay.length, c42, X.p.on⟩ : OpenD)]).length) c57) ((O ++ [(⟨X.p.oi, a41, X.pay.length, c42, X.p.on⟩ : OpenD)]).length) ((O ++ [(⟨X.p.oi, a41, X.pay.length, c42, X.p.on⟩ : OpenD)]).flatMap encOp)] w54 := H58.pick [0, 1, 2] (by decide)
   refine round_back ?_ _ ⟨(k + 1), a56, c57, (O ++ [(⟨X.p.oi, a41, X.pay.length, c42, X.p.on⟩ : OpenD)]), (show ((.int .i64 ((k : Int) + 1)) : Value) = _ by first | rfl | go_num), (show ((.slice a56 ((O ++ [(⟨X.p.oi, a41, X.pay.length, c42, X.p.on⟩ : OpenD)]).length) c57) : Value) = _ by first | rfl | go_num), (by omega), (hR.one h24 hXL b33 rfl), H59, rfl⟩ (by omega)
   iterate 34 refine same_upd rfl ?_
   exact same_ovr
  ·refine wp_know 27 (.bool false) (congrArg Value.bool b33) ?_
   refine wp_iff rfl ?_
   refine w_skip ?_
   refine blk_normal ?_
   refine then_normal ?_
   refine w_lit ?_
   refine wv 36 (.int .i64 ((k : Int) + 1)) ?_ (hr := e_int (z := (k : Int) + 1) (by kernel_rfl) (IntWalk.i64_in _ (by omega)))
   refine wv 10 (.int .i64 ((k : Int) + 1)) ?_
   refine w_nil ?_
   have H60 : Sat w [restC w (fun _ => False), rowC 3 1 (.slice a8 ((sortI L).length) c9) ((sortI L).length) ((sortI L).flatMap encI), rowC 43 34 (.slice oa O.length oc) O.length (O.flatMap encOp)] w30 := H31.pick [0, 1, 2] (by decide)
   refine round_back ?_ _ ⟨(k + 1), oa, oc, O, (show ((.int .i64 ((k : Int) + 1)) : Value) = _ by first | rfl | go_num), (show ((.slice oa O.length oc) : Value) = _ by first | rfl | go_num), (by omega), (hR.skip h24 hXL b33), H60, rfl⟩ (by omega)
   iterate 25 refine same_upd rfl ?_
   exact same_ovr
 ·have g61 := of_decide_eq_false b17
  refine wp_know 11 (.bool false) (congrArg Value.bool b17) ?_
  have g62 := of_decide_eq_false b17
  refine wp_iff rfl ?_
  refine w_exit ?_
  refine then_exit ?_
  refine back_exit ?_
  refine blk_hit ?_
  refine then_normal ?_
  refine w_seq ?_
  refine w_lit ?_
  refine wv 37 (.slice oa O.length oc) ?_
  refine wv 2 (.slice oa O.length oc) ?_
  refine w_nil ?_
  refine then_normal ?_
  refine w_ret ?_
  refine end1 rfl (res_tmp (v := (.slice oa O.length oc)) rfl) ?_
  obtain rfl : k = (sortI L).length := by omega
  exact ⟨oa, oc, O, rfl, (by unfold OpI at hR; rw [List.take_length] at hR; exact hR), H13.at 2 rfl, H13.upd 0 rfl [] (fun _ h => h.elim), H13.fresh 0 rfl (fun _ h => h) 2 rfl rfl⟩

set_option maxRecDepth 100000 in
set_option maxHeartbeats 2000000 in
theorem rvTombs_any (w : World) (r mb : Nat) (F C rep : Int) (L : List (Int × PlX)) (hb : (cellC r 86 [.int .i64 F, .int .i64 C, .int .i64 rep, .map (some mb)]).ok w) (hm : MapAt w mb (Value.int .i64) encX L) (hl : L.length ≤ 1000) (hs : ∀ x ∈ L, I64 x.1) (hd : (denC L).ok w) (hds : ∀ x ∈ L, x.2.D.length ≤ 1000 ∧ ∀ d ∈ x.2.D, I64 d.1) (Q : Nat) (hQ : (Q : Int) = 2 * F + 1) (hF : -1000000 ≤ F ∧ F ≤ 1000000) :
  Calls Try.prog 27 #[(.pointer (some ⟨r, 0, none⟩))] w fun e w' => ∃ (oa : Option Addr) (oc : Nat) (O : List TombD), e = .returned (.slice oa O.length oc) ∧ O.map (·.i) = (sortI L).filter (manyB Q L) ∧ (∀ t ∈ O, t.n = Q) ∧ (rowC 78 2 (.slice oa O.length oc) O.length (O.flatMap encTb)).ok w' ∧ Upd [] w w' ∧ ∀ q_, (rowC 78 2 (.slice oa O.length oc) O.length (O.flatMap encTb)).fp q_ → w.heap.size ≤ q_ := by
 have H := Sat.start0 w
 have hsl := sortI_len L
 refine calls_fr Try.func27 rfl 69 rfl (Nat.le_of_ble_eq_true rfl) ?_
 refine w_seq ?_
 refine w_lit ?_
 refine wv 2 (.slice none 0 0) ?_
 refine w_nil ?_
 refine then_normal ?_
 refine w_seq ?_
 refine w_lit ?_
 refine wv 3 (.slice none 0 0) ?_
 refine w_nil ?_
 refine then_normal ?_
 iterate 2 refine w_seq ?_
 refine w_lit ?_
 refine wv 10 (pt r 0) ?_
 refine wl_do (wants0 rfl) (fun K1 hK1 => ?_)
 refine d_call (d := 11) rfl (by kernel_rfl) (rvRising_any w r mb F C rep L (H.roCk 0 rfl hb (fun _ _ h => h)) (H.roMap 0 rfl hm (fun h => h)) hl hs) ?_
 rintro _ w2 ⟨u3, rfl, k4, p5, q6⟩
 have H7 : Sat w [restC w (fun _ => False), rowC 3 1 u3 ((sortI L).length) ((sortI L).flatMap encI)] w2 := H.addU p5 k4 q6
 obtain ⟨a8, c9, rfl⟩ := ownsRow_shape (H7.at 1 rfl)
 refine ⟨_, rfl, ?_⟩
 refine hK1 _ _ ?_
 clear hK1 K1
 refine wv 12 (.int .i64 (((sortI L).length : Int))) ?_
 refine wv 13 (.int .i64 (0)) ?_
 refine w_nil ?_
 refine then_normal ?_
 refine w_block ?_
 have H10 := H7.addNil 78 2
 refine wp_round [3, 5, 6, 7, 9, 13, 14, 15, 16, 17, 18, 19, 20, 21, 22, 23, 24, 25, 26, 27, 28, 29, 30, 31, 32, 33, 34, 35, 36, 37, 38, 39, 40, 41, 42, 43, 44, 45, 46, 47, 48, 49, 50, 51, 52, 53, 54, 55, 56, 57, 58, 59, 60, 61, 62, 63, 64, 65, 66, 67] (fun F_ W_ m_ => ∃ (k : Nat) (oa : Option Addr) (oc : Nat) (O : List TombD), F_ 13 = (.int .i64 ((k : Int))) ∧ F_ 3 = (.slice oa O.length oc) ∧ (k ≤ (sortI L).length) ∧ (TbI Q L k O) ∧ Sat w [restC w (fun _ => False), rowC 3 1 (.slice a8 ((sortI L).length) c9) ((sortI L).length) ((sortI L).flatMap encI), rowC 78 2 (.slice oa O.length oc) O.length (O.flatMap encTb)] W_ ∧ m_ = (sortI L).length - k) _ ⟨0, none, 0, [], (show ((.int .i64 (0)) : Value) = _ by first | rfl | go_num), (by first | rfl | go_num), (Nat.zero_le _), (TbI.start Q L), H10, rfl⟩ ?_
 rintro g11 w12 _ ⟨k, oa, oc, O, v14, v15, hk, hR, H13, rfl⟩
 refine wp_know 13 _ v14 ?_
 refine wp_know 3 _ v15 ?_
 refine w_seq ?_
 refine w_lit ?_
 refine wv 14 (.bool (decide ((k : Int) < ((sortI L).length : Int)))) ?_
 refine w_nil ?_
 refine then_normal ?_
 refine w_seq ?_
 refine (bsplit (decide ((k : Int) < ((sortI L).length : Int)))).elim (fun b17 => ?_) (fun b17 => ?_)
 ·have g18 := of_decide_eq_true b17
  refine wp_know 14 (.bool true) (congrArg Value.bool b17) ?_
  have g19 := of_decide_eq_true b17
  refine wp_ift rfl ?_
  refine w_skip ?_
  refine then_normal ?_
  refine w_seq ?_
  refine w_block ?_
  refine w_seq ?_
  refine w_lit ?_
  obtain ⟨g20, c21, e22⟩ := row_shape (H13.at 1 rfl) (by omega)
  obtain ⟨x23, h24⟩ := get_at (show k < (sortI L).length by omega)
  refine wv 15 (.pointer (some ⟨g20, 0 + ((k : Int)).toNat * 1, none⟩)) ?_ (hr := e_indexAddrV (E := 3) (by kernel_rfl) (by kernel_rfl) (Nat.le_of_ble_eq_true rfl) rfl e22 rfl (by omega) (by omega))
  refine wv 16 (.int .i64 (x23)) ?_ (hr := e_load1 rfl (by kernel_rfl) (rows_cell (H13.at 1 rfl) e22 encI_len h24 0 rfl (show 0 + ((k : Int)).toNat * 1 = k * 1 + 0 by omega) (by kernel_rfl)))
  refine wv 5 (.int .i64 (x23)) ?_
  refine w_nil ?_
  refine then_normal ?_
  refine w_seq ?_
  obtain ⟨⟨⟨xa, xb, xh, xt, xs, xi, xo, xl, xc, xn, xk, xd, dm⟩, D, pay⟩, hXL⟩ := look_key h24
  have hxi := hs _ (mem_lookG hXL)
  have hxi1 : -9223372036854775808 ≤ x23 ∧ x23 ≤ 9223372036854775807 := hxi
  have hOl := hR.len
  obtain ⟨db, hdm, hdmap⟩ := (denC_get hd hXL).1
  obtain rfl : dm = some db := hdm
  obtain ⟨hdl2, hds2⟩ := hds _ (mem_lookG hXL)
  simp only at hdl2 hds2
  have hsl2 := sortI_len D
  refine w_lit ?_
  refine wv 17 (pt r 0) ?_
  refine wv 18 (pt r 0) ?_
  refine wv 19 (pt r 3) ?_
  refine wv 20 (.map (some mb)) ?_ (hr := e_load1 rfl (by kernel_rfl) (H13.roCell 0 rfl hb (fun h => h) rfl))
  refine wv 21 (.int .i64 (x23)) ?_
  refine wv 22 (.agg ⟨(([(.int .i64 (xa)), (.int .i64 (xb))] : List Value) ++ hc xh ++ ([(.int .u64 (xt)), (.int .u64 (xs)), (.int .i64 (xi)), (.slice xo xl xc)] : List Value) ++ hc xn ++ ([(.bool (xk)), (.bool (xd)), (.map (some db))] : List Value))⟩) ?_ (hr := e_lookup (kt := 3) (et := 89) (KeyTy.int (by kernel_rfl)) (by kernel_rfl) zeroX rfl (x23 : Int) rfl (H13.roMap 0 rfl hm (fun h => h)) (by rw [hXL]; rfl))
  refine wv 23 (.map (some db)) ?_
  refine wl_do (wants0 rfl) (fun K25 hK25 => ?_)
  refine d_call (d := 24) rfl (by kernel_rfl) (sortNK_any w12 db) ?_
  rintro _ w26 ⟨rfl, hww26⟩
  obtain ⟨b27, hbb27⟩ : ∃ q_, q_ = (w12).heap.size := ⟨_, rfl⟩
  have H28 : Sat w [restC w (fun _ => False), rowC 3 1 (.slice a8 ((sortI L).length) c9) ((sortI L).length) ((sortI L).flatMap encI), rowC 78 2 (.slice oa O.length oc) O.length (O.flatMap encTb), cellC b27 87 ([(.map (some db))] : List Value)] w26 := by rw [hww26, hbb27]; exact H13.addU ((Upd.refl _ _).alloc _) (heap_alloc_at _ _) (fun _ h => h ▸ Nat.le_refl _)
  rw [← hbb27]
  refine ⟨_, rfl, ?_⟩
  refine hK25 _ _ ?_
  clear hK25 K25
  refine wl_do (wants0 rfl) (fun K29 hK29 => ?_)
  refine d_call (d := 25) rfl (by kernel_rfl) (sortNS_any (encV := denV) w26 db b27 D (H28.cell 3 rfl rfl) (H28.roMap 0 rfl hdmap (fun h => h)) (by omega) (fun d hd_ => hds2 d hd_)) ?_
  rintro _ w30 ⟨u31, rfl, k32, p33, q34⟩
  have H35 : Sat w [restC w (fun _ => False), rowC 3 1 (.slice a8 ((sortI L).length) c9) ((sortI L).length) ((sortI L).flatMap encI), rowC 78 2 (.slice oa O.length oc) O.length (O.flatMap encTb), cellC b27 87 ([(.map (some db))] : List Value), rowC 3 1 u31 ((sortI D).length) ((sortI D).flatMap encI)] w30 := H28.addU p33 k32 q34
  obtain ⟨a36, c37, rfl⟩ := ownsRow_shape (H35.at 4 rfl)
  refine ⟨_, rfl, ?_⟩
  refine hK29 _ _ ?_
  clear hK29 K29
  refine wv 6 (.slice a36 ((sortI D).length) c37) ?_
  refine w_nil ?_
  refine then_normal ?_
  iterate 2 refine w_seq ?_
  refine w_lit ?_
  refine wv 26 (.slice a36 ((sortI D).length) c37) ?_
  refine wv 27 (.int .i64 (((sortI D).length : Int))) ?_
  refine wv 28 (pt r 0) ?_
  refine wv 29 (pt r 0) ?_
  refine wv 30 (pt r 0) ?_
  refine wv 31 (.agg ⟨([(.int .i64 (F)), (.int .i64 (C))] : List Value)⟩) ?_ (hr := e_loadN (vs := ([(.int .i64 (F)), (.int .i64 (C))] : List Value)) rfl (by kernel_rfl) (by kernel_rfl) (by exact Nat.le_of_ble_eq_true (by kernel_rfl)) (H35.roCells 0 rfl hb (fun h => h)) (by kernel_rfl))
  refine wl_do (wants0 rfl) (fun K38 hK38 => ?_)
  refine d_call (d := 32) rfl (by kernel_rfl) (wQuorumN_any w30 F C Q hQ (by omega)) ?_
  rintro _ w39 ⟨rfl, u41⟩
  have H40 := H35.keepU u41
  refine ⟨_, rfl, ?_⟩
  refine hK38 _ _ ?_
  clear hK38 K38
  refine wv 33 (.bool (decide (((sortI D).length : Int) < (Q : Int)))) ?_
  refine w_nil ?_
  refine then_normal ?_
  refine (bsplit (decide (((sortI D).length : Int) < (Q : Int)))).elim (fun b42 => ?_) (fun b42 => ?_)
  ·have g43 := of_decide_eq_true b42
   refine wp_know 33 (.bool true) (congrArg Value.bool b42) ?_
   have g44 := of_decide_eq_true b42
   refine wp_ift rfl ?_
   refine w_exit ?_
   refine then_exit ?_
   refine blk_hit ?_
   refine then_normal ?_
   refine w_lit ?_
   refine wv 67 (.int .i64 ((k : Int) + 1)) ?_ (hr := e_int (z := (k : Int) + 1) (by kernel_rfl) (IntWalk.i64_in _ (by omega)))
   refine wv 13 (.int .i64 ((k : Int) + 1)) ?_
   refine w_nil ?_
   have H45 : Sat w [restC w (fun _ => False), rowC 3 1 (.slice a8 ((sortI L).length) c9) ((sortI L).length) ((sortI L).flatMap encI), rowC 78 2 (.slice oa O.length oc) O.length (O.flatMap encTb)] w39 := H40.pick [0, 1, 2] (by decide)
   refine round_back ?_ _ ⟨(k + 1), oa, oc, O, (show ((.int .i64 ((k : Int) + 1)) : Value) = _ by first | rfl | go_num), (show ((.slice oa O.length oc) : Value) = _ by first | rfl | go_num), (by omega), (hR.skip h24 hXL (show D.length < Q by omega)), H45, rfl⟩ (by omega)
   iterate 28 refine same_upd rfl ?_
   exact same_ovr
  ·have g46 := of_decide_eq_false b42
   refine wp_know 33 (.bool false) (congrArg Value.bool b42) ?_
   have g47 := of_decide_eq_false b42
   refine wp_iff rfl ?_
   refine w_skip ?_
   refine then_normal ?_
   refine w_seq ?_
   refine w_lit ?_
   refine wv 34 (.int .i64 (x23)) ?_
   refine wv 35 (.agg ⟨([(.int .i64 (x23)), (.slice none 0 0)] : List Value)⟩) ?_
   refine wl_do (wants0 rfl) (fun K48 hK48 => ?_)
   refine d_alloc (zs := ([(.int .i64 (0)), (.slice none 0 0)] : List Value)) (z := (.agg ⟨([(.int .i64 (0)), (.slice none 0 0)] : List Value)⟩)) rfl H40 (by kernel_rfl) (by kernel_rfl) ?_
   intro b49 w50 (H51 : Sat w [restC w (fun _ => False), rowC 3 1 (.slice a8 ((sortI L).length) c9) ((sortI L).length) ((sortI L).flatMap encI), rowC 78 2 (.slice oa O.length oc) O.length (O.flatMap encTb), cellC b27 87 ([(.map (some db))] : List Value), rowC 3 1 (.slice a36 ((sortI D).length) c37) ((sortI D).length) ((sortI D).flatMap encI), cellC b49 78 ([(.int .i64 (0)), (.slice none 0 0)] : List Value)] w50)
   refine hK48 _ _ ?_
   clear hK48 K48
   refine wl_do (wants0 rfl) (fun K52 hK52 => ?_)
   refine d_storeX (vs := ([(.int .i64 (x23)), (.slice none 0 0)] : List Value)) (cs' := ([(.int .i64 (x23)), (.slice none 0 0)] : List Value)) rfl H51 5 rfl rfl rfl rfl (by kernel_rfl) (Nat.le_of_ble_eq_true (by kernel_rfl)) (Nat.le_of_ble_eq_true (by kernel_rfl)) (by kernel_rfl) (by kernel_rfl) ?_
   intro w53 (H54 : Sat w [restC w (fun _ => False), rowC 3 1 (.slice a8 ((sortI L).length) c9) ((sortI L).length) ((sortI L).flatMap encI), rowC 78 2 (.slice oa O.length oc) O.length (O.flatMap encTb), cellC b27 87 ([(.map (some db))] : List Value), rowC 3 1 (.slice a36 ((sortI D).length) c37) ((sortI D).length) ((sortI D).flatMap encI), cellC b49 78 ([(.int .i64 (x23)), (.slice none 0 0)] : List Value)] w53)
   refine hK52 _ _ ?_
   clear hK52 K52
   refine w_nil ?_
   refine then_normal ?_
   iterate 2 refine w_seq ?_
   refine w_lit ?_
   refine wv 36 (.slice a36 ((sortI D).length) c37) ?_
   refine wv 37 (pt r 0) ?_
   refine wv 38 (pt r 0) ?_
   refine wv 39 (pt r 0) ?_
   refine wv 40 (.agg ⟨([(.int .i64 (F)), (.int .i64 (C))] : List Value)⟩) ?_ (hr := e_loadN (vs := ([(.int .i64 (F)), (.int .i64 (C))] : List Value)) rfl (by kernel_rfl) (by kernel_rfl) (by exact Nat.le_of_ble_eq_true (by kernel_rfl)) (H54.roCells 0 rfl hb (fun h => h)) (by kernel_rfl))
   refine wl_do (wants0 rfl) (fun K56 hK56 => ?_)
   refine d_call (d := 41) rfl (by kernel_rfl) (wQuorumN_any w53 F C Q hQ (by omega)) ?_
   rintro _ w57 ⟨rfl, u59⟩
   have H58 := H54.keepU u59
   refine ⟨_, rfl, ?_⟩
   refine hK56 _ _ ?_
   clear hK56 K56
   obtain ⟨g60, c61, e62⟩ := row_shape (H58.at 4 rfl) (by omega)
   obtain rfl : a36 = some ⟨g60, 0, none⟩ := by cases e62; rfl
   have H63 : Sat w [restC w (fun _ => False), rowC 3 1 (.slice a8 ((sortI L).length) c9) ((sortI L).length) ((sortI L).flatMap encI), rowC 78 2 (.slice oa O.length oc) O.length (O.flatMap encTb), cellC b27 87 ([(.map (some db))] : List Value), rowC 3 1 (.slice (some ⟨g60, 0, none⟩) ((sortI D).length) c37) ((sortI D).length) ((sortI D).flatMap encI), cellC b49 78 ([(.int .i64 (x23)), (.slice none 0 0)] : List Value)] w57 := H58
   have cp64 := ListAt.cap (ListAt.row (enc := encI) (sz := 1) encI_len (by decide) (H63.at 4 rfl))
   refine wv 42 (.slice (some ⟨g60, 0, none⟩) Q c37) ?_ (hr := e_sliceHi (E := 3) (q := Q) (by kernel_rfl) (by kernel_rfl) rfl rfl (by omega) (by omega))
   refine wv 43 (.int .i64 ((Q : Int))) ?_
   refine wv 44 (.int .i64 (0)) ?_
   refine w_nil ?_
   refine then_normal ?_
   refine w_block ?_
   have H65 := H63.addNil 63 4
   refine wp_round [9, 44, 45, 46, 47, 48, 49, 50, 51, 52, 53, 54, 55, 56, 57, 58, 59, 60, 61, 62] (fun F_ W_ m_ => ∃ (j : Nat) (ea : Option Addr) (ec : Nat) (E : List DenyD), F_ 44 = (.int .i64 ((j : Int))) ∧ (j ≤ Q) ∧ (E.length = j) ∧ Sat w [restC w (fun _ => False), rowC 3 1 (.slice a8 ((sortI L).length) c9) ((sortI L).length) ((sortI L).flatMap encI), rowC 78 2 (.slice oa O.length oc) O.length (O.flatMap encTb), cellC b27 87 ([(.map (some db))] : List Value), rowC 3 1 (.slice (some ⟨g60, 0, none⟩) ((sortI D).length) c37) ((sortI D).length) ((sortI D).flatMap encI), cellC b49 78 ([(.int .i64 (x23)), (.slice ea E.length ec)] : List Value), rowC 63 4 (.slice ea E.length ec) E.length (E.flatMap encDn)] W_ ∧ m_ = Q - j) _ ⟨0, none, 0, [], (show ((.int .i64 (0)) : Value) = _ by first | rfl | go_num), (Nat.zero_le _), rfl, H65, rfl⟩ ?_
   rintro g66 w67 _ ⟨j, ea, ec, E, v69, hj, hE, H68, rfl⟩
   refine wp_know 44 _ v69 ?_
   refine w_seq ?_
   refine w_lit ?_
   refine wv 45 (.bool (decide ((j : Int) < (Q : Int)))) ?_
   refine w_nil ?_
   refine then_normal ?_
   refine w_seq ?_
   refine (bsplit (decide ((j : Int) < (Q : Int)))).elim (fun b71 => ?_) (fun b71 => ?_)
   ·have g72 := of_decide_eq_true b71
    refine wp_know 45 (.bool true) (congrArg Value.bool b71) ?_
    have g73 := of_decide_eq_true b71
    refine wp_ift rfl ?_
    refine w_skip ?_
    refine then_normal ?_
    refine w_seq ?_
    refine w_block ?_
    refine w_seq ?_
    refine w_lit ?_
    obtain ⟨x74, h75⟩ := get_at (show j < (sortI D).length by omega)
    refine wv 46 (.pointer (some ⟨g60, 0 + ((j : Int)).toNat * 1, none⟩)) ?_ (hr := e_indexAddr (E := 3) (by kernel_rfl) (by kernel_rfl) (Nat.le_of_ble_eq_true rfl) rfl rfl (by omega) (by omega))
    refine wv 47 (.int .i64 (x74)) ?_ (hr := e_load1 rfl (by kernel_rfl) (rows_cell (H68.at 4 rfl) rfl encI_len h75 0 rfl (show 0 + ((j : Int)).toNat * 1 = j * 1 + 0 by omega) (by kernel_rfl)))
    refine wv 9 (.int .i64 (x74)) ?_
    refine w_nil ?_
    refine then_normal ?_
    refine k_start H68 [restC w (fun _ => False), rowC 3 1 (.slice a8 ((sortI L).length) c9) ((sortI L).length) ((sortI L).flatMap encI), rowC 78 2 (.slice oa O.length oc) O.length (O.flatMap encTb), cellC b27 87 ([(.map (some db))] : List Value), rowC 3 1 (.slice (some ⟨g60, 0, none⟩) ((sortI D).length) c37) ((sortI D).length) ((sortI D).flatMap encI), cellC b49 78 ([(.int .i64 (x23)), (.slice ea E.length ec)] : List Value)] [14] 15 rfl (by kernel_rfl) (fun Hx => (Hx.pick [0, 1, 2, 3, 4, 5] (by decide))) ?_
    intro w76 H77 S78
    refine k_pure 0 rfl (by kernel_rfl) (by kernel_rfl) (by kernel_rfl) (fun _ _ _ h => h) S78 (wants0 rfl) rfl (d := 48) (v := (pt b49 1)) rfl (fun _ => (by kernel_rfl)) ?_
    refine k_val 1 rfl (by kernel_rfl) (by kernel_rfl) (by kernel_rfl) (fun _ _ _ h => h) S78 (wants0 rfl) rfl (by kernel_rfl) (d := 49) (v := (.slice ea E.length ec)) rfl (fun _ H' => (e_load1 rfl (by kernel_rfl) (H'.cell 5 rfl rfl))) ?_
    refine k_pure 2 rfl (by kernel_rfl) (by kernel_rfl) (by kernel_rfl) (fun _ _ _ h => h) S78 (wants0 rfl) rfl (d := 50) (v := (pt r 0)) rfl (fun _ => (by kernel_rfl)) ?_
    refine k_pure 3 rfl (by kernel_rfl) (by kernel_rfl) (by kernel_rfl) (fun _ _ _ h => h) S78 (wants0 rfl) rfl (d := 51) (v := (pt r 0)) rfl (fun _ => (by kernel_rfl)) ?_
    refine k_pure 4 rfl (by kernel_rfl) (by kernel_rfl) (by kernel_rfl) (fun _ _ _ h => h) S78 (wants0 rfl) rfl (d := 52) (v := (pt r 3)) rfl (fun _ => (by kernel_rfl)) ?_
    refine k_val 5 rfl (by kernel_rfl) (by kernel_rfl) (by kernel_rfl) (fun _ _ _ h => h) S78 (wants0 rfl) rfl (by kernel_rfl) (d := 53) (v := (.map (some mb))) rfl (fun _ H' => (e_load1 rfl (by kernel_rfl) (H'.roCell 0 rfl hb (fun h => h) rfl))) ?_
    refine k_pure 6 rfl (by kernel_rfl) (by kernel_rfl) (by kernel_rfl) (fun _ _ _ h => h) S78 (wants0 rfl) rfl (d := 54) (v := (.int .i64 (x23))) rfl (fun _ => (by kernel_rfl)) ?_
    refine k_val 7 rfl (by kernel_rfl) (by kernel_rfl) (by kernel_rfl) (fun _ _ _ h => h) S78 (wants0 rfl) rfl (by kernel_rfl) (d := 55) (v := (.agg ⟨(([(.int .i64 (xa)), (.int .i64 (xb))] : List Value) ++ hc xh ++ ([(.int .u64 (xt)), (.int .u64 (xs)), (.int .i64 (xi)), (.slice xo xl xc)] : List Value) ++ hc xn ++ ([(.bool (xk)), (.bool (xd)), (.map (some db))] : List Value))⟩)) rfl (fun _ H' => (e_lookup (kt := 3) (et := 89) (KeyTy.int (by kernel_rfl)) (by kernel_rfl) zeroX rfl (x23 : Int) rfl (H'.roMap 0 rfl hm (fun h => h)) (by rw [hXL]; rfl))) ?_
    refine k_pure 8 rfl (by kernel_rfl) (by kernel_rfl) (by kernel_rfl) (fun _ _ _ h => h) S78 (wants0 rfl) rfl (d := 56) (v := (.map (some db))) rfl (fun _ => (by kernel_rfl)) ?_
    refine k_pure 9 rfl (by kernel_rfl) (by kernel_rfl) (by kernel_rfl) (fun _ _ _ h => h) S78 (wants0 rfl) rfl (d := 57) (v := (.int .i64 (x74))) rfl (fun _ => (by kernel_rfl)) ?_
    refine k_val 10 rfl (by kernel_rfl) (by kernel_rfl) (by kernel_rfl) (fun _ _ _ h => h) S78 (wants0 rfl) rfl (by kernel_rfl) (d := 58) (v := (.agg ⟨([(.int .i64 (((lookM D (x74 : Int)).getD deny0).r)), (.int .i64 (((lookM D (x74 : Int)).getD deny0).i)), (.int .i64 (((lookM D (x74 : Int)).getD deny0).sb)), (.int .i64 (((lookM D (x74 : Int)).getD deny0).sm))] : List Value)⟩)) rfl (fun _ H' => (e_lookup (kt := 3) (et := 63) (KeyTy.int (by kernel_rfl)) (by kernel_rfl) zeroDn rfl (x74 : Int) rfl (H'.roMap 0 rfl hdmap (fun h => h)) (optD denV _ _))) ?_
    refine k_do 11 rfl (by kernel_rfl) (wants0 rfl) rfl (fun K79 hK79 => ?_)
    refine d_buildSlice (e := 63) (size := 4) (bytes := 32) (z := (.agg ⟨([(.int .i64 (0)), (.int .i64 (0)), (.int .i64 (0)), (.int .i64 (0))] : List Value)⟩)) (pvs := [(0, (.agg ⟨([(.int .i64 (((lookM D (x74 : Int)).getD deny0).r)), (.int .i64 (((lookM D (x74 : Int)).getD deny0).i)), (.int .i64 (((lookM D (x74 : Int)).getD deny0).sb)), (.int .i64 (((lookM D (x74 : Int)).getD deny0).sm))] : List Value)⟩))]) (vs := ([(.int .i64 (((lookM D (x74 : Int)).getD deny0).r)), (.int .i64 (((lookM D (x74 : Int)).getD deny0).i)), (.int .i64 (((lookM D (x74 : Int)).getD deny0).sb)), (.int .i64 (((lookM D (x74 : Int)).getD deny0).sm))] : List Value)) rfl H77 (by kernel_rfl) (by kernel_rfl) (by kernel_rfl) (by kernel_rfl) (by kernel_rfl) rfl rfl ?_
    intro b80 w81 (H82 : Sat w [restC w (fun _ => False), rowC 3 1 (.slice a8 ((sortI L).length) c9) ((sortI L).length) ((sortI L).flatMap encI), rowC 78 2 (.slice oa O.length oc) O.length (O.flatMap encTb), cellC b27 87 ([(.map (some db))] : List Value), rowC 3 1 (.slice (some ⟨g60, 0, none⟩) ((sortI D).length) c37) ((sortI D).length) ((sortI D).flatMap encI), cellC b49 78 ([(.int .i64 (x23)), (.slice ea E.length ec)] : List Value), rowC 63 4 (.slice ea E.length ec) E.length (E.flatMap encDn), rowC 63 4 (.slice (some ⟨b80, 0, none⟩) 1 1) 1 ([(.int .i64 (((lookM D (x74 : Int)).getD deny0).r)), (.int .i64 (((lookM D (x74 : Int)).getD deny0).i)), (.int .i64 (((lookM D (x74 : Int)).getD deny0).sb)), (.int .i64 (((lookM D (x74 : Int)).getD deny0).sm))] : List Value)] w81)
    have H83 : Sat w [restC w (fun _ => False), rowC 3 1 (.slice a8 ((sortI L).length) c9) ((sortI L).length) ((sortI L).flatMap encI), rowC 78 2 (.slice oa O.length oc) O.length (O.flatMap encTb), cellC b27 87 ([(.map (some db))] : List Value), rowC 3 1 (.slice (some ⟨g60, 0, none⟩) ((sortI D).length) c37) ((sortI D).length) ((sortI D).flatMap encI), cellC b49 78 ([(.int .i64 (x23)), (.slice ea E.length ec)] : List Value), rowC 63 4 (.slice ea E.length ec) E.length (E.flatMap encDn), rowC 63 4 (.slice (some ⟨b80, 0, none⟩) 1 1) 1 ([(⟨((lookM D (x74 : Int)).getD deny0).r, ((lookM D (x74 : Int)).getD deny0).i, ((lookM D (x74 : Int)).getD deny0).sb, ((lookM D (x74 : Int)).getD deny0).sm⟩ : DenyD)].flatMap encDn)] w81 := H82.cast (by rw [(show (([(.int .i64 (((lookM D (x74 : Int)).getD deny0).r)), (.int .i64 (((lookM D (x74 : Int)).getD deny0).i)), (.int .i64 (((lookM D (x74 : Int)).getD deny0).sb)), (.int .i64 (((lookM D (x74 : Int)).getD deny0).sm))] : List Value) : List Value) = [(⟨((lookM D (x74 : Int)).getD deny0).r, ((lookM D (x74 : Int)).getD deny0).i, ((lookM D (x74 : Int)).getD deny0).sb, ((lookM D (x74 : Int)).getD deny0).sm⟩ : DenyD)].flatMap encDn by kernel_rfl)])
    have S84 := H83.pick [0, 1, 2, 3, 4, 5] (by decide)
    refine hK79 _ _ S84 ?_
    clear hK79 K79
    refine k_do 12 rfl (by kernel_rfl) (wants0 rfl) rfl (fun K85 hK85 => ?_)
    refine d_append (T := 58) (e := 63) (size := 4) (bytes := 32) rfl H83 (by kernel_rfl) 6 7 rfl rfl rfl rfl (flat_one encDn encDn_one [(⟨((lookM D (x74 : Int)).getD deny0).r, ((lookM D (x74 : Int)).getD deny0).i, ((lookM D (x74 : Int)).getD deny0).sb, ((lookM D (x74 : Int)).getD deny0).sm⟩ : DenyD)]) (by omega) (by omega) ?_
    intro v86 w87 (H88 : Sat w [restC w (fun _ => False), rowC 3 1 (.slice a8 ((sortI L).length) c9) ((sortI L).length) ((sortI L).flatMap encI), rowC 78 2 (.slice oa O.length oc) O.length (O.flatMap encTb), cellC b27 87 ([(.map (some db))] : List Value), rowC 3 1 (.slice (some ⟨g60, 0, none⟩) ((sortI D).length) c37) ((sortI D).length) ((sortI D).flatMap encI), cellC b49 78 ([(.int .i64 (x23)), (.slice ea E.length ec)] : List Value), rowC 63 4 v86 (E.length + 1) ((E.flatMap encDn) ++ ([(⟨((lookM D (x74 : Int)).getD deny0).r, ((lookM D (x74 : Int)).getD deny0).i, ((lookM D (x74 : Int)).getD deny0).sb, ((lookM D (x74 : Int)).getD deny0).sm⟩ : DenyD)].flatMap encDn)), rowC 63 4 (.slice (some ⟨b80, 0, none⟩) 1 1) 1 ([(⟨((lookM D (x74 : Int)).getD deny0).r, ((lookM D (x74 : Int)).getD deny0).i, ((lookM D (x74 : Int)).getD deny0).sb, ((lookM D (x74 : Int)).getD deny0).sm⟩ : DenyD)].flatMap encDn)] w87)
    have H91 : Sat w [restC w (fun _ => False), rowC 3 1 (.slice a8 ((sortI L).length) c9) ((sortI L).length) ((sortI L).flatMap encI), rowC 78 2 (.slice oa O.length oc) O.length (O.flatMap encTb), cellC b27 87 ([(.map (some db))] : List Value), rowC 3 1 (.slice (some ⟨g60, 0, none⟩) ((sortI D).length) c37) ((sortI D).length) ((sortI D).flatMap encI), cellC b49 78 ([(.int .i64 (x23)), (.slice ea E.length ec)] : List Value), rowC 63 4 v86 ((E ++ [(⟨((lookM D (x74 : Int)).getD deny0).r, ((lookM D (x74 : Int)).getD deny0).i, ((lookM D (x74 : Int)).getD deny0).sb, ((lookM D (x74 : Int)).getD deny0).sm⟩ : DenyD)]).length) ((E ++ [(⟨((lookM D (x74 : Int)).getD deny0).r, ((lookM D (x74 : Int)).getD deny0).i, ((lookM D (x74 : Int)).getD deny0).sb, ((lookM D (x74 : Int)).getD deny0).sm⟩ : DenyD)]).flatMap encDn), rowC 63 4 (.slice (some ⟨b80, 0, none⟩) 1 1) 1 ([(⟨((lookM D (x74 : Int)).getD deny0).r, ((lookM D (x74 : Int)).getD deny0).i, ((lookM D (x74 : Int)).getD deny0).sb, ((lookM D (x74 : Int)).getD deny0).sm⟩ : DenyD)].flatMap encDn)] w87 := H88.cast (by simp only [List.length_append, List.flatMap_append] <;> rfl)
    obtain ⟨a89, c90, rfl⟩ := ownsRow_shape (H91.at 6 rfl)
    have S92 := H91.pick [0, 1, 2, 3, 4, 5] (by decide)
    refine hK85 _ _ S92 ?_
    clear hK85 K85
    refine k_pure 13 rfl (by kernel_rfl) (by kernel_rfl) (by kernel_rfl) (fun _ _ _ h => h) S92 (wants0 rfl) rfl (d := 61) (v := (pt b49 1)) rfl (fun _ => (by kernel_rfl)) ?_
    refine k_brk 14 (Sat w [restC w (fun _ => False), rowC 3 1 (.slice a8 ((sortI L).length) c9) ((sortI L).length) ((sortI L).flatMap encI), rowC 78 2 (.slice oa O.length oc) O.length (O.flatMap encTb), cellC b27 87 ([(.map (some db))] : List Value), rowC 3 1 (.slice (some ⟨g60, 0, none⟩) ((sortI D).length) c37) ((sortI D).length) ((sortI D).flatMap encI)]) rfl (by kernel_rfl) (wants0 rfl) rfl (fun K93 hK93 => ?_)
    refine d_storeX (vs := ([(.slice a89 ((E ++ [(⟨((lookM D (x74 : Int)).getD deny0).r, ((lookM D (x74 : Int)).getD deny0).i, ((lookM D (x74 : Int)).getD deny0).sb, ((lookM D (x74 : Int)).getD deny0).sm⟩ : DenyD)]).length) c90)] : List Value)) (cs' := ([(.int .i64 (x23)), (.slice a89 ((E ++ [(⟨((lookM D (x74 : Int)).getD deny0).r, ((lookM D (x74 : Int)).getD deny0).i, ((lookM D (x74 : Int)).getD deny0).sb, ((lookM D (x74 : Int)).getD deny0).sm⟩ : DenyD)]).length) c90)] : List Value)) rfl H91 5 rfl rfl rfl rfl (by kernel_rfl) (Nat.le_of_ble_eq_true (by kernel_rfl)) (Nat.le_of_ble_eq_true (by kernel_rfl)) (by kernel_rfl) (by kernel_rfl) ?_
    intro w94 (H95 : Sat w [restC w (fun _ => False), rowC 3 1 (.slice a8 ((sortI L).length) c9) ((sortI L).length) ((sortI L).flatMap encI), rowC 78 2 (.slice oa O.length oc) O.length (O.flatMap encTb), cellC b27 87 ([(.map (some db))] : List Value), rowC 3 1 (.slice (some ⟨g60, 0, none⟩) ((sortI D).length) c37) ((sortI D).length) ((sortI D).flatMap encI), cellC b49 78 ([(.int .i64 (x23)), (.slice a89 ((E ++ [(⟨((lookM D (x74 : Int)).getD deny0).r, ((lookM D (x74 : Int)).getD deny0).i, ((lookM D (x74 : Int)).getD deny0).sb, ((lookM D (x74 : Int)).getD deny0).sm⟩ : DenyD)]).length) c90)] : List Value), rowC 63 4 (.slice a89 ((E ++ [(⟨((lookM D (x74 : Int)).getD deny0).r, ((lookM D (x74 : Int)).getD deny0).i, ((lookM D (x74 : Int)).getD deny0).sb, ((lookM D (x74 : Int)).getD deny0).sm⟩ : DenyD)]).length) c90) ((E ++ [(⟨((lookM D (x74 : Int)).getD deny0).r, ((lookM D (x74 : Int)).getD deny0).i, ((lookM D (x74 : Int)).getD deny0).sb, ((lookM D (x74 : Int)).getD deny0).sm⟩ : DenyD)]).length) ((E ++ [(⟨((lookM D (x74 : Int)).getD deny0).r, ((lookM D (x74 : Int)).getD deny0).i, ((lookM D (x74 : Int)).getD deny0).sb, ((lookM D (x74 : Int)).getD deny0).sm⟩ : DenyD)]).flatMap encDn), rowC 63 4 (.slice (some ⟨b80, 0, none⟩) 1 1) 1 ([(⟨((lookM D (x74 : Int)).getD deny0).r, ((lookM D (x74 : Int)).getD deny0).i, ((lookM D (x74 : Int)).getD deny0).sb, ((lookM D (x74 : Int)).getD deny0).sm⟩ : DenyD)].flatMap encDn)] w94)
    have S97 := H95.pick [0, 1, 2, 3, 4] (by decide)
    refine hK93 _ _ S97 ?_
    clear hK93 K93
    refine h_fin (by kernel_rfl) ?_
    refine blk_normal ?_
    refine then_normal ?_
    refine w_lit ?_
    refine wv 62 (.int .i64 ((j : Int) + 1)) ?_ (hr := e_int (z := (j : Int) + 1) (by kernel_rfl) (IntWalk.i64_in _ (by omega)))
    refine wv 44 (.int .i64 ((j : Int) + 1)) ?_
    refine w_nil ?_
    have H98 : Sat w [restC w (fun _ => False), rowC 3 1 (.slice a8 ((sortI L).length) c9) ((sortI L).length) ((sortI L).flatMap encI), rowC 78 2 (.slice oa O.length oc) O.length (O.flatMap encTb), cellC b27 87 ([(.map (some db))] : List Value), rowC 3 1 (.slice (some ⟨g60, 0, none⟩) ((sortI D).length) c37) ((sortI D).length) ((sortI D).flatMap encI), cellC b49 78 ([(.int .i64 (x23)), (.slice a89 ((E ++ [(⟨((lookM D (x74 : Int)).getD deny0).r, ((lookM D (x74 : Int)).getD deny0).i, ((lookM D (x74 : Int)).getD deny0).sb, ((lookM D (x74 : Int)).getD deny0).sm⟩ : DenyD)]).length) c90)] : List Value), rowC 63 4 (.slice a89 ((E ++ [(⟨((lookM D (x74 : Int)).getD deny0).r, ((lookM D (x74 : Int)).getD deny0).i, ((lookM D (x74 : Int)).getD deny0).sb, ((lookM D (x74 : Int)).getD deny0).sm⟩ : DenyD)]).length) c90) ((E ++ [(⟨((lookM D (x74 : Int)).getD deny0).r, ((lookM D (x74 : Int)).getD deny0).i, ((lookM D (x74 : Int)).getD deny0).sb, ((lookM D (x74 : Int)).getD deny0).sm⟩ : DenyD)]).length) ((E ++ [(⟨((lookM D (x74 : Int)).getD deny0).r, ((lookM D (x74 : Int)).getD deny0).i, ((lookM D (x74 : Int)).getD deny0).sb, ((lookM D (x74 : Int)).getD deny0).sm⟩ : DenyD)]).flatMap encDn)] w94 := H95.pick [0, 1, 2, 3, 4, 5, 6] (by decide)
    refine round_back ?_ _ ⟨(j + 1), a89, c90, (E ++ [(⟨((lookM D (x74 : Int)).getD deny0).r, ((lookM D (x74 : Int)).getD deny0).i, ((lookM D (x74 : Int)).getD deny0).sb, ((lookM D (x74 : Int)).getD deny0).sm⟩ : DenyD)]), (show ((.int .i64 ((j : Int) + 1)) : Value) = _ by first | rfl | go_num), (by omega), (by simp [hE]), H98, rfl⟩ (by omega)
    iterate 22 refine same_upd rfl ?_
    exact same_ovr
   ·have g99 := of_decide_eq_false b71
    refine wp_know 45 (.bool false) (congrArg Value.bool b71) ?_
    have g100 := of_decide_eq_false b71
    refine wp_iff rfl ?_
    refine w_exit ?_
    refine then_exit ?_
    refine back_exit ?_
    refine blk_hit ?_
    refine then_normal ?_
    refine w_lit ?_
    refine wv 63 (.slice oa O.length oc) ?_
    refine wv 64 (.agg ⟨([(.int .i64 (x23)), (.slice ea E.length ec)] : List Value)⟩) ?_ (hr := e_loadN (vs := ([(.int .i64 (x23)), (.slice ea E.length ec)] : List Value)) rfl (by kernel_rfl) (by kernel_rfl) (by exact Nat.le_of_ble_eq_true (by kernel_rfl)) (H68.at 5 rfl) (by kernel_rfl))
    refine wl_do (wants0 rfl) (fun K101 hK101 => ?_)
    refine d_buildSlice (e := 78) (size := 2) (bytes := 32) (z := (.agg ⟨([(.int .i64 (0)), (.slice none 0 0)] : List Value)⟩)) (pvs := [(0, (.agg ⟨([(.int .i64 (x23)), (.slice ea E.length ec)] : List Value)⟩))]) (vs := ([(.int .i64 (x23)), (.slice ea E.length ec)] : List Value)) rfl H68 (by kernel_rfl) (by kernel_rfl) (by kernel_rfl) (by kernel_rfl) (by kernel_rfl) rfl rfl ?_
    intro b102 w103 (H104 : Sat w [restC w (fun _ => False), rowC 3 1 (.slice a8 ((sortI L).length) c9) ((sortI L).length) ((sortI L).flatMap encI), rowC 78 2 (.slice oa O.length oc) O.length (O.flatMap encTb), cellC b27 87 ([(.map (some db))] : List Value), rowC 3 1 (.slice (some ⟨g60, 0, none⟩) ((sortI D).length) c37) ((sortI D).length) ((sortI D).flatMap encI), cellC b49 78 ([(.int .i64 (x23)), (.slice ea E.length ec)] : List Value), rowC 63 4 (.slice ea E.length ec) E.length (E.flatMap encDn), rowC 78 2 (.slice (some ⟨b102, 0, none⟩) 1 1) 1 ([(.int .i64 (x23)), (.slice ea E.length ec)] : List Value)] w103)
    have H105 : Sat w [restC w (fun _ => False), rowC 3 1 (.slice a8 ((sortI L).length) c9) ((sortI L).length) ((sortI L).flatMap encI), rowC 78 2 (.slice oa O.length oc) O.length (O.flatMap encTb), cellC b27 87 ([(.map (some db))] : List Value), rowC 3 1 (.slice (some ⟨g60, 0, none⟩) ((sortI D).length) c37) ((sortI D).length) ((sortI D).flatMap encI), cellC b49 78 ([(.int .i64 (x23)), (.slice ea E.length ec)] : List Value), rowC 63 4 (.slice ea E.length ec) E.length (E.flatMap encDn), rowC 78 2 (.slice (some ⟨b102, 0, none⟩) 1 1) 1 ([(⟨x23, ea, E.length, ec⟩ : TombD)].flatMap encTb)] w103 := H104.cast (by rw [(show (([(.int .i64 (x23)), (.slice ea E.length ec)] : List Value) : List Value) = [(⟨x23, ea, E.length, ec⟩ : TombD)].flatMap encTb by kernel_rfl)])
    refine hK101 _ _ ?_
    clear hK101 K101
    refine wl_do (wants0 rfl) (fun K106 hK106 => ?_)
    refine d_append (T := 75) (e := 78) (size := 2) (bytes := 32) rfl H105 (by kernel_rfl) 2 7 rfl rfl rfl rfl (flat_one encTb encTb_one [(⟨x23, ea, E.length, ec⟩ : TombD)]) (by omega) (by omega) ?_
    intro v107 w108 (H109 : Sat w [restC w (fun _ => False), rowC 3 1 (.slice a8 ((sortI L).length) c9) ((sortI L).length) ((sortI L).flatMap encI), rowC 78 2 v107 (O.length + 1) ((O.flatMap encTb) ++ ([(⟨x23, ea, E.length, ec⟩ : TombD)].flatMap encTb)), cellC b27 87 ([(.map (some db))] : List Value), rowC 3 1 (.slice (some ⟨g60, 0, none⟩) ((sortI D).length) c37) ((sortI D).length) ((sortI D).flatMap encI), cellC b49 78 ([(.int .i64 (x23)), (.slice ea E.length ec)] : List Value), rowC 63 4 (.slice ea E.length ec) E.length (E.flatMap encDn), rowC 78 2 (.slice (some ⟨b102, 0, none⟩) 1 1) 1 ([(⟨x23, ea, E.length, ec⟩ : TombD)].flatMap encTb)] w108)
    have H112 : Sat w [restC w (fun _ => False), rowC 3 1 (.slice a8 ((sortI L).length) c9) ((sortI L).length) ((sortI L).flatMap encI), rowC 78 2 v107 ((O ++ [(⟨x23, ea, E.length, ec⟩ : TombD)]).length) ((O ++ [(⟨x23, ea, E.length, ec⟩ : TombD)]).flatMap encTb), cellC b27 87 ([(.map (some db))] : List Value), rowC 3 1 (.slice (some ⟨g60, 0, none⟩) ((sortI D).length) c37) ((sortI D).length) ((sortI D).flatMap encI), cellC b49 78 ([(.int .i64 (x23)), (.slice ea E.length ec)] : List Value), rowC 63 4 (.slice ea E.length ec) E.length (E.flatMap encDn), rowC 78 2 (.slice (some ⟨b102, 0, none⟩) 1 1) 1 ([(⟨x23, ea, E.length, ec⟩ : TombD)].flatMap encTb)] w108 := H109.cast (by simp only [List.length_append, List.flatMap_append] <;> rfl)
    obtain ⟨a110, c111, rfl⟩ := ownsRow_shape (H112.at 2 rfl)
    refine hK106 _ _ ?_
    clear hK106 K106
    refine wv 3 (.slice a110 ((O ++ [(⟨x23, ea, E.length, ec⟩ : TombD)]).length) c111) ?_
    refine w_nil ?_
    refine blk_normal ?_
    refine then_normal ?_
    refine w_lit ?_
    refine wv 67 (.int .i64 ((k : Int) + 1)) ?_ (hr := e_int (z := (k : Int) + 1) (by kernel_rfl) (IntWalk.i64_in _ (by omega)))
    refine wv 13 (.int .i64 ((k : Int) + 1)) ?_
    refine w_nil ?_
    have H113 : Sat w [restC w (fun _ => False), rowC 3 1 (.slice a8 ((sortI L).length) c9) ((sortI L).length) ((sortI L).flatMap encI), rowC 78 2 (.slice a110 ((O ++ [(⟨x23, ea, E.length, ec⟩ : TombD)]).length) c111) ((O ++ [(⟨x23, ea, E.length, ec⟩ : TombD)]).length) ((O ++ [(⟨x23, ea, E.length, ec⟩ : TombD)]).flatMap encTb)] w108 := H112.pick [0, 1, 2] (by decide)
    refine round_back ?_ _ ⟨(k + 1), a110, c111, (O ++ [(⟨x23, ea, E.length, ec⟩ : TombD)]), (show ((.int .i64 ((k : Int) + 1)) : Value) = _ by first | rfl | go_num), (show ((.slice a110 ((O ++ [(⟨x23, ea, E.length, ec⟩ : TombD)]).length) c111) : Value) = _ by first | rfl | go_num), (by omega), (hR.one h24 hXL (show Q ≤ D.length by omega) rfl (show E.length = Q by omega)), H113, rfl⟩ (by omega)
    exact (same_upd rfl (same_upd rfl (same_upd rfl (same_upd rfl (same_upd rfl (same_upd rfl (same_upd rfl (same_upd rfl (same_upd rfl (same_upd rfl (same_ovr2 rfl (same_upd rfl (same_upd rfl (same_upd rfl (same_upd rfl (same_upd rfl (same_upd rfl (same_upd rfl (same_upd rfl (same_upd rfl (same_upd rfl (same_upd rfl (same_upd rfl (same_upd rfl (same_upd rfl (same_upd rfl (same_upd rfl (same_upd rfl (same_upd rfl (same_upd rfl (same_upd rfl (same_upd rfl (same_upd rfl (same_upd rfl (same_upd rfl (same_upd rfl (same_upd rfl (same_upd rfl (same_upd rfl (same_upd rfl (same_upd rfl (same_upd rfl (same_upd rfl (same_upd rfl (same_upd rfl (same_upd rfl (same_upd rfl (same_upd rfl (same_upd rfl (same_ovr))))))))))))))))))))))))))))))))))))))))))))))))))
 ·have g114 := of_decide_eq_false b17
  refine wp_know 14 (.bool false) (congrArg Value.bool b17) ?_
  have g115 := of_decide_eq_false b17
  refine wp_iff rfl ?_
  refine w_exit ?_
  refine then_exit ?_
  refine back_exit ?_
  refine blk_hit ?_
  refine then_normal ?_
  refine w_seq ?_
  refine w_lit ?_
  refine wv 68 (.slice oa O.length oc) ?_
  refine wv 2 (.slice oa O.length oc) ?_
  refine w_nil ?_
  refine then_normal ?_
  refine w_ret ?_
  refine end1 rfl (res_tmp (v := (.slice oa O.length oc)) rfl) ?_
  obtain rfl : k = (sortI L).length := by omega
  exact ⟨oa, oc, O, rfl, (by have q := hR.1; rw [List.take_length] at q; exact q), hR.2, H13.at 2 rfl, H13.upd 0 rfl [] (fun _ h => h.elim), H13.fresh 0 rfl (fun _ h => h) 2 rfl rfl⟩

end Go.Proofs.Ytoiplcicbjimlaa
