/- WHAT IS PROVED: contracts and plain laws of BatA. Conditions: stated with each. -/
import Derived.Test.YtenihpghfdcpkaaGreatT05
import Derived.Test.YtenihpghfdcpkaaGreatT06
import Derived.Test.YtenihpghfdcpkaaGreatT15
import Derived.Test.YtenihpghfdcpkaaGreatT17
set_option maxHeartbeats 4000000
set_option maxRecDepth 100000
namespace Go.Proofs.YtenihpghfdcpkaaGreat
open Go.RowKit
abbrev kBatA_0 (p0 : Int) (p1 : Int) : List Value := ([(.int .i64 p0), (.int .i64 p1)] : List Value)
abbrev kBatA_1 (p0 : DenyD) : List Value := ([(.int .i64 p0.r), (.int .i64 p0.i), (.int .i64 p0.sb), (.int .i64 p0.sm)] : List Value)
abbrev kBatA_2 (p0 : Int) (p1 : Option Addr) (p2 : Nat) (p3 : Nat) : List Value := ([(.int .i64 p0), (.slice p1 p2 p3)] : List Value)
abbrev kBatA_3 : List Value := ([(.pointer none), (.pointer none)] : List Value)
abbrev kBatA_4 (p0 : Nat) (p1 : Nat) : List Value := ([(pt p0 0), (pt p1 0)] : List Value)
theorem within_any (w : World) (v n : Int) (hn : n ≤ 4611686018427387904) :
  Calls Tryz.prog 18 #[(.int .i64 (v)), (.int .i64 (n))] w fun e w' => e = .returned (.int .i64 (withinV v n)) ∧ Upd [] w w' := by
 have H := Sat.start0 w
 refine calls_fr Tryz.func18 rfl 17 rfl (Nat.le_of_ble_eq_true rfl) ?_
 refine zsl <| wv 4 (.int .i64 (0)) <| znt <| w_seq <| zsl <| wv 6 (.int .i64 (n)) <| wv 7 (.bool (decide (n < 1))) <| znt ?_
 refine (bsplit (decide (n < 1))).elim (fun b1 => ?_) (fun b1 => ?_)
 ·have g2 := of_decide_eq_true b1
  refine zwkt _ b1 ?_
  refine zsl <| wv 4 (.int .i64 (0)) <| znt <| w_ret <| then_ret <| ze1 (.int .i64 (0)) ?_
  exact ⟨by unfold withinV; rw [if_pos (of_decide_eq_true b1)], H.upd 0 rfl [] (fun _ h => h.elim)⟩
 have g3 := of_decide_eq_false b1
 refine zwkf _ b1 ?_
 refine w_skip <| ztn <| zsl <| wv 8 (.int .i64 (v)) <| wv 9 (.int .i64 (n)) <| wv 10 (.int .i64 (Int.tmod v n)) ?_ (hr := e_tmod (by kernel_rfl) (by omega))
 refine wv 5 (.int .i64 (Int.tmod v n)) <| znt <| w_seq <| zsl <| wv 11 (.int .i64 (Int.tmod v n)) <| wv 12 (.bool (decide ((Int.tmod v n) < 0))) <| znt ?_
 refine (bsplit (decide ((Int.tmod v n) < 0))).elim (fun b4 => ?_) (fun b4 => ?_)
 ·have g5 := of_decide_eq_true b4
  refine zwkt _ b4 ?_
  refine w_lit <| wv 13 (.int .i64 (Int.tmod v n)) <| wv 14 (.int .i64 (n)) <| wv 15 (.int .i64 ((Int.tmod v n) + n)) ?_ (hr := e_int (z := (Int.tmod v n) + n) (by kernel_rfl) (IntWalk.i64_in _ (by have := tmod_lim v n (by omega); omega)))
  refine wv 5 (.int .i64 ((Int.tmod v n) + n)) <| znsl <| wv 16 (.int .i64 ((Int.tmod v n) + n)) <| wv 4 (.int .i64 ((Int.tmod v n) + n)) <| znt <| w_ret <| ze1 (.int .i64 ((Int.tmod v n) + n)) ?_
  exact ⟨by unfold withinV; rw [if_neg (of_decide_eq_false b1), tmod_emod v n (by have := of_decide_eq_false b1; omega), if_pos (of_decide_eq_true b4)], H.upd 0 rfl [] (fun _ h => h.elim)⟩
 have g6 := of_decide_eq_false b4
 refine zwkf _ b4 ?_
 refine w_skip <| ztn <| zsl <| wv 16 (.int .i64 (Int.tmod v n)) <| wv 4 (.int .i64 (Int.tmod v n)) <| znt <| w_ret <| ze1 (.int .i64 (Int.tmod v n)) ?_
 exact ⟨by unfold withinV; rw [if_neg (of_decide_eq_false b1), tmod_emod v n (by have := of_decide_eq_false b1; omega), if_neg (of_decide_eq_false b4)], H.upd 0 rfl [] (fun _ h => h.elim)⟩
theorem wN_any (w : World) (f c : Int) (hf : -1099511627776 ≤ f ∧ f ≤ 1099511627776) :
  Calls Tryz.prog 89 #[(.agg ⟨([(.int .i64 (f)), (.int .i64 (c))] : List Value)⟩)] w fun e w' => e = .returned (.int .i64 (3 * f + 1)) ∧ Upd [] w w' := by
 have H := Sat.start0 w
 refine calls_fr Tryz.func89 rfl 7 rfl (Nat.le_of_ble_eq_true rfl) ?_
 refine zsl <| zwd fun Kq kq => zdb (kBatA_0 f c) H fun b2 w3 H4 => ?_
 refine kq _ _ <| wv 2 (.int .i64 (0)) <| znsl <| wv 3 (pt b2 0) <| zw1 4 (.int .i64 (f)) (H4.cell 1 rfl rfl) <| zwi 5 (3 * f) <| zwi 6 ((3 * f) + 1) <| wv 2 (.int .i64 ((3 * f) + 1)) <| znt <| w_ret ?_
 refine ze1 (.int .i64 ((3 * f) + 1)) ?_
 exact ⟨rfl, H4.upd 0 rfl [] (fun _ h => h.elim)⟩
theorem wQ_any (w : World) (f c : Int) (hf : -1099511627776 ≤ f ∧ f ≤ 1099511627776) :
  Calls Tryz.prog 46 #[(.agg ⟨([(.int .i64 (f)), (.int .i64 (c))] : List Value)⟩)] w fun e w' => e = .returned (.int .i64 (2 * f + 1)) ∧ Upd [] w w' := by
 have H := Sat.start0 w
 refine calls_fr Tryz.func46 rfl 7 rfl (Nat.le_of_ble_eq_true rfl) ?_
 refine zsl <| zwd fun Kq kq => zdb (kBatA_0 f c) H fun b2 w3 H4 => ?_
 refine kq _ _ <| wv 2 (.int .i64 (0)) <| znsl <| wv 3 (pt b2 0) <| zw1 4 (.int .i64 (f)) (H4.cell 1 rfl rfl) <| zwi 5 (2 * f) <| zwi 6 ((2 * f) + 1) <| wv 2 (.int .i64 ((2 * f) + 1)) <| znt <| w_ret ?_
 refine ze1 (.int .i64 ((2 * f) + 1)) ?_
 exact ⟨rfl, H4.upd 0 rfl [] (fun _ h => h.elim)⟩
theorem rN_any (w : World) (f c : Int) (hf : -1099511627776 ≤ f ∧ f ≤ 1099511627776) :
  Calls Tryz.prog 31 #[(.agg ⟨([(.int .i64 (f)), (.int .i64 (c))] : List Value)⟩)] w fun e w' => e = .returned (.int .i64 (3 * f + 1)) ∧ Upd [] w w' := by
 have H := Sat.start0 w
 refine calls_fr Tryz.func31 rfl 7 rfl (Nat.le_of_ble_eq_true rfl) ?_
 refine zsl <| zwd fun Kq kq => zdb (kBatA_0 f c) H fun b2 w3 H4 => ?_
 refine kq _ _ <| wv 2 (.int .i64 (0)) <| znsl <| wv 3 (pt b2 0) <| zw1 4 (.int .i64 (f)) (H4.cell 1 rfl rfl) <| zwi 5 (3 * f) <| zwi 6 ((3 * f) + 1) <| wv 2 (.int .i64 ((3 * f) + 1)) <| znt <| w_ret ?_
 refine ze1 (.int .i64 ((3 * f) + 1)) ?_
 exact ⟨rfl, H4.upd 0 rfl [] (fun _ h => h.elim)⟩
theorem rQ_any (w : World) (f c : Int) (hf : -1099511627776 ≤ f ∧ f ≤ 1099511627776) :
  Calls Tryz.prog 39 #[(.agg ⟨([(.int .i64 (f)), (.int .i64 (c))] : List Value)⟩)] w fun e w' => e = .returned (.int .i64 (2 * f + 1)) ∧ Upd [] w w' := by
 have H := Sat.start0 w
 refine calls_fr Tryz.func39 rfl 7 rfl (Nat.le_of_ble_eq_true rfl) ?_
 refine zsl <| zwd fun Kq kq => zdb (kBatA_0 f c) H fun b2 w3 H4 => ?_
 refine kq _ _ <| wv 2 (.int .i64 (0)) <| znsl <| wv 3 (pt b2 0) <| zw1 4 (.int .i64 (f)) (H4.cell 1 rfl rfl) <| zwi 5 (2 * f) <| zwi 6 ((2 * f) + 1) <| wv 2 (.int .i64 ((2 * f) + 1)) <| znt <| w_ret ?_
 refine ze1 (.int .i64 ((2 * f) + 1)) ?_
 exact ⟨rfl, H4.upd 0 rfl [] (fun _ h => h.elim)⟩
theorem wIn_any (w : World) (f c r : Int) (hf : -1099511627776 ≤ f ∧ f ≤ 1099511627776) :
  Calls Tryz.prog 43 #[(.agg ⟨([(.int .i64 (f)), (.int .i64 (c))] : List Value)⟩), (.int .i64 (r))] w fun e w' => e = .returned (.bool (inB f r)) ∧ Upd [] w w' := by
 have H := Sat.start0 w
 refine calls_fr Tryz.func43 rfl 13 rfl (Nat.le_of_ble_eq_true rfl) ?_
 refine zsl <| zwd fun Kq kq => zdb (kBatA_0 f c) H fun b2 w3 H4 => ?_
 refine kq _ _ <| wv 4 (.bool false) <| znt ?_
 refine wp_meetR [4, 5, 6, 7, 8, 9, 10, 11, 12] (fun G_ W_ => G_ 4 = (.bool (inB f r)) ∧ Sat w [restC w (fun _ => False), cellC b2 29 (kBatA_0 f c)] W_) ?_ ?_
 ·refine w_lit <| wv 5 (.int .i64 (r)) <| wv 6 (.bool (decide (r ≥ 0))) <| wv 7 (.bool (decide (r ≥ 0))) ?_
  refine (bsplit (decide (r ≥ 0))).elim (fun b6 => ?_) (fun b6 => ?_)
  ·have g7 := of_decide_eq_true b6
   refine wl_know 7 (.bool true) (congrArg Value.bool b6) ?_
   refine wy 2 7 true 8 (.int .i64 (r)) <| wy 2 7 true 9 (.agg ⟨(kBatA_0 f c)⟩) ?_ (hr := zlN (vs := (kBatA_0 f c)) (H4.at 1 rfl))
   refine wl_do (wantsY 2 7 true rfl (by kernel_rfl) rfl (by kernel_rfl)) (fun Kq kq => ?_)
   refine zdq 10 (wN_any w3 f c (by omega)) H4 ?_
   intro w9 H10
   refine kq _ _ <| wy 2 7 true 11 (.bool (decide (r < (3 * f + 1)))) <| wv 12 (.bool (decide (r < (3 * f + 1)))) <| wv 4 (.bool (decide (r < (3 * f + 1)))) <| w_nil <| meetR_at ?_ ⟨(congrArg Value.bool (show (decide (r < (3 * f + 1))) = (inB f r) by simp [inB, b6])), H10⟩
   exact zs
  have g12 := of_decide_eq_false b6
  refine wl_know 7 (.bool false) (congrArg Value.bool b6) ?_
  iterate 4 refine wn 2 7 true ?_
  refine wv 12 (.bool false) <| wv 4 (.bool false) <| w_nil <| meetR_at ?_ ⟨(congrArg Value.bool (show false = (inB f r) by simp [inB, b6])), H4⟩
  exact zs
 rintro f13 w14 ⟨v16, H15⟩
 refine wp_know 4 _ v16 ?_
 refine w_ret <| ze1 (.bool (inB f r)) ?_
 exact ⟨rfl, H15.upd 0 rfl [] (fun _ h => h.elim)⟩
theorem pRightQ_any (w : World) (b bm : Nat) (B : List Signed) (hbk : (cellC b 179 [.map (some bm)]).ok w) (hbm : MapAt w bm signedV (Value.int .i64) (marks B)) (ta : Option Addr) (tc : Nat) (tx : List UInt8) (ht : ListAt encB 1 w (.slice ta tx.length tc) tx) (p m : Int) :
  Calls Tryz.prog 107 #[(.pointer (some ⟨b, 0, none⟩)), (.agg ⟨([(.int .i64 (p)), (.int .i64 (m))] : List Value)⟩), (.slice ta tx.length tc)] w fun e w' => e = .returned (.bool (rightB B p m tx)) ∧ Upd [] w w' := by
 have H := Sat.start0 w
 have hmk : (lookM (marks B) (⟨p, tx⟩ : Signed)).getD 0 = markOf B (⟨p, tx⟩ : Signed) := by rw [look_marks]; rfl
 refine calls_fr Tryz.func107 rfl 26 rfl (Nat.le_of_ble_eq_true rfl) ?_
 refine zsl <| zwd fun Kq kq => zdb (kBatA_0 p m) H fun b2 w3 H4 => ?_
 refine kq _ _ <| wv 6 (.bool false) <| znt <| w_seq <| zqs H4 ?_
 refine qv 8 (pt b 0) <| qv 9 (pt b 0) <| qv 10 (pt b 0) <| qv 11 (.map (some bm)) ?_ (hr := fun _ H' => (zl1 (H'.roCell 0 rfl hbk (fun h => h) rfl)))
 refine qv 12 (pt b2 0) <| qv 13 (.int .i64 (p)) ?_ (hr := fun _ H' => (zl1 (H'.cell 1 rfl rfl)))
 refine qv 14 (.slice ta tx.length tc) <| qv 15 (strV tx) ?_ (hr := fun _ H' => (e_convBytes (e := 5) (s := tx) (by kernel_rfl) (by kernel_rfl) (by kernel_rfl) rfl (list_bytes (ListAt.now H' 0 rfl ht))))
 refine q_val (wants0 rfl) (d := 16) (v := (.agg ⟨([(.int .i64 (p)), (strV tx)] : List Value)⟩)) rfl (fun _ H' => (by kernel_rfl)) ?_
 refine qv 17 (.int .i64 ((lookM (marks B) (⟨p, tx⟩ : Signed)).getD 0)) ?_ (hr := fun _ H' => (e_lookup (kt := 176) (et := 3) signedK (by kernel_rfl) (fun w => by kernel_rfl) rfl (⟨p, tx⟩ : Signed) rfl (H'.roMap 0 rfl hbm (fun h => h)) (optD (Value.int .i64) _ _)))
 refine qv 7 (.int .i64 ((lookM (marks B) (⟨p, tx⟩ : Signed)).getD 0)) <| q_end fun w5 H6 => ?_
 refine ztn <| zsl <| wv 18 (.int .i64 ((lookM (marks B) (⟨p, tx⟩ : Signed)).getD 0)) <| wv 19 (.bool (decide (((lookM (marks B) (⟨p, tx⟩ : Signed)).getD 0) > 0))) <| wv 20 (.bool (decide (((lookM (marks B) (⟨p, tx⟩ : Signed)).getD 0) > 0))) ?_
 refine (bsplit (decide (((lookM (marks B) (⟨p, tx⟩ : Signed)).getD 0) > 0))).elim (fun b7 => ?_) (fun b7 => ?_)
 ·have g8 := of_decide_eq_true b7
  refine wl_know 20 (.bool true) (congrArg Value.bool b7) ?_
  refine wy 2 20 true 21 (.int .i64 ((lookM (marks B) (⟨p, tx⟩ : Signed)).getD 0)) <| wy 2 20 true 22 (pt b2 1) <| wy 2 20 true 23 (.int .i64 (m)) ?_ (hr := zl1 (H6.cell 1 rfl rfl))
  refine wy 2 20 true 24 (.bool (decide (((lookM (marks B) (⟨p, tx⟩ : Signed)).getD 0) = m))) <| wv 25 (.bool (decide (((lookM (marks B) (⟨p, tx⟩ : Signed)).getD 0) = m))) <| wv 6 (.bool (decide (((lookM (marks B) (⟨p, tx⟩ : Signed)).getD 0) = m))) <| znt <| w_ret <| ze1 (.bool (decide (((lookM (marks B) (⟨p, tx⟩ : Signed)).getD 0) = m))) ?_
  exact ⟨by unfold rightB; rw [← hmk]; simp [b7], H6.upd 0 rfl [] (fun _ h => h.elim)⟩
 have g10 := of_decide_eq_false b7
 refine wl_know 20 (.bool false) (congrArg Value.bool b7) ?_
 iterate 4 refine wn 2 20 true ?_
 refine wv 25 (.bool false) <| wv 6 (.bool false) <| znt <| w_ret <| ze1 (.bool false) ?_
 exact ⟨by unfold rightB; rw [← hmk]; simp [b7], H6.upd 0 rfl [] (fun _ h => h.elim)⟩
theorem wRightDeny_any (w : World) (F C : Int) (hF : -1099511627776 ≤ F ∧ F ≤ 1099511627776) (b bm : Nat) (B : List Signed) (hbk : (cellC b 179 [.map (some bm)]).ok w) (hbm : MapAt w bm signedV (Value.int .i64) (marks B)) (d : DenyD) (hd : DnOk d) :
  Calls Tryz.prog 70 #[(.agg ⟨([(.int .i64 (F)), (.int .i64 (C))] : List Value)⟩), (.pointer (some ⟨b, 0, none⟩)), (.agg ⟨([(.int .i64 (d.r)), (.int .i64 (d.i)), (.int .i64 (d.sb)), (.int .i64 (d.sm))] : List Value)⟩)] w fun e w' => e = .returned (.bool (rightDn F B d)) ∧ Upd [] w w' := by
 have H := Sat.start0 w
 have hd2 := hd
 unfold DnOk at hd2
 refine calls_fr Tryz.func70 rfl 32 rfl (Nat.le_of_ble_eq_true rfl) ?_
 refine zsl <| zwd fun Kq kq => zdb (kBatA_0 F C) H fun b2 w3 H4 => ?_
 refine kq _ _ <| zwd fun Kq kq => zdb (kBatA_1 d) H4 fun b6 w7 H8 => ?_
 refine kq _ _ <| wv 6 (.bool false) <| znt <| w_seq <| h_start H8 [restC w (fun _ => False), cellC b2 29 (kBatA_0 F C), cellC b6 122 (kBatA_1 d)] 26 rfl (by kernel_rfl) (fun Hx => (Hx.pk [0, 1, 2])) fun w9 H10 S11 => ?_
 refine hv0 0 S11 7 (.agg ⟨(kBatA_0 F C)⟩) ?_ (he := fun _ H' => (zlN (vs := (kBatA_0 F C)) (H'.at 1 rfl)))
 refine hv0 1 S11 8 (pt b6 0) <| hv0 2 S11 9 (.int .i64 (d.r)) ?_ (he := fun _ H' => (zl1 (H'.cell 2 rfl rfl)))
 refine zhd0 3 fun Kq kq => ?_
 refine zdq 10 (wIn_any w9 F C d.r (by omega)) H10 ?_
 intro w13 H14
 have S16 := H14.pk [0, 1, 2]
 refine kq _ _ S16 <| hv0 4 S16 11 (.bool (inB F d.r)) ?_
 refine (bsplit (inB F d.r)).elim (fun b17 => ?_) (fun b17 => ?_)
 ·refine h_know 11 (.bool true) (congrArg Value.bool b17) ?_
  refine zhvy 5 S16 4 11 true 12 (pt b6 1) <| zhvy 6 S16 4 11 true 13 (.int .i64 (d.i)) ?_ (he := fun _ H' => (zl1 (H'.cell 2 rfl rfl)))
  refine zhvy 7 S16 4 11 true 14 (.bool (decide (d.i ≥ 0))) <| hv0 8 S16 15 (.bool (decide (d.i ≥ 0))) <| hv0 9 S16 16 (.bool (decide (d.i ≥ 0))) ?_
  refine (bsplit (decide (d.i ≥ 0))).elim (fun b18 => ?_) (fun b18 => ?_)
  ·have g19 := of_decide_eq_true b18
   refine h_know 16 (.bool true) (congrArg Value.bool b18) ?_
   refine zhvy 10 S16 9 16 true 17 (pt b6 2) <| zhvy 11 S16 9 16 true 18 (pt b6 2) <| zhvy 12 S16 9 16 true 19 (.int .i64 (d.sb)) ?_ (he := fun _ H' => (zl1 (H'.cell 2 rfl rfl)))
   refine zhvy 13 S16 9 16 true 20 (pt b6 0) <| zhvy 14 S16 9 16 true 21 (.int .i64 (d.r)) ?_ (he := fun _ H' => (zl1 (H'.cell 2 rfl rfl)))
   refine zhvy 15 S16 9 16 true 22 (.bool (decide (d.sb = d.r))) <| hv0 16 S16 23 (.bool (decide (d.sb = d.r))) <| hv0 17 S16 24 (.bool (decide (d.sb = d.r))) ?_
   refine (bsplit (decide (d.sb = d.r))).elim (fun b21 => ?_) (fun b21 => ?_)
   ·have g22 := of_decide_eq_true b21
    refine h_know 24 (.bool true) (congrArg Value.bool b21) ?_
    refine zhvy 18 S16 17 24 true 25 (pt b 0) <| zhvy 19 S16 17 24 true 26 (pt b6 2) <| zhvy 20 S16 17 24 true 27 (.agg ⟨(kBatA_0 d.sb d.sm)⟩) ?_ (he := fun _ H' => (zlN (vs := (kBatA_0 d.sb d.sm)) (H'.at 2 rfl)))
    refine zhvy 21 S16 17 24 true 28 (.agg ⟨(kBatA_1 d)⟩) ?_ (he := fun _ H' => (zlN (vs := (kBatA_1 d)) (H'.at 2 rfl)))
    refine h_do 22 rfl (by kernel_rfl) (wantsY 17 24 true rfl (by kernel_rfl) rfl (by kernel_rfl)) (fun Kq kq => ?_)
    refine zdc 29 (wDenyText_any w13 d ⟨by show d.r ≤ _; omega, by show d.i ≤ _; omega⟩) ?_
    rintro _ w25 ⟨u26, rfl, k27, p28, q29⟩
    have hdl := denyB_len d.r d.i
    have H30 := H14.addU p28 k27 q29
    obtain ⟨a31, c32, rfl⟩ := ownsRow_shape (H30.at 3 rfl)
    refine ⟨_, rfl, ?_⟩
    have S33 := H30.pk [0, 1, 2]
    refine kq _ _ S33 <| h_do 23 rfl (by kernel_rfl) (wantsY 17 24 true rfl (by kernel_rfl) rfl (by kernel_rfl)) (fun Kq kq => ?_)
    refine zdq 30 (pRightQ_any w25 b bm B (H30.roCk 0 rfl hbk (fun _ _ h => h)) (H30.roMap 0 rfl hbm (fun h => h)) a31 c32 (denyB d.r d.i) (ListAt.row (enc := encB) (sz := 1) encB_len (by decide) (H30.at 3 rfl)) d.sb d.sm) H30 ?_
    intro w35 H36
    have S38 := H36.pk [0, 1, 2]
    refine kq _ _ S38 <| hv0 24 S38 31 (.bool (rightB B d.sb d.sm (denyB d.r d.i))) <| hv0 25 S38 6 (.bool (rightB B d.sb d.sm (denyB d.r d.i))) <| zhf <| ztn <| w_ret <| ze1 (.bool (rightB B d.sb d.sm (denyB d.r d.i))) ?_
    exact ⟨by unfold rightDn; simp [b17, b18, b21], H36.upd 0 rfl [] (fun _ h => h.elim)⟩
   have g39 := of_decide_eq_false b21
   refine h_know 24 (.bool false) (congrArg Value.bool b21) ?_
   refine zhpn 18 S16 17 24 true ?_
   refine zhpn 19 S16 17 24 true ?_
   refine zhpn 20 S16 17 24 true ?_
   refine zhpn 21 S16 17 24 true ?_
   refine zhpn 22 S16 17 24 true ?_
   refine zhpn 23 S16 17 24 true ?_
   refine hv0 24 S16 31 (.bool false) <| hv0 25 S16 6 (.bool false) <| zhf <| ztn <| w_ret <| ze1 (.bool false) ?_
   exact ⟨by unfold rightDn; simp [b17, b18, b21], H14.upd 0 rfl [] (fun _ h => h.elim)⟩
  have g41 := of_decide_eq_false b18
  refine h_know 16 (.bool false) (congrArg Value.bool b18) ?_
  refine zhpn 10 S16 9 16 true ?_
  refine zhpn 11 S16 9 16 true ?_
  refine zhpn 12 S16 9 16 true ?_
  refine zhpn 13 S16 9 16 true ?_
  refine zhpn 14 S16 9 16 true ?_
  refine zhpn 15 S16 9 16 true ?_
  refine hv0 16 S16 23 (.bool false) <| hv0 17 S16 24 (.bool false) <| zhpn 18 S16 17 24 true ?_
  refine zhpn 19 S16 17 24 true ?_
  refine zhpn 20 S16 17 24 true ?_
  refine zhpn 21 S16 17 24 true ?_
  refine zhpn 22 S16 17 24 true ?_
  refine zhpn 23 S16 17 24 true ?_
  refine hv0 24 S16 31 (.bool false) <| hv0 25 S16 6 (.bool false) <| zhf <| ztn <| w_ret <| ze1 (.bool false) ?_
  exact ⟨by unfold rightDn; simp [b17, b18], H14.upd 0 rfl [] (fun _ h => h.elim)⟩
 refine h_know 11 (.bool false) (congrArg Value.bool b17) ?_
 refine zhpn 5 S16 4 11 true ?_
 refine zhpn 6 S16 4 11 true ?_
 refine zhpn 7 S16 4 11 true ?_
 refine hv0 8 S16 15 (.bool false) <| hv0 9 S16 16 (.bool false) <| zhpn 10 S16 9 16 true ?_
 refine zhpn 11 S16 9 16 true ?_
 refine zhpn 12 S16 9 16 true ?_
 refine zhpn 13 S16 9 16 true ?_
 refine zhpn 14 S16 9 16 true ?_
 refine zhpn 15 S16 9 16 true ?_
 refine hv0 16 S16 23 (.bool false) <| hv0 17 S16 24 (.bool false) <| zhpn 18 S16 17 24 true ?_
 refine zhpn 19 S16 17 24 true ?_
 refine zhpn 20 S16 17 24 true ?_
 refine zhpn 21 S16 17 24 true ?_
 refine zhpn 22 S16 17 24 true ?_
 refine zhpn 23 S16 17 24 true ?_
 refine hv0 24 S16 31 (.bool false) <| hv0 25 S16 6 (.bool false) <| zhf <| ztn <| w_ret <| ze1 (.bool false) ?_
 exact ⟨by unfold rightDn; simp [b17], H14.upd 0 rfl [] (fun _ h => h.elim)⟩
theorem wRightTomb_any (w : World) (F C : Int) (hF : -1099511627776 ≤ F ∧ F ≤ 1099511627776) (b bm : Nat) (B : List Signed) (hbk : (cellC b 179 [.map (some bm)]).ok w) (hbm : MapAt w bm signedV (Value.int .i64) (marks B)) (ix : Int) (da : Option Addr) (dc : Nat) (D : List DenyD) (hD : ListAt encDn 4 w (.slice da D.length dc) D) (hok : ∀ i, i < D.length → DnOk (D.getD i deny0)) (hlD : D.length ≤ 1000000) :
  Calls Tryz.prog 21 #[(.agg ⟨([(.int .i64 (F)), (.int .i64 (C))] : List Value)⟩), (.pointer (some ⟨b, 0, none⟩)), (.agg ⟨([(.int .i64 (ix)), (.slice da D.length dc)] : List Value)⟩)] w fun e w' => e = .returned (.bool (rightTb F B ix D)) ∧ Upd [] w w' := by
 have H := Sat.start0 w
 refine calls_fr Tryz.func21 rfl 52 rfl (Nat.le_of_ble_eq_true rfl) ?_
 refine zsl <| zwd fun Kq kq => zdb (kBatA_0 F C) H fun b2 w3 H4 => ?_
 refine kq _ _ <| zwd fun Kq kq => zdb (kBatA_2 ix da D.length dc) H4 fun b6 w7 H8 => ?_
 refine kq _ _ <| wv 6 (.bool false) <| znt <| w_seq <| zsl <| wv 9 (pt b6 1) <| zw1 10 (.slice da D.length dc) (H8.cell 2 rfl rfl) <| wv 11 (.int .i64 ((D.length : Int))) <| wv 12 (.int .i64 (0)) <| znt ?_
 refine w_block <| wp_round ([6, 7, 8] ++ List.range' 12 34) (fun F_ W_ m_ => ∃ (i : Nat), F_ 12 = (.int .i64 ((i : Int))) ∧ (i ≤ D.length) ∧ (∀ j, j < i → tombAt F B ix D j = true) ∧ Sat w [restC w (fun _ => False), cellC b2 29 (kBatA_0 F C), cellC b6 89 (kBatA_2 ix da D.length dc)] W_ ∧ m_ = D.length - i) _ ⟨0, (show ((.int .i64 (0)) : Value) = _ by first | rfl | go_num), (Nat.zero_le _), (fun _ h => absurd h (Nat.not_lt_zero _)), H8, rfl⟩ ?_
 rintro g8 w10 _ ⟨i, v12, hi, hall, H11, rfl⟩
 refine wp_know 12 _ v12 ?_
 refine zsl <| wv 13 (.bool (decide ((i : Int) < (D.length : Int)))) <| znt <| w_seq ?_
 refine (bsplit (decide ((i : Int) < (D.length : Int)))).elim (fun b14 => ?_) (fun b14 => ?_)
 ·have g15 := of_decide_eq_true b14
  refine zwkt _ b14 ?_
  refine w_skip <| ztn <| w_seq <| w_block <| zsl <| wv 14 (.int .i64 ((i : Int))) ?_
  obtain ⟨g17, o18, c19, e20, R21⟩ := SliceOf.atD hD deny0 (show i < D.length by omega)
  refine wv 15 (.pointer (some ⟨g17, o18 + ((i : Int)).toNat * 4, none⟩)) ?_ (hr := e_indexAddrW (E := 122) (by kernel_rfl) (by kernel_rfl) (Nat.le_of_ble_eq_true rfl) rfl e20 rfl (by omega) (by omega))
  refine wv 16 (.agg ⟨(kBatA_1 (D.getD i deny0))⟩) ?_ (hr := e_loadRun (vs := (kBatA_1 (D.getD i deny0))) rfl (by kernel_rfl) (by kernel_rfl) (Nat.le_of_ble_eq_true (by kernel_rfl)) (H11.runR 0 rfl (cells_run R21 0 (by kernel_rfl) (show o18 + ((i : Int)).toNat * 4 = o18 + i * 4 + 0 by omega)) (fun h => h)))
  refine zwd fun Kq kq => zda ([(.int .i64 (0)), (.int .i64 (0)), (.int .i64 (0)), (.int .i64 (0))] : List Value) H11 fun b23 w24 H25 => ?_
  refine kq _ _ <| wv 7 (.int .i64 ((i : Int))) <| zwd fun Kq kq => zds1 (kBatA_1 (D.getD i deny0)) H25 3 fun w27 H28 => ?_
  refine kq _ _ <| znt <| w_seq <| zqs H28 ?_
  refine qv 17 (.int .i64 ((i : Int))) <| qv 18 (.bool (decide ((i : Int) > 0))) <| qv 19 (.bool (decide ((i : Int) > 0))) ?_
  refine (bsplit (decide ((i : Int) > 0))).elim (fun b30 => ?_) (fun b30 => ?_)
  ·have g31 := of_decide_eq_true b30
   refine q_know 19 (.bool true) (congrArg Value.bool b30) ?_
   refine qy 2 19 true 20 (pt b23 0) <| qy 2 19 true 21 (.int .i64 ((D.getD i deny0).r)) ?_ (hr := fun _ H' => (zl1 (H'.cell 3 rfl rfl)))
   refine qy 2 19 true 22 (pt b6 1) <| qy 2 19 true 23 (.slice da D.length dc) ?_ (hr := fun _ H' => (zl1 (H'.cell 2 rfl rfl)))
   refine qy 2 19 true 24 (.int .i64 ((i : Int))) <| qy 2 19 true 25 (.int .i64 ((i : Int) - 1)) ?_ (hr := fun _ H' => (e_int (z := (i : Int) - 1) (by kernel_rfl) (IntWalk.i64_in _ (by omega))))
   obtain ⟨g33, o34, c35, e36, R37⟩ := SliceOf.atD hD deny0 (show ((i : Int) - 1).toNat < D.length by omega)
   refine qy 2 19 true 26 (.pointer (some ⟨g33, o34 + ((i : Int) - 1).toNat * 4, none⟩)) ?_ (hr := fun _ H' => (e_indexAddrW (E := 122) (by kernel_rfl) (by kernel_rfl) (Nat.le_of_ble_eq_true rfl) rfl e36 rfl (by omega) (by omega)))
   refine qy 2 19 true 27 (.pointer (some ⟨g33, o34 + ((i : Int) - 1).toNat * 4, none⟩)) <| qy 2 19 true 28 (.int .i64 ((D.getD ((i : Int) - 1).toNat deny0).r)) ?_ (hr := fun _ H' => (zl1 (H'.cellR 0 rfl (cells_at R37 0 (by kernel_rfl) (show o34 + ((i : Int) - 1).toNat * 4 = o34 + ((i : Int) - 1).toNat * 4 + 0 by omega)) (fun h => h))))
   refine qy 2 19 true 29 (.bool (decide (((D.getD i deny0).r) ≤ ((D.getD ((i : Int) - 1).toNat deny0).r)))) <| qv 30 (.bool (decide (((D.getD i deny0).r) ≤ ((D.getD ((i : Int) - 1).toNat deny0).r)))) <| qv 31 (.bool (decide (((D.getD i deny0).r) ≤ ((D.getD ((i : Int) - 1).toNat deny0).r)))) ?_
   refine (bsplit (decide (((D.getD i deny0).r) ≤ ((D.getD ((i : Int) - 1).toNat deny0).r)))).elim (fun b38 => ?_) (fun b38 => ?_)
   ·have g39 := of_decide_eq_true b38
    refine q_know 31 (.bool true) (congrArg Value.bool b38) ?_
    iterate 5 refine qn 14 31 false ?_
    refine qv 37 (.bool true) <| qv 38 (.bool true) ?_
    iterate 5 refine qn 21 38 false ?_
    refine qv 44 (.bool true) <| q_end fun w41 H42 => ?_
    refine ztn <| wp_ift rfl ?_
    refine zsl <| wv 6 (.bool false) <| znt <| w_ret <| blk_ret <| then_ret <| back_ret <| blk_ret <| then_ret <| ze1 (.bool false) ?_
    have e1 : ((i : Int) - 1).toNat = i - 1 := by omega
    have ho : tombAt F B ix D i = false := by unfold tombAt; rw [← e1]; simp only [b14, b30, b38, Bool.not_true, Bool.not_false, Bool.true_or, Bool.false_or, Bool.or_true, Bool.or_false, Bool.and_true, Bool.true_and, Bool.and_false, Bool.false_and]
    exact ⟨by simp only [rightTb, all_not (show i < D.length by omega) ho, Bool.false_and], H42.upd 0 rfl [] (fun _ h => h.elim)⟩
   have g43 := of_decide_eq_false b38
   refine q_know 31 (.bool false) (congrArg Value.bool b38) ?_
   refine qy 14 31 false 32 (pt b23 1) <| qy 14 31 false 33 (.int .i64 ((D.getD i deny0).i)) ?_ (hr := fun _ H' => (zl1 (H'.cell 3 rfl rfl)))
   refine qy 14 31 false 34 (pt b6 0) <| qy 14 31 false 35 (.int .i64 (ix)) ?_ (hr := fun _ H' => (zl1 (H'.cell 2 rfl rfl)))
   refine qy 14 31 false 36 (.bool (!(decide (((D.getD i deny0).i) = ix)))) <| qv 37 (.bool (!(decide (((D.getD i deny0).i) = ix)))) <| qv 38 (.bool (!(decide (((D.getD i deny0).i) = ix)))) ?_
   refine (bsplit (!(decide (((D.getD i deny0).i) = ix)))).elim (fun b45 => ?_) (fun b45 => ?_)
   ·have g46 := bnot_true b45
    have g47 := of_decide_eq_false g46
    refine q_know 38 (.bool true) (congrArg Value.bool b45) ?_
    iterate 5 refine qn 21 38 false ?_
    refine qv 44 (.bool true) <| q_end fun w50 H51 => ?_
    refine ztn <| wp_ift rfl ?_
    refine zsl <| wv 6 (.bool false) <| znt <| w_ret <| blk_ret <| then_ret <| back_ret <| blk_ret <| then_ret <| ze1 (.bool false) ?_
    have n52 := bnot_true b45
    have e1 : ((i : Int) - 1).toNat = i - 1 := by omega
    have ho : tombAt F B ix D i = false := by unfold tombAt; rw [← e1]; simp only [b14, b30, b38, n52, Bool.not_true, Bool.not_false, Bool.true_or, Bool.false_or, Bool.or_true, Bool.or_false, Bool.and_true, Bool.true_and, Bool.and_false, Bool.false_and]
    exact ⟨by simp only [rightTb, all_not (show i < D.length by omega) ho, Bool.false_and], H51.upd 0 rfl [] (fun _ h => h.elim)⟩
   have g53 := bnot_false b45
   have g54 := of_decide_eq_true g53
   refine q_know 38 (.bool false) (congrArg Value.bool b45) ?_
   refine qy 21 38 false 39 (.agg ⟨(kBatA_0 F C)⟩) ?_ (hr := fun _ H' => (zlN (vs := (kBatA_0 F C)) (H'.at 1 rfl)))
   refine qy 21 38 false 40 (pt b 0) <| qy 21 38 false 41 (.agg ⟨(kBatA_1 (D.getD i deny0))⟩) ?_ (hr := fun _ H' => (zlN (vs := (kBatA_1 (D.getD i deny0))) (H'.at 3 rfl)))
   refine q_call (wantsY 21 38 false rfl (by kernel_rfl) rfl (by kernel_rfl)) (d := 42) (v := (.bool (rightDn F B (D.getD i deny0)))) rfl (fun _ _ => by kernel_rfl) (fun w' H' => (wRightDeny_any w' F C (by omega) b bm B (H'.roCk 0 rfl hbk (fun _ _ h => h)) (H'.roMap 0 rfl hbm (fun h => h)) (D.getD i deny0) (hok _ (by omega))).mono fun _ _ h => ⟨h.1, H'.keepU h.2⟩) ?_
   refine qy 21 38 false 43 (.bool (!(rightDn F B (D.getD i deny0)))) <| qv 44 (.bool (!(rightDn F B (D.getD i deny0)))) <| q_end fun w57 H58 => ?_
   apply ztn
   refine (bsplit (!(rightDn F B (D.getD i deny0)))).elim (fun b59 => ?_) (fun b59 => ?_)
   ·have g60 := bnot_true b59
    refine zwkt _ b59 ?_
    refine zsl <| wv 6 (.bool false) <| znt <| w_ret <| blk_ret <| then_ret <| back_ret <| blk_ret <| then_ret <| ze1 (.bool false) ?_
    have n62 := bnot_false b45
    have n63 := bnot_true b59
    have e1 : ((i : Int) - 1).toNat = i - 1 := by omega
    have ho : tombAt F B ix D i = false := by unfold tombAt; rw [← e1]; simp only [b14, b30, b38, n62, n63, Bool.not_true, Bool.not_false, Bool.true_or, Bool.false_or, Bool.or_true, Bool.or_false, Bool.and_true, Bool.true_and, Bool.and_false, Bool.false_and]
    exact ⟨by simp only [rightTb, all_not (show i < D.length by omega) ho, Bool.false_and], H58.upd 0 rfl [] (fun _ h => h.elim)⟩
   have g64 := bnot_false b59
   refine zwkf _ b59 ?_
   refine w_skip <| blk_normal <| ztn <| w_lit <| zwi 45 ((i : Int) + 1) <| wv 12 (.int .i64 ((i : Int) + 1)) <| w_nil ?_
   have n66 := bnot_false b45
   have n67 := bnot_false b59
   have e1 : ((i : Int) - 1).toNat = i - 1 := by omega
   have ho : tombAt F B ix D i = true := by unfold tombAt; rw [← e1]; simp only [b14, b30, b38, n66, n67, Bool.not_true, Bool.not_false, Bool.true_or, Bool.false_or, Bool.or_true, Bool.or_false, Bool.and_true, Bool.true_and, Bool.and_false, Bool.false_and]
   have H68 := H58.pk [0, 1, 2]
   refine round_back ?_ _ ⟨(i + 1), rfl, (by omega), (fun j hj => by rcases Nat.lt_or_ge j i with h | h; exact hall j h; rw [show j = i by omega]; exact ho), H68, rfl⟩ (by omega)
   exact zs
  have g69 := of_decide_eq_false b30
  refine q_know 19 (.bool false) (congrArg Value.bool b30) ?_
  iterate 10 refine qn 2 19 true ?_
  refine qv 30 (.bool false) <| qv 31 (.bool false) <| qy 14 31 false 32 (pt b23 1) <| qy 14 31 false 33 (.int .i64 ((D.getD i deny0).i)) ?_ (hr := fun _ H' => (zl1 (H'.cell 3 rfl rfl)))
  refine qy 14 31 false 34 (pt b6 0) <| qy 14 31 false 35 (.int .i64 (ix)) ?_ (hr := fun _ H' => (zl1 (H'.cell 2 rfl rfl)))
  refine qy 14 31 false 36 (.bool (!(decide (((D.getD i deny0).i) = ix)))) <| qv 37 (.bool (!(decide (((D.getD i deny0).i) = ix)))) <| qv 38 (.bool (!(decide (((D.getD i deny0).i) = ix)))) ?_
  refine (bsplit (!(decide (((D.getD i deny0).i) = ix)))).elim (fun b71 => ?_) (fun b71 => ?_)
  ·have g72 := bnot_true b71
   have g73 := of_decide_eq_false g72
   refine q_know 38 (.bool true) (congrArg Value.bool b71) ?_
   iterate 5 refine qn 21 38 false ?_
   refine qv 44 (.bool true) <| q_end fun w76 H77 => ?_
   refine ztn <| wp_ift rfl ?_
   refine zsl <| wv 6 (.bool false) <| znt <| w_ret <| blk_ret <| then_ret <| back_ret <| blk_ret <| then_ret <| ze1 (.bool false) ?_
   have n78 := bnot_true b71
   have e1 : ((i : Int) - 1).toNat = i - 1 := by omega
   have ho : tombAt F B ix D i = false := by unfold tombAt; rw [← e1]; simp only [b14, b30, n78, Bool.not_true, Bool.not_false, Bool.true_or, Bool.false_or, Bool.or_true, Bool.or_false, Bool.and_true, Bool.true_and, Bool.and_false, Bool.false_and]
   exact ⟨by simp only [rightTb, all_not (show i < D.length by omega) ho, Bool.false_and], H77.upd 0 rfl [] (fun _ h => h.elim)⟩
  have g79 := bnot_false b71
  have g80 := of_decide_eq_true g79
  refine q_know 38 (.bool false) (congrArg Value.bool b71) ?_
  refine qy 21 38 false 39 (.agg ⟨(kBatA_0 F C)⟩) ?_ (hr := fun _ H' => (zlN (vs := (kBatA_0 F C)) (H'.at 1 rfl)))
  refine qy 21 38 false 40 (pt b 0) <| qy 21 38 false 41 (.agg ⟨(kBatA_1 (D.getD i deny0))⟩) ?_ (hr := fun _ H' => (zlN (vs := (kBatA_1 (D.getD i deny0))) (H'.at 3 rfl)))
  refine q_call (wantsY 21 38 false rfl (by kernel_rfl) rfl (by kernel_rfl)) (d := 42) (v := (.bool (rightDn F B (D.getD i deny0)))) rfl (fun _ _ => by kernel_rfl) (fun w' H' => (wRightDeny_any w' F C (by omega) b bm B (H'.roCk 0 rfl hbk (fun _ _ h => h)) (H'.roMap 0 rfl hbm (fun h => h)) (D.getD i deny0) (hok _ (by omega))).mono fun _ _ h => ⟨h.1, H'.keepU h.2⟩) ?_
  refine qy 21 38 false 43 (.bool (!(rightDn F B (D.getD i deny0)))) <| qv 44 (.bool (!(rightDn F B (D.getD i deny0)))) <| q_end fun w83 H84 => ?_
  apply ztn
  refine (bsplit (!(rightDn F B (D.getD i deny0)))).elim (fun b85 => ?_) (fun b85 => ?_)
  ·have g86 := bnot_true b85
   refine zwkt _ b85 ?_
   refine zsl <| wv 6 (.bool false) <| znt <| w_ret <| blk_ret <| then_ret <| back_ret <| blk_ret <| then_ret <| ze1 (.bool false) ?_
   have n88 := bnot_false b71
   have n89 := bnot_true b85
   have e1 : ((i : Int) - 1).toNat = i - 1 := by omega
   have ho : tombAt F B ix D i = false := by unfold tombAt; rw [← e1]; simp only [b14, b30, n88, n89, Bool.not_true, Bool.not_false, Bool.true_or, Bool.false_or, Bool.or_true, Bool.or_false, Bool.and_true, Bool.true_and, Bool.and_false, Bool.false_and]
   exact ⟨by simp only [rightTb, all_not (show i < D.length by omega) ho, Bool.false_and], H84.upd 0 rfl [] (fun _ h => h.elim)⟩
  have g90 := bnot_false b85
  refine zwkf _ b85 ?_
  refine w_skip <| blk_normal <| ztn <| w_lit <| zwi 45 ((i : Int) + 1) <| wv 12 (.int .i64 ((i : Int) + 1)) <| w_nil ?_
  have n92 := bnot_false b71
  have n93 := bnot_false b85
  have e1 : ((i : Int) - 1).toNat = i - 1 := by omega
  have ho : tombAt F B ix D i = true := by unfold tombAt; rw [← e1]; simp only [b14, b30, n92, n93, Bool.not_true, Bool.not_false, Bool.true_or, Bool.false_or, Bool.or_true, Bool.or_false, Bool.and_true, Bool.true_and, Bool.and_false, Bool.false_and]
  have H94 := H84.pk [0, 1, 2]
  refine round_back ?_ _ ⟨(i + 1), rfl, (by omega), (fun j hj => by rcases Nat.lt_or_ge j i with h | h; exact hall j h; rw [show j = i by omega]; exact ho), H94, rfl⟩ (by omega)
  exact zs
 have g95 := of_decide_eq_false b14
 refine zwkf _ b14 ?_
 refine zxb <| ztn <| w_seq <| zqs H11 ?_
 refine qv 46 (pt b6 1) <| qv 47 (.slice da D.length dc) ?_ (hr := fun _ H' => (zl1 (H'.cell 2 rfl rfl)))
 refine q_val (wants0 rfl) (d := 48) (v := (.int .i64 ((D.length : Int)))) rfl (fun _ H' => (by kernel_rfl)) ?_
 refine qv 49 (.agg ⟨(kBatA_0 F C)⟩) ?_ (hr := fun _ H' => (zlN (vs := (kBatA_0 F C)) (H'.at 1 rfl)))
 refine q_call (wants0 rfl) (d := 50) (v := (.int .i64 (2 * F + 1))) rfl (fun _ _ => by kernel_rfl) (fun w' H' => (wQ_any w' F C (by omega)).mono fun _ _ h => ⟨h.1, H'.keepU h.2⟩) ?_
 refine qv 51 (.bool (decide ((D.length : Int) = (2 * F + 1)))) <| qv 6 (.bool (decide ((D.length : Int) = (2 * F + 1)))) <| q_end fun w97 H98 => ?_
 refine ztn <| w_ret <| ze1 (.bool (decide ((D.length : Int) = (2 * F + 1)))) ?_
 have hn0 : i = D.length := by omega
 subst hn0
 exact ⟨by simp only [rightTb, all_upto hall, Bool.true_and], H98.upd 0 rfl [] (fun _ h => h.elim)⟩
theorem pNew_any (w : World) :
  Calls Tryz.prog 77 #[] w fun e w' => ∃ b mb, e = .returned (.pointer (some ⟨b, 0, none⟩)) ∧ (sepC [cellC b 179 [.map (some mb)], mapC mb signedV (Value.int .i64) (marks [])]).ok w' ∧ Upd [] w w' ∧ ∀ q_, (sepC [cellC b 179 [.map (some mb)], mapC mb signedV (Value.int .i64) (marks [])]).fp q_ → w.heap.size ≤ q_ := by
 have H := Sat.start0 w
 refine calls_fr Tryz.func77 rfl 4 rfl (Nat.le_of_ble_eq_true rfl) ?_
 refine zsl <| wv 0 (.pointer none) <| znsl <| zwd fun Kq kq => d_makeMap signedV (Value.int .i64) rfl H fun b2 w3 H4 => ?_
 refine kq _ _ <| wv 2 (.agg ⟨([(.map (some b2))] : List Value)⟩) <| zwd fun Kq kq => zdb ([(.map (some b2))] : List Value) H4 fun b6 w7 H8 => ?_
 refine kq _ _ <| wv 0 (pt b6 0) <| znt <| w_ret <| ze1 (pt b6 0) ?_
 exact ⟨b6, b2, rfl, H8.fn [2, 1], H8.upd 0 rfl [] (fun _ h => h.elim), H8.freshS 0 rfl (fun _ h => h) [2, 1] rfl rfl⟩
theorem new10_any (w : World) :
  Calls Tryz.prog 28 #[] w fun e w' => ∃ b mb r, e = .returned (.tuple #[.agg #[.pointer (some ⟨b, 0, none⟩), .pointer (some ⟨r, 0, none⟩)], .bool true]) ∧ (sepC [cellC b 179 [.map (some mb)], mapC mb signedV (Value.int .i64) (marks []), cellC r 165 [.slice none 0 0]]).ok w' ∧ Upd [] w w' ∧ ∀ q_, (sepC [cellC b 179 [.map (some mb)], mapC mb signedV (Value.int .i64) (marks []), cellC r 165 [.slice none 0 0]]).fp q_ → w.heap.size ≤ q_ := by
 have H := Sat.start0 w
 refine calls_fr Tryz.func28 rfl 10 rfl (Nat.le_of_ble_eq_true rfl) ?_
 refine zsl <| zwd fun Kq kq => zda (kBatA_3) H fun b2 w3 H4 => ?_
 refine kq _ _ <| wv 1 (.bool false) <| znsl <| zwd fun Kq kq => zdc 3 (pNew_any w3) ?_
 rintro _ w6 ⟨b7, m8, rfl, k9, p10, q11⟩
 have H12 := H4.addU p10 k9 q11
 have H13 := H12.open 2 rfl
 refine ⟨_, rfl, ?_⟩
 refine kq _ _ <| wv 2 (pt b7 0) <| znsl <| wv 4 (pt b7 0) <| wv 5 (.agg ⟨([(.slice none 0 0)] : List Value)⟩) <| zwd fun Kq kq => zdb ([(.slice none 0 0)] : List Value) H13 fun b15 w16 H17 => ?_
 refine kq _ _ <| wv 7 (.agg ⟨(kBatA_4 b7 b15)⟩) <| wv 8 (pt b7 0) <| wv 9 (.bool true) <| zwd fun Kq kq => d_store (vs := (kBatA_4 b7 b15)) rfl H17 1 rfl rfl rfl rfl (by kernel_rfl) (Nat.le_of_ble_eq_true (by kernel_rfl)) (Nat.le_of_ble_eq_true (by kernel_rfl)) (by kernel_rfl) fun w19 H20 => ?_
 refine kq _ _ <| wv 1 (.bool true) <| znt <| w_ret <| end2 rfl (res_cellN (vs := (kBatA_4 b7 b15)) rfl (by kernel_rfl) (by kernel_rfl) (Nat.le_of_ble_eq_true (by kernel_rfl)) (H20.at 1 rfl) (by kernel_rfl)) (res_tmp (v := (.bool true)) rfl) ?_
 exact ⟨b7, m8, b15, rfl, H20.fn [2, 3, 4], H20.upd 0 rfl [] (fun _ h => h.elim), H20.freshS 0 rfl (fun _ h => h) [2, 3, 4] rfl rfl⟩
theorem small_any (w : World) (a b : Int) :
  Calls Tryz.prog 30 #[(.agg ⟨([(.int .i64 (a)), (.int .i64 (b))] : List Value)⟩)] w fun e w' => e = .returned (.agg ⟨[.int .i64 (withinV a 3), .int .i64 (1 + withinV b 4)]⟩) ∧ Upd [] w w' := by
 have H := Sat.start0 w
 have q1 := within_lim a 3 (by omega)
 have q2 := within_lim b 4 (by omega)
 refine calls_fr Tryz.func30 rfl 11 rfl (Nat.le_of_ble_eq_true rfl) ?_
 refine zsl <| zwd fun Kq kq => zdb (kBatA_0 a b) H fun b2 w3 H4 => ?_
 refine kq _ _ <| zwd fun Kq kq => zda ([(.int .i64 (0)), (.int .i64 (0))] : List Value) H4 fun b6 w7 H8 => ?_
 refine kq _ _ <| znt <| w_seq <| h_start H8 [restC w (fun _ => False), cellC b2 59 (kBatA_0 a b)] 9 rfl (by kernel_rfl) (fun Hx => (Hx.pk [0, 1])) fun w9 H10 S11 => ?_
 refine hv0 0 S11 3 (pt b2 0) <| hv0 1 S11 4 (.int .i64 (a)) ?_ (he := fun _ H' => (zl1 (H'.cell 1 rfl rfl)))
 refine hv0 3 S11 6 (pt b2 1) <| hv0 4 S11 7 (.int .i64 (b)) ?_ (he := fun _ H' => (zl1 (H'.cell 1 rfl rfl)))
 refine zhd0 2 fun Kq kq => ?_
 refine zdq 5 (within_any w9 a 3 (by omega)) H10 ?_
 intro w13 H14
 have S16 := H14.pk [0, 1]
 refine kq _ _ S16 <| zhd0 5 fun Kq kq => ?_
 refine zdq 8 (within_any w13 b 4 (by omega)) H14 ?_
 intro w18 H19
 have S21 := H19.pk [0, 1]
 refine kq _ _ S21 <| hv0 6 S21 9 (.int .i64 (1 + (withinV b 4))) ?_ (he := fun _ H' => (e_int (z := 1 + (withinV b 4)) (by kernel_rfl) (IntWalk.i64_in _ (by omega))))
 refine h_val 7 rfl (by kernel_rfl) (by kernel_rfl) (by kernel_rfl) (fun _ _ _ h => h) S21 (wants0 rfl) (d := 10) (v := (.agg ⟨(kBatA_0 (withinV a 3) (1 + (withinV b 4)))⟩)) rfl (fun _ H' => (by kernel_rfl)) ?_
 refine zhd0 8 fun Kq kq => ?_
 refine zds1 (kBatA_0 (withinV a 3) (1 + (withinV b 4))) H19 2 ?_
 intro w23 H24
 have S26 := H24.pk [0, 1]
 refine kq _ _ S26 <| zhf <| ztn <| w_ret <| end1 rfl (res_cellN (vs := (kBatA_0 (withinV a 3) (1 + (withinV b 4)))) rfl (by kernel_rfl) (by kernel_rfl) (Nat.le_of_ble_eq_true (by kernel_rfl)) (H24.at 2 rfl) (by kernel_rfl)) ?_
 exact ⟨rfl, H24.upd 0 rfl [] (fun _ h => h.elim)⟩
end Go.Proofs.YtenihpghfdcpkaaGreat
