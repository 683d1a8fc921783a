/- WHAT IS PROVED: contracts and plain laws of BatA. Conditions: stated with each. -/
import Derived.Test.YtenihpghfdcpkaaGreatPA05
import Derived.Test.YtenihpghfdcpkaaGreatPA06
import Derived.Test.YtenihpghfdcpkaaGreatPA16
import Derived.Test.YtenihpghfdcpkaaGreatPA19
set_option maxHeartbeats 4000000
set_option maxRecDepth 100000
namespace Go.Proofs.YtenihpghfdcpkaaGreat
open Go.RowKit
abbrev Z0t (p0 : Int) (p1 : Int) : List Value := ([(.int .i64 p0), (.int .i64 p1)] : List Value)
abbrev Z3p (p0 : Z1d) : List Value := ([(.int .i64 p0.r), (.int .i64 p0.i), (.int .i64 p0.sb), (.int .i64 p0.sm)] : List Value)
abbrev ZdE (p0 : Int) (p1 : Option Addr) (p2 : Nat) (p3 : Nat) : List Value := ([(.int .i64 p0), (.slice p1 p2 p3)] : List Value)
abbrev Zf8 : List Value := ([(.pointer none), (.pointer none)] : List Value)
abbrev Z9u (p0 : Nat) (p1 : Nat) : List Value := ([(pt p0 0), (pt p1 0)] : List Value)
theorem Z3b (w : World) (v n : Int) (hn : n ≤ 4611686018427387904) :
  Calls Tryz.prog 18 #[(.int .i64 (v)), (.int .i64 (n))] w fun e w' => e = .returned (.int .i64 (Z1 v n)) ∧ Upd [] w w' := by
 have H := Sat.start0 w
 refine Z8 Tryz.func18 rfl 17 rfl kn ?_
 refine zsl <| wv 4 (vi 0) <| znt <| Z5 <| zsl <| wv 6 (vi n) <| wv 7 (.bool (decide (n < 1))) <| znt ?_
 refine zid (fun b1 g2 => ?_) fun b1 g3 => ?_
 ·refine zsl <| wv 4 (vi 0) <| znt <| Zq <| ZP <| ze1 (vi 0) ?_
  exact ⟨by unfold Z1; rw [if_pos (of_decide_eq_true b1)], H.upd 0 rfl [] ne⟩
 refine Zt <| ztn <| zsl <| wv 8 (vi v) <| wv 9 (vi n) <| wv 10 (vi (Int.tmod v n)) ?_ (hr := ZeM kr om)
 refine wv 5 (vi (Int.tmod v n)) <| znt <| Z5 <| zsl <| wv 11 (vi (Int.tmod v n)) <| wv 12 (.bool (decide ((Int.tmod v n) < 0))) <| znt ?_
 refine zid (fun b4 g5 => ?_) fun b4 g6 => ?_
 ·refine Zl <| wv 13 (vi (Int.tmod v n)) <| wv 14 (vi n) <| wv 15 (vi ((Int.tmod v n) + n)) ?_ (hr := Z0g (z := (Int.tmod v n) + n) kr (IntWalk.i64_in _ (by have := Zb0 v n om; omega)))
  refine wv 5 (vi ((Int.tmod v n) + n)) <| Z0y <| wv 16 (vi ((Int.tmod v n) + n)) <| wv 4 (vi ((Int.tmod v n) + n)) <| znt <| Zq <| ze1 (vi ((Int.tmod v n) + n)) ?_
  exact ⟨by unfold Z1; rw [if_neg (of_decide_eq_false b1), Z8M v n (by have := of_decide_eq_false b1; omega), if_pos (of_decide_eq_true b4)], H.upd 0 rfl [] ne⟩
 refine Zt <| ztn <| zsl <| wv 16 (vi (Int.tmod v n)) <| wv 4 (vi (Int.tmod v n)) <| znt <| Zq <| ze1 (vi (Int.tmod v n)) ?_
 exact ⟨by unfold Z1; rw [if_neg (of_decide_eq_false b1), Z8M v n (by have := of_decide_eq_false b1; omega), if_neg (of_decide_eq_false b4)], H.upd 0 rfl [] ne⟩
theorem wN_any (w : World) (f c : Int) (hf : -1099511627776 ≤ f ∧ f ≤ 1099511627776) :
  Calls Tryz.prog 89 #[(.agg ⟨([(.int .i64 (f)), (.int .i64 (c))] : List Value)⟩)] w fun e w' => e = .returned (.int .i64 (3 * f + 1)) ∧ Upd [] w w' := by
 have H := Sat.start0 w
 refine Z8 Tryz.func89 rfl 7 rfl kn ?_
 refine zsl <| zy <| zdb (Z0t f c) H fun b2 w3 H4 => ?_
 refine kk <| wv 2 (vi 0) <| Z0y <| wv 3 (pt b2 0) <| zw1 4 (vi f) (H4.cell 1 rfl rfl) <| zwi 5 (3 * f) <| zwi 6 ((3 * f) + 1) <| wv 2 (vi ((3 * f) + 1)) <| znt <| Zq ?_
 refine ze1 (vi ((3 * f) + 1)) ?_
 exact ⟨rfl, H4.upd 0 rfl [] ne⟩
theorem ZcH (w : World) (f c : Int) (hf : -1099511627776 ≤ f ∧ f ≤ 1099511627776) :
  Calls Tryz.prog 46 #[(.agg ⟨([(.int .i64 (f)), (.int .i64 (c))] : List Value)⟩)] w fun e w' => e = .returned (.int .i64 (2 * f + 1)) ∧ Upd [] w w' := by
 have H := Sat.start0 w
 refine Z8 Tryz.func46 rfl 7 rfl kn ?_
 refine zsl <| zy <| zdb (Z0t f c) H fun b2 w3 H4 => ?_
 refine kk <| wv 2 (vi 0) <| Z0y <| wv 3 (pt b2 0) <| zw1 4 (vi f) (H4.cell 1 rfl rfl) <| zwi 5 (2 * f) <| zwi 6 ((2 * f) + 1) <| wv 2 (vi ((2 * f) + 1)) <| znt <| Zq ?_
 refine ze1 (vi ((2 * f) + 1)) ?_
 exact ⟨rfl, H4.upd 0 rfl [] ne⟩
theorem Zdu (w : World) (f c : Int) (hf : -1099511627776 ≤ f ∧ f ≤ 1099511627776) :
  Calls Tryz.prog 31 #[(.agg ⟨([(.int .i64 (f)), (.int .i64 (c))] : List Value)⟩)] w fun e w' => e = .returned (.int .i64 (3 * f + 1)) ∧ Upd [] w w' := by
 have H := Sat.start0 w
 refine Z8 Tryz.func31 rfl 7 rfl kn ?_
 refine zsl <| zy <| zdb (Z0t f c) H fun b2 w3 H4 => ?_
 refine kk <| wv 2 (vi 0) <| Z0y <| wv 3 (pt b2 0) <| zw1 4 (vi f) (H4.cell 1 rfl rfl) <| zwi 5 (3 * f) <| zwi 6 ((3 * f) + 1) <| wv 2 (vi ((3 * f) + 1)) <| znt <| Zq ?_
 refine ze1 (vi ((3 * f) + 1)) ?_
 exact ⟨rfl, H4.upd 0 rfl [] ne⟩
theorem Zam (w : World) (f c : Int) (hf : -1099511627776 ≤ f ∧ f ≤ 1099511627776) :
  Calls Tryz.prog 39 #[(.agg ⟨([(.int .i64 (f)), (.int .i64 (c))] : List Value)⟩)] w fun e w' => e = .returned (.int .i64 (2 * f + 1)) ∧ Upd [] w w' := by
 have H := Sat.start0 w
 refine Z8 Tryz.func39 rfl 7 rfl kn ?_
 refine zsl <| zy <| zdb (Z0t f c) H fun b2 w3 H4 => ?_
 refine kk <| wv 2 (vi 0) <| Z0y <| wv 3 (pt b2 0) <| zw1 4 (vi f) (H4.cell 1 rfl rfl) <| zwi 5 (2 * f) <| zwi 6 ((2 * f) + 1) <| wv 2 (vi ((2 * f) + 1)) <| znt <| Zq ?_
 refine ze1 (vi ((2 * f) + 1)) ?_
 exact ⟨rfl, H4.upd 0 rfl [] ne⟩
theorem ZcB (w : World) (f c r : Int) (hf : -1099511627776 ≤ f ∧ f ≤ 1099511627776) :
  Calls Tryz.prog 43 #[(.agg ⟨([(.int .i64 (f)), (.int .i64 (c))] : List Value)⟩), (.int .i64 (r))] w fun e w' => e = .returned (.bool (inB f r)) ∧ Upd [] w w' := by
 have H := Sat.start0 w
 refine Z8 Tryz.func43 rfl 13 rfl kn ?_
 refine zsl <| zy <| zdb (Z0t f c) H fun b2 w3 H4 => ?_
 refine kk <| wv 4 (.bool false) <| znt ?_
 refine Z28 [4, 5, 6, 7, 8, 9, 10, 11, 12] (fun G_ W_ => G_ 4 = (.bool (inB f r)) ∧ Sat w [Z3 w (fun _ => False), Z0 b2 29 (Z0t f c)] W_) ?_ ?_
 ·refine Zl <| wv 5 (vi r) <| wv 6 (.bool (decide (r ≥ 0))) <| wv 7 (.bool (decide (r ≥ 0))) ?_
  refine zil 7 (fun b6 g7 => ?_) fun b6 g12 => ?_
  ·refine wy 2 7 true 8 (vi r) <| wy 2 7 true 9 (.agg ⟨(Z0t f c)⟩) ?_ (hr := zlN (vs := (Z0t f c)) (H4.at 1 rfl))
   refine Z5I (Z11 2 7 true rfl kr rfl kr) (fun Kq kq => ?_)
   refine zdq 10 (wN_any w3 f c om) H4 ?_
   intro w9 H10
   refine kq _ _ <| wy 2 7 true 11 (.bool (decide (r < (3 * f + 1)))) <| wv 12 (.bool (decide (r < (3 * f + 1)))) <| wv 4 (.bool (decide (r < (3 * f + 1)))) <| Zu <| Z01 ?_ ⟨(congrArg Value.bool (show (decide (r < (3 * f + 1))) = (inB f r) by simp [inB, b6])), H10⟩
   exact zs
  iterate 4 refine wn 2 7 true ?_
  refine wv 12 (.bool false) <| wv 4 (.bool false) <| Zu <| Z01 ?_ ⟨(congrArg Value.bool (show false = (inB f r) by simp [inB, b6])), H4⟩
  exact zs
 rintro f13 w14 ⟨v16, H15⟩
 refine Zd 4 _ v16 ?_
 refine Zq <| ze1 (.bool (inB f r)) ?_
 exact ⟨rfl, H15.upd 0 rfl [] ne⟩
theorem Zab (w : World) (b bm : Nat) (B : List Signed) (hbk : (Z0 b 179 [.map (some bm)]).ok w) (hbm : MapAt w bm ZZ (Value.int .i64) (Z0a B)) (ta : Option Addr) (tc : Nat) (tx : List UInt8) (ht : ListAt Zy 1 w (.slice ta tx.length tc) tx) (p m : Int) :
  Calls Tryz.prog 107 #[(.pointer (some ⟨b, 0, none⟩)), (.agg ⟨([(.int .i64 (p)), (.int .i64 (m))] : List Value)⟩), (.slice ta tx.length tc)] w fun e w' => e = .returned (.bool (Z0M B p m tx)) ∧ Upd [] w w' := by
 have H := Sat.start0 w
 have hmk : (Zp (Z0a B) (⟨p, tx⟩ : Signed)).getD 0 = Ze B (⟨p, tx⟩ : Signed) := by rw [Z5Z]; rfl
 refine Z8 Tryz.func107 rfl 26 rfl kn ?_
 refine zsl <| zy <| zdb (Z0t p m) H fun b2 w3 H4 => ?_
 refine kk <| wv 6 (.bool false) <| znt <| Z5 <| zqs H4 ?_
 refine qv 8 (pt b 0) <| qv 9 (pt b 0) <| qv 10 (pt b 0) <| qv 11 (.map (some bm)) ?_ (hr := fun _ H' => (zl1 (H'.roCell 0 rfl hbk (fun h => h) rfl)))
 refine qv 12 (pt b2 0) <| qv 13 (vi p) ?_ (hr := fun _ H' => (zl1 (H'.cell 1 rfl rfl)))
 refine qv 14 (.slice ta tx.length tc) <| qv 15 (Z3R tx) ?_ (hr := fun _ H' => (Z3o (e := 5) (s := tx) kr kr kr rfl (Z2i (ListAt.now H' 0 rfl ht))))
 refine ZbC (Zb rfl) (d := 16) (v := (.agg ⟨([(vi p), (Z3R tx)] : List Value)⟩)) rfl (fun _ H' => kr) ?_
 refine qv 17 (vi ((Zp (Z0a B) (⟨p, tx⟩ : Signed)).getD 0)) ?_ (hr := fun _ H' => (Z35 (kt := 176) (et := 3) Z74 kr (fun w => by kernel_rfl) rfl (⟨p, tx⟩ : Signed) rfl (H'.roMap 0 rfl hbm (fun h => h)) (ZaW (Value.int .i64) _ _)))
 refine qv 7 (vi ((Zp (Z0a B) (⟨p, tx⟩ : Signed)).getD 0)) <| Z17 fun w5 H6 => ?_
 refine ztn <| zsl <| wv 18 (vi ((Zp (Z0a B) (⟨p, tx⟩ : Signed)).getD 0)) <| wv 19 (.bool (decide (((Zp (Z0a B) (⟨p, tx⟩ : Signed)).getD 0) > 0))) <| wv 20 (.bool (decide (((Zp (Z0a B) (⟨p, tx⟩ : Signed)).getD 0) > 0))) ?_
 refine zil 20 (fun b7 g8 => ?_) fun b7 g10 => ?_
 ·refine wy 2 20 true 21 (vi ((Zp (Z0a B) (⟨p, tx⟩ : Signed)).getD 0)) <| wy 2 20 true 22 (pt b2 1) <| wy 2 20 true 23 (vi m) ?_ (hr := zl1 (H6.cell 1 rfl rfl))
  refine wy 2 20 true 24 (.bool (decide (((Zp (Z0a B) (⟨p, tx⟩ : Signed)).getD 0) = m))) <| wv 25 (.bool (decide (((Zp (Z0a B) (⟨p, tx⟩ : Signed)).getD 0) = m))) <| wv 6 (.bool (decide (((Zp (Z0a B) (⟨p, tx⟩ : Signed)).getD 0) = m))) <| znt <| Zq <| ze1 (.bool (decide (((Zp (Z0a B) (⟨p, tx⟩ : Signed)).getD 0) = m))) ?_
  exact ⟨by unfold Z0M; rw [← hmk]; simp [b7], H6.upd 0 rfl [] ne⟩
 iterate 4 refine wn 2 20 true ?_
 refine wv 25 (.bool false) <| wv 6 (.bool false) <| znt <| Zq <| ze1 (.bool false) ?_
 exact ⟨by unfold Z0M; rw [← hmk]; simp [b7], H6.upd 0 rfl [] ne⟩
theorem Z55 (w : World) (F C : Int) (hF : -1099511627776 ≤ F ∧ F ≤ 1099511627776) (b bm : Nat) (B : List Signed) (hbk : (Z0 b 179 [.map (some bm)]).ok w) (hbm : MapAt w bm ZZ (Value.int .i64) (Z0a B)) (d : Z1d) (hd : ZfD d) :
  Calls Tryz.prog 70 #[(.agg ⟨([(.int .i64 (F)), (.int .i64 (C))] : List Value)⟩), (.pointer (some ⟨b, 0, none⟩)), (.agg ⟨([(.int .i64 (d.r)), (.int .i64 (d.i)), (.int .i64 (d.sb)), (.int .i64 (d.sm))] : List Value)⟩)] w fun e w' => e = .returned (.bool (Z1m F B d)) ∧ Upd [] w w' := by
 have H := Sat.start0 w
 have hd2 := hd
 unfold ZfD at hd2
 refine Z8 Tryz.func70 rfl 32 rfl kn ?_
 refine zsl <| zy <| zdb (Z0t F C) H fun b2 w3 H4 => ?_
 refine kk <| zy <| zdb (Z3p d) H4 fun b6 w7 H8 => ?_
 refine kk <| wv 6 (.bool false) <| znt <| Z5 <| Z08 H8 [Z3 w (fun _ => False), Z0 b2 29 (Z0t F C), Z0 b6 122 (Z3p d)] 26 rfl kr (fun Hx => (Hx.pk [0, 1, 2])) fun w9 H10 S11 => ?_
 refine hv0 0 S11 7 (.agg ⟨(Z0t F C)⟩) ?_ (he := fun _ H' => (zlN (vs := (Z0t F C)) (H'.at 1 rfl)))
 refine hv0 1 S11 8 (pt b6 0) <| hv0 2 S11 9 (vi d.r) ?_ (he := fun _ H' => (zl1 (H'.cell 2 rfl rfl)))
 refine zhy 3 ?_
 refine zdq 10 (ZcB w9 F C d.r om) H10 ?_
 intro w13 H14
 have S16 := H14.pk [0, 1, 2]
 refine kh S16 <| hv0 4 S16 11 (.bool (inB F d.r)) ?_
 refine (ZJ (inB F d.r)).elim (fun b17 => ?_) (fun b17 => ?_)
 ·refine Z7I 11 (.bool true) (congrArg Value.bool b17) ?_
  refine Z3w 5 S16 4 11 true 12 (pt b6 1) <| Z3w 6 S16 4 11 true 13 (vi d.i) ?_ (he := fun _ H' => (zl1 (H'.cell 2 rfl rfl)))
  refine Z3w 7 S16 4 11 true 14 (.bool (decide (d.i ≥ 0))) <| hv0 8 S16 15 (.bool (decide (d.i ≥ 0))) <| hv0 9 S16 16 (.bool (decide (d.i ≥ 0))) ?_
  refine zih 16 (fun b18 g19 => ?_) fun b18 g41 => ?_
  ·refine Z3w 10 S16 9 16 true 17 (pt b6 2) <| Z3w 11 S16 9 16 true 18 (pt b6 2) <| Z3w 12 S16 9 16 true 19 (vi d.sb) ?_ (he := fun _ H' => (zl1 (H'.cell 2 rfl rfl)))
   refine Z3w 13 S16 9 16 true 20 (pt b6 0) <| Z3w 14 S16 9 16 true 21 (vi d.r) ?_ (he := fun _ H' => (zl1 (H'.cell 2 rfl rfl)))
   refine Z3w 15 S16 9 16 true 22 (.bool (decide (d.sb = d.r))) <| hv0 16 S16 23 (.bool (decide (d.sb = d.r))) <| hv0 17 S16 24 (.bool (decide (d.sb = d.r))) ?_
   refine zih 24 (fun b21 g22 => ?_) fun b21 g39 => ?_
   ·refine Z3w 18 S16 17 24 true 25 (pt b 0) <| Z3w 19 S16 17 24 true 26 (pt b6 2) <| Z3w 20 S16 17 24 true 27 (.agg ⟨(Z0t d.sb d.sm)⟩) ?_ (he := fun _ H' => (zlN (vs := (Z0t d.sb d.sm)) (H'.at 2 rfl)))
    refine Z3w 21 S16 17 24 true 28 (.agg ⟨(Z3p d)⟩) ?_ (he := fun _ H' => (zlN (vs := (Z3p d)) (H'.at 2 rfl)))
    refine Zep 22 rfl kr (Z11 17 24 true rfl kr rfl kr) (fun Kq kq => ?_)
    refine zdc 29 (Z8c w13 d ⟨by show d.r ≤ _; omega, by show d.i ≤ _; omega⟩) ?_
    rintro _ w25 ⟨u26, rfl, k27, p28, q29⟩
    have hdl := Z6V d.r d.i
    have H30 := H14.addU p28 k27 q29
    obtain ⟨a31, c32, rfl⟩ := Z2 (H30.at 3 rfl)
    refine ⟨_, rfl, ?_⟩
    have S33 := H30.pk [0, 1, 2]
    refine kq _ _ S33 <| Zep 23 rfl kr (Z11 17 24 true rfl kr rfl kr) (fun Kq kq => ?_)
    refine zdq 30 (Zab w25 b bm B (H30.roCk 0 rfl hbk (fun _ _ h => h)) (H30.roMap 0 rfl hbm (fun h => h)) a31 c32 (Z02 d.r d.i) (ListAt.row (enc := Zy) (sz := 1) Zk (by decide) (H30.at 3 rfl)) d.sb d.sm) H30 ?_
    intro w35 H36
    have S38 := H36.pk [0, 1, 2]
    refine kq _ _ S38 <| hv0 24 S38 31 (.bool (Z0M B d.sb d.sm (Z02 d.r d.i))) <| hv0 25 S38 6 (.bool (Z0M B d.sb d.sm (Z02 d.r d.i))) <| zhf <| ztn <| Zq <| ze1 (.bool (Z0M B d.sb d.sm (Z02 d.r d.i))) ?_
    exact ⟨by unfold Z1m; simp [b17, b18, b21], H36.upd 0 rfl [] ne⟩
   refine Z0n 18 S16 17 24 true ?_
   refine Z0n 19 S16 17 24 true ?_
   refine Z0n 20 S16 17 24 true ?_
   refine Z0n 21 S16 17 24 true ?_
   refine Z0n 22 S16 17 24 true ?_
   refine Z0n 23 S16 17 24 true ?_
   refine hv0 24 S16 31 (.bool false) <| hv0 25 S16 6 (.bool false) <| zhf <| ztn <| Zq <| ze1 (.bool false) ?_
   exact ⟨by unfold Z1m; simp [b17, b18, b21], H14.upd 0 rfl [] ne⟩
  refine Z0n 10 S16 9 16 true ?_
  refine Z0n 11 S16 9 16 true ?_
  refine Z0n 12 S16 9 16 true ?_
  refine Z0n 13 S16 9 16 true ?_
  refine Z0n 14 S16 9 16 true ?_
  refine Z0n 15 S16 9 16 true ?_
  refine hv0 16 S16 23 (.bool false) <| hv0 17 S16 24 (.bool false) <| Z0n 18 S16 17 24 true ?_
  refine Z0n 19 S16 17 24 true ?_
  refine Z0n 20 S16 17 24 true ?_
  refine Z0n 21 S16 17 24 true ?_
  refine Z0n 22 S16 17 24 true ?_
  refine Z0n 23 S16 17 24 true ?_
  refine hv0 24 S16 31 (.bool false) <| hv0 25 S16 6 (.bool false) <| zhf <| ztn <| Zq <| ze1 (.bool false) ?_
  exact ⟨by unfold Z1m; simp [b17, b18], H14.upd 0 rfl [] ne⟩
 refine Z7I 11 (.bool false) (congrArg Value.bool b17) ?_
 refine Z0n 5 S16 4 11 true ?_
 refine Z0n 6 S16 4 11 true ?_
 refine Z0n 7 S16 4 11 true ?_
 refine hv0 8 S16 15 (.bool false) <| hv0 9 S16 16 (.bool false) <| Z0n 10 S16 9 16 true ?_
 refine Z0n 11 S16 9 16 true ?_
 refine Z0n 12 S16 9 16 true ?_
 refine Z0n 13 S16 9 16 true ?_
 refine Z0n 14 S16 9 16 true ?_
 refine Z0n 15 S16 9 16 true ?_
 refine hv0 16 S16 23 (.bool false) <| hv0 17 S16 24 (.bool false) <| Z0n 18 S16 17 24 true ?_
 refine Z0n 19 S16 17 24 true ?_
 refine Z0n 20 S16 17 24 true ?_
 refine Z0n 21 S16 17 24 true ?_
 refine Z0n 22 S16 17 24 true ?_
 refine Z0n 23 S16 17 24 true ?_
 refine hv0 24 S16 31 (.bool false) <| hv0 25 S16 6 (.bool false) <| zhf <| ztn <| Zq <| ze1 (.bool false) ?_
 exact ⟨by unfold Z1m; simp [b17], H14.upd 0 rfl [] ne⟩
theorem Z7f (w : World) (F C : Int) (hF : -1099511627776 ≤ F ∧ F ≤ 1099511627776) (b bm : Nat) (B : List Signed) (hbk : (Z0 b 179 [.map (some bm)]).ok w) (hbm : MapAt w bm ZZ (Value.int .i64) (Z0a B)) (ix : Int) (da : Option Addr) (dc : Nat) (D : List Z1d) (hD : ListAt Z3n 4 w (.slice da D.length dc) D) (hok : ∀ i, i < D.length → ZfD (D.getD i Z16)) (hlD : D.length ≤ 1000000) :
  Calls Tryz.prog 21 #[(.agg ⟨([(.int .i64 (F)), (.int .i64 (C))] : List Value)⟩), (.pointer (some ⟨b, 0, none⟩)), (.agg ⟨([(.int .i64 (ix)), (.slice da D.length dc)] : List Value)⟩)] w fun e w' => e = .returned (.bool (Z1Q F B ix D)) ∧ Upd [] w w' := by
 have H := Sat.start0 w
 refine Z8 Tryz.func21 rfl 52 rfl kn ?_
 refine zsl <| zy <| zdb (Z0t F C) H fun b2 w3 H4 => ?_
 refine kk <| zy <| zdb (ZdE ix da D.length dc) H4 fun b6 w7 H8 => ?_
 refine kk <| wv 6 (.bool false) <| znt <| Z5 <| zsl <| wv 9 (pt b6 1) <| zw1 10 (.slice da D.length dc) (H8.cell 2 rfl rfl) <| wv 11 (vi D.length) <| wv 12 (vi 0) <| znt ?_
 refine Za <| Zw ([6, 7, 8] ++ List.range' 12 34) (fun F_ W_ m_ => ∃ (i : Nat), F_ 12 = (vi i) ∧ (i ≤ D.length) ∧ (∀ j, j < i → Z2y F B ix D j = true) ∧ Sat w [Z3 w (fun _ => False), Z0 b2 29 (Z0t F C), Z0 b6 89 (ZdE ix da D.length dc)] W_ ∧ m_ = D.length - i) _ ⟨0, (show ((vi 0) : Value) = _ by first | rfl | go_num), (Nat.zero_le _), (fun _ h => absurd h (Nat.not_lt_zero _)), H8, rfl⟩ ?_
 rintro g8 w10 _ ⟨i, v12, hi, hall, H11, rfl⟩
 refine Zd 12 _ v12 ?_
 refine zsl <| wv 13 (.bool (decide ((i : Int) < D.length))) <| znt <| Z5 ?_
 refine zid (fun b14 g15 => ?_) fun b14 g95 => ?_
 ·refine Zt <| ztn <| Z5 <| Za <| zsl <| wv 14 (vi i) ?_
  obtain ⟨g17, o18, c19, e20, R21⟩ := SliceOf.atD hD Z16 (show i < D.length by omega)
  refine wv 15 (.pointer (some ⟨g17, o18 + ((i : Int)).toNat * 4, none⟩)) ?_ (hr := Zh (E := 122) kr kr kn rfl e20 rfl om om)
  refine wv 16 (.agg ⟨(Z3p (D.getD i Z16))⟩) ?_ (hr := Z05 (vs := (Z3p (D.getD i Z16))) rfl kr kr kn (H11.runR 0 rfl (Z0W R21 0 kr (show o18 + ((i : Int)).toNat * 4 = o18 + i * 4 + 0 by omega)) (fun h => h)))
  refine zy <| zda ([(vi 0), (vi 0), (vi 0), (vi 0)] : List Value) H11 fun b23 w24 H25 => ?_
  refine kk <| wv 7 (vi i) <| zy <| Z1z (Z3p (D.getD i Z16)) H25 3 fun w27 H28 => ?_
  refine kk <| znt <| Z5 <| zqs H28 ?_
  refine qv 17 (vi i) <| qv 18 (.bool (decide ((i : Int) > 0))) <| qv 19 (.bool (decide ((i : Int) > 0))) ?_
  refine ziq 19 (fun b30 g31 => ?_) fun b30 g69 => ?_
  ·refine qy 2 19 true 20 (pt b23 0) <| qy 2 19 true 21 (vi ((D.getD i Z16).r)) ?_ (hr := fun _ H' => (zl1 (H'.cell 3 rfl rfl)))
   refine qy 2 19 true 22 (pt b6 1) <| qy 2 19 true 23 (.slice da D.length dc) ?_ (hr := fun _ H' => (zl1 (H'.cell 2 rfl rfl)))
   refine qy 2 19 true 24 (vi i) <| qy 2 19 true 25 (vi ((i : Int) - 1)) ?_ (hr := fun _ H' => (Z0g (z := (i : Int) - 1) kr (IntWalk.i64_in _ om)))
   obtain ⟨g33, o34, c35, e36, R37⟩ := SliceOf.atD hD Z16 (show ((i : Int) - 1).toNat < D.length by omega)
   refine qy 2 19 true 26 (.pointer (some ⟨g33, o34 + ((i : Int) - 1).toNat * 4, none⟩)) ?_ (hr := fun _ H' => (Zh (E := 122) kr kr kn rfl e36 rfl om om))
   refine qy 2 19 true 27 (.pointer (some ⟨g33, o34 + ((i : Int) - 1).toNat * 4, none⟩)) <| qy 2 19 true 28 (vi ((D.getD ((i : Int) - 1).toNat Z16).r)) ?_ (hr := fun _ H' => (zl1 (H'.cellR 0 rfl (Z0P R37 0 kr (show o34 + ((i : Int) - 1).toNat * 4 = o34 + ((i : Int) - 1).toNat * 4 + 0 by omega)) (fun h => h))))
   refine qy 2 19 true 29 (.bool (decide (((D.getD i Z16).r) ≤ ((D.getD ((i : Int) - 1).toNat Z16).r)))) <| qv 30 (.bool (decide (((D.getD i Z16).r) ≤ ((D.getD ((i : Int) - 1).toNat Z16).r)))) <| qv 31 (.bool (decide (((D.getD i Z16).r) ≤ ((D.getD ((i : Int) - 1).toNat Z16).r)))) ?_
   refine ziq 31 (fun b38 g39 => ?_) fun b38 g43 => ?_
   ·iterate 5 refine qn 14 31 false ?_
    refine qv 37 (.bool true) <| qv 38 (.bool true) ?_
    iterate 5 refine qn 21 38 false ?_
    refine qv 44 (.bool true) <| Z17 fun w41 H42 => ?_
    refine ztn <| Z1X rfl ?_
    refine zsl <| wv 6 (.bool false) <| znt <| Zq <| Z0k <| ZP <| Z1h <| Z0k <| ZP <| ze1 (.bool false) ?_
    have e1 : ((i : Int) - 1).toNat = i - 1 := by omega
    have ho : Z2y F B ix D i = false := by unfold Z2y; rw [← e1]; simp only [b14, b30, b38, Bool.not_true, Bool.not_false, Bool.true_or, Bool.false_or, Bool.or_true, Bool.or_false, Bool.and_true, Bool.true_and, Bool.and_false, Bool.false_and]
    exact ⟨by simp only [Z1Q, Z2Z (show i < D.length by omega) ho, Bool.false_and], H42.upd 0 rfl [] ne⟩
   refine qy 14 31 false 32 (pt b23 1) <| qy 14 31 false 33 (vi ((D.getD i Z16).i)) ?_ (hr := fun _ H' => (zl1 (H'.cell 3 rfl rfl)))
   refine qy 14 31 false 34 (pt b6 0) <| qy 14 31 false 35 (vi ix) ?_ (hr := fun _ H' => (zl1 (H'.cell 2 rfl rfl)))
   refine qy 14 31 false 36 (.bool (!(decide (((D.getD i Z16).i) = ix)))) <| qv 37 (.bool (!(decide (((D.getD i Z16).i) = ix)))) <| qv 38 (.bool (!(decide (((D.getD i Z16).i) = ix)))) ?_
   refine (ZJ (!(decide (((D.getD i Z16).i) = ix)))).elim (fun b45 => ?_) (fun b45 => ?_)
   ·have g46 := ZS b45
    have g47 := of_decide_eq_false g46
    refine Z21 38 (.bool true) (congrArg Value.bool b45) ?_
    iterate 5 refine qn 21 38 false ?_
    refine qv 44 (.bool true) <| Z17 fun w50 H51 => ?_
    refine ztn <| Z1X rfl ?_
    refine zsl <| wv 6 (.bool false) <| znt <| Zq <| Z0k <| ZP <| Z1h <| Z0k <| ZP <| ze1 (.bool false) ?_
    have n52 := ZS b45
    have e1 : ((i : Int) - 1).toNat = i - 1 := by omega
    have ho : Z2y F B ix D i = false := by unfold Z2y; rw [← e1]; simp only [b14, b30, b38, n52, Bool.not_true, Bool.not_false, Bool.true_or, Bool.false_or, Bool.or_true, Bool.or_false, Bool.and_true, Bool.true_and, Bool.and_false, Bool.false_and]
    exact ⟨by simp only [Z1Q, Z2Z (show i < D.length by omega) ho, Bool.false_and], H51.upd 0 rfl [] ne⟩
   have g53 := Zr b45
   have g54 := of_decide_eq_true g53
   refine Z21 38 (.bool false) (congrArg Value.bool b45) ?_
   refine qy 21 38 false 39 (.agg ⟨(Z0t F C)⟩) ?_ (hr := fun _ H' => (zlN (vs := (Z0t F C)) (H'.at 1 rfl)))
   refine qy 21 38 false 40 (pt b 0) <| qy 21 38 false 41 (.agg ⟨(Z3p (D.getD i Z16))⟩) ?_ (hr := fun _ H' => (zlN (vs := (Z3p (D.getD i Z16))) (H'.at 3 rfl)))
   refine Z2h (Z11 21 38 false rfl kr rfl kr) (d := 42) (v := (.bool (Z1m F B (D.getD i Z16)))) rfl (fun _ _ => by kernel_rfl) (fun w' H' => (Z55 w' F C om b bm B (H'.roCk 0 rfl hbk (fun _ _ h => h)) (H'.roMap 0 rfl hbm (fun h => h)) (D.getD i Z16) (hok _ om)).mono fun _ _ h => ⟨h.1, H'.keepU h.2⟩) ?_
   refine qy 21 38 false 43 (.bool (!(Z1m F B (D.getD i Z16)))) <| qv 44 (.bool (!(Z1m F B (D.getD i Z16)))) <| Z17 fun w57 H58 => ?_
   apply ztn
   refine (ZJ (!(Z1m F B (D.getD i Z16)))).elim (fun b59 => ?_) (fun b59 => ?_)
   ·have g60 := ZS b59
    refine Z33 _ b59 ?_
    refine zsl <| wv 6 (.bool false) <| znt <| Zq <| Z0k <| ZP <| Z1h <| Z0k <| ZP <| ze1 (.bool false) ?_
    have n62 := Zr b45
    have n63 := ZS b59
    have e1 : ((i : Int) - 1).toNat = i - 1 := by omega
    have ho : Z2y F B ix D i = false := by unfold Z2y; rw [← e1]; simp only [b14, b30, b38, n62, n63, Bool.not_true, Bool.not_false, Bool.true_or, Bool.false_or, Bool.or_true, Bool.or_false, Bool.and_true, Bool.true_and, Bool.and_false, Bool.false_and]
    exact ⟨by simp only [Z1Q, Z2Z (show i < D.length by omega) ho, Bool.false_and], H58.upd 0 rfl [] ne⟩
   have g64 := Zr b59
   refine Z2X _ b59 ?_
   refine Zt <| Z7 <| ztn <| Zl <| zwi 45 ((i : Int) + 1) <| wv 12 (vi ((i : Int) + 1)) <| Zu ?_
   have n66 := Zr b45
   have n67 := Zr b59
   have e1 : ((i : Int) - 1).toNat = i - 1 := by omega
   have ho : Z2y F B ix D i = true := by unfold Z2y; rw [← e1]; simp only [b14, b30, b38, n66, n67, Bool.not_true, Bool.not_false, Bool.true_or, Bool.false_or, Bool.or_true, Bool.or_false, Bool.and_true, Bool.true_and, Bool.and_false, Bool.false_and]
   have H68 := H58.pk [0, 1, 2]
   refine Z6 ?_ _ ⟨(i + 1), rfl, om, (fun j hj => by rcases Nat.lt_or_ge j i with h | h; exact hall j h; rw [show j = i by omega]; exact ho), H68, rfl⟩ om
   exact zs
  iterate 10 refine qn 2 19 true ?_
  refine qv 30 (.bool false) <| qv 31 (.bool false) <| qy 14 31 false 32 (pt b23 1) <| qy 14 31 false 33 (vi ((D.getD i Z16).i)) ?_ (hr := fun _ H' => (zl1 (H'.cell 3 rfl rfl)))
  refine qy 14 31 false 34 (pt b6 0) <| qy 14 31 false 35 (vi ix) ?_ (hr := fun _ H' => (zl1 (H'.cell 2 rfl rfl)))
  refine qy 14 31 false 36 (.bool (!(decide (((D.getD i Z16).i) = ix)))) <| qv 37 (.bool (!(decide (((D.getD i Z16).i) = ix)))) <| qv 38 (.bool (!(decide (((D.getD i Z16).i) = ix)))) ?_
  refine (ZJ (!(decide (((D.getD i Z16).i) = ix)))).elim (fun b71 => ?_) (fun b71 => ?_)
  ·have g72 := ZS b71
   have g73 := of_decide_eq_false g72
   refine Z21 38 (.bool true) (congrArg Value.bool b71) ?_
   iterate 5 refine qn 21 38 false ?_
   refine qv 44 (.bool true) <| Z17 fun w76 H77 => ?_
   refine ztn <| Z1X rfl ?_
   refine zsl <| wv 6 (.bool false) <| znt <| Zq <| Z0k <| ZP <| Z1h <| Z0k <| ZP <| ze1 (.bool false) ?_
   have n78 := ZS b71
   have e1 : ((i : Int) - 1).toNat = i - 1 := by omega
   have ho : Z2y F B ix D i = false := by unfold Z2y; rw [← e1]; simp only [b14, b30, n78, Bool.not_true, Bool.not_false, Bool.true_or, Bool.false_or, Bool.or_true, Bool.or_false, Bool.and_true, Bool.true_and, Bool.and_false, Bool.false_and]
   exact ⟨by simp only [Z1Q, Z2Z (show i < D.length by omega) ho, Bool.false_and], H77.upd 0 rfl [] ne⟩
  have g79 := Zr b71
  have g80 := of_decide_eq_true g79
  refine Z21 38 (.bool false) (congrArg Value.bool b71) ?_
  refine qy 21 38 false 39 (.agg ⟨(Z0t F C)⟩) ?_ (hr := fun _ H' => (zlN (vs := (Z0t F C)) (H'.at 1 rfl)))
  refine qy 21 38 false 40 (pt b 0) <| qy 21 38 false 41 (.agg ⟨(Z3p (D.getD i Z16))⟩) ?_ (hr := fun _ H' => (zlN (vs := (Z3p (D.getD i Z16))) (H'.at 3 rfl)))
  refine Z2h (Z11 21 38 false rfl kr rfl kr) (d := 42) (v := (.bool (Z1m F B (D.getD i Z16)))) rfl (fun _ _ => by kernel_rfl) (fun w' H' => (Z55 w' F C om b bm B (H'.roCk 0 rfl hbk (fun _ _ h => h)) (H'.roMap 0 rfl hbm (fun h => h)) (D.getD i Z16) (hok _ om)).mono fun _ _ h => ⟨h.1, H'.keepU h.2⟩) ?_
  refine qy 21 38 false 43 (.bool (!(Z1m F B (D.getD i Z16)))) <| qv 44 (.bool (!(Z1m F B (D.getD i Z16)))) <| Z17 fun w83 H84 => ?_
  apply ztn
  refine (ZJ (!(Z1m F B (D.getD i Z16)))).elim (fun b85 => ?_) (fun b85 => ?_)
  ·have g86 := ZS b85
   refine Z33 _ b85 ?_
   refine zsl <| wv 6 (.bool false) <| znt <| Zq <| Z0k <| ZP <| Z1h <| Z0k <| ZP <| ze1 (.bool false) ?_
   have n88 := Zr b71
   have n89 := ZS b85
   have e1 : ((i : Int) - 1).toNat = i - 1 := by omega
   have ho : Z2y F B ix D i = false := by unfold Z2y; rw [← e1]; simp only [b14, b30, n88, n89, Bool.not_true, Bool.not_false, Bool.true_or, Bool.false_or, Bool.or_true, Bool.or_false, Bool.and_true, Bool.true_and, Bool.and_false, Bool.false_and]
   exact ⟨by simp only [Z1Q, Z2Z (show i < D.length by omega) ho, Bool.false_and], H84.upd 0 rfl [] ne⟩
  have g90 := Zr b85
  refine Z2X _ b85 ?_
  refine Zt <| Z7 <| ztn <| Zl <| zwi 45 ((i : Int) + 1) <| wv 12 (vi ((i : Int) + 1)) <| Zu ?_
  have n92 := Zr b71
  have n93 := Zr b85
  have e1 : ((i : Int) - 1).toNat = i - 1 := by omega
  have ho : Z2y F B ix D i = true := by unfold Z2y; rw [← e1]; simp only [b14, b30, n92, n93, Bool.not_true, Bool.not_false, Bool.true_or, Bool.false_or, Bool.or_true, Bool.or_false, Bool.and_true, Bool.true_and, Bool.and_false, Bool.false_and]
  have H94 := H84.pk [0, 1, 2]
  refine Z6 ?_ _ ⟨(i + 1), rfl, om, (fun j hj => by rcases Nat.lt_or_ge j i with h | h; exact hall j h; rw [show j = i by omega]; exact ho), H94, rfl⟩ om
  exact zs
 refine zxb <| ztn <| Z5 <| zqs H11 ?_
 refine qv 46 (pt b6 1) <| qv 47 (.slice da D.length dc) ?_ (hr := fun _ H' => (zl1 (H'.cell 2 rfl rfl)))
 refine ZbC (Zb rfl) (d := 48) (v := (vi D.length)) rfl (fun _ H' => kr) ?_
 refine qv 49 (.agg ⟨(Z0t F C)⟩) ?_ (hr := fun _ H' => (zlN (vs := (Z0t F C)) (H'.at 1 rfl)))
 refine Z2h (Zb rfl) (d := 50) (v := (vi (2 * F + 1))) rfl (fun _ _ => by kernel_rfl) (fun w' H' => (ZcH w' F C om).mono fun _ _ h => ⟨h.1, H'.keepU h.2⟩) ?_
 refine qv 51 (.bool (decide ((D.length : Int) = (2 * F + 1)))) <| qv 6 (.bool (decide ((D.length : Int) = (2 * F + 1)))) <| Z17 fun w97 H98 => ?_
 refine ztn <| Zq <| ze1 (.bool (decide ((D.length : Int) = (2 * F + 1)))) ?_
 have hn0 : i = D.length := by omega
 subst hn0
 exact ⟨by simp only [Z1Q, Z4J hall, Bool.true_and], H98.upd 0 rfl [] ne⟩
theorem Ze7 (w : World) :
  Calls Tryz.prog 77 #[] w fun e w' => ∃ b mb, e = .returned (.pointer (some ⟨b, 0, none⟩)) ∧ (ZR [Z0 b 179 [.map (some mb)], Z0B mb ZZ (Value.int .i64) (Z0a [])]).ok w' ∧ Upd [] w w' ∧ ∀ q_, (ZR [Z0 b 179 [.map (some mb)], Z0B mb ZZ (Value.int .i64) (Z0a [])]).fp q_ → w.heap.size ≤ q_ := by
 have H := Sat.start0 w
 refine Z8 Tryz.func77 rfl 4 rfl kn ?_
 refine zsl <| wv 0 (.pointer none) <| Z0y <| zy <| Z2s ZZ (Value.int .i64) rfl H fun b2 w3 H4 => ?_
 refine kk <| wv 2 (.agg ⟨([(.map (some b2))] : List Value)⟩) <| zy <| zdb ([(.map (some b2))] : List Value) H4 fun b6 w7 H8 => ?_
 refine kk <| wv 0 (pt b6 0) <| znt <| Zq <| ze1 (pt b6 0) ?_
 exact ⟨b6, b2, rfl, H8.fn [2, 1], H8.upd 0 rfl [] ne, H8.freshS 0 rfl (fun _ h => h) [2, 1] rfl rfl⟩
theorem Z8W (w : World) :
  Calls Tryz.prog 28 #[] w fun e w' => ∃ b mb r, e = .returned (.tuple #[.agg #[.pointer (some ⟨b, 0, none⟩), .pointer (some ⟨r, 0, none⟩)], .bool true]) ∧ (ZR [Z0 b 179 [.map (some mb)], Z0B mb ZZ (Value.int .i64) (Z0a []), Z0 r 165 [.slice none 0 0]]).ok w' ∧ Upd [] w w' ∧ ∀ q_, (ZR [Z0 b 179 [.map (some mb)], Z0B mb ZZ (Value.int .i64) (Z0a []), Z0 r 165 [.slice none 0 0]]).fp q_ → w.heap.size ≤ q_ := by
 have H := Sat.start0 w
 refine Z8 Tryz.func28 rfl 10 rfl kn ?_
 refine zsl <| zy <| zda (Zf8) H fun b2 w3 H4 => ?_
 refine kk <| wv 1 (.bool false) <| Z0y <| zy <| zdc 3 (Ze7 w3) ?_
 rintro _ w6 ⟨b7, m8, rfl, k9, p10, q11⟩
 have H12 := H4.addU p10 k9 q11
 have H13 := H12.open 2 rfl
 refine ⟨_, rfl, ?_⟩
 refine kk <| wv 2 (pt b7 0) <| Z0y <| wv 4 (pt b7 0) <| wv 5 (.agg ⟨([(.slice none 0 0)] : List Value)⟩) <| zy <| zdb ([(.slice none 0 0)] : List Value) H13 fun b15 w16 H17 => ?_
 refine kk <| wv 7 (.agg ⟨(Z9u b7 b15)⟩) <| wv 8 (pt b7 0) <| wv 9 (.bool true) <| zy <| Z3i (vs := (Z9u b7 b15)) rfl H17 1 rfl rfl rfl rfl kr kn kn kr fun w19 H20 => ?_
 refine kk <| wv 1 (.bool true) <| znt <| Zq <| Z9t rfl (ZL (vs := (Z9u b7 b15)) rfl kr kr kn (H20.at 1 rfl) kr) (Z10 (v := (.bool true)) rfl) ?_
 exact ⟨b7, m8, b15, rfl, H20.fn [2, 3, 4], H20.upd 0 rfl [] ne, H20.freshS 0 rfl (fun _ h => h) [2, 3, 4] rfl rfl⟩
theorem Z6U (w : World) (a b : Int) :
  Calls Tryz.prog 30 #[(.agg ⟨([(.int .i64 (a)), (.int .i64 (b))] : List Value)⟩)] w fun e w' => e = .returned (.agg ⟨[.int .i64 (Z1 a 3), .int .i64 (1 + Z1 b 4)]⟩) ∧ Upd [] w w' := by
 have H := Sat.start0 w
 have q1 := Z1V a 3 om
 have q2 := Z1V b 4 om
 refine Z8 Tryz.func30 rfl 11 rfl kn ?_
 refine zsl <| zy <| zdb (Z0t a b) H fun b2 w3 H4 => ?_
 refine kk <| zy <| zda ([(vi 0), (vi 0)] : List Value) H4 fun b6 w7 H8 => ?_
 refine kk <| znt <| Z5 <| Z08 H8 [Z3 w (fun _ => False), Z0 b2 59 (Z0t a b)] 9 rfl kr (fun Hx => (Hx.pk [0, 1])) fun w9 H10 S11 => ?_
 refine hv0 0 S11 3 (pt b2 0) <| hv0 1 S11 4 (vi a) ?_ (he := fun _ H' => (zl1 (H'.cell 1 rfl rfl)))
 refine hv0 3 S11 6 (pt b2 1) <| hv0 4 S11 7 (vi b) ?_ (he := fun _ H' => (zl1 (H'.cell 1 rfl rfl)))
 refine zhy 2 ?_
 refine zdq 5 (Z3b w9 a 3 om) H10 ?_
 intro w13 H14
 have S16 := H14.pk [0, 1]
 refine kh S16 <| zhy 5 ?_
 refine zdq 8 (Z3b w13 b 4 om) H14 ?_
 intro w18 H19
 have S21 := H19.pk [0, 1]
 refine kh S21 <| hv0 6 S21 9 (vi (1 + (Z1 b 4))) ?_ (he := fun _ H' => (Z0g (z := 1 + (Z1 b 4)) kr (IntWalk.i64_in _ om)))
 refine Z3u 7 rfl kr kr kr (fun _ _ _ h => h) S21 (Zb rfl) (d := 10) (v := (.agg ⟨(Z0t (Z1 a 3) (1 + (Z1 b 4)))⟩)) rfl (fun _ H' => kr) ?_
 refine zhy 8 ?_
 refine Z1z (Z0t (Z1 a 3) (1 + (Z1 b 4))) H19 2 ?_
 intro w23 H24
 have S26 := H24.pk [0, 1]
 refine kh S26 <| zhf <| ztn <| Zq <| Z66 rfl (ZL (vs := (Z0t (Z1 a 3) (1 + (Z1 b 4)))) rfl kr kr kn (H24.at 2 rfl) kr) ?_
 exact ⟨rfl, H24.upd 0 rfl [] ne⟩
end Go.Proofs.YtenihpghfdcpkaaGreat
