/- WHAT IS PROVED: contracts and plain laws of BatA. Conditions: stated with each. -/
import Derived.Test.YtenihpghfdcpkaaGreatPV02
import Derived.Test.YtenihpghfdcpkaaGreatPV05
import Derived.Test.YtenihpghfdcpkaaGreatPV06
import Derived.Test.YtenihpghfdcpkaaGreatPV13
set_option maxHeartbeats 4000000
set_option maxRecDepth 100000
namespace Go.Proofs.YtenihpghfdcpkaaGreat
open Go.RowKit
abbrev Z1R (p0 : Int) (p1 : Int) : List Value := ([i6 p0, i6 p1] : LV)
abbrev Z41 (p0 : Z1s) : List Value := ([i6 p0.r, i6 p0.i, i6 p0.sb, i6 p0.sm] : LV)
abbrev ZcR (p0 : Int) (p1 : Option Addr) (p2 : Nat) (p3 : Nat) : List Value := ([i6 p0, (.slice p1 p2 p3)] : LV)
abbrev Zeu : List Value := ([(.pointer none), (.pointer none)] : LV)
abbrev Zeo (p0 : Nat) (p1 : Nat) : List Value := ([(pt p0 0), (pt p1 0)] : LV)
theorem Z1N (w : World) (v n : Int) (hn : n ≤ 4611686018427387904) :
  Calls Tryz.prog 18 #[i6 v, i6 n] w fun e w' => e = .returned (i6 (Z1 v n)) ∧ Upd [] w w' := by
 have H := Sat.start0 w
 refine Zg Tryz.func18 rfl 17 rfl kn ?_
 refine zsl <| wv 4 (vi 0) <| znt <| Z9 <| zsl <| wv 6 (vi n) <| wv 7 (.bool (decide (n < 1))) <| znt ?_
 refine zid (fun b1 g2 => ?_) fun b1 g3 => ?_
 ·refine zsl <| wv 4 (vi 0) <| znt <| Zk <| Z4 <| ze1 (vi 0) ?_
  exact ⟨by unfold Z1; rw [if_pos (of_decide_eq_true b1)], H.upd 0 rfl [] ne⟩
 let A0 : Value := vi (Int.tmod v n)
 refine Zp <| ztn <| zsl <| wv 8 (vi v) <| wv 9 (vi n) <| wv 10 A0 ?_ (hr := Ze1 kr om)
 refine wv 5 A0 <| znt <| Z9 <| zsl <| wv 11 A0 <| wv 12 (.bool (decide ((Int.tmod v n) < 0))) <| znt ?_
 refine zid (fun b4 g5 => ?_) fun b4 g6 => ?_
 ·let A1 : Value := vi ((Int.tmod v n) + n)
  refine ZG <| wv 13 A0 <| wv 14 (vi n) <| wv 15 A1 ?_ (hr := Z0A (z := (Int.tmod v n) + n) kr (IntWalk.i64_in _ (by have := Zaj v n om; omega)))
  refine wv 5 A1 <| Z1a <| wv 16 A1 <| wv 4 A1 <| znt <| Zk <| ze1 A1 ?_
  exact ⟨by unfold Z1; rw [if_neg (of_decide_eq_false b1), Z8r v n (by have := of_decide_eq_false b1; omega), if_pos (of_decide_eq_true b4)], H.upd 0 rfl [] ne⟩
 refine Zp <| ztn <| zsl <| wv 16 A0 <| wv 4 A0 <| znt <| Zk <| ze1 A0 ?_
 exact ⟨by unfold Z1; rw [if_neg (of_decide_eq_false b1), Z8r v n (by have := of_decide_eq_false b1; omega), if_neg (of_decide_eq_false b4)], H.upd 0 rfl [] ne⟩
theorem wN_any (w : World) (f c : Int) (hf : -1099511627776 ≤ f ∧ f ≤ 1099511627776) :
  Calls Tryz.prog 89 #[(.agg ⟨([i6 f, i6 c] : LV)⟩)] w fun e w' => e = .returned (i6 (3 * f + 1)) ∧ Upd [] w w' := by
 have H := Sat.start0 w
 refine Zg Tryz.func89 rfl 7 rfl kn ?_
 refine zsl <| zy <| zdb (Z1R f c) H fun b2 w3 H4 => ?_
 refine kk <| wv 2 (vi 0) <| Z1a <| wv 3 (pt b2 0) <| zw1 4 (vi f) (H4.cell 1 rfl rfl) <| zwi 5 (3 * f) <| zwi 6 ((3 * f) + 1) <| wv 2 (vi ((3 * f) + 1)) <| znt <| Zk ?_
 refine ze1 (vi ((3 * f) + 1)) ?_
 exact ⟨rfl, H4.upd 0 rfl [] ne⟩
theorem Zbk (w : World) (f c : Int) (hf : -1099511627776 ≤ f ∧ f ≤ 1099511627776) :
  Calls Tryz.prog 46 #[(.agg ⟨([i6 f, i6 c] : LV)⟩)] w fun e w' => e = .returned (i6 (2 * f + 1)) ∧ Upd [] w w' := by
 have H := Sat.start0 w
 refine Zg Tryz.func46 rfl 7 rfl kn ?_
 refine zsl <| zy <| zdb (Z1R f c) H fun b2 w3 H4 => ?_
 refine kk <| wv 2 (vi 0) <| Z1a <| wv 3 (pt b2 0) <| zw1 4 (vi f) (H4.cell 1 rfl rfl) <| zwi 5 (2 * f) <| zwi 6 ((2 * f) + 1) <| wv 2 (vi ((2 * f) + 1)) <| znt <| Zk ?_
 refine ze1 (vi ((2 * f) + 1)) ?_
 exact ⟨rfl, H4.upd 0 rfl [] ne⟩
theorem Z7o (w : World) (f c : Int) (hf : -1099511627776 ≤ f ∧ f ≤ 1099511627776) :
  Calls Tryz.prog 31 #[(.agg ⟨([i6 f, i6 c] : LV)⟩)] w fun e w' => e = .returned (i6 (3 * f + 1)) ∧ Upd [] w w' := by
 have H := Sat.start0 w
 refine Zg Tryz.func31 rfl 7 rfl kn ?_
 refine zsl <| zy <| zdb (Z1R f c) H fun b2 w3 H4 => ?_
 refine kk <| wv 2 (vi 0) <| Z1a <| wv 3 (pt b2 0) <| zw1 4 (vi f) (H4.cell 1 rfl rfl) <| zwi 5 (3 * f) <| zwi 6 ((3 * f) + 1) <| wv 2 (vi ((3 * f) + 1)) <| znt <| Zk ?_
 refine ze1 (vi ((3 * f) + 1)) ?_
 exact ⟨rfl, H4.upd 0 rfl [] ne⟩
theorem Z5R (w : World) (f c : Int) (hf : -1099511627776 ≤ f ∧ f ≤ 1099511627776) :
  Calls Tryz.prog 39 #[(.agg ⟨([i6 f, i6 c] : LV)⟩)] w fun e w' => e = .returned (i6 (2 * f + 1)) ∧ Upd [] w w' := by
 have H := Sat.start0 w
 refine Zg Tryz.func39 rfl 7 rfl kn ?_
 refine zsl <| zy <| zdb (Z1R f c) H fun b2 w3 H4 => ?_
 refine kk <| wv 2 (vi 0) <| Z1a <| wv 3 (pt b2 0) <| zw1 4 (vi f) (H4.cell 1 rfl rfl) <| zwi 5 (2 * f) <| zwi 6 ((2 * f) + 1) <| wv 2 (vi ((2 * f) + 1)) <| znt <| Zk ?_
 refine ze1 (vi ((2 * f) + 1)) ?_
 exact ⟨rfl, H4.upd 0 rfl [] ne⟩
theorem Z9U (w : World) (f c r : Int) (hf : -1099511627776 ≤ f ∧ f ≤ 1099511627776) :
  Calls Tryz.prog 43 #[(.agg ⟨([i6 f, i6 c] : LV)⟩), i6 r] w fun e w' => e = .returned (.bool (inB f r)) ∧ Upd [] w w' := by
 have H := Sat.start0 w
 refine Zg Tryz.func43 rfl 13 rfl kn ?_
 let A1 := Z1R f c
 refine zsl <| zy <| zdb A1 H fun b2 w3 H4 => ?_
 refine kk <| wv 4 (.bool false) <| znt ?_
 refine Z1J [4, 5, 6, 7, 8, 9, 10, 11, 12] (fun G_ W_ => G_ 4 = (.bool (inB f r)) ∧ Sat w [zR w, Z0 b2 29 A1] W_) ?_ ?_
 ·refine ZG <| wv 5 (vi r) <| wv 6 (.bool (decide (r ≥ 0))) <| wv 7 (.bool (decide (r ≥ 0))) ?_
  refine zil 7 (fun b6 g7 => ?_) fun b6 g12 => ?_
  ·refine wy 2 7 true 8 (vi r) <| wy 2 7 true 9 (.agg ⟨A1⟩) ?_ (hr := zlN (vs := A1) (H4.at 1 rfl))
   refine Z6R (Z05 2 7 true rfl kr rfl kr) (fun Kq kq => ?_)
   refine zdq 10 (wN_any w3 f c om) H4 ?_
   intro w9 H10
   let A0 : Value := .bool (decide (r < (3 * f + 1)))
   refine kq _ _ <| wy 2 7 true 11 A0 <| wv 12 A0 <| wv 4 A0 <| ZL <| ZH ?_ ⟨(congrArg Value.bool (show (decide (r < (3 * f + 1))) = (inB f r) by simp [inB, b6])), H10⟩
   exact zs
  iterate 4 refine wn 2 7 true ?_
  refine wv 12 (.bool false) <| wv 4 (.bool false) <| ZL <| ZH ?_ ⟨(congrArg Value.bool (show false = (inB f r) by simp [inB, b6])), H4⟩
  exact zs
 rintro f13 w14 ⟨v16, H15⟩
 refine Zn 4 _ v16 ?_
 refine Zk <| ze1 (.bool (inB f r)) ?_
 exact ⟨rfl, H15.upd 0 rfl [] ne⟩
theorem Z6y (w : World) (b bm : Nat) (B : List Signed) (hbk : (Z0 b 179 [.map (some bm)]).ok w) (hbm : MapAt w bm Z0c (Value.int .i64) (Z0o B)) (ta : Option Addr) (tc : Nat) (tx : List UInt8) (ht : ListAt Zx 1 w (.slice ta tx.length tc) tx) (p m : Int) :
  Calls Tryz.prog 107 #[zp b, (.agg ⟨([i6 p, i6 m] : LV)⟩), (.slice ta tx.length tc)] w fun e w' => e = .returned (.bool (Z0B B p m tx)) ∧ Upd [] w w' := by
 have H := Sat.start0 w
 have hmk : (Zv (Z0o B) (⟨p, tx⟩ : Signed)).getD 0 = Zr B (⟨p, tx⟩ : Signed) := by rw [Z4E]; rfl
 refine Zg Tryz.func107 rfl 26 rfl kn ?_
 refine zsl <| zy <| zdb (Z1R p m) H fun b2 w3 H4 => ?_
 refine kk <| wv 6 (.bool false) <| znt <| Z9 <| zqs H4 ?_
 refine qv 8 (pt b 0) <| qv 9 (pt b 0) <| qv 10 (pt b 0) <| qv 11 (.map (some bm)) ?_ (hr := fun _ H' => (zl1 (H'.roCell 0 rfl hbk (fun h => h) rfl)))
 refine qv 12 (pt b2 0) <| qv 13 (vi p) ?_ (hr := fun _ H' => (zl1 (H'.cell 1 rfl rfl)))
 refine qv 14 (.slice ta tx.length tc) <| qv 15 (Z5l tx) ?_ (hr := fun _ H' => (Z2G (e := 5) (s := tx) kr kr kr rfl (Z25 (ListAt.now H' 0 rfl ht))))
 refine Z4a (Zc rfl) (d := 16) (v := (.agg ⟨([(vi p), (Z5l tx)] : LV)⟩)) rfl (fun _ H' => kr) ?_
 let A0 : Value := vi ((Zv (Z0o B) (⟨p, tx⟩ : Signed)).getD 0)
 refine qv 17 A0 ?_ (hr := fun _ H' => (Z44 (kt := 176) (et := 3) Z5G kr (fun w => by kernel_rfl) rfl (⟨p, tx⟩ : Signed) rfl (H'.roMap 0 rfl hbm (fun h => h)) (ZdQ (Value.int .i64) _ _)))
 refine qv 7 A0 <| Z01 fun w5 H6 => ?_
 refine ztn <| zsl <| wv 18 A0 <| wv 19 (.bool (decide (((Zv (Z0o B) (⟨p, tx⟩ : Signed)).getD 0) > 0))) <| wv 20 (.bool (decide (((Zv (Z0o B) (⟨p, tx⟩ : Signed)).getD 0) > 0))) ?_
 refine zil 20 (fun b7 g8 => ?_) fun b7 g10 => ?_
 ·refine wy 2 20 true 21 A0 <| wy 2 20 true 22 (pt b2 1) <| wy 2 20 true 23 (vi m) ?_ (hr := zl1 (H6.cell 1 rfl rfl))
  refine wy 2 20 true 24 (.bool (decide (((Zv (Z0o B) (⟨p, tx⟩ : Signed)).getD 0) = m))) <| wv 25 (.bool (decide (((Zv (Z0o B) (⟨p, tx⟩ : Signed)).getD 0) = m))) <| wv 6 (.bool (decide (((Zv (Z0o B) (⟨p, tx⟩ : Signed)).getD 0) = m))) <| znt <| Zk <| ze1 (.bool (decide (((Zv (Z0o B) (⟨p, tx⟩ : Signed)).getD 0) = m))) ?_
  exact ⟨by unfold Z0B; rw [← hmk]; simp [b7], H6.upd 0 rfl [] ne⟩
 iterate 4 refine wn 2 20 true ?_
 refine wv 25 (.bool false) <| wv 6 (.bool false) <| znt <| Zk <| ze1 (.bool false) ?_
 exact ⟨by unfold Z0B; rw [← hmk]; simp [b7], H6.upd 0 rfl [] ne⟩
theorem Z4O (w : World) (F C : Int) (hF : -1099511627776 ≤ F ∧ F ≤ 1099511627776) (b bm : Nat) (B : List Signed) (hbk : (Z0 b 179 [.map (some bm)]).ok w) (hbm : MapAt w bm Z0c (Value.int .i64) (Z0o B)) (d : Z1s) (hd : ZcP d) :
  Calls Tryz.prog 70 #[(.agg ⟨([i6 F, i6 C] : LV)⟩), zp b, (.agg ⟨([i6 d.r, i6 d.i, i6 d.sb, i6 d.sm] : LV)⟩)] w fun e w' => e = .returned (.bool (Z0Q F B d)) ∧ Upd [] w w' := by
 have H := Sat.start0 w
 have hd2 := hd
 unfold ZcP at hd2
 refine Zg Tryz.func70 rfl 32 rfl kn ?_
 let A0 := Z1R F C
 refine zsl <| zy <| zdb A0 H fun b2 w3 H4 => ?_
 refine kk <| zy <| zdb (Z41 d) H4 fun b6 w7 H8 => ?_
 refine kk <| wv 6 (.bool false) <| znt <| Z9 <| Z0a H8 [zR w, Z0 b2 29 A0, Z0 b6 122 (Z41 d)] 26 rfl kr (fun Hx => (Hx.pk [0, 1, 2])) fun w9 H10 S11 => ?_
 refine hv0 0 S11 7 (.agg ⟨A0⟩) ?_ (he := fun _ H' => (zlN (vs := A0) (H'.at 1 rfl)))
 refine hv0 1 S11 8 (pt b6 0) <| hv0 2 S11 9 (vi d.r) ?_ (he := fun _ H' => (zl1 (H'.cell 2 rfl rfl)))
 refine zhy 3 ?_
 refine zdq 10 (Z9U w9 F C d.r om) H10 ?_
 intro w13 H14
 have S16 := H14.pk [0, 1, 2]
 refine kh S16 <| hv0 4 S16 11 (.bool (inB F d.r)) ?_
 refine (ZY (inB F d.r)).elim (fun b17 => ?_) (fun b17 => ?_)
 ·refine Z3K 11 (.bool true) (congrArg Value.bool b17) ?_
  refine Z0U 5 S16 4 11 true 12 (pt b6 1) <| Z0U 6 S16 4 11 true 13 (vi d.i) ?_ (he := fun _ H' => (zl1 (H'.cell 2 rfl rfl)))
  refine Z0U 7 S16 4 11 true 14 (.bool (decide (d.i ≥ 0))) <| hv0 8 S16 15 (.bool (decide (d.i ≥ 0))) <| hv0 9 S16 16 (.bool (decide (d.i ≥ 0))) ?_
  refine zih 16 (fun b18 g19 => ?_) fun b18 g41 => ?_
  ·refine Z0U 10 S16 9 16 true 17 (pt b6 2) <| Z0U 11 S16 9 16 true 18 (pt b6 2) <| Z0U 12 S16 9 16 true 19 (vi d.sb) ?_ (he := fun _ H' => (zl1 (H'.cell 2 rfl rfl)))
   refine Z0U 13 S16 9 16 true 20 (pt b6 0) <| Z0U 14 S16 9 16 true 21 (vi d.r) ?_ (he := fun _ H' => (zl1 (H'.cell 2 rfl rfl)))
   refine Z0U 15 S16 9 16 true 22 (.bool (decide (d.sb = d.r))) <| hv0 16 S16 23 (.bool (decide (d.sb = d.r))) <| hv0 17 S16 24 (.bool (decide (d.sb = d.r))) ?_
   refine zih 24 (fun b21 g22 => ?_) fun b21 g39 => ?_
   ·refine Z0U 18 S16 17 24 true 25 (pt b 0) <| Z0U 19 S16 17 24 true 26 (pt b6 2) <| Z0U 20 S16 17 24 true 27 (.agg ⟨(Z1R d.sb d.sm)⟩) ?_ (he := fun _ H' => (zlN (vs := (Z1R d.sb d.sm)) (H'.at 2 rfl)))
    refine Z0U 21 S16 17 24 true 28 (.agg ⟨(Z41 d)⟩) ?_ (he := fun _ H' => (zlN (vs := (Z41 d)) (H'.at 2 rfl)))
    refine Z34 22 rfl kr (Z05 17 24 true rfl kr rfl kr) (fun Kq kq => ?_)
    refine zdc 29 (Z7Q w13 d ⟨by show d.r ≤ _; omega, by show d.i ≤ _; omega⟩) ?_
    rintro _ w25 ⟨u26, rfl, k27, p28, q29⟩
    have hdl := Z5i d.r d.i
    have H30 := H14.addU p28 k27 q29
    obtain ⟨a31, c32, rfl⟩ := Z3 (H30.at 3 rfl)
    refine ⟨_, rfl, ?_⟩
    have S33 := H30.pk [0, 1, 2]
    refine kq _ _ S33 <| Z34 23 rfl kr (Z05 17 24 true rfl kr rfl kr) (fun Kq kq => ?_)
    refine zdq 30 (Z6y w25 b bm B (H30.roCk 0 rfl hbk (fun _ _ h => h)) (H30.roMap 0 rfl hbm (fun h => h)) a31 c32 (Z0m d.r d.i) (ListAt.row (enc := Zx) (sz := 1) Zw (by decide) (H30.at 3 rfl)) d.sb d.sm) H30 ?_
    intro w35 H36
    have S38 := H36.pk [0, 1, 2]
    refine kq _ _ S38 <| hv0 24 S38 31 (.bool (Z0B B d.sb d.sm (Z0m d.r d.i))) <| hv0 25 S38 6 (.bool (Z0B B d.sb d.sm (Z0m d.r d.i))) <| zhf <| ztn <| Zk <| ze1 (.bool (Z0B B d.sb d.sm (Z0m d.r d.i))) ?_
    exact ⟨by unfold Z0Q; simp [b17, b18, b21], H36.upd 0 rfl [] ne⟩
   refine Zu 18 S16 17 24 true ?_
   refine Zu 19 S16 17 24 true ?_
   refine Zu 20 S16 17 24 true ?_
   refine Zu 21 S16 17 24 true ?_
   refine Zu 22 S16 17 24 true ?_
   refine Zu 23 S16 17 24 true ?_
   refine hv0 24 S16 31 (.bool false) <| hv0 25 S16 6 (.bool false) <| zhf <| ztn <| Zk <| ze1 (.bool false) ?_
   exact ⟨by unfold Z0Q; simp [b17, b18, b21], H14.upd 0 rfl [] ne⟩
  refine Zu 10 S16 9 16 true ?_
  refine Zu 11 S16 9 16 true ?_
  refine Zu 12 S16 9 16 true ?_
  refine Zu 13 S16 9 16 true ?_
  refine Zu 14 S16 9 16 true ?_
  refine Zu 15 S16 9 16 true ?_
  refine hv0 16 S16 23 (.bool false) <| hv0 17 S16 24 (.bool false) <| Zu 18 S16 17 24 true ?_
  refine Zu 19 S16 17 24 true ?_
  refine Zu 20 S16 17 24 true ?_
  refine Zu 21 S16 17 24 true ?_
  refine Zu 22 S16 17 24 true ?_
  refine Zu 23 S16 17 24 true ?_
  refine hv0 24 S16 31 (.bool false) <| hv0 25 S16 6 (.bool false) <| zhf <| ztn <| Zk <| ze1 (.bool false) ?_
  exact ⟨by unfold Z0Q; simp [b17, b18], H14.upd 0 rfl [] ne⟩
 refine Z3K 11 (.bool false) (congrArg Value.bool b17) ?_
 refine Zu 5 S16 4 11 true ?_
 refine Zu 6 S16 4 11 true ?_
 refine Zu 7 S16 4 11 true ?_
 refine hv0 8 S16 15 (.bool false) <| hv0 9 S16 16 (.bool false) <| Zu 10 S16 9 16 true ?_
 refine Zu 11 S16 9 16 true ?_
 refine Zu 12 S16 9 16 true ?_
 refine Zu 13 S16 9 16 true ?_
 refine Zu 14 S16 9 16 true ?_
 refine Zu 15 S16 9 16 true ?_
 refine hv0 16 S16 23 (.bool false) <| hv0 17 S16 24 (.bool false) <| Zu 18 S16 17 24 true ?_
 refine Zu 19 S16 17 24 true ?_
 refine Zu 20 S16 17 24 true ?_
 refine Zu 21 S16 17 24 true ?_
 refine Zu 22 S16 17 24 true ?_
 refine Zu 23 S16 17 24 true ?_
 refine hv0 24 S16 31 (.bool false) <| hv0 25 S16 6 (.bool false) <| zhf <| ztn <| Zk <| ze1 (.bool false) ?_
 exact ⟨by unfold Z0Q; simp [b17], H14.upd 0 rfl [] ne⟩
theorem Z2M (w : World) (F C : Int) (hF : -1099511627776 ≤ F ∧ F ≤ 1099511627776) (b bm : Nat) (B : List Signed) (hbk : (Z0 b 179 [.map (some bm)]).ok w) (hbm : MapAt w bm Z0c (Value.int .i64) (Z0o B)) (ix : Int) (da : Option Addr) (dc : Nat) (D : List Z1s) (hD : ListAt Z4v 4 w (.slice da D.length dc) D) (hok : ∀ i, i < D.length → ZcP (D.getD i Z0F)) (hlD : D.length ≤ 1000000) :
  Calls Tryz.prog 21 #[(.agg ⟨([i6 F, i6 C] : LV)⟩), zp b, (.agg ⟨([i6 ix, (.slice da D.length dc)] : LV)⟩)] w fun e w' => e = .returned (.bool (Z0j F B ix D)) ∧ Upd [] w w' := by
 have H := Sat.start0 w
 refine Zg Tryz.func21 rfl 52 rfl kn ?_
 refine zsl <| zy <| zdb (Z1R F C) H fun b2 w3 H4 => ?_
 refine kk <| zy <| zdb (ZcR ix da D.length dc) H4 fun b6 w7 H8 => ?_
 refine kk <| wv 6 (.bool false) <| znt <| Z9 <| zsl <| wv 9 (pt b6 1) <| zw1 10 (.slice da D.length dc) (H8.cell 2 rfl rfl) <| wv 11 (vi D.length) <| wv 12 (vi 0) <| znt ?_
 refine Zh <| ZB ([6, 7, 8] ++ List.range' 12 34) (fun F_ W_ m_ => ∃ (i : Nat), F_ 12 = (vi i) ∧ (i ≤ D.length) ∧ (∀ j, j < i → Z19 F B ix D j = true) ∧ Sat w [zR w, Z0 b2 29 (Z1R F C), Z0 b6 89 (ZcR ix da D.length dc)] W_ ∧ m_ = D.length - i) _ ⟨0, (show ((vi 0) : Value) = _ by first | rfl | go_num), (Nat.zero_le _), (fun _ h => absurd h (Nat.not_lt_zero _)), H8, rfl⟩ ?_
 rintro g8 w10 _ ⟨i, v12, hi, hall, H11, rfl⟩
 refine Zn 12 _ v12 ?_
 refine zsl <| wv 13 (.bool (decide ((i : Int) < D.length))) <| znt <| Z9 ?_
 let A3 : Value := .agg ⟨(Z1R F C)⟩
 refine zid (fun b14 g15 => ?_) fun b14 g95 => ?_
 ·refine Zp <| ztn <| Z9 <| Zh <| zsl <| wv 14 (vi i) ?_
  obtain ⟨g17, o18, c19, e20, R21⟩ := SliceOf.atD hD Z0F (show i < D.length by omega)
  refine wv 15 (.pointer (some ⟨g17, o18 + ((i : Int)).toNat * 4, none⟩)) ?_ (hr := Z8 (E := 122) kr kr kn rfl e20 rfl om om)
  let A2 : Value := .agg ⟨(Z41 (D.getD i Z0F))⟩
  refine wv 16 A2 ?_ (hr := ZX (vs := (Z41 (D.getD i Z0F))) rfl kr kr kn (H11.runR 0 rfl (Z08 R21 0 kr (show o18 + ((i : Int)).toNat * 4 = o18 + i * 4 + 0 by omega)) (fun h => h)))
  refine zy <| zda ([(vi 0), (vi 0), (vi 0), (vi 0)] : LV) H11 fun b23 w24 H25 => ?_
  refine kk <| wv 7 (vi i) <| zy <| Z1S (Z41 (D.getD i Z0F)) H25 3 fun w27 H28 => ?_
  refine kk <| znt <| Z9 <| zqs H28 ?_
  refine qv 17 (vi i) <| qv 18 (.bool (decide ((i : Int) > 0))) <| qv 19 (.bool (decide ((i : Int) > 0))) ?_
  let A0 : Value := .bool (!(decide (((D.getD i Z0F).i) = ix)))
  let A1 : Value := .bool (!(Z0Q F B (D.getD i Z0F)))
  let A4 : Value := .bool (Z0Q F B (D.getD i Z0F))
  refine ziq 19 (fun b30 g31 => ?_) fun b30 g69 => ?_
  ·refine qy 2 19 true 20 (pt b23 0) <| qy 2 19 true 21 (vi ((D.getD i Z0F).r)) ?_ (hr := fun _ H' => (zl1 (H'.cell 3 rfl rfl)))
   refine qy 2 19 true 22 (pt b6 1) <| qy 2 19 true 23 (.slice da D.length dc) ?_ (hr := fun _ H' => (zl1 (H'.cell 2 rfl rfl)))
   refine qy 2 19 true 24 (vi i) <| qy 2 19 true 25 (vi ((i : Int) - 1)) ?_ (hr := fun _ H' => (Z0A (z := (i : Int) - 1) kr (IntWalk.i64_in _ om)))
   obtain ⟨g33, o34, c35, e36, R37⟩ := SliceOf.atD hD Z0F (show ((i : Int) - 1).toNat < D.length by omega)
   refine qy 2 19 true 26 (.pointer (some ⟨g33, o34 + ((i : Int) - 1).toNat * 4, none⟩)) ?_ (hr := fun _ H' => (Z8 (E := 122) kr kr kn rfl e36 rfl om om))
   refine qy 2 19 true 27 (.pointer (some ⟨g33, o34 + ((i : Int) - 1).toNat * 4, none⟩)) <| qy 2 19 true 28 (vi ((D.getD ((i : Int) - 1).toNat Z0F).r)) ?_ (hr := fun _ H' => (zl1 (H'.cellR 0 rfl (Z0f R37 0 kr (show o34 + ((i : Int) - 1).toNat * 4 = o34 + ((i : Int) - 1).toNat * 4 + 0 by omega)) (fun h => h))))
   refine qy 2 19 true 29 (.bool (decide (((D.getD i Z0F).r) ≤ ((D.getD ((i : Int) - 1).toNat Z0F).r)))) <| qv 30 (.bool (decide (((D.getD i Z0F).r) ≤ ((D.getD ((i : Int) - 1).toNat Z0F).r)))) <| qv 31 (.bool (decide (((D.getD i Z0F).r) ≤ ((D.getD ((i : Int) - 1).toNat Z0F).r)))) ?_
   refine ziq 31 (fun b38 g39 => ?_) fun b38 g43 => ?_
   ·iterate 5 refine qn 14 31 false ?_
    refine qv 37 (.bool true) <| qv 38 (.bool true) ?_
    iterate 5 refine qn 21 38 false ?_
    refine qv 44 (.bool true) <| Z01 fun w41 H42 => ?_
    refine ztn <| Z06 rfl ?_
    refine zsl <| wv 6 (.bool false) <| znt <| Zk <| Zf <| Z4 <| Zs <| Zf <| Z4 <| ze1 (.bool false) ?_
    have e1 : ((i : Int) - 1).toNat = i - 1 := by omega
    have ho : Z19 F B ix D i = false := by unfold Z19; rw [← e1]; simp only [b14, b30, b38, bls]
    exact ⟨by simp only [Z0j, ZP (show i < D.length by omega) ho, Bool.false_and], H42.upd 0 rfl [] ne⟩
   refine qy 14 31 false 32 (pt b23 1) <| qy 14 31 false 33 (vi ((D.getD i Z0F).i)) ?_ (hr := fun _ H' => (zl1 (H'.cell 3 rfl rfl)))
   refine qy 14 31 false 34 (pt b6 0) <| qy 14 31 false 35 (vi ix) ?_ (hr := fun _ H' => (zl1 (H'.cell 2 rfl rfl)))
   refine qy 14 31 false 36 A0 <| qv 37 A0 <| qv 38 A0 ?_
   refine (ZY (!(decide (((D.getD i Z0F).i) = ix)))).elim (fun b45 => ?_) (fun b45 => ?_)
   ·have g46 := Z7 b45
    have g47 := of_decide_eq_false g46
    refine Z09 38 (.bool true) (congrArg Value.bool b45) ?_
    iterate 5 refine qn 21 38 false ?_
    refine qv 44 (.bool true) <| Z01 fun w50 H51 => ?_
    refine ztn <| Z06 rfl ?_
    refine zsl <| wv 6 (.bool false) <| znt <| Zk <| Zf <| Z4 <| Zs <| Zf <| Z4 <| ze1 (.bool false) ?_
    have n52 := Z7 b45
    have e1 : ((i : Int) - 1).toNat = i - 1 := by omega
    have ho : Z19 F B ix D i = false := by unfold Z19; rw [← e1]; simp only [b14, b30, b38, n52, bls]
    exact ⟨by simp only [Z0j, ZP (show i < D.length by omega) ho, Bool.false_and], H51.upd 0 rfl [] ne⟩
   have g53 := Z2 b45
   have g54 := of_decide_eq_true g53
   refine Z09 38 (.bool false) (congrArg Value.bool b45) ?_
   refine qy 21 38 false 39 A3 ?_ (hr := fun _ H' => (zlN (vs := (Z1R F C)) (H'.at 1 rfl)))
   refine qy 21 38 false 40 (pt b 0) <| qy 21 38 false 41 A2 ?_ (hr := fun _ H' => (zlN (vs := (Z41 (D.getD i Z0F))) (H'.at 3 rfl)))
   refine Z0r (Z05 21 38 false rfl kr rfl kr) (d := 42) (v := A4) rfl (fun _ _ => by kernel_rfl) (fun w' H' => (Z4O w' F C om b bm B (H'.roCk 0 rfl hbk (fun _ _ h => h)) (H'.roMap 0 rfl hbm (fun h => h)) (D.getD i Z0F) (hok _ om)).mono fun _ _ h => ⟨h.1, H'.keepU h.2⟩) ?_
   refine qy 21 38 false 43 A1 <| qv 44 A1 <| Z01 fun w57 H58 => ?_
   apply ztn
   refine (ZY (!(Z0Q F B (D.getD i Z0F)))).elim (fun b59 => ?_) (fun b59 => ?_)
   ·have g60 := Z7 b59
    refine Z48 _ b59 ?_
    refine zsl <| wv 6 (.bool false) <| znt <| Zk <| Zf <| Z4 <| Zs <| Zf <| Z4 <| ze1 (.bool false) ?_
    have n62 := Z2 b45
    have n63 := Z7 b59
    have e1 : ((i : Int) - 1).toNat = i - 1 := by omega
    have ho : Z19 F B ix D i = false := by unfold Z19; rw [← e1]; simp only [b14, b30, b38, n62, n63, bls]
    exact ⟨by simp only [Z0j, ZP (show i < D.length by omega) ho, Bool.false_and], H58.upd 0 rfl [] ne⟩
   have g64 := Z2 b59
   refine Z3L _ b59 ?_
   refine Zp <| Z6 <| ztn <| ZG <| zwi 45 ((i : Int) + 1) <| wv 12 (vi ((i : Int) + 1)) <| ZL ?_
   have n66 := Z2 b45
   have n67 := Z2 b59
   have e1 : ((i : Int) - 1).toNat = i - 1 := by omega
   have ho : Z19 F B ix D i = true := by unfold Z19; rw [← e1]; simp only [b14, b30, b38, n66, n67, bls]
   have H68 := H58.pk [0, 1, 2]
   refine Za ?_ _ ⟨(i + 1), rfl, om, (fun j hj => by rcases Nat.lt_or_ge j i with h | h; exact hall j h; rw [show j = i by omega]; exact ho), H68, rfl⟩ om
   exact zs
  iterate 10 refine qn 2 19 true ?_
  refine qv 30 (.bool false) <| qv 31 (.bool false) <| qy 14 31 false 32 (pt b23 1) <| qy 14 31 false 33 (vi ((D.getD i Z0F).i)) ?_ (hr := fun _ H' => (zl1 (H'.cell 3 rfl rfl)))
  refine qy 14 31 false 34 (pt b6 0) <| qy 14 31 false 35 (vi ix) ?_ (hr := fun _ H' => (zl1 (H'.cell 2 rfl rfl)))
  refine qy 14 31 false 36 A0 <| qv 37 A0 <| qv 38 A0 ?_
  refine (ZY (!(decide (((D.getD i Z0F).i) = ix)))).elim (fun b71 => ?_) (fun b71 => ?_)
  ·have g72 := Z7 b71
   have g73 := of_decide_eq_false g72
   refine Z09 38 (.bool true) (congrArg Value.bool b71) ?_
   iterate 5 refine qn 21 38 false ?_
   refine qv 44 (.bool true) <| Z01 fun w76 H77 => ?_
   refine ztn <| Z06 rfl ?_
   refine zsl <| wv 6 (.bool false) <| znt <| Zk <| Zf <| Z4 <| Zs <| Zf <| Z4 <| ze1 (.bool false) ?_
   have n78 := Z7 b71
   have e1 : ((i : Int) - 1).toNat = i - 1 := by omega
   have ho : Z19 F B ix D i = false := by unfold Z19; rw [← e1]; simp only [b14, b30, n78, bls]
   exact ⟨by simp only [Z0j, ZP (show i < D.length by omega) ho, Bool.false_and], H77.upd 0 rfl [] ne⟩
  have g79 := Z2 b71
  have g80 := of_decide_eq_true g79
  refine Z09 38 (.bool false) (congrArg Value.bool b71) ?_
  refine qy 21 38 false 39 A3 ?_ (hr := fun _ H' => (zlN (vs := (Z1R F C)) (H'.at 1 rfl)))
  refine qy 21 38 false 40 (pt b 0) <| qy 21 38 false 41 A2 ?_ (hr := fun _ H' => (zlN (vs := (Z41 (D.getD i Z0F))) (H'.at 3 rfl)))
  refine Z0r (Z05 21 38 false rfl kr rfl kr) (d := 42) (v := A4) rfl (fun _ _ => by kernel_rfl) (fun w' H' => (Z4O w' F C om b bm B (H'.roCk 0 rfl hbk (fun _ _ h => h)) (H'.roMap 0 rfl hbm (fun h => h)) (D.getD i Z0F) (hok _ om)).mono fun _ _ h => ⟨h.1, H'.keepU h.2⟩) ?_
  refine qy 21 38 false 43 A1 <| qv 44 A1 <| Z01 fun w83 H84 => ?_
  apply ztn
  refine (ZY (!(Z0Q F B (D.getD i Z0F)))).elim (fun b85 => ?_) (fun b85 => ?_)
  ·have g86 := Z7 b85
   refine Z48 _ b85 ?_
   refine zsl <| wv 6 (.bool false) <| znt <| Zk <| Zf <| Z4 <| Zs <| Zf <| Z4 <| ze1 (.bool false) ?_
   have n88 := Z2 b71
   have n89 := Z7 b85
   have e1 : ((i : Int) - 1).toNat = i - 1 := by omega
   have ho : Z19 F B ix D i = false := by unfold Z19; rw [← e1]; simp only [b14, b30, n88, n89, bls]
   exact ⟨by simp only [Z0j, ZP (show i < D.length by omega) ho, Bool.false_and], H84.upd 0 rfl [] ne⟩
  have g90 := Z2 b85
  refine Z3L _ b85 ?_
  refine Zp <| Z6 <| ztn <| ZG <| zwi 45 ((i : Int) + 1) <| wv 12 (vi ((i : Int) + 1)) <| ZL ?_
  have n92 := Z2 b71
  have n93 := Z2 b85
  have e1 : ((i : Int) - 1).toNat = i - 1 := by omega
  have ho : Z19 F B ix D i = true := by unfold Z19; rw [← e1]; simp only [b14, b30, n92, n93, bls]
  have H94 := H84.pk [0, 1, 2]
  refine Za ?_ _ ⟨(i + 1), rfl, om, (fun j hj => by rcases Nat.lt_or_ge j i with h | h; exact hall j h; rw [show j = i by omega]; exact ho), H94, rfl⟩ om
  exact zs
 refine zxb <| ztn <| Z9 <| zqs H11 ?_
 refine qv 46 (pt b6 1) <| qv 47 (.slice da D.length dc) ?_ (hr := fun _ H' => (zl1 (H'.cell 2 rfl rfl)))
 refine Z4a (Zc rfl) (d := 48) (v := (vi D.length)) rfl (fun _ H' => kr) ?_
 refine qv 49 A3 ?_ (hr := fun _ H' => (zlN (vs := (Z1R F C)) (H'.at 1 rfl)))
 refine Z0r (Zc rfl) (d := 50) (v := (vi (2 * F + 1))) rfl (fun _ _ => by kernel_rfl) (fun w' H' => (Zbk w' F C om).mono fun _ _ h => ⟨h.1, H'.keepU h.2⟩) ?_
 refine qv 51 (.bool (decide ((D.length : Int) = (2 * F + 1)))) <| qv 6 (.bool (decide ((D.length : Int) = (2 * F + 1)))) <| Z01 fun w97 H98 => ?_
 refine ztn <| Zk <| ze1 (.bool (decide ((D.length : Int) = (2 * F + 1)))) ?_
 have hn0 : i = D.length := by omega
 subst hn0
 exact ⟨by simp only [Z0j, Z1r hall, Bool.true_and], H98.upd 0 rfl [] ne⟩
theorem Zde (w : World) :
  Calls Tryz.prog 77 #[] w fun e w' => ∃ b mb, e = .returned (zp b) ∧ (Z0h [Z0 b 179 [.map (some mb)], Z2S mb Z0c (Value.int .i64) (Z0o [])]).ok w' ∧ Upd [] w w' ∧ ∀ q_, (Z0h [Z0 b 179 [.map (some mb)], Z2S mb Z0c (Value.int .i64) (Z0o [])]).fp q_ → w.heap.size ≤ q_ := by
 have H := Sat.start0 w
 refine Zg Tryz.func77 rfl 4 rfl kn ?_
 refine zsl <| wv 0 (.pointer none) <| Z1a <| zy <| Z4c Z0c (Value.int .i64) rfl H fun b2 w3 H4 => ?_
 let A0 := ([(.map (some b2))] : LV)
 refine kk <| wv 2 (.agg ⟨A0⟩) <| zy <| zdb A0 H4 fun b6 w7 H8 => ?_
 refine kk <| wv 0 (pt b6 0) <| znt <| Zk <| ze1 (pt b6 0) ?_
 exact ⟨b6, b2, rfl, H8.fn [2, 1], H8.upd 0 rfl [] ne, H8.freshS 0 rfl (fun _ h => h) [2, 1] rfl rfl⟩
theorem Z8Z (w : World) :
  Calls Tryz.prog 28 #[] w fun e w' => ∃ b mb r, e = .returned (.tuple #[.agg #[zp b, zp r], .bool true]) ∧ (Z0h [Z0 b 179 [.map (some mb)], Z2S mb Z0c (Value.int .i64) (Z0o []), Z0 r 165 [.slice none 0 0]]).ok w' ∧ Upd [] w w' ∧ ∀ q_, (Z0h [Z0 b 179 [.map (some mb)], Z2S mb Z0c (Value.int .i64) (Z0o []), Z0 r 165 [.slice none 0 0]]).fp q_ → w.heap.size ≤ q_ := by
 have H := Sat.start0 w
 refine Zg Tryz.func28 rfl 10 rfl kn ?_
 refine zsl <| zy <| zda (Zeu) H fun b2 w3 H4 => ?_
 refine kk <| wv 1 (.bool false) <| Z1a <| zy <| zdc 3 (Zde w3) ?_
 rintro _ w6 ⟨b7, m8, rfl, k9, p10, q11⟩
 have H12 := H4.addU p10 k9 q11
 have H13 := H12.open 2 rfl
 refine ⟨_, rfl, ?_⟩
 let A0 := ([(.slice none 0 0)] : LV)
 refine kk <| wv 2 (pt b7 0) <| Z1a <| wv 4 (pt b7 0) <| wv 5 (.agg ⟨A0⟩) <| zy <| zdb A0 H13 fun b15 w16 H17 => ?_
 let A1 := Zeo b7 b15
 refine kk <| wv 7 (.agg ⟨A1⟩) <| wv 8 (pt b7 0) <| wv 9 (.bool true) <| zy <| Z3e (vs := A1) rfl H17 1 rfl rfl rfl rfl kr kn kn kr fun w19 H20 => ?_
 refine kk <| wv 1 (.bool true) <| znt <| Zk <| Z8l rfl (Z02 (vs := A1) rfl kr kr kn (H20.at 1 rfl) kr) (Z0S (v := (.bool true)) rfl) ?_
 exact ⟨b7, m8, b15, rfl, H20.fn [2, 3, 4], H20.upd 0 rfl [] ne, H20.freshS 0 rfl (fun _ h => h) [2, 3, 4] rfl rfl⟩
theorem Z6r (w : World) (a b : Int) :
  Calls Tryz.prog 30 #[(.agg ⟨([i6 a, i6 b] : LV)⟩)] w fun e w' => e = .returned (.agg ⟨[i6 (Z1 a 3), i6 (1 + Z1 b 4)]⟩) ∧ Upd [] w w' := by
 have H := Sat.start0 w
 have q1 := Z1k a 3 om
 have q2 := Z1k b 4 om
 refine Zg Tryz.func30 rfl 11 rfl kn ?_
 refine zsl <| zy <| zdb (Z1R a b) H fun b2 w3 H4 => ?_
 refine kk <| zy <| zda ([(vi 0), (vi 0)] : LV) H4 fun b6 w7 H8 => ?_
 refine kk <| znt <| Z9 <| Z0a H8 [zR w, Z0 b2 59 (Z1R a b)] 9 rfl kr (fun Hx => (Hx.pk [0, 1])) fun w9 H10 S11 => ?_
 refine hv0 0 S11 3 (pt b2 0) <| hv0 1 S11 4 (vi a) ?_ (he := fun _ H' => (zl1 (H'.cell 1 rfl rfl)))
 refine hv0 3 S11 6 (pt b2 1) <| hv0 4 S11 7 (vi b) ?_ (he := fun _ H' => (zl1 (H'.cell 1 rfl rfl)))
 refine zhy 2 ?_
 refine zdq 5 (Z1N w9 a 3 om) H10 ?_
 intro w13 H14
 have S16 := H14.pk [0, 1]
 refine kh S16 <| zhy 5 ?_
 refine zdq 8 (Z1N w13 b 4 om) H14 ?_
 intro w18 H19
 have S21 := H19.pk [0, 1]
 refine kh S21 <| hv0 6 S21 9 (vi (1 + (Z1 b 4))) ?_ (he := fun _ H' => (Z0A (z := 1 + (Z1 b 4)) kr (IntWalk.i64_in _ om)))
 let A0 := Z1R (Z1 a 3) (1 + (Z1 b 4))
 refine Z0V 7 rfl kr kr kr (fun _ _ _ h => h) S21 (Zc rfl) (d := 10) (v := (.agg ⟨A0⟩)) rfl (fun _ H' => kr) ?_
 refine zhy 8 ?_
 refine Z1S A0 H19 2 ?_
 intro w23 H24
 have S26 := H24.pk [0, 1]
 refine kh S26 <| zhf <| ztn <| Zk <| Z5v rfl (Z02 (vs := A0) rfl kr kr kn (H24.at 2 rfl) kr) ?_
 exact ⟨rfl, H24.upd 0 rfl [] ne⟩
end Go.Proofs.YtenihpghfdcpkaaGreat
