/- WHAT IS PROVED: contracts and plain laws of Rg1t. Conditions: stated with each. -/
import Derived.Test.YtenihpghfdcpkaaGreatPV02
import Derived.Test.YtenihpghfdcpkaaGreatPV05
import Derived.Test.YtenihpghfdcpkaaGreatPV07
import Derived.Test.YtenihpghfdcpkaaGreatPV09
import Derived.Test.YtenihpghfdcpkaaGreatPV14
set_option maxHeartbeats 4000000
set_option maxRecDepth 100000
namespace Go.Proofs.YtenihpghfdcpkaaGreat
open Go.RowKit
abbrev Z1i (p0 : Int) (p1 : Int) : List Value := ([i6 p0, i6 p1] : LV)
abbrev Z3w (p0 : Zj) : List Value := ([i6 p0.cl, i6 p0.seq] : LV) ++ hc p0.h ++ ([i6 p0.len, i6 p0.sb, i6 p0.sm] : LV)
abbrev Z3R (p0 : Zb) : List Value := ([i6 p0.r, i6 p0.cl, i6 p0.seq] : LV) ++ hc p0.h ++ ([u6 p0.t, i6 p0.sb, i6 p0.sm] : LV)
abbrev ZbY (p0 : Zj) (p1 : Option Addr) (p2 : Nat) (p3 : Nat) : List Value := ([i6 p0.cl, i6 p0.seq] : LV) ++ hc p0.h ++ ([i6 p0.len, i6 p0.sb, i6 p0.sm, (.slice p1 p2 p3)] : LV)
abbrev ZeO : List Value := ([i6 0, i6 0, i6 0] : LV) ++ hc Zz ++ ([u6 0, i6 0, i6 0] : LV)
abbrev Zcu (p0 : Zb) : List Value := ([i6 p0.cl, i6 p0.seq] : LV)
theorem Z5S (w : World) (b mb : Nat) (L : List Signed) (hb : (Z0 b 179 [.map (some mb)]).ok w) (hm : MapAt w mb Z0c (Value.int .i64) (Z0o L)) (ta : Option Addr) (tc : Nat) (tx : List UInt8) (ht : ListAt Zx 1 w (.slice ta tx.length tc) tx) (p m : Int) :
  Calls Tryz.prog 107 #[zp b, (.agg ⟨([i6 p, i6 m] : LV)⟩), (.slice ta tx.length tc)] w fun e w' => e = .returned (.bool (Z0B L p m tx)) ∧ Upd [] w w' := by
 have H := Sat.start0 w
 have hmk : (Zv (Z0o L) (⟨p, tx⟩ : Signed)).getD 0 = Zr L (⟨p, tx⟩ : Signed) := by rw [Z4E]; rfl
 refine Zg Tryz.func107 rfl 26 rfl kn ?_
 refine zsl <| zy <| zdb (Z1i p m) H fun b2 w3 H4 => ?_
 refine kk <| wv 6 (.bool false) <| znt <| Z9 <| zqs H4 ?_
 refine qv 8 (pt b 0) <| qv 9 (pt b 0) <| qv 10 (pt b 0) <| qv 11 (.map (some mb)) ?_ (hr := fun _ H' => (zl1 (H'.roCell 0 rfl hb (fun h => h) rfl)))
 refine qv 12 (pt b2 0) <| qv 13 (vi p) ?_ (hr := fun _ H' => (zl1 (H'.cell 1 rfl rfl)))
 refine qv 14 (.slice ta tx.length tc) <| qv 15 (Z5l tx) ?_ (hr := fun _ H' => (Z2G (e := 5) (s := tx) kr kr kr rfl (Z25 (ListAt.now H' 0 rfl ht))))
 refine Z4a (Zc rfl) (d := 16) (v := (.agg ⟨([(vi p), (Z5l tx)] : LV)⟩)) rfl (fun _ H' => kr) ?_
 let A0 : Value := vi ((Zv (Z0o L) (⟨p, tx⟩ : Signed)).getD 0)
 refine qv 17 A0 ?_ (hr := fun _ H' => (Z44 (kt := 176) (et := 3) Z5G kr (fun w => by kernel_rfl) rfl (⟨p, tx⟩ : Signed) rfl (H'.roMap 0 rfl hm (fun h => h)) (ZdQ (Value.int .i64) _ _)))
 refine qv 7 A0 <| Z01 fun w5 H6 => ?_
 refine ztn <| zsl <| wv 18 A0 <| wv 19 (.bool (decide (((Zv (Z0o L) (⟨p, tx⟩ : Signed)).getD 0) > 0))) <| wv 20 (.bool (decide (((Zv (Z0o L) (⟨p, tx⟩ : Signed)).getD 0) > 0))) ?_
 refine zil 20 (fun b7 g8 => ?_) fun b7 g10 => ?_
 ·refine wy 2 20 true 21 A0 <| wy 2 20 true 22 (pt b2 1) <| wy 2 20 true 23 (vi m) ?_ (hr := zl1 (H6.cell 1 rfl rfl))
  refine wy 2 20 true 24 (.bool (decide (((Zv (Z0o L) (⟨p, tx⟩ : Signed)).getD 0) = m))) <| wv 25 (.bool (decide (((Zv (Z0o L) (⟨p, tx⟩ : Signed)).getD 0) = m))) <| wv 6 (.bool (decide (((Zv (Z0o L) (⟨p, tx⟩ : Signed)).getD 0) = m))) <| znt <| Zk <| ze1 (.bool (decide (((Zv (Z0o L) (⟨p, tx⟩ : Signed)).getD 0) = m))) ?_
  exact ⟨by unfold Z0B; rw [← hmk]; simp [b7], H6.upd 0 rfl [] ne⟩
 iterate 4 refine wn 2 20 true ?_
 refine wv 25 (.bool false) <| wv 6 (.bool false) <| znt <| Zk <| ze1 (.bool false) ?_
 exact ⟨by unfold Z0B; rw [← hmk]; simp [b7], H6.upd 0 rfl [] ne⟩
theorem ZaR (w : World) (f cn : Int) (x : Zj) :
  Calls Tryz.prog 207 #[(.agg ⟨([i6 f, i6 cn] : LV)⟩), (.agg ⟨(([i6 x.cl, i6 x.seq] : LV) ++ hc x.h ++ ([i6 x.len, i6 x.sb, i6 x.sm] : LV))⟩)] w fun e w' => e = .returned (.bool (Z14 cn x)) ∧ Upd [] w w' := by
 have H := Sat.start0 w
 refine Zg Tryz.func207 rfl 38 rfl kn ?_
 refine zsl <| zy <| zdb (Z1i f cn) H fun b2 w3 H4 => ?_
 refine kk <| zy <| zdb (Z3w x) H4 fun b6 w7 H8 => ?_
 let A0 : Value := .bool false
 let A6 := Z1i x.cl x.seq
 refine kk <| wv 4 A0 <| Z1a <| wv 6 (pt b6 0) <| zwN 7 A6 (H8.at 2 rfl) <| zy <| zda ([(vi 0), (vi 0)] : LV) H8 fun b10 w11 H12 => ?_
 refine kk <| zy <| Z1S A6 H12 3 fun w14 H15 => ?_
 refine kk <| znt ?_
 refine Z1J ([4] ++ List.range' 8 30) (fun G_ W_ => G_ 4 = (.bool (Z14 cn x)) ∧ Sat w [zR w, Z0 b2 29 (Z1i f cn), Z0 b6 73 (Z3w x), Z0 b10 59 A6] W_) ?_ ?_
 ·refine ZG <| wv 8 (pt b10 0) <| zw1 9 (vi x.cl) (H15.cell 3 rfl rfl) <| wv 10 (.bool (decide (x.cl ≥ 0))) <| wv 11 (.bool (decide (x.cl ≥ 0))) ?_
  refine zil 11 (fun b18 g19 => ?_) fun b18 g32 => ?_
  ·refine wy 3 11 true 12 (pt b10 0) <| wy 3 11 true 13 (vi x.cl) ?_ (hr := zl1 (H15.cell 3 rfl rfl))
   refine wy 3 11 true 14 (pt b2 1) <| wy 3 11 true 15 (vi cn) ?_ (hr := zl1 (H15.cell 1 rfl rfl))
   let A5 : Value := .bool (decide (x.cl < cn))
   refine wy 3 11 true 16 A5 <| wv 17 A5 <| wv 18 A5 ?_
   refine zil 18 (fun b20 g21 => ?_) fun b20 g31 => ?_
   ·refine wy 10 18 true 19 (pt b10 1) <| wy 10 18 true 20 (vi x.seq) ?_ (hr := zl1 (H15.cell 3 rfl rfl))
    let A3 : Value := .bool (decide (x.seq ≥ 1))
    refine wy 10 18 true 21 A3 <| wv 22 A3 <| wv 23 A3 ?_
    refine zil 23 (fun b22 g23 => ?_) fun b22 g30 => ?_
    ·refine wy 15 23 true 24 (pt b10 1) <| wy 15 23 true 25 (vi x.seq) ?_ (hr := zl1 (H15.cell 3 rfl rfl))
     let A1 : Value := .bool (decide (x.seq ≤ 1048576))
     refine wy 15 23 true 26 A1 <| wv 27 A1 <| wv 28 A1 ?_
     refine zil 28 (fun b24 g25 => ?_) fun b24 g29 => ?_
     ·refine wy 20 28 true 29 (pt b6 34) <| wy 20 28 true 30 (vi x.len) ?_ (hr := zl1 (H15.cell 2 rfl kr))
      let A4 : Value := .bool (decide (x.len ≥ 0))
      refine wy 20 28 true 31 A4 <| wv 32 A4 <| wv 33 A4 ?_
      refine zil 33 (fun b26 g27 => ?_) fun b26 g28 => ?_
      ·refine wy 25 33 true 34 (pt b6 34) <| wy 25 33 true 35 (vi x.len) ?_ (hr := zl1 (H15.cell 2 rfl kr))
       let A2 : Value := .bool (decide (x.len ≤ 256))
       refine wy 25 33 true 36 A2 <| wv 37 A2 <| wv 4 A2 <| ZL <| ZH ?_ ⟨(congrArg Value.bool (show (decide (x.len ≤ 256)) = (Z14 cn x) by simp [Z14, b18, b20, b22, b24, b26])), H15⟩
       exact zs
      iterate 3 refine wn 25 33 true ?_
      refine wv 37 A0 <| wv 4 A0 <| ZL <| ZH ?_ ⟨(congrArg Value.bool (show false = (Z14 cn x) by simp [Z14, b18, b20, b22, b24, b26])), H15⟩
      exact zs
     iterate 3 refine wn 20 28 true ?_
     refine wv 32 A0 <| wv 33 A0 ?_
     iterate 3 refine wn 25 33 true ?_
     refine wv 37 A0 <| wv 4 A0 <| ZL <| ZH ?_ ⟨(congrArg Value.bool (show false = (Z14 cn x) by simp [Z14, b18, b20, b22, b24])), H15⟩
     exact zs
    iterate 3 refine wn 15 23 true ?_
    refine wv 27 A0 <| wv 28 A0 ?_
    iterate 3 refine wn 20 28 true ?_
    refine wv 32 A0 <| wv 33 A0 ?_
    iterate 3 refine wn 25 33 true ?_
    refine wv 37 A0 <| wv 4 A0 <| ZL <| ZH ?_ ⟨(congrArg Value.bool (show false = (Z14 cn x) by simp [Z14, b18, b20, b22])), H15⟩
    exact zs
   iterate 3 refine wn 10 18 true ?_
   refine wv 22 A0 <| wv 23 A0 ?_
   iterate 3 refine wn 15 23 true ?_
   refine wv 27 A0 <| wv 28 A0 ?_
   iterate 3 refine wn 20 28 true ?_
   refine wv 32 A0 <| wv 33 A0 ?_
   iterate 3 refine wn 25 33 true ?_
   refine wv 37 A0 <| wv 4 A0 <| ZL <| ZH ?_ ⟨(congrArg Value.bool (show false = (Z14 cn x) by simp [Z14, b18, b20])), H15⟩
   exact zs
  iterate 5 refine wn 3 11 true ?_
  refine wv 17 A0 <| wv 18 A0 ?_
  iterate 3 refine wn 10 18 true ?_
  refine wv 22 A0 <| wv 23 A0 ?_
  iterate 3 refine wn 15 23 true ?_
  refine wv 27 A0 <| wv 28 A0 ?_
  iterate 3 refine wn 20 28 true ?_
  refine wv 32 A0 <| wv 33 A0 ?_
  iterate 3 refine wn 25 33 true ?_
  refine wv 37 A0 <| wv 4 A0 <| ZL <| ZH ?_ ⟨(congrArg Value.bool (show false = (Z14 cn x) by simp [Z14, b18])), H15⟩
  exact zs
 rintro f33 w34 ⟨v36, H35⟩
 refine Zn 4 _ v36 ?_
 refine Zk <| ze1 (.bool (Z14 cn x)) ?_
 exact ⟨rfl, H35.upd 0 rfl [] ne⟩
theorem Z9V (w : World) (c : Int) :
  Calls Tryz.prog 208 #[i6 c] w fun e w' => e = .returned (i6 (IntKind.i64.wrap (1000 + c))) ∧ Upd [] w w' := by
 have H := Sat.start0 w
 refine Zg Tryz.func208 rfl 5 rfl kn ?_
 let A0 : Value := vi (IntKind.i64.wrap (1000 + c))
 refine zsl <| wv 2 (vi 0) <| Z1a <| wv 3 (vi c) <| wv 4 A0 <| wv 2 A0 <| znt <| Zk <| ze1 A0 ?_
 exact ⟨rfl, H.upd 0 rfl [] ne⟩
theorem Z9P (w : World) (f cn : Int) (hf : -1099511627776 ≤ f ∧ f ≤ 1099511627776) (b mb : Nat) (L : List Signed) (hb : (Z0 b 179 [.map (some mb)]).ok w) (hm : MapAt w mb Z0c (Value.int .i64) (Z0o L)) (s : Zj) (hs : Zco s) :
  Calls Tryz.prog 188 #[(.agg ⟨([i6 f, i6 cn] : LV)⟩), zp b, (.agg ⟨(([i6 s.cl, i6 s.seq] : LV) ++ hc s.h ++ ([i6 s.len, i6 s.sb, i6 s.sm] : LV))⟩)] w fun e w' => e = .returned (.bool (Z2r cn L s)) ∧ Upd [] w w' := by
 have H := Sat.start0 w
 have hs2 := hs
 unfold Zco at hs2
 refine Zg Tryz.func188 rfl 28 rfl kn ?_
 let A0 := Z1i f cn
 refine zsl <| zy <| zdb A0 H fun b2 w3 H4 => ?_
 refine kk <| zy <| zdb (Z3w s) H4 fun b6 w7 H8 => ?_
 refine kk <| wv 6 (.bool false) <| znt <| Z9 <| Z0a H8 [zR w, Z0 b2 29 A0, Z0 b6 73 (Z3w s)] 22 rfl kr (fun Hx => (Hx.pk [0, 1, 2])) fun w9 H10 S11 => ?_
 refine hv0 0 S11 7 (.agg ⟨A0⟩) ?_ (he := fun _ H' => (zlN (vs := A0) (H'.at 1 rfl)))
 refine hv0 1 S11 8 (.agg ⟨(Z3w s)⟩) ?_ (he := fun _ H' => (zlN (vs := (Z3w s)) (H'.at 2 rfl)))
 refine zhy 2 ?_
 refine zdq 9 (ZaR w9 f cn s) H10 ?_
 intro w13 H14
 have S16 := H14.pk [0, 1, 2]
 refine kh S16 <| hv0 3 S16 10 (.bool (Z14 cn s)) ?_
 refine (ZY (Z14 cn s)).elim (fun b17 => ?_) (fun b17 => ?_)
 ·refine Z3K 10 (.bool true) (congrArg Value.bool b17) ?_
  refine Z0U 4 S16 3 10 true 11 (pt b6 35) <| Z0U 5 S16 3 10 true 12 (pt b6 35) <| Z0U 6 S16 3 10 true 13 (vi s.sb) ?_ (he := fun _ H' => (zl1 (H'.cell 2 rfl kr)))
  refine Z0U 7 S16 3 10 true 14 (pt b6 0) <| Z0U 8 S16 3 10 true 15 (pt b6 0) <| Z0U 9 S16 3 10 true 16 (vi s.cl) ?_ (he := fun _ H' => (zl1 (H'.cell 2 rfl kr)))
  refine Z34 10 rfl kr (Z05 3 10 true rfl kr rfl kr) (fun Kq kq => ?_)
  refine zdq 17 (Z9V w13 s.cl) H14 ?_
  intro w19 H20
  have S22 := H20.pk [0, 1, 2]
  refine kq _ _ S22 <| Z0U 11 S22 3 10 true 18 (.bool (decide (s.sb = (IntKind.i64.wrap (1000 + s.cl))))) <| hv0 12 S22 19 (.bool (decide (s.sb = (IntKind.i64.wrap (1000 + s.cl))))) <| hv0 13 S22 20 (.bool (decide (s.sb = (IntKind.i64.wrap (1000 + s.cl))))) ?_
  refine zih 20 (fun b23 g24 => ?_) fun b23 g41 => ?_
  ·refine Z0U 14 S22 13 20 true 21 (pt b 0) <| Z0U 15 S22 13 20 true 22 (pt b6 35) <| Z0U 16 S22 13 20 true 23 (.agg ⟨(Z1i s.sb s.sm)⟩) ?_ (he := fun _ H' => (zlN (vs := (Z1i s.sb s.sm)) (H'.at 2 rfl)))
   refine Z0U 17 S22 13 20 true 24 (.agg ⟨(Z3w s)⟩) ?_ (he := fun _ H' => (zlN (vs := (Z3w s)) (H'.at 2 rfl)))
   refine Z34 18 rfl kr (Z05 13 20 true rfl kr rfl kr) (fun Kq kq => ?_)
   refine zdc 25 (Z6x w19 s hs) ?_
   rintro _ w27 ⟨u28, rfl, k29, p30, q31⟩
   have H32 := H20.addU p30 k29 q31
   obtain ⟨a33, c34, rfl⟩ := Z3 (H32.at 3 rfl)
   refine ⟨_, rfl, ?_⟩
   have S35 := H32.pk [0, 1, 2]
   refine kq _ _ S35 <| Z34 19 rfl kr (Z05 13 20 true rfl kr rfl kr) (fun Kq kq => ?_)
   refine zdq 26 (Z5S w27 b mb L (H32.roCk 0 rfl hb (fun _ _ h => h)) (H32.roMap 0 rfl hm (fun h => h)) a33 c34 (Zt s) (ListAt.row (enc := Zx) (sz := 1) Zw (by decide) (H32.at 3 rfl)) s.sb s.sm) H32 ?_
   intro w37 H38
   have S40 := H38.pk [0, 1, 2]
   refine kq _ _ S40 <| hv0 20 S40 27 (.bool (Z0B L s.sb s.sm (Zt s))) <| hv0 21 S40 6 (.bool (Z0B L s.sb s.sm (Zt s))) <| zhf <| ztn <| Zk <| ze1 (.bool (Z0B L s.sb s.sm (Zt s))) ?_
   exact ⟨by simp [Z2r, b17, b23], H38.upd 0 rfl [] ne⟩
  refine Zu 14 S22 13 20 true ?_
  refine Zu 15 S22 13 20 true ?_
  refine Zu 16 S22 13 20 true ?_
  refine Zu 17 S22 13 20 true ?_
  refine Zu 18 S22 13 20 true ?_
  refine Zu 19 S22 13 20 true ?_
  refine hv0 20 S22 27 (.bool false) <| hv0 21 S22 6 (.bool false) <| zhf <| ztn <| Zk <| ze1 (.bool false) ?_
  exact ⟨by simp [Z2r, b17, b23], H20.upd 0 rfl [] ne⟩
 refine Z3K 10 (.bool false) (congrArg Value.bool b17) ?_
 refine Zu 4 S16 3 10 true ?_
 refine Zu 5 S16 3 10 true ?_
 refine Zu 6 S16 3 10 true ?_
 refine Zu 7 S16 3 10 true ?_
 refine Zu 8 S16 3 10 true ?_
 refine Zu 9 S16 3 10 true ?_
 refine Zu 10 S16 3 10 true ?_
 refine Zu 11 S16 3 10 true ?_
 refine hv0 12 S16 19 (.bool false) <| hv0 13 S16 20 (.bool false) <| Zu 14 S16 13 20 true ?_
 refine Zu 15 S16 13 20 true ?_
 refine Zu 16 S16 13 20 true ?_
 refine Zu 17 S16 13 20 true ?_
 refine Zu 18 S16 13 20 true ?_
 refine Zu 19 S16 13 20 true ?_
 refine hv0 20 S16 27 (.bool false) <| hv0 21 S16 6 (.bool false) <| zhf <| ztn <| Zk <| ze1 (.bool false) ?_
 exact ⟨by simp [Z2r, b17], H14.upd 0 rfl [] ne⟩
theorem Z6A (w : World) (f cn : Int) (hf : -1099511627776 ≤ f ∧ f ≤ 1099511627776) (b mb : Nat) (L : List Signed) (hb : (Z0 b 179 [.map (some mb)]).ok w) (hm : MapAt w mb Z0c (Value.int .i64) (Z0o L)) (s : Zb) (hs : StOk s) :
  Calls Tryz.prog 189 #[(.agg ⟨([i6 f, i6 cn] : LV)⟩), zp b, (.agg ⟨(([i6 s.r, i6 s.cl, i6 s.seq] : LV) ++ hc s.h ++ ([u6 s.t, i6 s.sb, i6 s.sm] : LV))⟩)] w fun e w' => e = .returned (.bool (Z1w f L s)) ∧ Upd [] w w' := by
 have H := Sat.start0 w
 have hs2 := hs
 unfold StOk at hs2
 refine Zg Tryz.func189 rfl 37 rfl kn ?_
 refine zsl <| zy <| zdb (Z1i f cn) H fun b2 w3 H4 => ?_
 refine kk <| zy <| zdb (Z3R s) H4 fun b6 w7 H8 => ?_
 refine kk <| wv 6 (.bool false) <| znt <| Z9 <| Z0a H8 [zR w, Z0 b2 29 (Z1i f cn), Z0 b6 149 (Z3R s)] 31 rfl kr (fun Hx => (Hx.pk [0, 1, 2])) fun w9 H10 S11 => ?_
 refine hv0 0 S11 7 (.agg ⟨(Z1i f cn)⟩) ?_ (he := fun _ H' => (zlN (vs := (Z1i f cn)) (H'.at 1 rfl)))
 refine hv0 1 S11 8 (pt b6 0) <| hv0 2 S11 9 (vi s.r) ?_ (he := fun _ H' => (zl1 (H'.cell 2 rfl kr)))
 refine zhy 3 ?_
 refine zdq 10 (Z9U w9 f cn s.r om) H10 ?_
 intro w13 H14
 have S16 := H14.pk [0, 1, 2]
 refine kh S16 <| hv0 4 S16 11 (.bool (inB f s.r)) ?_
 refine (ZY (inB f s.r)).elim (fun b17 => ?_) (fun b17 => ?_)
 ·refine Z3K 11 (.bool true) (congrArg Value.bool b17) ?_
  refine Z0U 5 S16 4 11 true 12 (pt b6 35) <| Z0U 6 S16 4 11 true 13 (vu s.t) ?_ (he := fun _ H' => (zl1 (H'.cell 2 rfl kr)))
  refine Z0U 7 S16 4 11 true 14 (.bool (decide (s.t ≥ 1))) <| hv0 8 S16 15 (.bool (decide (s.t ≥ 1))) <| hv0 9 S16 16 (.bool (decide (s.t ≥ 1))) ?_
  refine zih 16 (fun b18 g19 => ?_) fun b18 g46 => ?_
  ·refine Z0U 10 S16 9 16 true 17 (pt b6 35) <| Z0U 11 S16 9 16 true 18 (vu s.t) ?_ (he := fun _ H' => (zl1 (H'.cell 2 rfl kr)))
   refine Z0U 12 S16 9 16 true 19 (.bool (decide (s.t < 18446744073709551615))) <| hv0 13 S16 20 (.bool (decide (s.t < 18446744073709551615))) <| hv0 14 S16 21 (.bool (decide (s.t < 18446744073709551615))) ?_
   refine zih 21 (fun b21 g22 => ?_) fun b21 g44 => ?_
   ·refine Z0U 15 S16 14 21 true 22 (pt b6 36) <| Z0U 16 S16 14 21 true 23 (pt b6 36) <| Z0U 17 S16 14 21 true 24 (vi s.sb) ?_ (he := fun _ H' => (zl1 (H'.cell 2 rfl kr)))
    refine Z0U 18 S16 14 21 true 25 (pt b6 0) <| Z0U 19 S16 14 21 true 26 (vi s.r) ?_ (he := fun _ H' => (zl1 (H'.cell 2 rfl kr)))
    refine Z0U 20 S16 14 21 true 27 (.bool (decide (s.sb = s.r))) <| hv0 21 S16 28 (.bool (decide (s.sb = s.r))) <| hv0 22 S16 29 (.bool (decide (s.sb = s.r))) ?_
    refine zih 29 (fun b24 g24 => ?_) fun b24 g41 => ?_
    ·refine Z0U 23 S16 22 29 true 30 (pt b 0) <| Z0U 24 S16 22 29 true 31 (pt b6 36) <| Z0U 25 S16 22 29 true 32 (.agg ⟨(Z1i s.sb s.sm)⟩) ?_ (he := fun _ H' => (zlN (vs := (Z1i s.sb s.sm)) (H'.at 2 rfl)))
     refine Z0U 26 S16 22 29 true 33 (.agg ⟨(Z3R s)⟩) ?_ (he := fun _ H' => (zlN (vs := (Z3R s)) (H'.at 2 rfl)))
     refine Z34 27 rfl kr (Z05 22 29 true rfl kr rfl kr) (fun Kq kq => ?_)
     refine zdc 34 (Z74 w13 s hs) ?_
     rintro _ w28 ⟨u29, rfl, k30, p31, q32⟩
     have H33 := H14.addU p31 k30 q32
     obtain ⟨a34, c35, rfl⟩ := Z3 (H33.at 3 rfl)
     refine ⟨_, rfl, ?_⟩
     have S36 := H33.pk [0, 1, 2]
     refine kq _ _ S36 <| Z34 28 rfl kr (Z05 22 29 true rfl kr rfl kr) (fun Kq kq => ?_)
     refine zdq 35 (Z5S w28 b mb L (H33.roCk 0 rfl hb (fun _ _ h => h)) (H33.roMap 0 rfl hm (fun h => h)) a34 c35 (ZE s) (ListAt.row (enc := Zx) (sz := 1) Zw (by decide) (H33.at 3 rfl)) s.sb s.sm) H33 ?_
     intro w38 H39
     have S41 := H39.pk [0, 1, 2]
     refine kq _ _ S41 <| hv0 29 S41 36 (.bool (Z0B L s.sb s.sm (ZE s))) <| hv0 30 S41 6 (.bool (Z0B L s.sb s.sm (ZE s))) <| zhf <| ztn <| Zk <| ze1 (.bool (Z0B L s.sb s.sm (ZE s))) ?_
     exact ⟨by simp [Z1w, b17, b18, b21, b24], H39.upd 0 rfl [] ne⟩
    refine Zu 23 S16 22 29 true ?_
    refine Zu 24 S16 22 29 true ?_
    refine Zu 25 S16 22 29 true ?_
    refine Zu 26 S16 22 29 true ?_
    refine Zu 27 S16 22 29 true ?_
    refine Zu 28 S16 22 29 true ?_
    refine hv0 29 S16 36 (.bool false) <| hv0 30 S16 6 (.bool false) <| zhf <| ztn <| Zk <| ze1 (.bool false) ?_
    exact ⟨by simp [Z1w, b17, b18, b21, b24], H14.upd 0 rfl [] ne⟩
   refine Zu 15 S16 14 21 true ?_
   refine Zu 16 S16 14 21 true ?_
   refine Zu 17 S16 14 21 true ?_
   refine Zu 18 S16 14 21 true ?_
   refine Zu 19 S16 14 21 true ?_
   refine Zu 20 S16 14 21 true ?_
   refine hv0 21 S16 28 (.bool false) <| hv0 22 S16 29 (.bool false) <| Zu 23 S16 22 29 true ?_
   refine Zu 24 S16 22 29 true ?_
   refine Zu 25 S16 22 29 true ?_
   refine Zu 26 S16 22 29 true ?_
   refine Zu 27 S16 22 29 true ?_
   refine Zu 28 S16 22 29 true ?_
   refine hv0 29 S16 36 (.bool false) <| hv0 30 S16 6 (.bool false) <| zhf <| ztn <| Zk <| ze1 (.bool false) ?_
   exact ⟨by simp [Z1w, b17, b18, b21], H14.upd 0 rfl [] ne⟩
  refine Zu 10 S16 9 16 true ?_
  refine Zu 11 S16 9 16 true ?_
  refine Zu 12 S16 9 16 true ?_
  refine hv0 13 S16 20 (.bool false) <| hv0 14 S16 21 (.bool false) <| Zu 15 S16 14 21 true ?_
  refine Zu 16 S16 14 21 true ?_
  refine Zu 17 S16 14 21 true ?_
  refine Zu 18 S16 14 21 true ?_
  refine Zu 19 S16 14 21 true ?_
  refine Zu 20 S16 14 21 true ?_
  refine hv0 21 S16 28 (.bool false) <| hv0 22 S16 29 (.bool false) <| Zu 23 S16 22 29 true ?_
  refine Zu 24 S16 22 29 true ?_
  refine Zu 25 S16 22 29 true ?_
  refine Zu 26 S16 22 29 true ?_
  refine Zu 27 S16 22 29 true ?_
  refine Zu 28 S16 22 29 true ?_
  refine hv0 29 S16 36 (.bool false) <| hv0 30 S16 6 (.bool false) <| zhf <| ztn <| Zk <| ze1 (.bool false) ?_
  exact ⟨by simp [Z1w, b17, b18], H14.upd 0 rfl [] ne⟩
 refine Z3K 11 (.bool false) (congrArg Value.bool b17) ?_
 refine Zu 5 S16 4 11 true ?_
 refine Zu 6 S16 4 11 true ?_
 refine Zu 7 S16 4 11 true ?_
 refine hv0 8 S16 15 (.bool false) <| hv0 9 S16 16 (.bool false) <| Zu 10 S16 9 16 true ?_
 refine Zu 11 S16 9 16 true ?_
 refine Zu 12 S16 9 16 true ?_
 refine hv0 13 S16 20 (.bool false) <| hv0 14 S16 21 (.bool false) <| Zu 15 S16 14 21 true ?_
 refine Zu 16 S16 14 21 true ?_
 refine Zu 17 S16 14 21 true ?_
 refine Zu 18 S16 14 21 true ?_
 refine Zu 19 S16 14 21 true ?_
 refine Zu 20 S16 14 21 true ?_
 refine hv0 21 S16 28 (.bool false) <| hv0 22 S16 29 (.bool false) <| Zu 23 S16 22 29 true ?_
 refine Zu 24 S16 22 29 true ?_
 refine Zu 25 S16 22 29 true ?_
 refine Zu 26 S16 22 29 true ?_
 refine Zu 27 S16 22 29 true ?_
 refine Zu 28 S16 22 29 true ?_
 refine hv0 29 S16 36 (.bool false) <| hv0 30 S16 6 (.bool false) <| zhf <| ztn <| Zk <| ze1 (.bool false) ?_
 exact ⟨by simp [Z1w, b17], H14.upd 0 rfl [] ne⟩
theorem Z6b (w : World) (f cn : Int) (hf : -1099511627776 ≤ f ∧ f ≤ 1099511627776) (b mb : Nat) (L : List Signed) (hb : (Z0 b 179 [.map (some mb)]).ok w) (hm : MapAt w mb Z0c (Value.int .i64) (Z0o L)) (x : Zj) (hx : Zco x) (sa : Option Addr) (sc : Nat) (S : List Zb) (hS : ListAt Z2O 38 w (.slice sa S.length sc) S) (hok : ZdM S) (hlS : S.length ≤ 1000000) :
  Calls Tryz.prog 143 #[(.agg ⟨([i6 f, i6 cn] : LV)⟩), zp b, (.agg ⟨(([i6 x.cl, i6 x.seq] : LV) ++ hc x.h ++ ([i6 x.len, i6 x.sb, i6 x.sm, (.slice sa S.length sc)] : LV))⟩)] w fun e w' => e = .returned (.bool (Z0z f cn L x S)) ∧ Upd [] w w' := by
 have H := Sat.start0 w
 refine Zg Tryz.func143 rfl 67 rfl kn ?_
 refine zsl <| zy <| zdb (Z1i f cn) H fun b2 w3 H4 => ?_
 refine kk <| zy <| zdb (ZbY x sa S.length sc) H4 fun b6 w7 H8 => ?_
 refine kk <| wv 6 (.bool false) <| znt <| Z9 <| Z9 <| zqs H8 ?_
 let A1 : Value := .agg ⟨(Z1i f cn)⟩
 refine qv 9 A1 ?_ (hr := fun _ H' => (zlN (vs := (Z1i f cn)) (H'.at 1 rfl)))
 refine qv 10 (pt b 0) <| qv 11 (pt b6 0) <| qv 12 (.agg ⟨(Z3w x)⟩) ?_ (hr := fun _ H' => (zlN (vs := (Z3w x)) (H'.at 2 rfl)))
 refine Z0r (Zc rfl) (d := 13) (v := (.bool (Z2r cn L x))) rfl (fun _ _ => by kernel_rfl) (fun w' H' => (Z9P w' f cn om b mb L (H'.roCk 0 rfl hb (fun _ _ h => h)) (H'.roMap 0 rfl hm (fun h => h)) x hx).mono fun _ _ h => ⟨h.1, H'.keepU h.2⟩) ?_
 refine qv 14 (.bool (!(Z2r cn L x))) <| qv 15 (.bool (!(Z2r cn L x))) ?_
 refine (ZY (!(Z2r cn L x))).elim (fun b9 => ?_) (fun b9 => ?_)
 ·have g10 := Z7 b9
  refine Z09 15 (.bool true) (congrArg Value.bool b9) ?_
  iterate 6 refine qn 6 15 false ?_
  refine qv 22 (.bool true) <| Z01 fun w12 H13 => ?_
  refine ztn <| Z06 rfl ?_
  refine zsl <| wv 6 (.bool false) <| znt <| Zk <| Z4 <| ze1 (.bool false) ?_
  have n14 := Z7 b9
  exact ⟨by simp only [Z0z, n14, bls], H13.upd 0 rfl [] ne⟩
 have g15 := Z2 b9
 refine Z09 15 (.bool false) (congrArg Value.bool b9) ?_
 refine qy 6 15 false 16 (pt b6 37) <| qy 6 15 false 17 (.slice sa S.length sc) ?_ (hr := fun _ H' => (zl1 (H'.cell 2 rfl kr)))
 refine Z4a (Z05 6 15 false rfl kr rfl kr) (d := 18) (v := (vi S.length)) rfl (fun _ H' => kr) ?_
 refine qy 6 15 false 19 A1 ?_ (hr := fun _ H' => (zlN (vs := (Z1i f cn)) (H'.at 1 rfl)))
 refine Z0r (Z05 6 15 false rfl kr rfl kr) (d := 20) (v := (vi (2 * f + 1))) rfl (fun _ _ => by kernel_rfl) (fun w' H' => (Zbk w' f cn om).mono fun _ _ h => ⟨h.1, H'.keepU h.2⟩) ?_
 refine qy 6 15 false 21 (.bool (!(decide ((S.length : Int) = (2 * f + 1))))) <| qv 22 (.bool (!(decide ((S.length : Int) = (2 * f + 1))))) <| Z01 fun w17 H18 => ?_
 apply ztn
 refine (ZY (!(decide ((S.length : Int) = (2 * f + 1))))).elim (fun b19 => ?_) (fun b19 => ?_)
 ·have g20 := Z7 b19
  have g21 := of_decide_eq_false g20
  refine Z48 _ b19 ?_
  refine zsl <| wv 6 (.bool false) <| znt <| Zk <| Z4 <| ze1 (.bool false) ?_
  have n24 := Z2 b9
  have n25 := Z7 b19
  exact ⟨by simp only [Z0z, n24, n25, bls], H18.upd 0 rfl [] ne⟩
 have g26 := Z2 b19
 have g27 := of_decide_eq_true g26
 refine Z3L _ b19 ?_
 refine Zp <| ztn <| Z9 <| zsl <| wv 23 (pt b6 37) <| zw1 24 (.slice sa S.length sc) (H18.cell 2 rfl kr) <| wv 25 (vi S.length) <| wv 26 (vi 0) <| znt <| Zh ?_
 have n30 := Z2 b9
 have n31 := Z2 b19
 refine ZB ([6, 7, 8] ++ List.range' 26 41) (fun F_ W_ m_ => ∃ (i : Nat), F_ 26 = (vi i) ∧ (i ≤ S.length) ∧ (∀ j, j < i → Z3E f L x S j = true) ∧ Sat w [zR w, Z0 b2 29 (Z1i f cn), Z0 b6 76 (ZbY x sa S.length sc)] W_ ∧ m_ = S.length - i) _ ⟨0, (show ((vi 0) : Value) = _ by first | rfl | go_num), (Nat.zero_le _), (fun _ h => absurd h (Nat.not_lt_zero _)), H18, rfl⟩ ?_
 rintro g32 w33 _ ⟨i, v35, hi, hall, H34, rfl⟩
 refine Zn 26 _ v35 ?_
 refine zsl <| wv 27 (.bool (decide ((i : Int) < S.length))) <| znt <| Z9 ?_
 refine zid (fun b37 g38 => ?_) fun b37 g138 => ?_
 ·refine Zp <| ztn <| Z9 <| Zh <| zsl <| wv 28 (vi i) ?_
  obtain ⟨g40, o41, c42, e43, R44⟩ := SliceOf.atD hS Zl (show i < S.length by omega)
  refine wv 29 (.pointer (some ⟨g40, o41 + ((i : Int)).toNat * 38, none⟩)) ?_ (hr := Z8 (E := 149) kr kr kn rfl e43 rfl om om)
  let A2 : Value := .agg ⟨(Z3R (S.getD i Zl))⟩
  refine wv 30 A2 ?_ (hr := ZX (vs := (Z3R (S.getD i Zl))) rfl kr kr kn (H34.runR 0 rfl (Z08 R44 0 kr (show o41 + ((i : Int)).toNat * 38 = o41 + i * 38 + 0 by omega)) (fun h => h)))
  refine zy <| zda (ZeO) H34 fun b46 w47 H48 => ?_
  refine kk <| wv 7 (vi i) <| zy <| Z1S (Z3R (S.getD i Zl)) H48 3 fun w50 H51 => ?_
  refine kk <| znt <| Z9 <| Z9 <| zqs H51 ?_
  refine qv 31 (vi i) <| qv 32 (.bool (decide ((i : Int) > 0))) <| qv 33 (.bool (decide ((i : Int) > 0))) ?_
  let A0 : Value := .bool (!(Z1w f L (S.getD i Zl)))
  let A3 : Value := .agg ⟨(hc (S.getD i Zl).h)⟩
  refine ziq 33 (fun b53 g54 => ?_) fun b53 g101 => ?_
  ·refine qy 2 33 true 34 (pt b46 0) <| qy 2 33 true 35 (vi ((S.getD i Zl).r)) ?_ (hr := fun _ H' => (zl1 (H'.cell 3 rfl kr)))
   refine qy 2 33 true 36 (pt b6 37) <| qy 2 33 true 37 (.slice sa S.length sc) ?_ (hr := fun _ H' => (zl1 (H'.cell 2 rfl kr)))
   refine qy 2 33 true 38 (vi i) <| qy 2 33 true 39 (vi ((i : Int) - 1)) ?_ (hr := fun _ H' => (Z0A (z := (i : Int) - 1) kr (IntWalk.i64_in _ om)))
   obtain ⟨g56, o57, c58, e59, R60⟩ := SliceOf.atD hS Zl (show ((i : Int) - 1).toNat < S.length by omega)
   refine qy 2 33 true 40 (.pointer (some ⟨g56, o57 + ((i : Int) - 1).toNat * 38, none⟩)) ?_ (hr := fun _ H' => (Z8 (E := 149) kr kr kn rfl e59 rfl om om))
   refine qy 2 33 true 41 (.pointer (some ⟨g56, o57 + ((i : Int) - 1).toNat * 38, none⟩)) <| qy 2 33 true 42 (vi ((S.getD ((i : Int) - 1).toNat Zl).r)) ?_ (hr := fun _ H' => (zl1 (H'.cellR 0 rfl (Z0f R60 0 kr (show o57 + ((i : Int) - 1).toNat * 38 = o57 + ((i : Int) - 1).toNat * 38 + 0 by omega)) (fun h => h))))
   refine qy 2 33 true 43 (.bool (decide (((S.getD i Zl).r) ≤ ((S.getD ((i : Int) - 1).toNat Zl).r)))) <| qv 44 (.bool (decide (((S.getD i Zl).r) ≤ ((S.getD ((i : Int) - 1).toNat Zl).r)))) <| Z01 fun w61 H62 => ?_
   apply ztn
   refine zid (fun b63 g64 => ?_) fun b63 g66 => ?_
   ·refine zsl <| wv 6 (.bool false) <| znt <| Zk <| Z4 <| Zf <| Z4 <| Zs <| Zf <| Z4 ?_
    refine ze1 (.bool false) ?_
    have e1 : ((i : Int) - 1).toNat = i - 1 := by omega
    have ho : Z3E f L x S i = false := by unfold Z3E Z2y; rw [← e1]; simp only [b37, b53, b63, bls]
    exact ⟨by simp only [Z0z, ZP (show i < S.length by omega) ho, Bool.and_false], H62.upd 0 rfl [] ne⟩
   refine Zp <| ztn <| zsl <| wv 45 (pt b46 1) <| zwN 46 (Zcu (S.getD i Zl)) (H62.at 3 rfl) <| wv 47 (pt b6 0) <| wv 48 (pt b6 0) <| zwN 49 (Z1i x.cl x.seq) (H62.at 2 rfl) <| wv 50 (.bool (!(decide (((S.getD i Zl).cl) = x.cl ∧ ((S.getD i Zl).seq) = x.seq)))) ?_ (hr := Z56 ((S.getD i Zl).cl) ((S.getD i Zl).seq) x.cl x.seq rfl rfl)
   refine wv 51 (.bool (!(decide (((S.getD i Zl).cl) = x.cl ∧ ((S.getD i Zl).seq) = x.seq)))) ?_
   refine (ZY (!(decide (((S.getD i Zl).cl) = x.cl ∧ ((S.getD i Zl).seq) = x.seq)))).elim (fun b68 => ?_) (fun b68 => ?_)
   ·have g69 := Z7 b68
    refine Z1Q 51 (.bool true) (congrArg Value.bool b68) ?_
    iterate 6 refine wn 6 51 false ?_
    refine wv 58 (.bool true) <| wv 59 (.bool true) ?_
    iterate 5 refine wn 14 59 false ?_
    refine wv 65 (.bool true) <| znt <| Z06 rfl ?_
    refine zsl <| wv 6 (.bool false) <| znt <| Zk <| Zf <| Z4 <| Zs <| Zf <| Z4 <| ze1 (.bool false) ?_
    have n71 := Z7 b68
    have e1 : ((i : Int) - 1).toNat = i - 1 := by omega
    have ho : Z3E f L x S i = false := by unfold Z3E Z2y; rw [← e1]; simp only [b37, b53, b63, n71, bls]
    exact ⟨by simp only [Z0z, ZP (show i < S.length by omega) ho, Bool.and_false], H62.upd 0 rfl [] ne⟩
   have g72 := Z2 b68
   refine Z1Q 51 (.bool false) (congrArg Value.bool b68) ?_
   refine wy 6 51 false 52 (pt b46 3) <| wy 6 51 false 53 A3 ?_ (hr := zlN (vs := (hc (S.getD i Zl).h)) (H62.at 3 rfl))
   refine wy 6 51 false 54 (pt b6 0) <| wy 6 51 false 55 (pt b6 2) <| wy 6 51 false 56 (.agg ⟨(hc x.h)⟩) ?_ (hr := zlN (vs := (hc x.h)) (H62.at 2 rfl))
   refine wy 6 51 false 57 (.bool (!(decide (((S.getD i Zl).h) = x.h)))) ?_ (hr := Z5t ((S.getD i Zl).h) x.h rfl rfl)
   refine wv 58 (.bool (!(decide (((S.getD i Zl).h) = x.h)))) <| wv 59 (.bool (!(decide (((S.getD i Zl).h) = x.h)))) ?_
   refine (ZY (!(decide (((S.getD i Zl).h) = x.h)))).elim (fun b74 => ?_) (fun b74 => ?_)
   ·have g75 := Z7 b74
    have g76 := of_decide_eq_false g75
    refine Z1Q 59 (.bool true) (congrArg Value.bool b74) ?_
    iterate 5 refine wn 14 59 false ?_
    refine wv 65 (.bool true) <| znt <| Z06 rfl ?_
    refine zsl <| wv 6 (.bool false) <| znt <| Zk <| Zf <| Z4 <| Zs <| Zf <| Z4 <| ze1 (.bool false) ?_
    have n79 := Z2 b68
    have n80 := Z7 b74
    have e1 : ((i : Int) - 1).toNat = i - 1 := by omega
    have ho : Z3E f L x S i = false := by unfold Z3E Z2y; rw [← e1]; simp only [b37, b53, b63, n79, n80, bls]
    exact ⟨by simp only [Z0z, ZP (show i < S.length by omega) ho, Bool.and_false], H62.upd 0 rfl [] ne⟩
   have g81 := Z2 b74
   have g82 := of_decide_eq_true g81
   refine Z1Q 59 (.bool false) (congrArg Value.bool b74) ?_
   refine wy 14 59 false 60 A1 ?_ (hr := zlN (vs := (Z1i f cn)) (H62.at 1 rfl))
   refine wy 14 59 false 61 (pt b 0) <| wy 14 59 false 62 A2 ?_ (hr := zlN (vs := (Z3R (S.getD i Zl))) (H62.at 3 rfl))
   refine Z6R (Z05 14 59 false rfl kr rfl kr) (fun Kq kq => ?_)
   refine zdq 63 (Z6A w61 f cn om b mb L (H62.roCk 0 rfl hb (fun _ _ h => h)) (H62.roMap 0 rfl hm (fun h => h)) (S.getD i Zl) (hok _ om)) H62 ?_
   intro w86 H87
   refine kq _ _ <| wy 14 59 false 64 A0 <| wv 65 A0 <| znt ?_
   refine (ZY (!(Z1w f L (S.getD i Zl)))).elim (fun b89 => ?_) (fun b89 => ?_)
   ·have g90 := Z7 b89
    refine Z48 _ b89 ?_
    refine zsl <| wv 6 (.bool false) <| znt <| Zk <| Zf <| Z4 <| Zs <| Zf <| Z4 <| ze1 (.bool false) ?_
    have n92 := Z2 b68
    have n93 := Z2 b74
    have n94 := Z7 b89
    have e1 : ((i : Int) - 1).toNat = i - 1 := by omega
    have ho : Z3E f L x S i = false := by unfold Z3E Z2y; rw [← e1]; simp only [b37, b53, b63, n92, n93, n94, bls]
    exact ⟨by simp only [Z0z, ZP (show i < S.length by omega) ho, Bool.and_false], H87.upd 0 rfl [] ne⟩
   have g95 := Z2 b89
   refine Z3L _ b89 ?_
   refine Zp <| Z6 <| ztn <| ZG <| zwi 66 ((i : Int) + 1) <| wv 26 (vi ((i : Int) + 1)) <| ZL ?_
   have n97 := Z2 b68
   have n98 := Z2 b74
   have n99 := Z2 b89
   have e1 : ((i : Int) - 1).toNat = i - 1 := by omega
   have ho : Z3E f L x S i = true := by unfold Z3E Z2y; rw [← e1]; simp only [b37, b53, b63, n97, n98, n99, bls]
   have H100 := H87.pk [0, 1, 2]
   refine Za ?_ _ ⟨(i + 1), rfl, om, (fun j hj => by rcases Nat.lt_or_ge j i with h | h; exact hall j h; rw [show j = i by omega]; exact ho), H100, rfl⟩ om
   exact zs
  iterate 10 refine qn 2 33 true ?_
  refine qv 44 (.bool false) <| Z01 fun w103 H104 => ?_
  refine ztn <| Z2h rfl ?_
  refine Zp <| ztn <| zsl <| wv 45 (pt b46 1) <| zwN 46 (Zcu (S.getD i Zl)) (H104.at 3 rfl) <| wv 47 (pt b6 0) <| wv 48 (pt b6 0) <| zwN 49 (Z1i x.cl x.seq) (H104.at 2 rfl) <| wv 50 (.bool (!(decide (((S.getD i Zl).cl) = x.cl ∧ ((S.getD i Zl).seq) = x.seq)))) ?_ (hr := Z56 ((S.getD i Zl).cl) ((S.getD i Zl).seq) x.cl x.seq rfl rfl)
  refine wv 51 (.bool (!(decide (((S.getD i Zl).cl) = x.cl ∧ ((S.getD i Zl).seq) = x.seq)))) ?_
  refine (ZY (!(decide (((S.getD i Zl).cl) = x.cl ∧ ((S.getD i Zl).seq) = x.seq)))).elim (fun b105 => ?_) (fun b105 => ?_)
  ·have g106 := Z7 b105
   refine Z1Q 51 (.bool true) (congrArg Value.bool b105) ?_
   iterate 6 refine wn 6 51 false ?_
   refine wv 58 (.bool true) <| wv 59 (.bool true) ?_
   iterate 5 refine wn 14 59 false ?_
   refine wv 65 (.bool true) <| znt <| Z06 rfl ?_
   refine zsl <| wv 6 (.bool false) <| znt <| Zk <| Zf <| Z4 <| Zs <| Zf <| Z4 <| ze1 (.bool false) ?_
   have n108 := Z7 b105
   have e1 : ((i : Int) - 1).toNat = i - 1 := by omega
   have ho : Z3E f L x S i = false := by unfold Z3E Z2y; rw [← e1]; simp only [b37, b53, n108, bls]
   exact ⟨by simp only [Z0z, ZP (show i < S.length by omega) ho, Bool.and_false], H104.upd 0 rfl [] ne⟩
  have g109 := Z2 b105
  refine Z1Q 51 (.bool false) (congrArg Value.bool b105) ?_
  refine wy 6 51 false 52 (pt b46 3) <| wy 6 51 false 53 A3 ?_ (hr := zlN (vs := (hc (S.getD i Zl).h)) (H104.at 3 rfl))
  refine wy 6 51 false 54 (pt b6 0) <| wy 6 51 false 55 (pt b6 2) <| wy 6 51 false 56 (.agg ⟨(hc x.h)⟩) ?_ (hr := zlN (vs := (hc x.h)) (H104.at 2 rfl))
  refine wy 6 51 false 57 (.bool (!(decide (((S.getD i Zl).h) = x.h)))) ?_ (hr := Z5t ((S.getD i Zl).h) x.h rfl rfl)
  refine wv 58 (.bool (!(decide (((S.getD i Zl).h) = x.h)))) <| wv 59 (.bool (!(decide (((S.getD i Zl).h) = x.h)))) ?_
  refine (ZY (!(decide (((S.getD i Zl).h) = x.h)))).elim (fun b111 => ?_) (fun b111 => ?_)
  ·have g112 := Z7 b111
   have g113 := of_decide_eq_false g112
   refine Z1Q 59 (.bool true) (congrArg Value.bool b111) ?_
   iterate 5 refine wn 14 59 false ?_
   refine wv 65 (.bool true) <| znt <| Z06 rfl ?_
   refine zsl <| wv 6 (.bool false) <| znt <| Zk <| Zf <| Z4 <| Zs <| Zf <| Z4 <| ze1 (.bool false) ?_
   have n116 := Z2 b105
   have n117 := Z7 b111
   have e1 : ((i : Int) - 1).toNat = i - 1 := by omega
   have ho : Z3E f L x S i = false := by unfold Z3E Z2y; rw [← e1]; simp only [b37, b53, n116, n117, bls]
   exact ⟨by simp only [Z0z, ZP (show i < S.length by omega) ho, Bool.and_false], H104.upd 0 rfl [] ne⟩
  have g118 := Z2 b111
  have g119 := of_decide_eq_true g118
  refine Z1Q 59 (.bool false) (congrArg Value.bool b111) ?_
  refine wy 14 59 false 60 A1 ?_ (hr := zlN (vs := (Z1i f cn)) (H104.at 1 rfl))
  refine wy 14 59 false 61 (pt b 0) <| wy 14 59 false 62 A2 ?_ (hr := zlN (vs := (Z3R (S.getD i Zl))) (H104.at 3 rfl))
  refine Z6R (Z05 14 59 false rfl kr rfl kr) (fun Kq kq => ?_)
  refine zdq 63 (Z6A w103 f cn om b mb L (H104.roCk 0 rfl hb (fun _ _ h => h)) (H104.roMap 0 rfl hm (fun h => h)) (S.getD i Zl) (hok _ om)) H104 ?_
  intro w123 H124
  refine kq _ _ <| wy 14 59 false 64 A0 <| wv 65 A0 <| znt ?_
  refine (ZY (!(Z1w f L (S.getD i Zl)))).elim (fun b126 => ?_) (fun b126 => ?_)
  ·have g127 := Z7 b126
   refine Z48 _ b126 ?_
   refine zsl <| wv 6 (.bool false) <| znt <| Zk <| Zf <| Z4 <| Zs <| Zf <| Z4 <| ze1 (.bool false) ?_
   have n129 := Z2 b105
   have n130 := Z2 b111
   have n131 := Z7 b126
   have e1 : ((i : Int) - 1).toNat = i - 1 := by omega
   have ho : Z3E f L x S i = false := by unfold Z3E Z2y; rw [← e1]; simp only [b37, b53, n129, n130, n131, bls]
   exact ⟨by simp only [Z0z, ZP (show i < S.length by omega) ho, Bool.and_false], H124.upd 0 rfl [] ne⟩
  have g132 := Z2 b126
  refine Z3L _ b126 ?_
  refine Zp <| Z6 <| ztn <| ZG <| zwi 66 ((i : Int) + 1) <| wv 26 (vi ((i : Int) + 1)) <| ZL ?_
  have n134 := Z2 b105
  have n135 := Z2 b111
  have n136 := Z2 b126
  have e1 : ((i : Int) - 1).toNat = i - 1 := by omega
  have ho : Z3E f L x S i = true := by unfold Z3E Z2y; rw [← e1]; simp only [b37, b53, n134, n135, n136, bls]
  have H137 := H124.pk [0, 1, 2]
  refine Za ?_ _ ⟨(i + 1), rfl, om, (fun j hj => by rcases Nat.lt_or_ge j i with h | h; exact hall j h; rw [show j = i by omega]; exact ho), H137, rfl⟩ om
  exact zs
 refine zxb <| ztn <| zsl <| wv 6 (.bool true) <| znt <| Zk <| ze1 (.bool true) ?_
 have hn0 : i = S.length := by omega
 subst hn0
 exact ⟨by simp only [Z0z, Z1r hall, n30, n31, bls], H34.upd 0 rfl [] ne⟩
end Go.Proofs.YtenihpghfdcpkaaGreat
