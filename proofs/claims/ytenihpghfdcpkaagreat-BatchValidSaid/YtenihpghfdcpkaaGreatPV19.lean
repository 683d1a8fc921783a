/- WHAT IS PROVED: contracts and plain laws of Rg2t. Conditions: stated with each. -/
import Derived.Test.YtenihpghfdcpkaaGreatPV02
import Derived.Test.YtenihpghfdcpkaaGreatPV05
import Derived.Test.YtenihpghfdcpkaaGreatPV07
import Derived.Test.YtenihpghfdcpkaaGreatPV16
import Derived.Test.YtenihpghfdcpkaaGreatPV18
set_option maxHeartbeats 4000000
set_option maxRecDepth 100000
namespace Go.Proofs.YtenihpghfdcpkaaGreat
open Go.RowKit
abbrev Z1j (p0 : Int) (p1 : Int) : List Value := ([i6 p0, i6 p1] : LV)
abbrev Z3B (p0 : Zj) : List Value := ([i6 p0.cl, i6 p0.seq] : LV) ++ hc p0.h ++ ([i6 p0.len, i6 p0.sb, i6 p0.sm] : LV)
abbrev Z3T (p0 : Zb) : List Value := ([i6 p0.r, i6 p0.cl, i6 p0.seq] : LV) ++ hc p0.h ++ ([u6 p0.t, i6 p0.sb, i6 p0.sm] : LV)
abbrev Zc2 (p0 : Zj) (p1 : Option Addr) (p2 : Nat) (p3 : Nat) : List Value := ([i6 p0.cl, i6 p0.seq] : LV) ++ hc p0.h ++ ([i6 p0.len, i6 p0.sb, i6 p0.sm, (.slice p1 p2 p3)] : LV)
abbrev ZeV : List Value := ([i6 0, i6 0, i6 0] : LV) ++ hc Zz ++ ([u6 0, i6 0, i6 0] : LV)
abbrev Z9G (p0 : Zb) : List Value := ([i6 p0.cl, i6 p0.seq] : LV)
theorem Z3S (w : World) (r : Nat) (ra : Option Addr) (rc : Nat) (L : List Signed) (hb : (Z0 r 165 [.slice ra L.length rc]).ok w) (hr : (Zo 181 2 (.slice ra L.length rc) L.length (L.flatMap Z47)).ok w) (hn : L.Nodup) (hL : L.length ≤ 1000000) (ta : Option Addr) (tc : Nat) (tx : List UInt8) (ht : ListAt Zx 1 w (.slice ta tx.length tc) tx) (p m : Int) :
  Calls Tryz.prog 109 #[zp r, (.agg ⟨([i6 p, i6 m] : LV)⟩), (.slice ta tx.length tc)] w fun e w' => e = .returned (.bool (Z0B L p m tx)) ∧ Upd [] w w' := by
 have H := Sat.start0 w
 refine Zg Tryz.func109 rfl 50 rfl kn ?_
 refine zsl <| zy <| zdb (Z1j p m) H fun b2 w3 H4 => ?_
 let A0 : Value := .bool false
 refine kk <| wv 6 A0 <| znt <| Z9 <| zqs H4 ?_
 refine qv 7 (pt b2 1) <| qv 8 (vi m) ?_ (hr := fun _ H' => (zl1 (H'.cell 1 rfl rfl)))
 refine qv 9 (.bool (decide (m ≥ 1))) <| qv 10 (.bool (decide (m ≥ 1))) ?_
 refine ziq 10 (fun b5 g6 => ?_) fun b5 g29 => ?_
 ·refine qy 3 10 true 11 (pt b2 1) <| qy 3 10 true 12 (vi m) ?_ (hr := fun _ H' => (zl1 (H'.cell 1 rfl rfl)))
  let A5 : Value := .slice ra L.length rc
  refine qy 3 10 true 13 (pt r 0) <| qy 3 10 true 14 (pt r 0) <| qy 3 10 true 15 (pt r 0) <| qy 3 10 true 16 A5 ?_ (hr := fun _ H' => (zl1 (H'.roCell 0 rfl hb (fun h => h) rfl)))
  refine Z4a (Z05 3 10 true rfl kr rfl kr) (d := 17) (v := (vi L.length)) rfl (fun _ H' => kr) ?_
  let A3 : Value := .bool (decide (m ≤ (L.length : Int)))
  refine qy 3 10 true 18 A3 <| qv 19 A3 <| qv 20 A3 ?_
  refine ziq 20 (fun b8 g9 => ?_) fun b8 g25 => ?_
  ·refine qy 13 20 true 21 (pt r 0) <| qy 13 20 true 22 (pt r 0) <| qy 13 20 true 23 (pt r 0) <| qy 13 20 true 24 A5 ?_ (hr := fun _ H' => (zl1 (H'.roCell 0 rfl hb (fun h => h) rfl)))
   refine qy 13 20 true 25 (pt b2 1) <| qy 13 20 true 26 (vi m) ?_ (hr := fun _ H' => (zl1 (H'.cell 1 rfl rfl)))
   refine qy 13 20 true 27 (vi (m - 1)) ?_ (hr := fun _ H' => (Z0A (z := m - 1) kr (IntWalk.i64_in _ om)))
   obtain ⟨g11, c12, e13⟩ := Z1A hr om
   obtain ⟨x14, h15⟩ := Z2P (show (m - 1).toNat < L.length by omega)
   let A1 : Value := .pointer (some ⟨g11, 0 + (m - 1).toNat * 2, none⟩)
   refine qy 13 20 true 28 A1 ?_ (hr := fun _ H' => (Z1e (E := 181) kr kr kn rfl e13 rfl om om))
   refine qy 13 20 true 29 A1 <| qy 13 20 true 30 (vi x14.p) ?_ (hr := fun _ H' => (zl1 (Z1U (H'.roCk 0 rfl hr (fun _ _ h => h)) e13 Z66 h15 0 rfl (show 0 + (m - 1).toNat * 2 = (m - 1).toNat * 2 + 0 by omega) kr)))
   refine qy 13 20 true 31 (pt b2 0) <| qy 13 20 true 32 (vi p) ?_ (hr := fun _ H' => (zl1 (H'.cell 1 rfl rfl)))
   let A4 : Value := .bool (decide (x14.p = p))
   refine qy 13 20 true 33 A4 <| qv 34 A4 <| qv 35 A4 ?_
   refine ziq 35 (fun b16 g17 => ?_) fun b16 g21 => ?_
   ·refine qy 28 35 true 36 (pt r 0) <| qy 28 35 true 37 (pt r 0) <| qy 28 35 true 38 (pt r 0) <| qy 28 35 true 39 A5 ?_ (hr := fun _ H' => (zl1 (H'.roCell 0 rfl hb (fun h => h) rfl)))
    refine qy 28 35 true 40 (pt b2 1) <| qy 28 35 true 41 (vi m) ?_ (hr := fun _ H' => (zl1 (H'.cell 1 rfl rfl)))
    refine qy 28 35 true 42 (vi (m - 1)) ?_ (hr := fun _ H' => (Z0A (z := m - 1) kr (IntWalk.i64_in _ om)))
    refine qy 28 35 true 43 A1 ?_ (hr := fun _ H' => (Z1e (E := 181) kr kr kn rfl e13 rfl om om))
    refine qy 28 35 true 44 (.pointer (some ⟨g11, 0 + (m - 1).toNat * 2 + 1, none⟩)) <| qy 28 35 true 45 (Z5l x14.s) ?_ (hr := fun _ H' => (zl1 (Z1U (H'.roCk 0 rfl hr (fun _ _ h => h)) e13 Z66 h15 1 rfl (show 0 + (m - 1).toNat * 2 + 1 = (m - 1).toNat * 2 + 1 by omega) kr)))
    refine qy 28 35 true 46 (.slice ta tx.length tc) <| qy 28 35 true 47 (Z5l tx) ?_ (hr := fun _ H' => (Z2G (e := 5) (s := tx) kr kr kr rfl (Z25 (ListAt.now H' 0 rfl ht))))
    let A2 : Value := .bool (decide (x14.s = tx))
    refine qy 28 35 true 48 A2 ?_ (hr := fun _ H' => (Zbu x14.s tx rfl rfl))
    refine qv 49 A2 <| qv 6 A2 <| Z01 fun w19 H20 => ?_
    refine ztn <| Zk <| ze1 A2 ?_
    have hb : Z0B L p m tx = (decide (x14.s = tx)) := by
      rw [Bool.eq_iff_iff, Z5j hn, decide_eq_true_eq]
      have hp := of_decide_eq_true b16
      constructor
      ·rintro ⟨i, h1, h2⟩
       have h3 := h15
       rw [show (m - 1).toNat = i by omega, h1] at h3
       cases h3; rfl
      intro h
      exact ⟨(m - 1).toNat, by rw [h15, ← hp, ← h], by omega⟩
    exact ⟨by rw [hb], H20.upd 0 rfl [] ne⟩
   iterate 13 refine qn 28 35 true ?_
   refine qv 49 A0 <| qv 6 A0 <| Z01 fun w23 H24 => ?_
   refine ztn <| Zk <| ze1 A0 ?_
   have hb : Z0B L p m tx = false := Bool.eq_false_iff.2 fun h => by
     obtain ⟨i, h1, h2⟩ := (Z5j hn).1 h
     have h3 := h15
     rw [show (m - 1).toNat = i by omega, h1] at h3
     cases h3
     exact absurd rfl (of_decide_eq_false b16)
   exact ⟨by rw [hb], H24.upd 0 rfl [] ne⟩
  iterate 13 refine qn 13 20 true ?_
  refine qv 34 A0 <| qv 35 A0 ?_
  iterate 13 refine qn 28 35 true ?_
  refine qv 49 A0 <| qv 6 A0 <| Z01 fun w27 H28 => ?_
  refine ztn <| Zk <| ze1 A0 ?_
  have hb : Z0B L p m tx = false := Bool.eq_false_iff.2 fun h => by
    obtain ⟨i, h1, h2⟩ := (Z5j hn).1 h
    have h3 := (List.getElem?_eq_some_iff.1 h1).1
    omega
  exact ⟨by rw [hb], H28.upd 0 rfl [] ne⟩
 iterate 8 refine qn 3 10 true ?_
 refine qv 19 A0 <| qv 20 A0 ?_
 iterate 13 refine qn 13 20 true ?_
 refine qv 34 A0 <| qv 35 A0 ?_
 iterate 13 refine qn 28 35 true ?_
 refine qv 49 A0 <| qv 6 A0 <| Z01 fun w31 H32 => ?_
 refine ztn <| Zk <| ze1 A0 ?_
 have hb : Z0B L p m tx = false := Bool.eq_false_iff.2 fun h => by
   obtain ⟨i, h1, h2⟩ := (Z5j hn).1 h
   have h3 := (List.getElem?_eq_some_iff.1 h1).1
   omega
 exact ⟨by rw [hb], H32.upd 0 rfl [] ne⟩
theorem Z7o (w : World) (f cn : Int) (hf : -1099511627776 ≤ f ∧ f ≤ 1099511627776) :
  Calls Tryz.prog 31 #[(.agg ⟨([i6 f, i6 cn] : LV)⟩)] w fun e w' => e = .returned (i6 (3 * f + 1)) ∧ Upd [] w w' := by
 have H := Sat.start0 w
 refine Zg Tryz.func31 rfl 7 rfl kn ?_
 refine zsl <| zy <| zdb (Z1j f cn) H fun b2 w3 H4 => ?_
 refine kk <| wv 2 (vi 0) <| Z1a <| wv 3 (pt b2 0) <| zw1 4 (vi f) (H4.cell 1 rfl rfl) <| zwi 5 (3 * f) <| zwi 6 ((3 * f) + 1) <| wv 2 (vi ((3 * f) + 1)) <| znt <| Zk ?_
 refine ze1 (vi ((3 * f) + 1)) ?_
 exact ⟨rfl, H4.upd 0 rfl [] ne⟩
theorem Z5R (w : World) (f cn : Int) (hf : -1099511627776 ≤ f ∧ f ≤ 1099511627776) :
  Calls Tryz.prog 39 #[(.agg ⟨([i6 f, i6 cn] : LV)⟩)] w fun e w' => e = .returned (i6 (2 * f + 1)) ∧ Upd [] w w' := by
 have H := Sat.start0 w
 refine Zg Tryz.func39 rfl 7 rfl kn ?_
 refine zsl <| zy <| zdb (Z1j f cn) H fun b2 w3 H4 => ?_
 refine kk <| wv 2 (vi 0) <| Z1a <| wv 3 (pt b2 0) <| zw1 4 (vi f) (H4.cell 1 rfl rfl) <| zwi 5 (2 * f) <| zwi 6 ((2 * f) + 1) <| wv 2 (vi ((2 * f) + 1)) <| znt <| Zk ?_
 refine ze1 (vi ((2 * f) + 1)) ?_
 exact ⟨rfl, H4.upd 0 rfl [] ne⟩
theorem Zb1 (w : World) (f cn : Int) (x : Zj) :
  Calls Tryz.prog 146 #[(.agg ⟨([i6 f, i6 cn] : LV)⟩), (.agg ⟨(([i6 x.cl, i6 x.seq] : LV) ++ hc x.h ++ ([i6 x.len, i6 x.sb, i6 x.sm] : LV))⟩)] w fun e w' => e = .returned (.bool (Z14 cn x)) ∧ Upd [] w w' := by
 have H := Sat.start0 w
 refine Zg Tryz.func146 rfl 39 rfl kn ?_
 refine zsl <| zy <| zdb (Z1j f cn) H fun b2 w3 H4 => ?_
 refine kk <| zy <| zdb (Z3B x) H4 fun b6 w7 H8 => ?_
 let A0 : Value := .bool false
 refine kk <| wv 4 A0 <| znt ?_
 refine Z1J (List.range' 4 35) (fun G_ W_ => G_ 4 = (.bool (Z14 cn x)) ∧ Sat w [zR w, Z0 b2 29 (Z1j f cn), Z0 b6 73 (Z3B x)] W_) ?_ ?_
 ·refine ZG <| wv 5 (pt b6 0) <| wv 6 (pt b6 0) <| zw1 7 (vi x.cl) (H8.cell 2 rfl kr) <| wv 8 (.bool (decide (x.cl ≥ 0))) <| wv 9 (.bool (decide (x.cl ≥ 0))) ?_
  refine zil 9 (fun b10 g11 => ?_) fun b10 g24 => ?_
  ·refine wy 4 9 true 10 (pt b6 0) <| wy 4 9 true 11 (pt b6 0) <| wy 4 9 true 12 (vi x.cl) ?_ (hr := zl1 (H8.cell 2 rfl kr))
   refine wy 4 9 true 13 (pt b2 1) <| wy 4 9 true 14 (vi cn) ?_ (hr := zl1 (H8.cell 1 rfl rfl))
   let A5 : Value := .bool (decide (x.cl < cn))
   refine wy 4 9 true 15 A5 <| wv 16 A5 <| wv 17 A5 ?_
   refine zil 17 (fun b12 g13 => ?_) fun b12 g23 => ?_
   ·refine wy 12 17 true 18 (pt b6 0) <| wy 12 17 true 19 (pt b6 1) <| wy 12 17 true 20 (vi x.seq) ?_ (hr := zl1 (H8.cell 2 rfl kr))
    let A3 : Value := .bool (decide (x.seq ≥ 1))
    refine wy 12 17 true 21 A3 <| wv 22 A3 <| wv 23 A3 ?_
    refine zil 23 (fun b14 g15 => ?_) fun b14 g21 => ?_
    ·refine wy 18 23 true 24 (pt b6 0) <| wy 18 23 true 25 (pt b6 1) <| wy 18 23 true 26 (vi x.seq) ?_ (hr := zl1 (H8.cell 2 rfl kr))
     let A1 : Value := .bool (decide (x.seq ≤ 1048576))
     refine wy 18 23 true 27 A1 <| wv 28 A1 <| wv 29 A1 ?_
     refine zil 29 (fun b16 g17 => ?_) fun b16 g21 => ?_
     ·refine wy 24 29 true 30 (pt b6 34) <| wy 24 29 true 31 (vi x.len) ?_ (hr := zl1 (H8.cell 2 rfl kr))
      let A4 : Value := .bool (decide (x.len ≥ 0))
      refine wy 24 29 true 32 A4 <| wv 33 A4 <| wv 34 A4 ?_
      refine zil 34 (fun b18 g19 => ?_) fun b18 g20 => ?_
      ·refine wy 29 34 true 35 (pt b6 34) <| wy 29 34 true 36 (vi x.len) ?_ (hr := zl1 (H8.cell 2 rfl kr))
       let A2 : Value := .bool (decide (x.len ≤ 256))
       refine wy 29 34 true 37 A2 <| wv 38 A2 <| wv 4 A2 <| ZL <| ZH ?_ ⟨(congrArg Value.bool (show (decide (x.len ≤ 256)) = (Z14 cn x) by simp [Z14, b10, b12, b14, b16, b18])), H8⟩
       exact zs
      iterate 3 refine wn 29 34 true ?_
      refine wv 38 A0 <| wv 4 A0 <| ZL <| ZH ?_ ⟨(congrArg Value.bool (show false = (Z14 cn x) by simp [Z14, b10, b12, b14, b16, b18])), H8⟩
      exact zs
     iterate 3 refine wn 24 29 true ?_
     refine wv 33 A0 <| wv 34 A0 ?_
     iterate 3 refine wn 29 34 true ?_
     refine wv 38 A0 <| wv 4 A0 <| ZL <| ZH ?_ ⟨(congrArg Value.bool (show false = (Z14 cn x) by simp [Z14, b10, b12, b14, b16])), H8⟩
     exact zs
    iterate 4 refine wn 18 23 true ?_
    refine wv 28 A0 <| wv 29 A0 ?_
    iterate 3 refine wn 24 29 true ?_
    refine wv 33 A0 <| wv 34 A0 ?_
    iterate 3 refine wn 29 34 true ?_
    refine wv 38 A0 <| wv 4 A0 <| ZL <| ZH ?_ ⟨(congrArg Value.bool (show false = (Z14 cn x) by simp [Z14, b10, b12, b14])), H8⟩
    exact zs
   iterate 4 refine wn 12 17 true ?_
   refine wv 22 A0 <| wv 23 A0 ?_
   iterate 4 refine wn 18 23 true ?_
   refine wv 28 A0 <| wv 29 A0 ?_
   iterate 3 refine wn 24 29 true ?_
   refine wv 33 A0 <| wv 34 A0 ?_
   iterate 3 refine wn 29 34 true ?_
   refine wv 38 A0 <| wv 4 A0 <| ZL <| ZH ?_ ⟨(congrArg Value.bool (show false = (Z14 cn x) by simp [Z14, b10, b12])), H8⟩
   exact zs
  iterate 6 refine wn 4 9 true ?_
  refine wv 16 A0 <| wv 17 A0 ?_
  iterate 4 refine wn 12 17 true ?_
  refine wv 22 A0 <| wv 23 A0 ?_
  iterate 4 refine wn 18 23 true ?_
  refine wv 28 A0 <| wv 29 A0 ?_
  iterate 3 refine wn 24 29 true ?_
  refine wv 33 A0 <| wv 34 A0 ?_
  iterate 3 refine wn 29 34 true ?_
  refine wv 38 A0 <| wv 4 A0 <| ZL <| ZH ?_ ⟨(congrArg Value.bool (show false = (Z14 cn x) by simp [Z14, b10])), H8⟩
  exact zs
 rintro f25 w26 ⟨v28, H27⟩
 refine Zn 4 _ v28 ?_
 refine Zk <| ze1 (.bool (Z14 cn x)) ?_
 exact ⟨rfl, H27.upd 0 rfl [] ne⟩
theorem Za2 (w : World) (f cn : Int) (hf : -1099511627776 ≤ f ∧ f ≤ 1099511627776) (r : Nat) (ra : Option Addr) (rc : Nat) (L : List Signed) (hb : (Z0 r 165 [.slice ra L.length rc]).ok w) (hr : (Zo 181 2 (.slice ra L.length rc) L.length (L.flatMap Z47)).ok w) (hn : L.Nodup) (hL : L.length ≤ 1000000) (s : Zj) (hs : Zco s) :
  Calls Tryz.prog 115 #[(.agg ⟨([i6 f, i6 cn] : LV)⟩), zp r, (.agg ⟨(([i6 s.cl, i6 s.seq] : LV) ++ hc s.h ++ ([i6 s.len, i6 s.sb, i6 s.sm] : LV))⟩)] w fun e w' => e = .returned (.bool (Z2r cn L s)) ∧ Upd [] w w' := by
 have H := Sat.start0 w
 have hs2 := hs
 unfold Zco at hs2
 refine Zg Tryz.func115 rfl 28 rfl kn ?_
 let A0 := Z1j f cn
 refine zsl <| zy <| zdb A0 H fun b2 w3 H4 => ?_
 refine kk <| zy <| zdb (Z3B s) H4 fun b6 w7 H8 => ?_
 refine kk <| wv 6 (.bool false) <| znt <| Z9 <| Z0a H8 [zR w, Z0 b2 29 A0, Z0 b6 73 (Z3B s)] 22 rfl kr (fun Hx => (Hx.pk [0, 1, 2])) fun w9 H10 S11 => ?_
 refine hv0 0 S11 7 (.agg ⟨A0⟩) ?_ (he := fun _ H' => (zlN (vs := A0) (H'.at 1 rfl)))
 refine hv0 1 S11 8 (.agg ⟨(Z3B s)⟩) ?_ (he := fun _ H' => (zlN (vs := (Z3B s)) (H'.at 2 rfl)))
 refine zhy 2 ?_
 refine zdq 9 (Zb1 w9 f cn s) H10 ?_
 intro w13 H14
 have S16 := H14.pk [0, 1, 2]
 refine kh S16 <| hv0 3 S16 10 (.bool (Z14 cn s)) ?_
 refine (ZY (Z14 cn s)).elim (fun b17 => ?_) (fun b17 => ?_)
 ·refine Z3K 10 (.bool true) (congrArg Value.bool b17) ?_
  refine Z0U 4 S16 3 10 true 11 (pt b6 35) <| Z0U 5 S16 3 10 true 12 (pt b6 35) <| Z0U 6 S16 3 10 true 13 (vi s.sb) ?_ (he := fun _ H' => (zl1 (H'.cell 2 rfl kr)))
  refine Z0U 7 S16 3 10 true 14 (pt b6 0) <| Z0U 8 S16 3 10 true 15 (pt b6 0) <| Z0U 9 S16 3 10 true 16 (vi s.cl) ?_ (he := fun _ H' => (zl1 (H'.cell 2 rfl kr)))
  refine Z0U 10 S16 3 10 true 17 (vi (IntKind.i64.wrap (1000 + s.cl))) <| Z0U 11 S16 3 10 true 18 (.bool (decide (s.sb = (IntKind.i64.wrap (1000 + s.cl))))) <| hv0 12 S16 19 (.bool (decide (s.sb = (IntKind.i64.wrap (1000 + s.cl))))) <| hv0 13 S16 20 (.bool (decide (s.sb = (IntKind.i64.wrap (1000 + s.cl))))) ?_
  refine zih 20 (fun b18 g19 => ?_) fun b18 g36 => ?_
  ·refine Z0U 14 S16 13 20 true 21 (pt r 0) <| Z0U 15 S16 13 20 true 22 (pt b6 35) <| Z0U 16 S16 13 20 true 23 (.agg ⟨(Z1j s.sb s.sm)⟩) ?_ (he := fun _ H' => (zlN (vs := (Z1j s.sb s.sm)) (H'.at 2 rfl)))
   refine Z0U 17 S16 13 20 true 24 (.agg ⟨(Z3B s)⟩) ?_ (he := fun _ H' => (zlN (vs := (Z3B s)) (H'.at 2 rfl)))
   refine Z34 18 rfl kr (Z05 13 20 true rfl kr rfl kr) (fun Kq kq => ?_)
   refine zdc 25 (Z2v w13 s hs) ?_
   rintro _ w22 ⟨u23, rfl, k24, p25, q26⟩
   have H27 := H14.addU p25 k24 q26
   obtain ⟨a28, c29, rfl⟩ := Z3 (H27.at 3 rfl)
   refine ⟨_, rfl, ?_⟩
   have S30 := H27.pk [0, 1, 2]
   refine kq _ _ S30 <| Z34 19 rfl kr (Z05 13 20 true rfl kr rfl kr) (fun Kq kq => ?_)
   refine zdq 26 (Z3S w22 r ra rc L (H27.roCk 0 rfl hb (fun _ _ h => h)) (H27.roCk 0 rfl hr (fun _ _ h => h)) hn hL a28 c29 (Zt s) (ListAt.row (enc := Zx) (sz := 1) Zw (by decide) (H27.at 3 rfl)) s.sb s.sm) H27 ?_
   intro w32 H33
   have S35 := H33.pk [0, 1, 2]
   refine kq _ _ S35 <| hv0 20 S35 27 (.bool (Z0B L s.sb s.sm (Zt s))) <| hv0 21 S35 6 (.bool (Z0B L s.sb s.sm (Zt s))) <| zhf <| ztn <| Zk <| ze1 (.bool (Z0B L s.sb s.sm (Zt s))) ?_
   exact ⟨by simp [Z2r, b17, b18], H33.upd 0 rfl [] ne⟩
  refine Zu 14 S16 13 20 true ?_
  refine Zu 15 S16 13 20 true ?_
  refine Zu 16 S16 13 20 true ?_
  refine Zu 17 S16 13 20 true ?_
  refine Zu 18 S16 13 20 true ?_
  refine Zu 19 S16 13 20 true ?_
  refine hv0 20 S16 27 (.bool false) <| hv0 21 S16 6 (.bool false) <| zhf <| ztn <| Zk <| ze1 (.bool false) ?_
  exact ⟨by simp [Z2r, b17, b18], H14.upd 0 rfl [] ne⟩
 refine Z3K 10 (.bool false) (congrArg Value.bool b17) ?_
 refine Zu 4 S16 3 10 true ?_
 refine Zu 5 S16 3 10 true ?_
 refine Zu 6 S16 3 10 true ?_
 refine Zu 7 S16 3 10 true ?_
 refine Zu 8 S16 3 10 true ?_
 refine Zu 9 S16 3 10 true ?_
 refine Zu 10 S16 3 10 true ?_
 refine Zu 11 S16 3 10 true ?_
 refine hv0 12 S16 19 (.bool false) <| hv0 13 S16 20 (.bool false) <| Zu 14 S16 13 20 true ?_
 refine Zu 15 S16 13 20 true ?_
 refine Zu 16 S16 13 20 true ?_
 refine Zu 17 S16 13 20 true ?_
 refine Zu 18 S16 13 20 true ?_
 refine Zu 19 S16 13 20 true ?_
 refine hv0 20 S16 27 (.bool false) <| hv0 21 S16 6 (.bool false) <| zhf <| ztn <| Zk <| ze1 (.bool false) ?_
 exact ⟨by simp [Z2r, b17], H14.upd 0 rfl [] ne⟩
theorem Z6D (w : World) (f cn : Int) (hf : -1099511627776 ≤ f ∧ f ≤ 1099511627776) (r : Nat) (ra : Option Addr) (rc : Nat) (L : List Signed) (hb : (Z0 r 165 [.slice ra L.length rc]).ok w) (hr : (Zo 181 2 (.slice ra L.length rc) L.length (L.flatMap Z47)).ok w) (hn : L.Nodup) (hL : L.length ≤ 1000000) (s : Zb) (hs : StOk s) :
  Calls Tryz.prog 116 #[(.agg ⟨([i6 f, i6 cn] : LV)⟩), zp r, (.agg ⟨(([i6 s.r, i6 s.cl, i6 s.seq] : LV) ++ hc s.h ++ ([u6 s.t, i6 s.sb, i6 s.sm] : LV))⟩)] w fun e w' => e = .returned (.bool (Z1w f L s)) ∧ Upd [] w w' := by
 have H := Sat.start0 w
 have hs2 := hs
 unfold StOk at hs2
 refine Zg Tryz.func116 rfl 43 rfl kn ?_
 let A0 := Z1j f cn
 refine zsl <| zy <| zdb A0 H fun b2 w3 H4 => ?_
 refine kk <| zy <| zdb (Z3T s) H4 fun b6 w7 H8 => ?_
 refine kk <| wv 6 (.bool false) <| znt <| Z9 <| Z0a H8 [zR w, Z0 b2 29 A0, Z0 b6 149 (Z3T s)] 37 rfl kr (fun Hx => (Hx.pk [0, 1, 2])) fun w9 H10 S11 => ?_
 refine hv0 0 S11 7 (pt b6 0) <| hv0 1 S11 8 (vi s.r) ?_ (he := fun _ H' => (zl1 (H'.cell 2 rfl kr)))
 refine hv0 2 S11 9 (.bool (decide (s.r ≥ 0))) <| hv0 3 S11 10 (.bool (decide (s.r ≥ 0))) ?_
 refine zih 10 (fun b12 g13 => ?_) fun b12 g55 => ?_
 ·refine Z0U 4 S11 3 10 true 11 (pt b6 0) <| Z0U 5 S11 3 10 true 12 (vi s.r) ?_ (he := fun _ H' => (zl1 (H'.cell 2 rfl kr)))
  refine Z0U 6 S11 3 10 true 13 (.agg ⟨A0⟩) ?_ (he := fun _ H' => (zlN (vs := A0) (H'.at 1 rfl)))
  refine Z34 7 rfl kr (Z05 3 10 true rfl kr rfl kr) (fun Kq kq => ?_)
  refine zdq 14 (Z7o w9 f cn om) H10 ?_
  intro w16 H17
  have S19 := H17.pk [0, 1, 2]
  refine kq _ _ S19 <| Z0U 8 S19 3 10 true 15 (.bool (decide (s.r < (3 * f + 1)))) <| hv0 9 S19 16 (.bool (decide (s.r < (3 * f + 1)))) <| hv0 10 S19 17 (.bool (decide (s.r < (3 * f + 1)))) ?_
  refine zih 17 (fun b20 g21 => ?_) fun b20 g53 => ?_
  ·refine Z0U 11 S19 10 17 true 18 (pt b6 35) <| Z0U 12 S19 10 17 true 19 (vu s.t) ?_ (he := fun _ H' => (zl1 (H'.cell 2 rfl kr)))
   refine Z0U 13 S19 10 17 true 20 (.bool (decide (s.t ≥ 1))) <| hv0 14 S19 21 (.bool (decide (s.t ≥ 1))) <| hv0 15 S19 22 (.bool (decide (s.t ≥ 1))) ?_
   refine zih 22 (fun b23 g24 => ?_) fun b23 g51 => ?_
   ·refine Z0U 16 S19 15 22 true 23 (pt b6 35) <| Z0U 17 S19 15 22 true 24 (vu s.t) ?_ (he := fun _ H' => (zl1 (H'.cell 2 rfl kr)))
    refine Z0U 18 S19 15 22 true 25 (.bool (decide (s.t < 18446744073709551615))) <| hv0 19 S19 26 (.bool (decide (s.t < 18446744073709551615))) <| hv0 20 S19 27 (.bool (decide (s.t < 18446744073709551615))) ?_
    refine zih 27 (fun b26 g27 => ?_) fun b26 g49 => ?_
    ·refine Z0U 21 S19 20 27 true 28 (pt b6 36) <| Z0U 22 S19 20 27 true 29 (pt b6 36) <| Z0U 23 S19 20 27 true 30 (vi s.sb) ?_ (he := fun _ H' => (zl1 (H'.cell 2 rfl kr)))
     refine Z0U 24 S19 20 27 true 31 (pt b6 0) <| Z0U 25 S19 20 27 true 32 (vi s.r) ?_ (he := fun _ H' => (zl1 (H'.cell 2 rfl kr)))
     refine Z0U 26 S19 20 27 true 33 (.bool (decide (s.sb = s.r))) <| hv0 27 S19 34 (.bool (decide (s.sb = s.r))) <| hv0 28 S19 35 (.bool (decide (s.sb = s.r))) ?_
     refine zih 35 (fun b29 g29 => ?_) fun b29 g47 => ?_
     ·refine Z0U 29 S19 28 35 true 36 (pt r 0) <| Z0U 30 S19 28 35 true 37 (pt b6 36) <| Z0U 31 S19 28 35 true 38 (.agg ⟨(Z1j s.sb s.sm)⟩) ?_ (he := fun _ H' => (zlN (vs := (Z1j s.sb s.sm)) (H'.at 2 rfl)))
      refine Z0U 32 S19 28 35 true 39 (.agg ⟨(Z3T s)⟩) ?_ (he := fun _ H' => (zlN (vs := (Z3T s)) (H'.at 2 rfl)))
      refine Z34 33 rfl kr (Z05 28 35 true rfl kr rfl kr) (fun Kq kq => ?_)
      refine zdc 40 (Z3u w16 s hs) ?_
      rintro _ w33 ⟨u34, rfl, k35, p36, q37⟩
      have H38 := H17.addU p36 k35 q37
      obtain ⟨a39, c40, rfl⟩ := Z3 (H38.at 3 rfl)
      refine ⟨_, rfl, ?_⟩
      have S41 := H38.pk [0, 1, 2]
      refine kq _ _ S41 <| Z34 34 rfl kr (Z05 28 35 true rfl kr rfl kr) (fun Kq kq => ?_)
      refine zdq 41 (Z3S w33 r ra rc L (H38.roCk 0 rfl hb (fun _ _ h => h)) (H38.roCk 0 rfl hr (fun _ _ h => h)) hn hL a39 c40 (ZE s) (ListAt.row (enc := Zx) (sz := 1) Zw (by decide) (H38.at 3 rfl)) s.sb s.sm) H38 ?_
      intro w43 H44
      have S46 := H44.pk [0, 1, 2]
      refine kq _ _ S46 <| hv0 35 S46 42 (.bool (Z0B L s.sb s.sm (ZE s))) <| hv0 36 S46 6 (.bool (Z0B L s.sb s.sm (ZE s))) <| zhf <| ztn <| Zk <| ze1 (.bool (Z0B L s.sb s.sm (ZE s))) ?_
      exact ⟨by simp [Z1w, inB, b12, b20, b23, b26, b29], H44.upd 0 rfl [] ne⟩
     refine Zu 29 S19 28 35 true ?_
     refine Zu 30 S19 28 35 true ?_
     refine Zu 31 S19 28 35 true ?_
     refine Zu 32 S19 28 35 true ?_
     refine Zu 33 S19 28 35 true ?_
     refine Zu 34 S19 28 35 true ?_
     refine hv0 35 S19 42 (.bool false) <| hv0 36 S19 6 (.bool false) <| zhf <| ztn <| Zk <| ze1 (.bool false) ?_
     exact ⟨by simp [Z1w, inB, b12, b20, b23, b26, b29], H17.upd 0 rfl [] ne⟩
    refine Zu 21 S19 20 27 true ?_
    refine Zu 22 S19 20 27 true ?_
    refine Zu 23 S19 20 27 true ?_
    refine Zu 24 S19 20 27 true ?_
    refine Zu 25 S19 20 27 true ?_
    refine Zu 26 S19 20 27 true ?_
    refine hv0 27 S19 34 (.bool false) <| hv0 28 S19 35 (.bool false) <| Zu 29 S19 28 35 true ?_
    refine Zu 30 S19 28 35 true ?_
    refine Zu 31 S19 28 35 true ?_
    refine Zu 32 S19 28 35 true ?_
    refine Zu 33 S19 28 35 true ?_
    refine Zu 34 S19 28 35 true ?_
    refine hv0 35 S19 42 (.bool false) <| hv0 36 S19 6 (.bool false) <| zhf <| ztn <| Zk <| ze1 (.bool false) ?_
    exact ⟨by simp [Z1w, inB, b12, b20, b23, b26], H17.upd 0 rfl [] ne⟩
   refine Zu 16 S19 15 22 true ?_
   refine Zu 17 S19 15 22 true ?_
   refine Zu 18 S19 15 22 true ?_
   refine hv0 19 S19 26 (.bool false) <| hv0 20 S19 27 (.bool false) <| Zu 21 S19 20 27 true ?_
   refine Zu 22 S19 20 27 true ?_
   refine Zu 23 S19 20 27 true ?_
   refine Zu 24 S19 20 27 true ?_
   refine Zu 25 S19 20 27 true ?_
   refine Zu 26 S19 20 27 true ?_
   refine hv0 27 S19 34 (.bool false) <| hv0 28 S19 35 (.bool false) <| Zu 29 S19 28 35 true ?_
   refine Zu 30 S19 28 35 true ?_
   refine Zu 31 S19 28 35 true ?_
   refine Zu 32 S19 28 35 true ?_
   refine Zu 33 S19 28 35 true ?_
   refine Zu 34 S19 28 35 true ?_
   refine hv0 35 S19 42 (.bool false) <| hv0 36 S19 6 (.bool false) <| zhf <| ztn <| Zk <| ze1 (.bool false) ?_
   exact ⟨by simp [Z1w, inB, b12, b20, b23], H17.upd 0 rfl [] ne⟩
  refine Zu 11 S19 10 17 true ?_
  refine Zu 12 S19 10 17 true ?_
  refine Zu 13 S19 10 17 true ?_
  refine hv0 14 S19 21 (.bool false) <| hv0 15 S19 22 (.bool false) <| Zu 16 S19 15 22 true ?_
  refine Zu 17 S19 15 22 true ?_
  refine Zu 18 S19 15 22 true ?_
  refine hv0 19 S19 26 (.bool false) <| hv0 20 S19 27 (.bool false) <| Zu 21 S19 20 27 true ?_
  refine Zu 22 S19 20 27 true ?_
  refine Zu 23 S19 20 27 true ?_
  refine Zu 24 S19 20 27 true ?_
  refine Zu 25 S19 20 27 true ?_
  refine Zu 26 S19 20 27 true ?_
  refine hv0 27 S19 34 (.bool false) <| hv0 28 S19 35 (.bool false) <| Zu 29 S19 28 35 true ?_
  refine Zu 30 S19 28 35 true ?_
  refine Zu 31 S19 28 35 true ?_
  refine Zu 32 S19 28 35 true ?_
  refine Zu 33 S19 28 35 true ?_
  refine Zu 34 S19 28 35 true ?_
  refine hv0 35 S19 42 (.bool false) <| hv0 36 S19 6 (.bool false) <| zhf <| ztn <| Zk <| ze1 (.bool false) ?_
  exact ⟨by simp [Z1w, inB, b12, b20], H17.upd 0 rfl [] ne⟩
 refine Zu 4 S11 3 10 true ?_
 refine Zu 5 S11 3 10 true ?_
 refine Zu 6 S11 3 10 true ?_
 refine Zu 7 S11 3 10 true ?_
 refine Zu 8 S11 3 10 true ?_
 refine hv0 9 S11 16 (.bool false) <| hv0 10 S11 17 (.bool false) <| Zu 11 S11 10 17 true ?_
 refine Zu 12 S11 10 17 true ?_
 refine Zu 13 S11 10 17 true ?_
 refine hv0 14 S11 21 (.bool false) <| hv0 15 S11 22 (.bool false) <| Zu 16 S11 15 22 true ?_
 refine Zu 17 S11 15 22 true ?_
 refine Zu 18 S11 15 22 true ?_
 refine hv0 19 S11 26 (.bool false) <| hv0 20 S11 27 (.bool false) <| Zu 21 S11 20 27 true ?_
 refine Zu 22 S11 20 27 true ?_
 refine Zu 23 S11 20 27 true ?_
 refine Zu 24 S11 20 27 true ?_
 refine Zu 25 S11 20 27 true ?_
 refine Zu 26 S11 20 27 true ?_
 refine hv0 27 S11 34 (.bool false) <| hv0 28 S11 35 (.bool false) <| Zu 29 S11 28 35 true ?_
 refine Zu 30 S11 28 35 true ?_
 refine Zu 31 S11 28 35 true ?_
 refine Zu 32 S11 28 35 true ?_
 refine Zu 33 S11 28 35 true ?_
 refine Zu 34 S11 28 35 true ?_
 refine hv0 35 S11 42 (.bool false) <| hv0 36 S11 6 (.bool false) <| zhf <| ztn <| Zk <| Z5v rfl (Z0S (v := (.bool false)) rfl) ?_
 exact ⟨by simp [Z1w, inB, b12], H10.upd 0 rfl [] ne⟩
theorem Z4V (w : World) (f cn : Int) (hf : -1099511627776 ≤ f ∧ f ≤ 1099511627776) (r : Nat) (ra : Option Addr) (rc : Nat) (L : List Signed) (hb : (Z0 r 165 [.slice ra L.length rc]).ok w) (hr : (Zo 181 2 (.slice ra L.length rc) L.length (L.flatMap Z47)).ok w) (hn : L.Nodup) (hL : L.length ≤ 1000000) (x : Zj) (hx : Zco x) (sa : Option Addr) (sc : Nat) (S : List Zb) (hS : ListAt Z2O 38 w (.slice sa S.length sc) S) (hok : ZdM S) (hlS : S.length ≤ 1000000) :
  Calls Tryz.prog 85 #[(.agg ⟨([i6 f, i6 cn] : LV)⟩), zp r, (.agg ⟨(([i6 x.cl, i6 x.seq] : LV) ++ hc x.h ++ ([i6 x.len, i6 x.sb, i6 x.sm, (.slice sa S.length sc)] : LV))⟩)] w fun e w' => e = .returned (.bool (Z0z f cn L x S)) ∧ Upd [] w w' := by
 have H := Sat.start0 w
 refine Zg Tryz.func85 rfl 72 rfl kn ?_
 refine zsl <| zy <| zdb (Z1j f cn) H fun b2 w3 H4 => ?_
 refine kk <| zy <| zdb (Zc2 x sa S.length sc) H4 fun b6 w7 H8 => ?_
 refine kk <| wv 6 (.bool false) <| znt <| Z9 <| Z9 <| zqs H8 ?_
 let A1 : Value := .agg ⟨(Z1j f cn)⟩
 refine qv 9 A1 ?_ (hr := fun _ H' => (zlN (vs := (Z1j f cn)) (H'.at 1 rfl)))
 refine qv 10 (pt r 0) <| qv 11 (pt b6 0) <| qv 12 (.agg ⟨(Z3B x)⟩) ?_ (hr := fun _ H' => (zlN (vs := (Z3B x)) (H'.at 2 rfl)))
 refine Z0r (Zc rfl) (d := 13) (v := (.bool (Z2r cn L x))) rfl (fun _ _ => by kernel_rfl) (fun w' H' => (Za2 w' f cn om r ra rc L (H'.roCk 0 rfl hb (fun _ _ h => h)) (H'.roCk 0 rfl hr (fun _ _ h => h)) hn hL x hx).mono fun _ _ h => ⟨h.1, H'.keepU h.2⟩) ?_
 refine qv 14 (.bool (!(Z2r cn L x))) <| qv 15 (.bool (!(Z2r cn L x))) ?_
 refine (ZY (!(Z2r cn L x))).elim (fun b9 => ?_) (fun b9 => ?_)
 ·have g10 := Z7 b9
  refine Z09 15 (.bool true) (congrArg Value.bool b9) ?_
  iterate 6 refine qn 6 15 false ?_
  refine qv 22 (.bool true) <| Z01 fun w12 H13 => ?_
  refine ztn <| Z06 rfl ?_
  refine zsl <| wv 6 (.bool false) <| znt <| Zk <| Z4 <| ze1 (.bool false) ?_
  have n14 := Z7 b9
  exact ⟨by simp only [Z0z, n14, bls], H13.upd 0 rfl [] ne⟩
 have g15 := Z2 b9
 refine Z09 15 (.bool false) (congrArg Value.bool b9) ?_
 refine qy 6 15 false 16 (pt b6 37) <| qy 6 15 false 17 (.slice sa S.length sc) ?_ (hr := fun _ H' => (zl1 (H'.cell 2 rfl kr)))
 refine Z4a (Z05 6 15 false rfl kr rfl kr) (d := 18) (v := (vi S.length)) rfl (fun _ H' => kr) ?_
 refine qy 6 15 false 19 A1 ?_ (hr := fun _ H' => (zlN (vs := (Z1j f cn)) (H'.at 1 rfl)))
 refine Z0r (Z05 6 15 false rfl kr rfl kr) (d := 20) (v := (vi (2 * f + 1))) rfl (fun _ _ => by kernel_rfl) (fun w' H' => (Z5R w' f cn om).mono fun _ _ h => ⟨h.1, H'.keepU h.2⟩) ?_
 let A3 : Value := .bool (!(decide ((S.length : Int) = (2 * f + 1))))
 refine qy 6 15 false 21 A3 <| qv 22 A3 <| Z01 fun w17 H18 => ?_
 refine Z0Y ?_
 refine (ZY (!(decide ((S.length : Int) = (2 * f + 1))))).elim (fun b19 => ?_) (fun b19 => ?_)
 ·have g20 := Z7 b19
  have g21 := of_decide_eq_false g20
  refine Zn 22 (.bool true) (congrArg Value.bool b19) ?_
  have g22 := Z7 b19
  have g23 := of_decide_eq_false g22
  refine Z06 rfl ?_
  refine zsl <| wv 6 (.bool false) <| znt <| Zk <| Z4 <| ze1 (.bool false) ?_
  have n24 := Z2 b9
  have n25 := Z7 b19
  exact ⟨by simp only [Z0z, n24, n25, bls], H18.upd 0 rfl [] ne⟩
 have g26 := Z2 b19
 have g27 := of_decide_eq_true g26
 refine Zn 22 (.bool false) (congrArg Value.bool b19) ?_
 have g28 := Z2 b19
 have g29 := of_decide_eq_true g28
 refine Z2h rfl ?_
 refine Zp <| ztn <| Z9 <| zsl <| wv 23 (pt b6 37) <| zw1 24 (.slice sa S.length sc) (H18.cell 2 rfl kr) <| wv 25 (vi S.length) <| wv 26 (vi 0) <| znt <| Zh ?_
 have n30 := Z2 b9
 have n31 := Z2 b19
 refine ZB ([6, 7, 8] ++ List.range' 26 46) (fun F_ W_ m_ => ∃ (i : Nat), F_ 26 = (vi i) ∧ (i ≤ S.length) ∧ (∀ j, j < i → Z3E f L x S j = true) ∧ Sat w [zR w, Z0 b2 29 (Z1j f cn), Z0 b6 76 (Zc2 x sa S.length sc)] W_ ∧ m_ = S.length - i) _ ⟨0, (show ((vi 0) : Value) = _ by first | rfl | go_num), (Nat.zero_le _), (fun _ h => absurd h (Nat.not_lt_zero _)), H18, rfl⟩ ?_
 rintro g32 w33 _ ⟨i, v35, hi, hall, H34, rfl⟩
 refine Zn 26 _ v35 ?_
 refine zsl <| wv 27 (.bool (decide ((i : Int) < S.length))) <| znt <| Z9 ?_
 refine zid (fun b37 g38 => ?_) fun b37 g140 => ?_
 ·refine Zp <| ztn <| Z9 <| Zh <| zsl <| wv 28 (vi i) <| wv 7 (vi i) <| Z1a <| wv 29 (pt b6 37) <| zw1 30 (.slice sa S.length sc) (H34.cell 2 rfl kr) ?_
  refine wv 31 (vi i) ?_
  obtain ⟨g40, o41, c42, e43, R44⟩ := SliceOf.atD hS Zl (show i < S.length by omega)
  refine wv 32 (.pointer (some ⟨g40, o41 + ((i : Int)).toNat * 38, none⟩)) ?_ (hr := Z8 (E := 149) kr kr kn rfl e43 rfl om om)
  let A2 : Value := .agg ⟨(Z3T (S.getD i Zl))⟩
  refine wv 33 A2 ?_ (hr := ZX (vs := (Z3T (S.getD i Zl))) rfl kr kr kn (H34.runR 0 rfl (Z08 R44 0 kr (show o41 + ((i : Int)).toNat * 38 = o41 + i * 38 + 0 by omega)) (fun h => h)))
  refine zy <| zda (ZeV) H34 fun b46 w47 H48 => ?_
  refine kk <| zy <| Z1S (Z3T (S.getD i Zl)) H48 3 fun w50 H51 => ?_
  refine kk <| znt <| Z9 <| zqs H51 ?_
  refine qv 34 (vi i) <| qv 35 (.bool (decide ((i : Int) > 0))) <| qv 36 (.bool (decide ((i : Int) > 0))) ?_
  let A0 : Value := .bool (!(Z1w f L (S.getD i Zl)))
  let A4 : Value := .agg ⟨(Z9G (S.getD i Zl))⟩
  let A5 : Value := .bool (Z1w f L (S.getD i Zl))
  let A6 : Value := .agg ⟨(hc (S.getD i Zl).h)⟩
  refine ziq 36 (fun b53 g54 => ?_) fun b53 g103 => ?_
  ·refine qy 2 36 true 37 (pt b46 0) <| qy 2 36 true 38 (vi ((S.getD i Zl).r)) ?_ (hr := fun _ H' => (zl1 (H'.cell 3 rfl kr)))
   refine qy 2 36 true 39 (pt b6 37) <| qy 2 36 true 40 (.slice sa S.length sc) ?_ (hr := fun _ H' => (zl1 (H'.cell 2 rfl kr)))
   refine qy 2 36 true 41 (vi i) <| qy 2 36 true 42 (vi ((i : Int) - 1)) ?_ (hr := fun _ H' => (Z0A (z := (i : Int) - 1) kr (IntWalk.i64_in _ om)))
   obtain ⟨g56, o57, c58, e59, R60⟩ := SliceOf.atD hS Zl (show ((i : Int) - 1).toNat < S.length by omega)
   refine qy 2 36 true 43 (.pointer (some ⟨g56, o57 + ((i : Int) - 1).toNat * 38, none⟩)) ?_ (hr := fun _ H' => (Z8 (E := 149) kr kr kn rfl e59 rfl om om))
   refine qy 2 36 true 44 (.pointer (some ⟨g56, o57 + ((i : Int) - 1).toNat * 38, none⟩)) <| qy 2 36 true 45 (vi ((S.getD ((i : Int) - 1).toNat Zl).r)) ?_ (hr := fun _ H' => (zl1 (H'.cellR 0 rfl (Z0f R60 0 kr (show o57 + ((i : Int) - 1).toNat * 38 = o57 + ((i : Int) - 1).toNat * 38 + 0 by omega)) (fun h => h))))
   refine qy 2 36 true 46 (.bool (decide (((S.getD i Zl).r) ≤ ((S.getD ((i : Int) - 1).toNat Zl).r)))) <| qv 47 (.bool (decide (((S.getD i Zl).r) ≤ ((S.getD ((i : Int) - 1).toNat Zl).r)))) <| qv 48 (.bool (decide (((S.getD i Zl).r) ≤ ((S.getD ((i : Int) - 1).toNat Zl).r)))) ?_
   refine ziq 48 (fun b61 g62 => ?_) fun b61 g66 => ?_
   ·iterate 6 refine qn 14 48 false ?_
    refine qv 55 (.bool true) <| qv 56 (.bool true) ?_
    iterate 6 refine qn 22 56 false ?_
    refine qv 63 (.bool true) <| qv 64 (.bool true) ?_
    iterate 5 refine qn 30 64 false ?_
    refine qv 70 (.bool true) <| Z01 fun w64 H65 => ?_
    refine ztn <| Z06 rfl ?_
    refine zsl <| wv 6 (.bool false) <| znt <| Zk <| Zf <| Z4 <| Zs <| Zf <| Z4 <| ze1 (.bool false) ?_
    have e1 : ((i : Int) - 1).toNat = i - 1 := by omega
    have ho : Z3E f L x S i = false := by unfold Z3E Z2y; rw [← e1]; simp only [b37, b53, b61, bls]
    exact ⟨by simp only [Z0z, ZP (show i < S.length by omega) ho, Bool.and_false], H65.upd 0 rfl [] ne⟩
   refine qy 14 48 false 49 (pt b46 1) <| qy 14 48 false 50 A4 ?_ (hr := fun _ H' => (zlN (vs := (Z9G (S.getD i Zl))) (H'.at 3 rfl)))
   refine qy 14 48 false 51 (pt b6 0) <| qy 14 48 false 52 (pt b6 0) <| qy 14 48 false 53 (.agg ⟨(Z1j x.cl x.seq)⟩) ?_ (hr := fun _ H' => (zlN (vs := (Z1j x.cl x.seq)) (H'.at 2 rfl)))
   refine qy 14 48 false 54 (.bool (!(decide (((S.getD i Zl).cl) = x.cl ∧ ((S.getD i Zl).seq) = x.seq)))) ?_ (hr := fun _ H' => (Z56 ((S.getD i Zl).cl) ((S.getD i Zl).seq) x.cl x.seq rfl rfl))
   refine qv 55 (.bool (!(decide (((S.getD i Zl).cl) = x.cl ∧ ((S.getD i Zl).seq) = x.seq)))) <| qv 56 (.bool (!(decide (((S.getD i Zl).cl) = x.cl ∧ ((S.getD i Zl).seq) = x.seq)))) ?_
   refine (ZY (!(decide (((S.getD i Zl).cl) = x.cl ∧ ((S.getD i Zl).seq) = x.seq)))).elim (fun b68 => ?_) (fun b68 => ?_)
   ·have g69 := Z7 b68
    refine Z09 56 (.bool true) (congrArg Value.bool b68) ?_
    iterate 6 refine qn 22 56 false ?_
    refine qv 63 (.bool true) <| qv 64 (.bool true) ?_
    iterate 5 refine qn 30 64 false ?_
    refine qv 70 (.bool true) <| Z01 fun w71 H72 => ?_
    refine ztn <| Z06 rfl ?_
    refine zsl <| wv 6 (.bool false) <| znt <| Zk <| Zf <| Z4 <| Zs <| Zf <| Z4 <| ze1 (.bool false) ?_
    have n73 := Z7 b68
    have e1 : ((i : Int) - 1).toNat = i - 1 := by omega
    have ho : Z3E f L x S i = false := by unfold Z3E Z2y; rw [← e1]; simp only [b37, b53, b61, n73, bls]
    exact ⟨by simp only [Z0z, ZP (show i < S.length by omega) ho, Bool.and_false], H72.upd 0 rfl [] ne⟩
   have g74 := Z2 b68
   refine Z09 56 (.bool false) (congrArg Value.bool b68) ?_
   refine qy 22 56 false 57 (pt b46 3) <| qy 22 56 false 58 A6 ?_ (hr := fun _ H' => (zlN (vs := (hc (S.getD i Zl).h)) (H'.at 3 rfl)))
   refine qy 22 56 false 59 (pt b6 0) <| qy 22 56 false 60 (pt b6 2) <| qy 22 56 false 61 (.agg ⟨(hc x.h)⟩) ?_ (hr := fun _ H' => (zlN (vs := (hc x.h)) (H'.at 2 rfl)))
   refine qy 22 56 false 62 (.bool (!(decide (((S.getD i Zl).h) = x.h)))) ?_ (hr := fun _ H' => (Z5t ((S.getD i Zl).h) x.h rfl rfl))
   refine qv 63 (.bool (!(decide (((S.getD i Zl).h) = x.h)))) <| qv 64 (.bool (!(decide (((S.getD i Zl).h) = x.h)))) ?_
   refine (ZY (!(decide (((S.getD i Zl).h) = x.h)))).elim (fun b76 => ?_) (fun b76 => ?_)
   ·have g77 := Z7 b76
    have g78 := of_decide_eq_false g77
    refine Z09 64 (.bool true) (congrArg Value.bool b76) ?_
    iterate 5 refine qn 30 64 false ?_
    refine qv 70 (.bool true) <| Z01 fun w81 H82 => ?_
    refine ztn <| Z06 rfl ?_
    refine zsl <| wv 6 (.bool false) <| znt <| Zk <| Zf <| Z4 <| Zs <| Zf <| Z4 <| ze1 (.bool false) ?_
    have n83 := Z2 b68
    have n84 := Z7 b76
    have e1 : ((i : Int) - 1).toNat = i - 1 := by omega
    have ho : Z3E f L x S i = false := by unfold Z3E Z2y; rw [← e1]; simp only [b37, b53, b61, n83, n84, bls]
    exact ⟨by simp only [Z0z, ZP (show i < S.length by omega) ho, Bool.and_false], H82.upd 0 rfl [] ne⟩
   have g85 := Z2 b76
   have g86 := of_decide_eq_true g85
   refine Z09 64 (.bool false) (congrArg Value.bool b76) ?_
   refine qy 30 64 false 65 A1 ?_ (hr := fun _ H' => (zlN (vs := (Z1j f cn)) (H'.at 1 rfl)))
   refine qy 30 64 false 66 (pt r 0) <| qy 30 64 false 67 A2 ?_ (hr := fun _ H' => (zlN (vs := (Z3T (S.getD i Zl))) (H'.at 3 rfl)))
   refine Z0r (Z05 30 64 false rfl kr rfl kr) (d := 68) (v := A5) rfl (fun _ _ => by kernel_rfl) (fun w' H' => (Z6D w' f cn om r ra rc L (H'.roCk 0 rfl hb (fun _ _ h => h)) (H'.roCk 0 rfl hr (fun _ _ h => h)) hn hL (S.getD i Zl) (hok _ om)).mono fun _ _ h => ⟨h.1, H'.keepU h.2⟩) ?_
   refine qy 30 64 false 69 A0 <| qv 70 A0 <| Z01 fun w89 H90 => ?_
   apply ztn
   refine (ZY (!(Z1w f L (S.getD i Zl)))).elim (fun b91 => ?_) (fun b91 => ?_)
   ·have g92 := Z7 b91
    refine Z48 _ b91 ?_
    refine zsl <| wv 6 (.bool false) <| znt <| Zk <| Zf <| Z4 <| Zs <| Zf <| Z4 <| ze1 (.bool false) ?_
    have n94 := Z2 b68
    have n95 := Z2 b76
    have n96 := Z7 b91
    have e1 : ((i : Int) - 1).toNat = i - 1 := by omega
    have ho : Z3E f L x S i = false := by unfold Z3E Z2y; rw [← e1]; simp only [b37, b53, b61, n94, n95, n96, bls]
    exact ⟨by simp only [Z0z, ZP (show i < S.length by omega) ho, Bool.and_false], H90.upd 0 rfl [] ne⟩
   have g97 := Z2 b91
   refine Z3L _ b91 ?_
   refine Zp <| Z6 <| ztn <| ZG <| zwi 71 ((i : Int) + 1) <| wv 26 (vi ((i : Int) + 1)) <| ZL ?_
   have n99 := Z2 b68
   have n100 := Z2 b76
   have n101 := Z2 b91
   have e1 : ((i : Int) - 1).toNat = i - 1 := by omega
   have ho : Z3E f L x S i = true := by unfold Z3E Z2y; rw [← e1]; simp only [b37, b53, b61, n99, n100, n101, bls]
   have H102 := H90.pk [0, 1, 2]
   refine Za ?_ _ ⟨(i + 1), rfl, om, (fun j hj => by rcases Nat.lt_or_ge j i with h | h; exact hall j h; rw [show j = i by omega]; exact ho), H102, rfl⟩ om
   exact zs
  iterate 10 refine qn 2 36 true ?_
  refine qv 47 (.bool false) <| qv 48 (.bool false) <| qy 14 48 false 49 (pt b46 1) <| qy 14 48 false 50 A4 ?_ (hr := fun _ H' => (zlN (vs := (Z9G (S.getD i Zl))) (H'.at 3 rfl)))
  refine qy 14 48 false 51 (pt b6 0) <| qy 14 48 false 52 (pt b6 0) <| qy 14 48 false 53 (.agg ⟨(Z1j x.cl x.seq)⟩) ?_ (hr := fun _ H' => (zlN (vs := (Z1j x.cl x.seq)) (H'.at 2 rfl)))
  refine qy 14 48 false 54 (.bool (!(decide (((S.getD i Zl).cl) = x.cl ∧ ((S.getD i Zl).seq) = x.seq)))) ?_ (hr := fun _ H' => (Z56 ((S.getD i Zl).cl) ((S.getD i Zl).seq) x.cl x.seq rfl rfl))
  refine qv 55 (.bool (!(decide (((S.getD i Zl).cl) = x.cl ∧ ((S.getD i Zl).seq) = x.seq)))) <| qv 56 (.bool (!(decide (((S.getD i Zl).cl) = x.cl ∧ ((S.getD i Zl).seq) = x.seq)))) ?_
  refine (ZY (!(decide (((S.getD i Zl).cl) = x.cl ∧ ((S.getD i Zl).seq) = x.seq)))).elim (fun b105 => ?_) (fun b105 => ?_)
  ·have g106 := Z7 b105
   refine Z09 56 (.bool true) (congrArg Value.bool b105) ?_
   iterate 6 refine qn 22 56 false ?_
   refine qv 63 (.bool true) <| qv 64 (.bool true) ?_
   iterate 5 refine qn 30 64 false ?_
   refine qv 70 (.bool true) <| Z01 fun w108 H109 => ?_
   refine ztn <| Z06 rfl ?_
   refine zsl <| wv 6 (.bool false) <| znt <| Zk <| Zf <| Z4 <| Zs <| Zf <| Z4 <| ze1 (.bool false) ?_
   have n110 := Z7 b105
   have e1 : ((i : Int) - 1).toNat = i - 1 := by omega
   have ho : Z3E f L x S i = false := by unfold Z3E Z2y; rw [← e1]; simp only [b37, b53, n110, bls]
   exact ⟨by simp only [Z0z, ZP (show i < S.length by omega) ho, Bool.and_false], H109.upd 0 rfl [] ne⟩
  have g111 := Z2 b105
  refine Z09 56 (.bool false) (congrArg Value.bool b105) ?_
  refine qy 22 56 false 57 (pt b46 3) <| qy 22 56 false 58 A6 ?_ (hr := fun _ H' => (zlN (vs := (hc (S.getD i Zl).h)) (H'.at 3 rfl)))
  refine qy 22 56 false 59 (pt b6 0) <| qy 22 56 false 60 (pt b6 2) <| qy 22 56 false 61 (.agg ⟨(hc x.h)⟩) ?_ (hr := fun _ H' => (zlN (vs := (hc x.h)) (H'.at 2 rfl)))
  refine qy 22 56 false 62 (.bool (!(decide (((S.getD i Zl).h) = x.h)))) ?_ (hr := fun _ H' => (Z5t ((S.getD i Zl).h) x.h rfl rfl))
  refine qv 63 (.bool (!(decide (((S.getD i Zl).h) = x.h)))) <| qv 64 (.bool (!(decide (((S.getD i Zl).h) = x.h)))) ?_
  refine (ZY (!(decide (((S.getD i Zl).h) = x.h)))).elim (fun b113 => ?_) (fun b113 => ?_)
  ·have g114 := Z7 b113
   have g115 := of_decide_eq_false g114
   refine Z09 64 (.bool true) (congrArg Value.bool b113) ?_
   iterate 5 refine qn 30 64 false ?_
   refine qv 70 (.bool true) <| Z01 fun w118 H119 => ?_
   refine ztn <| Z06 rfl ?_
   refine zsl <| wv 6 (.bool false) <| znt <| Zk <| Zf <| Z4 <| Zs <| Zf <| Z4 <| ze1 (.bool false) ?_
   have n120 := Z2 b105
   have n121 := Z7 b113
   have e1 : ((i : Int) - 1).toNat = i - 1 := by omega
   have ho : Z3E f L x S i = false := by unfold Z3E Z2y; rw [← e1]; simp only [b37, b53, n120, n121, bls]
   exact ⟨by simp only [Z0z, ZP (show i < S.length by omega) ho, Bool.and_false], H119.upd 0 rfl [] ne⟩
  have g122 := Z2 b113
  have g123 := of_decide_eq_true g122
  refine Z09 64 (.bool false) (congrArg Value.bool b113) ?_
  refine qy 30 64 false 65 A1 ?_ (hr := fun _ H' => (zlN (vs := (Z1j f cn)) (H'.at 1 rfl)))
  refine qy 30 64 false 66 (pt r 0) <| qy 30 64 false 67 A2 ?_ (hr := fun _ H' => (zlN (vs := (Z3T (S.getD i Zl))) (H'.at 3 rfl)))
  refine Z0r (Z05 30 64 false rfl kr rfl kr) (d := 68) (v := A5) rfl (fun _ _ => by kernel_rfl) (fun w' H' => (Z6D w' f cn om r ra rc L (H'.roCk 0 rfl hb (fun _ _ h => h)) (H'.roCk 0 rfl hr (fun _ _ h => h)) hn hL (S.getD i Zl) (hok _ om)).mono fun _ _ h => ⟨h.1, H'.keepU h.2⟩) ?_
  refine qy 30 64 false 69 A0 <| qv 70 A0 <| Z01 fun w126 H127 => ?_
  apply ztn
  refine (ZY (!(Z1w f L (S.getD i Zl)))).elim (fun b128 => ?_) (fun b128 => ?_)
  ·have g129 := Z7 b128
   refine Z48 _ b128 ?_
   refine zsl <| wv 6 (.bool false) <| znt <| Zk <| Zf <| Z4 <| Zs <| Zf <| Z4 <| ze1 (.bool false) ?_
   have n131 := Z2 b105
   have n132 := Z2 b113
   have n133 := Z7 b128
   have e1 : ((i : Int) - 1).toNat = i - 1 := by omega
   have ho : Z3E f L x S i = false := by unfold Z3E Z2y; rw [← e1]; simp only [b37, b53, n131, n132, n133, bls]
   exact ⟨by simp only [Z0z, ZP (show i < S.length by omega) ho, Bool.and_false], H127.upd 0 rfl [] ne⟩
  have g134 := Z2 b128
  refine Z3L _ b128 ?_
  refine Zp <| Z6 <| ztn <| ZG <| zwi 71 ((i : Int) + 1) <| wv 26 (vi ((i : Int) + 1)) <| ZL ?_
  have n136 := Z2 b105
  have n137 := Z2 b113
  have n138 := Z2 b128
  have e1 : ((i : Int) - 1).toNat = i - 1 := by omega
  have ho : Z3E f L x S i = true := by unfold Z3E Z2y; rw [← e1]; simp only [b37, b53, n136, n137, n138, bls]
  have H139 := H127.pk [0, 1, 2]
  refine Za ?_ _ ⟨(i + 1), rfl, om, (fun j hj => by rcases Nat.lt_or_ge j i with h | h; exact hall j h; rw [show j = i by omega]; exact ho), H139, rfl⟩ om
  exact zs
 refine zxb <| ztn <| zsl <| wv 6 (.bool true) <| znt <| Zk <| ze1 (.bool true) ?_
 have hn0 : i = S.length := by omega
 subst hn0
 exact ⟨by simp only [Z0z, Z1r hall, n30, n31, bls], H34.upd 0 rfl [] ne⟩
end Go.Proofs.YtenihpghfdcpkaaGreat
