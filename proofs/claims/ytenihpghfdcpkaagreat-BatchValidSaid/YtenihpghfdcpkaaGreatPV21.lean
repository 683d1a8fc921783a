/- WHAT IS PROVED: contracts and plain laws of Rt3. Conditions: stated with each. -/
import Derived.Test.YtenihpghfdcpkaaGreatPV02
import Derived.Test.YtenihpghfdcpkaaGreatPV05
import Derived.Test.YtenihpghfdcpkaaGreatPV16
import Derived.Test.YtenihpghfdcpkaaGreatPV20
set_option maxHeartbeats 4000000
set_option maxRecDepth 100000
namespace Go.Proofs.YtenihpghfdcpkaaGreat
open Go.RowKit
abbrev Z4Q (p0 : Int) (p1 : Int) : List Value := ([i6 p0, i6 p1] : LV)
abbrev Z5J (p0 : Option Addr) (p1 : List UInt8) (p2 : Nat) : Ck := Zo 5 1 (.slice p0 p1.length p2) p1.length (p1.flatMap Zx)
abbrev Z7d (p0 : Option Addr) (p1 : Nat) (p2 : Nat) (p3 : Option Addr) (p4 : Nat) (p5 : Nat) : List Value := ([(.slice p0 p1 p2), (.slice p3 p4 p5)] : LV)
abbrev Z4y (p0 : Zb) : List Value := ([i6 p0.r, i6 p0.cl, i6 p0.seq] : LV) ++ hc p0.h ++ ([u6 p0.t, i6 p0.sb, i6 p0.sm] : LV)
abbrev Zay (p0 : Zj) : List Value := ([i6 p0.cl, i6 p0.seq] : LV) ++ hc p0.h ++ ([i6 p0.len, i6 p0.sb, i6 p0.sm] : LV)
abbrev ZbH (p0 : CeR) : List Value := ([i6 p0.x.cl, i6 p0.x.seq] : LV) ++ hc p0.x.h ++ ([i6 p0.x.len, i6 p0.x.sb, i6 p0.x.sm, (.slice p0.sa p0.S.length p0.sc)] : LV)
abbrev Z6u (p0 : PrR) : List Value := ([i6 p0.r, i6 p0.e, u6 p0.f, (.slice p0.ca p0.C.length p0.cc), i6 p0.sb, i6 p0.sm] : LV)
abbrev Zee (p0 : Option Addr) (p1 : Nat) (p2 : Nat) (p3 : Option Addr) (p4 : Nat) (p5 : Nat) (p6 : Option Addr) (p7 : Nat) (p8 : Nat) (p9 : Option Addr) (p10 : Nat) (p11 : Nat) : List Value := ([(.slice p0 p1 p2), (.slice p3 p4 p5), (.slice p6 p7 p8), (.slice p9 p10 p11)] : LV)
abbrev kRt3_8 (p0 : Zj) (p1 : CeR) (p2 : Nat) : List Value := ([i6 p0.cl, i6 p0.seq] : LV) ++ hc p0.h ++ ([i6 p0.len, i6 p0.sb, i6 p0.sm, (.slice p1.sa p2 p1.sc)] : LV)
abbrev Ze3 : List Value := ([(.int .u8 (112)), (.int .u8 (114)), (.int .u8 (111)), (.int .u8 (109)), (.int .u8 (105)), (.int .u8 (115)), (.int .u8 (101))] : LV)
def StB (s : Zb) : Prop := (s.r ≤ 9223372036854775807 ∧ s.cl ≤ 9223372036854775807 ∧ s.seq ≤ 9223372036854775807 ∧ 0 ≤ s.t ∧ s.t < 18446744073709551616) ∧ s.sb ≤ 9223372036854775807 ∧ s.sm ≤ 9223372036854775807
def CoB (x : Zj) : Prop := (x.cl ≤ 9223372036854775807 ∧ x.seq ≤ 9223372036854775807 ∧ x.len ≤ 9223372036854775807) ∧ x.sb ≤ 9223372036854775807 ∧ x.sm ≤ 9223372036854775807
structure CeB (w : World) (c : CeR) : Prop where
 x : CoB c.x
 at_ : ListAt Z2O 38 w (.slice c.sa c.S.length c.sc) c.S
 S : ∀ i, i < c.S.length → StB (c.S.getD i Zl)
 len : c.S.length ≤ 100
theorem CeB.keep {w w0 w' : World} {G : List Ck} {c : CeR} (h : CeB w c) (H : Sat w0 G w') (j : Nat) (hj : G[j]? = some (ZQ w fun _ => False)) : CeB w' c := ⟨h.x, ListAt.now H j hj h.at_, h.S, h.len⟩
theorem Zae (w : World) (a b : Int) (hs : a ≤ 9223372036854775807 ∧ b ≤ 9223372036854775807) :
  Calls Tryz.prog 192 #[(.agg ⟨([i6 a, i6 b] : LV)⟩)] w fun e w' => ∃ u, e = .returned u ∧ (Zo 5 1 u (Z50 a b).length ((Z50 a b).flatMap Zx)).ok w' ∧ Upd [] w w' ∧ ∀ q_, (Zo 5 1 u (Z50 a b).length ((Z50 a b).flatMap Zx)).fp q_ → w.heap.size ≤ q_ := by
 have H := Sat.start0 w
 refine Zg Tryz.func192 rfl 11 rfl kn ?_
 refine zsl <| zy <| zdb (Z4Q a b) H fun b2 w3 H4 => ?_
 refine kk <| wv 2 (.slice none 0 0) <| znt <| Z9 <| Z0a H4 [zR w, Z0 b2 69 (Z4Q a b)] 9 rfl kr (fun Hx => (Hx.pk [0, 1])) fun w5 H6 S7 => ?_
 refine hv0 0 S7 3 (pt b2 0) <| hv0 1 S7 4 (vi a) ?_ (he := fun _ H' => (zl1 (H'.cell 1 rfl rfl)))
 refine hv0 3 S7 6 (pt b2 1) <| hv0 4 S7 7 (vi b) ?_ (he := fun _ H' => (zl1 (H'.cell 1 rfl rfl)))
 refine zhy 2 ?_
 refine zdc 5 (Z1b w5 a om) ?_
 rintro _ w9 ⟨u10, rfl, k11, p12, q13⟩
 have H14 := H6.addU p12 k11 q13
 obtain ⟨a15, c16, rfl⟩ := Z3 (H14.at 2 rfl)
 refine ⟨_, rfl, ?_⟩
 have S17 := H14.pk [0, 1]
 refine kh S17 <| zhy 5 ?_
 refine zdc 8 (Z1b w9 b om) ?_
 rintro _ w19 ⟨u20, rfl, k21, p22, q23⟩
 have H24 := H14.addU p22 k21 q23
 obtain ⟨a25, c26, rfl⟩ := Z3 (H24.at 3 rfl)
 refine ⟨_, rfl, ?_⟩
 have S27 := H24.pk [0, 1]
 refine kh S27 <| zhy 6 ?_
 refine Z2z 84 1 24 (.slice none 0 0) [(0, (.slice a15 ((Z5 a).length) c16)), (1, (.slice a25 ((Z5 b).length) c26))] (Z7d a15 ((Z5 a).length) c16 a25 ((Z5 b).length) c26) H24 ?_
 intro b29 w30 H31
 have S32 := H31.pk [0, 1]
 refine kh S32 <| zhy 7 ?_
 have l34 := ZA a
 have l35 := ZA b
 refine zdc 10 (Z1p w30 (.slice (some ⟨b29, 0, none⟩) 2 2) [(.slice a15 ((Z5 a).length) c16), (.slice a25 ((Z5 b).length) c26)] [(Z5 a), (Z5 b)] (ListAt.row (enc := Z9k) (sz := 1) (xs := [(.slice a15 ((Z5 a).length) c16), (.slice a25 ((Z5 b).length) c26)]) Z1T (by decide) (H31.at 4 rfl)) (Parts.cons (ListAt.row (enc := Zx) (sz := 1) Zw (by decide) (H31.at 2 rfl)) (Parts.cons (ListAt.row (enc := Zx) (sz := 1) Zw (by decide) (H31.at 3 rfl)) Parts.nil)) (by simp only [List.flatten_cons, List.flatten_nil, List.length_append, List.length_nil]; omega) (by simp)) ?_
 rintro _ w36 ⟨u37, rfl, k38, p39, q40⟩
 have H41 := H31.addU p39 k38 q40
 obtain ⟨a42, c43, rfl⟩ := Z3 (H41.at 5 rfl)
 refine ⟨_, rfl, ?_⟩
 have S44 := H41.pk [0, 1]
 refine kh S44 <| hv0 8 S44 2 (.slice a42 (([(Z5 a), (Z5 b)].flatten).length) c43) <| zhf <| ztn <| Zk <| ze1 (.slice a42 (([(Z5 a), (Z5 b)].flatten).length) c43) ?_
 have hX : ([(Z5 a), (Z5 b)].flatten) = Z50 a b := by rfl
 exact ⟨_, rfl, (by rw [← hX]; exact H41.at 5 rfl), H41.upd 0 rfl [] ne, (by rw [← hX]; exact H41.fresh 0 rfl (fun _ h => h) 5 rfl rfl)⟩
theorem Z7V (w : World) (s : Zb) (hs : StB s) :
  Calls Tryz.prog 148 #[(.agg ⟨(([i6 s.r, i6 s.cl, i6 s.seq] : LV) ++ hc s.h ++ ([u6 s.t, i6 s.sb, i6 s.sm] : LV))⟩)] w fun e w' => ∃ u, e = .returned u ∧ (Zo 5 1 u (Z0p s).length ((Z0p s).flatMap Zx)).ok w' ∧ Upd [] w w' ∧ ∀ q_, (Zo 5 1 u (Z0p s).length ((Z0p s).flatMap Zx)).fp q_ → w.heap.size ≤ q_ := by
 unfold StB at hs
 have H := Sat.start0 w
 refine Zg Tryz.func148 rfl 10 rfl kn ?_
 refine zsl <| zy <| zdb (Z4y s) H fun b2 w3 H4 => ?_
 refine kk <| wv 2 (.slice none 0 0) <| znt <| Z9 <| Z0a H4 [zR w, Z0 b2 149 (Z4y s)] 8 rfl kr (fun Hx => (Hx.pk [0, 1])) fun w5 H6 S7 => ?_
 refine hv0 0 S7 3 (.agg ⟨(Z4y s)⟩) ?_ (he := fun _ H' => (zlN (vs := (Z4y s)) (H'.at 1 rfl)))
 refine hv0 2 S7 5 (pt b2 36) <| hv0 3 S7 6 (.agg ⟨(Z4Q s.sb s.sm)⟩) ?_ (he := fun _ H' => (zlN (vs := (Z4Q s.sb s.sm)) (H'.at 1 rfl)))
 refine zhy 1 ?_
 refine zdc 4 (Z96 w5 s hs.1) ?_
 rintro _ w9 ⟨u10, rfl, k11, p12, q13⟩
 have H14 := H6.addU p12 k11 q13
 obtain ⟨a15, c16, rfl⟩ := Z3 (H14.at 2 rfl)
 refine ⟨_, rfl, ?_⟩
 have S17 := H14.pk [0, 1]
 refine kh S17 <| zhy 4 ?_
 refine zdc 7 (Zae w9 s.sb s.sm om) ?_
 rintro _ w19 ⟨u20, rfl, k21, p22, q23⟩
 have H24 := H14.addU p22 k21 q23
 obtain ⟨a25, c26, rfl⟩ := Z3 (H24.at 3 rfl)
 refine ⟨_, rfl, ?_⟩
 have S27 := H24.pk [0, 1]
 refine kh S27 <| zhy 5 ?_
 let A0 : Value := .slice a25 ((Z50 s.sb s.sm).length) c26
 let A1 : Value := .slice a15 ((Z27 s).length) c16
 refine Z2z 84 1 24 (.slice none 0 0) [(0, A1), (1, A0)] (Z7d a15 ((Z27 s).length) c16 a25 ((Z50 s.sb s.sm).length) c26) H24 ?_
 intro b29 w30 H31
 have S32 := H31.pk [0, 1]
 refine kh S32 <| zhy 6 ?_
 have l34 := Z4s s
 have l35 := Z4C s.sb s.sm
 refine zdc 9 (Z1p w30 (.slice (some ⟨b29, 0, none⟩) 2 2) [A1, A0] [(Z27 s), (Z50 s.sb s.sm)] (ListAt.row (enc := Z9k) (sz := 1) (xs := [A1, A0]) Z1T (by decide) (H31.at 4 rfl)) (Parts.cons (ListAt.row (enc := Zx) (sz := 1) Zw (by decide) (H31.at 2 rfl)) (Parts.cons (ListAt.row (enc := Zx) (sz := 1) Zw (by decide) (H31.at 3 rfl)) Parts.nil)) (by simp only [List.flatten_cons, List.flatten_nil, List.length_append, List.length_nil]; omega) (by simp)) ?_
 rintro _ w36 ⟨u37, rfl, k38, p39, q40⟩
 have H41 := H31.addU p39 k38 q40
 obtain ⟨a42, c43, rfl⟩ := Z3 (H41.at 5 rfl)
 refine ⟨_, rfl, ?_⟩
 have S44 := H41.pk [0, 1]
 let A2 : Value := .slice a42 (([(Z27 s), (Z50 s.sb s.sm)].flatten).length) c43
 refine kh S44 <| hv0 7 S44 2 A2 <| zhf <| ztn <| Zk <| ze1 A2 ?_
 have hX : ([(Z27 s), (Z50 s.sb s.sm)].flatten) = Z0p s := by rfl
 exact ⟨_, rfl, (by rw [← hX]; exact H41.at 5 rfl), H41.upd 0 rfl [] ne, (by rw [← hX]; exact H41.fresh 0 rfl (fun _ h => h) 5 rfl rfl)⟩
theorem Z78 (w : World) (s : Zj) (hs : CoB s) :
  Calls Tryz.prog 147 #[(.agg ⟨(([i6 s.cl, i6 s.seq] : LV) ++ hc s.h ++ ([i6 s.len, i6 s.sb, i6 s.sm] : LV))⟩)] w fun e w' => ∃ u, e = .returned u ∧ (Zo 5 1 u (Z07 s).length ((Z07 s).flatMap Zx)).ok w' ∧ Upd [] w w' ∧ ∀ q_, (Zo 5 1 u (Z07 s).length ((Z07 s).flatMap Zx)).fp q_ → w.heap.size ≤ q_ := by
 unfold CoB at hs
 have H := Sat.start0 w
 refine Zg Tryz.func147 rfl 16 rfl kn ?_
 refine zsl <| zy <| zdb (Zay s) H fun b2 w3 H4 => ?_
 refine kk <| wv 2 (.slice none 0 0) <| znt <| Z9 <| Z0a H4 [zR w, Z0 b2 73 (Zay s)] 14 rfl kr (fun Hx => (Hx.pk [0, 1])) fun w5 H6 S7 => ?_
 refine hv0 0 S7 3 (pt b2 0) <| hv0 1 S7 4 (.agg ⟨(Z4Q s.cl s.seq)⟩) ?_ (he := fun _ H' => (zlN (vs := (Z4Q s.cl s.seq)) (H'.at 1 rfl)))
 let A0 : Value := .slice (some ⟨b2, 2, none⟩) 32 32
 refine hv0 3 S7 6 (pt b2 2) <| hv0 4 S7 7 A0 <| hv0 5 S7 8 (pt b2 34) <| hv0 6 S7 9 (vi s.len) ?_ (he := fun _ H' => (zl1 (H'.cell 1 rfl kr)))
 refine hv0 8 S7 11 (pt b2 35) <| hv0 9 S7 12 (.agg ⟨(Z4Q s.sb s.sm)⟩) ?_ (he := fun _ H' => (zlN (vs := (Z4Q s.sb s.sm)) (H'.at 1 rfl)))
 refine zhy 2 ?_
 refine zdc 5 (Z6q w5 s.cl s.seq om) ?_
 rintro _ w9 ⟨u10, rfl, k11, p12, q13⟩
 have H14 := H6.addU p12 k11 q13
 obtain ⟨a15, c16, rfl⟩ := Z3 (H14.at 2 rfl)
 refine ⟨_, rfl, ?_⟩
 have S17 := H14.pk [0, 1]
 refine kh S17 <| zhy 7 ?_
 refine zdc 10 (Z1b w9 s.len om) ?_
 rintro _ w19 ⟨u20, rfl, k21, p22, q23⟩
 have H24 := H14.addU p22 k21 q23
 obtain ⟨a25, c26, rfl⟩ := Z3 (H24.at 3 rfl)
 refine ⟨_, rfl, ?_⟩
 have S27 := H24.pk [0, 1]
 refine kh S27 <| zhy 10 ?_
 refine zdc 13 (Zae w19 s.sb s.sm om) ?_
 rintro _ w29 ⟨u30, rfl, k31, p32, q33⟩
 have H34 := H24.addU p32 k31 q33
 obtain ⟨a35, c36, rfl⟩ := Z3 (H34.at 4 rfl)
 refine ⟨_, rfl, ?_⟩
 have S37 := H34.pk [0, 1]
 refine kh S37 <| zhy 11 ?_
 let A1 : Value := .slice a15 ((Z0y s.cl s.seq).length) c16
 let A2 : Value := .slice a35 ((Z50 s.sb s.sm).length) c36
 refine Z2z 84 1 24 (.slice none 0 0) [(0, A1), (1, A0), (2, (.slice a25 ((Z5 s.len).length) c26)), (3, A2)] ([A1, A0, (.slice a25 ((Z5 s.len).length) c26), A2] : LV) H34 ?_
 intro b39 w40 H41
 have S42 := H41.pk [0, 1]
 refine kh S42 <| zhy 12 ?_
 have l44 := Z2V s.cl s.seq
 have l45 := s.h.len
 have l46 := ZA s.len
 have l47 := Z4C s.sb s.sm
 refine zdc 15 (Z1p w40 (.slice (some ⟨b39, 0, none⟩) 4 4) [A1, A0, (.slice a25 ((Z5 s.len).length) c26), A2] [(Z0y s.cl s.seq), s.h.l, (Z5 s.len), (Z50 s.sb s.sm)] (ListAt.row (enc := Z9k) (sz := 1) (xs := [A1, A0, (.slice a25 ((Z5 s.len).length) c26), A2]) Z1T (by decide) (H41.at 5 rfl)) (Parts.cons (ListAt.row (enc := Zx) (sz := 1) Zw (by decide) (H41.at 2 rfl)) (Parts.cons (ListAt.ofHash (Z3F (H41.at 1 rfl) kr) (by decide)) (Parts.cons (ListAt.row (enc := Zx) (sz := 1) Zw (by decide) (H41.at 3 rfl)) (Parts.cons (ListAt.row (enc := Zx) (sz := 1) Zw (by decide) (H41.at 4 rfl)) Parts.nil)))) (by simp only [List.flatten_cons, List.flatten_nil, List.length_append, List.length_nil]; omega) (by simp)) ?_
 rintro _ w48 ⟨u49, rfl, k50, p51, q52⟩
 have H53 := H41.addU p51 k50 q52
 obtain ⟨a54, c55, rfl⟩ := Z3 (H53.at 6 rfl)
 refine ⟨_, rfl, ?_⟩
 have S56 := H53.pk [0, 1]
 refine kh S56 <| hv0 13 S56 2 (.slice a54 (([(Z0y s.cl s.seq), s.h.l, (Z5 s.len), (Z50 s.sb s.sm)].flatten).length) c55) <| zhf <| ztn <| Zk <| ze1 (.slice a54 (([(Z0y s.cl s.seq), s.h.l, (Z5 s.len), (Z50 s.sb s.sm)].flatten).length) c55) ?_
 have hX : ([(Z0y s.cl s.seq), s.h.l, (Z5 s.len), (Z50 s.sb s.sm)].flatten) = Z07 s := by rfl
 exact ⟨_, rfl, (by rw [← hX]; exact H53.at 6 rfl), H53.upd 0 rfl [] ne, (by rw [← hX]; exact H53.fresh 0 rfl (fun _ h => h) 6 rfl rfl)⟩
theorem Z8Y (w : World) (s : Zb) (hs : (s.r ≤ 9223372036854775807 ∧ s.cl ≤ 9223372036854775807 ∧ s.seq ≤ 9223372036854775807 ∧ 0 ≤ s.t ∧ s.t < 18446744073709551616)) :
  Calls Tryz.prog 87 #[(.agg ⟨(([i6 s.r, i6 s.cl, i6 s.seq] : LV) ++ hc s.h ++ ([u6 s.t, i6 s.sb, i6 s.sm] : LV))⟩)] w fun e w' => ∃ u, e = .returned u ∧ (Zo 5 1 u (Z27 s).length ((Z27 s).flatMap Zx)).ok w' ∧ Upd [] w w' ∧ ∀ q_, (Zo 5 1 u (Z27 s).length ((Z27 s).flatMap Zx)).fp q_ → w.heap.size ≤ q_ := by
 have H := Sat.start0 w
 refine Zg Tryz.func87 rfl 16 rfl kn ?_
 refine zsl <| zy <| zdb (Z4y s) H fun b2 w3 H4 => ?_
 refine kk <| wv 2 (.slice none 0 0) <| znt <| Z9 <| Z0a H4 [zR w, Z0 b2 113 (Z4y s)] 14 rfl kr (fun Hx => (Hx.pk [0, 1])) fun w5 H6 S7 => ?_
 refine hv0 0 S7 3 (pt b2 0) <| hv0 1 S7 4 (vi s.r) ?_ (he := fun _ H' => (zl1 (H'.cell 1 rfl kr)))
 refine hv0 3 S7 6 (pt b2 1) <| hv0 4 S7 7 (.agg ⟨(Z4Q s.cl s.seq)⟩) ?_ (he := fun _ H' => (zlN (vs := (Z4Q s.cl s.seq)) (H'.at 1 rfl)))
 let A0 : Value := .slice (some ⟨b2, 3, none⟩) 32 32
 refine hv0 6 S7 9 (pt b2 3) <| hv0 7 S7 10 A0 <| hv0 8 S7 11 (pt b2 35) <| hv0 9 S7 12 (vu s.t) ?_ (he := fun _ H' => (zl1 (H'.cell 1 rfl kr)))
 refine zhy 2 ?_
 refine zdc 5 (Z1b w5 s.r om) ?_
 rintro _ w9 ⟨u10, rfl, k11, p12, q13⟩
 have H14 := H6.addU p12 k11 q13
 obtain ⟨a15, c16, rfl⟩ := Z3 (H14.at 2 rfl)
 refine ⟨_, rfl, ?_⟩
 have S17 := H14.pk [0, 1]
 refine kh S17 <| zhy 5 ?_
 refine zdc 8 (Z6q w9 s.cl s.seq om) ?_
 rintro _ w19 ⟨u20, rfl, k21, p22, q23⟩
 have H24 := H14.addU p22 k21 q23
 obtain ⟨a25, c26, rfl⟩ := Z3 (H24.at 3 rfl)
 refine ⟨_, rfl, ?_⟩
 have S27 := H24.pk [0, 1]
 refine kh S27 <| zhy 10 ?_
 refine Z10 (d := 13) rfl (by rw [show s.t = ((s.t.toNat : Nat) : Int) by omega]; kernel_rfl) (Z61 w19 s.t.toNat om) ?_
 rintro _ w29 ⟨u30, rfl, k31, p32, q33⟩
 have H34 := H24.addU p32 k31 q33
 obtain ⟨a35, c36, rfl⟩ := Z3 (H34.at 4 rfl)
 refine ⟨_, rfl, ?_⟩
 have S37 := H34.pk [0, 1]
 refine kh S37 <| zhy 11 ?_
 let A1 : Value := .slice a25 ((Z0y s.cl s.seq).length) c26
 refine Z2z 84 1 24 (.slice none 0 0) [(0, (.slice a15 ((Z5 s.r).length) c16)), (1, A1), (2, A0), (3, (.slice a35 ((Z1I s.t.toNat).length) c36))] ([(.slice a15 ((Z5 s.r).length) c16), A1, A0, (.slice a35 ((Z1I s.t.toNat).length) c36)] : LV) H34 ?_
 intro b39 w40 H41
 have S42 := H41.pk [0, 1]
 refine kh S42 <| zhy 12 ?_
 have l44 := ZA s.r
 have l45 := Z2V s.cl s.seq
 have l46 := s.h.len
 have l47 := Z2I s.t.toNat
 refine zdc 15 (Z1p w40 (.slice (some ⟨b39, 0, none⟩) 4 4) [(.slice a15 ((Z5 s.r).length) c16), A1, A0, (.slice a35 ((Z1I s.t.toNat).length) c36)] [(Z5 s.r), (Z0y s.cl s.seq), s.h.l, (Z1I s.t.toNat)] (ListAt.row (enc := Z9k) (sz := 1) (xs := [(.slice a15 ((Z5 s.r).length) c16), A1, A0, (.slice a35 ((Z1I s.t.toNat).length) c36)]) Z1T (by decide) (H41.at 5 rfl)) (Parts.cons (ListAt.row (enc := Zx) (sz := 1) Zw (by decide) (H41.at 2 rfl)) (Parts.cons (ListAt.row (enc := Zx) (sz := 1) Zw (by decide) (H41.at 3 rfl)) (Parts.cons (ListAt.ofHash (Z3F (H41.at 1 rfl) kr) (by decide)) (Parts.cons (ListAt.row (enc := Zx) (sz := 1) Zw (by decide) (H41.at 4 rfl)) Parts.nil)))) (by simp only [List.flatten_cons, List.flatten_nil, List.length_append, List.length_nil]; omega) (by simp)) ?_
 rintro _ w48 ⟨u49, rfl, k50, p51, q52⟩
 have H53 := H41.addU p51 k50 q52
 obtain ⟨a54, c55, rfl⟩ := Z3 (H53.at 6 rfl)
 refine ⟨_, rfl, ?_⟩
 have S56 := H53.pk [0, 1]
 refine kh S56 <| hv0 13 S56 2 (.slice a54 (([(Z5 s.r), (Z0y s.cl s.seq), s.h.l, (Z1I s.t.toNat)].flatten).length) c55) <| zhf <| ztn <| Zk <| ze1 (.slice a54 (([(Z5 s.r), (Z0y s.cl s.seq), s.h.l, (Z1I s.t.toNat)].flatten).length) c55) ?_
 have hX : ([(Z5 s.r), (Z0y s.cl s.seq), s.h.l, (Z1I s.t.toNat)].flatten) = Z27 s := by rfl
 exact ⟨_, rfl, (by rw [← hX]; exact H53.at 6 rfl), H53.upd 0 rfl [] ne, (by rw [← hX]; exact H53.fresh 0 rfl (fun _ h => h) 6 rfl rfl)⟩
theorem Z4i (w : World) (s : Zb) (hs : (s.r ≤ 9223372036854775807 ∧ s.cl ≤ 9223372036854775807 ∧ s.seq ≤ 9223372036854775807 ∧ 0 ≤ s.t ∧ s.t < 18446744073709551616)) :
  Calls Tryz.prog 36 #[(.agg ⟨(([i6 s.r, i6 s.cl, i6 s.seq] : LV) ++ hc s.h ++ ([u6 s.t, i6 s.sb, i6 s.sm] : LV))⟩)] w fun e w' => ∃ u, e = .returned u ∧ (Zo 5 1 u (Z2L s).length ((Z2L s).flatMap Zx)).ok w' ∧ Upd [] w w' ∧ ∀ q_, (Zo 5 1 u (Z2L s).length ((Z2L s).flatMap Zx)).fp q_ → w.heap.size ≤ q_ := by
 have H := Sat.start0 w
 refine Zg Tryz.func36 rfl 10 rfl kn ?_
 refine zsl <| zy <| zdb (Z4y s) H fun b2 w3 H4 => ?_
 refine kk <| wv 2 (.slice none 0 0) <| znt <| Z9 <| Z0a H4 [zR w, Z0 b2 113 (Z4y s)] 8 rfl kr (fun Hx => (Hx.pk [0, 1])) fun w5 H6 S7 => ?_
 refine hv0 3 S7 6 (.agg ⟨(Z4y s)⟩) ?_ (he := fun _ H' => (zlN (vs := (Z4y s)) (H'.at 1 rfl)))
 refine zhy 0 ?_
 let A1 := ([(.int .u8 (97)), (.int .u8 (99)), (.int .u8 (107))] : LV)
 refine Z2z 5 1 1 (.int .u8 (0)) [(0, (.int .u8 (97))), (1, (.int .u8 (99))), (2, (.int .u8 (107)))] A1 H6 ?_
 intro b9 w10 H11
 let A4 : Value := .slice (some ⟨b9, 0, none⟩) 3 3
 have H12 := H11.ct 2 rfl (Zo 5 1 A4 3 ([97, 99, 107].flatMap Zx)) (by rw [show (A1 : LV) = [97, 99, 107].flatMap Zx from rfl])
 have S13 := H12.pk [0, 1]
 refine kh S13 <| zhy 1 ?_
 refine Z1l (e := 5) (s := [97, 99, 107]) rfl H12 2 rfl kr kr rfl ?_
 intro w15 H16
 have S17 := H16.pk [0, 1]
 refine kh S17 <| zhy 2 ?_
 refine zdc 5 (Z3Y w15 A4 ([97, 99, 107]) (ListAt.ofTxt (H16.at 2 rfl)) (by simp)) ?_
 rintro _ w19 ⟨u20, rfl, k21, p22, q23⟩
 have H24 := H16.addU p22 k21 q23
 obtain ⟨a25, c26, rfl⟩ := Z3 (H24.at 3 rfl)
 refine ⟨_, rfl, ?_⟩
 have S27 := H24.pk [0, 1]
 refine kh S27 <| zhy 4 ?_
 refine zdc 7 (Z8Y w19 s hs) ?_
 rintro _ w29 ⟨u30, rfl, k31, p32, q33⟩
 have H34 := H24.addU p32 k31 q33
 obtain ⟨a35, c36, rfl⟩ := Z3 (H34.at 4 rfl)
 refine ⟨_, rfl, ?_⟩
 have S37 := H34.pk [0, 1]
 refine kh S37 <| zhy 5 ?_
 let A0 : Value := .slice a25 ((Zm ([97, 99, 107])).length) c26
 let A3 : Value := .slice a35 ((Z27 s).length) c36
 refine Z2z 84 1 24 (.slice none 0 0) [(0, A0), (1, A3)] (Z7d a25 ((Zm ([97, 99, 107])).length) c26 a35 ((Z27 s).length) c36) H34 ?_
 intro b39 w40 H41
 have S42 := H41.pk [0, 1]
 refine kh S42 <| zhy 6 ?_
 have l44 := Z0K ([97, 99, 107])
 simp only [List.length_cons, List.length_nil] at l44
 have l45 := Z4s s
 refine zdc 9 (Z1p w40 (.slice (some ⟨b39, 0, none⟩) 2 2) [A0, A3] [(Zm ([97, 99, 107])), (Z27 s)] (ListAt.row (enc := Z9k) (sz := 1) (xs := [A0, A3]) Z1T (by decide) (H41.at 5 rfl)) (Parts.cons (ListAt.row (enc := Zx) (sz := 1) Zw (by decide) (H41.at 3 rfl)) (Parts.cons (ListAt.row (enc := Zx) (sz := 1) Zw (by decide) (H41.at 4 rfl)) Parts.nil)) (by simp only [List.flatten_cons, List.flatten_nil, List.length_append, List.length_nil]; omega) (by simp)) ?_
 rintro _ w46 ⟨u47, rfl, k48, p49, q50⟩
 have H51 := H41.addU p49 k48 q50
 obtain ⟨a52, c53, rfl⟩ := Z3 (H51.at 6 rfl)
 refine ⟨_, rfl, ?_⟩
 have S54 := H51.pk [0, 1]
 let A2 : Value := .slice a52 (([(Zm ([97, 99, 107])), (Z27 s)].flatten).length) c53
 refine kh S54 <| hv0 7 S54 2 A2 <| zhf <| ztn <| Zk <| ze1 A2 ?_
 have hX : ([(Zm ([97, 99, 107])), (Z27 s)].flatten) = Z2L s := by rfl
 exact ⟨_, rfl, (by rw [← hX]; exact H51.at 6 rfl), H51.upd 0 rfl [] ne, (by rw [← hX]; exact H51.fresh 0 rfl (fun _ h => h) 6 rfl rfl)⟩
theorem Z92 (w : World) (c : CeR) (hB : CeB w c) :
  Calls Tryz.prog 118 #[(.agg ⟨(([i6 c.x.cl, i6 c.x.seq] : LV) ++ hc c.x.h ++ ([i6 c.x.len, i6 c.x.sb, i6 c.x.sm, (.slice c.sa c.S.length c.sc)] : LV))⟩)] w fun e w' => ∃ u, e = .returned u ∧ (Zo 5 1 u (Z0e c).length ((Z0e c).flatMap Zx)).ok w' ∧ Upd [] w w' ∧ ∀ q_, (Zo 5 1 u (Z0e c).length ((Z0e c).flatMap Zx)).fp q_ → w.heap.size ≤ q_ := by
 have hS := hB.at_
 have hlS := hB.len
 have hx := hB.x
 unfold CoB at hx
 have H := Sat.start0 w
 refine Zg Tryz.func118 rfl 30 rfl kn ?_
 refine zsl <| zy <| zdb (ZbH c) H fun b2 w3 H4 => ?_
 refine kk <| wv 2 (.slice none 0 0) <| znt <| Z9 <| Z0a H4 [zR w, Z0 b2 76 (ZbH c)] 10 rfl kr (fun Hx => (Hx.pk [0, 1])) fun w5 H6 S7 => ?_
 refine hv0 0 S7 5 (pt b2 0) <| hv0 1 S7 6 (.agg ⟨(Zay c.x)⟩) ?_ (he := fun _ H' => (zlN (vs := (Zay c.x)) (H'.at 1 rfl)))
 let A1 : Value := .slice c.sa c.S.length c.sc
 refine hv0 3 S7 8 (pt b2 37) <| hv0 4 S7 9 A1 ?_ (he := fun _ H' => (zl1 (H'.cell 1 rfl kr)))
 refine Z0V 5 rfl kr kr kr (fun _ _ _ h => h) S7 (Zc rfl) (d := 10) (v := (vi c.S.length)) rfl (fun _ H' => kr) ?_
 refine zhy 2 ?_
 refine zdc 7 (Z78 w5 c.x hB.x) ?_
 rintro _ w9 ⟨u10, rfl, k11, p12, q13⟩
 have H14 := H6.addU p12 k11 q13
 obtain ⟨a15, c16, rfl⟩ := Z3 (H14.at 2 rfl)
 refine ⟨_, rfl, ?_⟩
 have S17 := H14.pk [0, 1]
 refine kh S17 <| zhy 6 ?_
 refine zdc 11 (Z1b w9 (c.S.length : Int) om) ?_
 rintro _ w19 ⟨u20, rfl, k21, p22, q23⟩
 have H24 := H14.addU p22 k21 q23
 obtain ⟨a25, c26, rfl⟩ := Z3 (H24.at 3 rfl)
 refine ⟨_, rfl, ?_⟩
 have S27 := H24.pk [0, 1]
 refine kh S27 <| zhy 7 ?_
 refine Z2z 84 1 24 (.slice none 0 0) [(0, (.slice a15 ((Z07 c.x).length) c16)), (1, (.slice a25 ((Z5 (c.S.length : Int)).length) c26))] (Z7d a15 ((Z07 c.x).length) c16 a25 ((Z5 (c.S.length : Int)).length) c26) H24 ?_
 intro b29 w30 H31
 have S32 := H31.pk [0, 1]
 refine kh S32 <| zhy 8 ?_
 have l34 := Z2J c.x
 have l35 := ZA (c.S.length : Int)
 let A2 : Value := .slice (some ⟨b29, 0, none⟩) 2 2
 refine zdc 13 (Z1p w30 A2 [(.slice a15 ((Z07 c.x).length) c16), (.slice a25 ((Z5 (c.S.length : Int)).length) c26)] [(Z07 c.x), (Z5 (c.S.length : Int))] (ListAt.row (enc := Z9k) (sz := 1) (xs := [(.slice a15 ((Z07 c.x).length) c16), (.slice a25 ((Z5 (c.S.length : Int)).length) c26)]) Z1T (by decide) (H31.at 4 rfl)) (Parts.cons (ListAt.row (enc := Zx) (sz := 1) Zw (by decide) (H31.at 2 rfl)) (Parts.cons (ListAt.row (enc := Zx) (sz := 1) Zw (by decide) (H31.at 3 rfl)) Parts.nil)) (by simp only [List.flatten_cons, List.flatten_nil, List.length_append, List.length_nil]; omega) (by simp)) ?_
 rintro _ w36 ⟨u37, rfl, k38, p39, q40⟩
 have H41 := H31.addU p39 k38 q40
 obtain ⟨a42, c43, rfl⟩ := Z3 (H41.at 5 rfl)
 refine ⟨_, rfl, ?_⟩
 have S44 := H41.pk [0, 1]
 refine kh S44 <| hv0 9 S44 3 (.slice a42 (([(Z07 c.x), (Z5 (c.S.length : Int))].flatten).length) c43) <| zhf <| ztn <| Z9 <| zsl <| wv 14 (pt b2 37) <| zw1 15 A1 (H41.cell 1 rfl kr) <| wv 16 (vi c.S.length) <| wv 17 (vi 0) ?_
 refine znt <| Zh ?_
 obtain ⟨hd, hhd⟩ : ∃ hd, hd = ([(Z07 c.x), (Z5 (c.S.length : Int))].flatten) := ⟨_, rfl⟩
 have hdl : hd.length ≤ 200 := by rw [hhd]; have q1 := Z2J c.x; have q2 := ZA (c.S.length : Int); simp only [List.flatten_cons, List.flatten_nil, List.length_append, List.length_nil]; omega
 refine ZB ([3, 4] ++ List.range' 17 12) (fun F_ W_ m_ => ∃ (i : Nat) (a : Option Addr) (c_ : Nat) (D : List UInt8), F_ 17 = (vi i) ∧ F_ 3 = (.slice a D.length c_) ∧ (i ≤ c.S.length) ∧ (D = hd ++ (c.S.take i).flatMap Z0p) ∧ Sat w [zR w, Z0 b2 76 (ZbH c), (Z5J a15 (Z07 c.x) c16), (Z5J a25 (Z5 (c.S.length : Int)) c26), Zo 84 1 A2 2 (Z7d a15 ((Z07 c.x).length) c16 a25 ((Z5 (c.S.length : Int)).length) c26), (Z5J a D c_)] W_ ∧ m_ = c.S.length - i) _ ⟨0, a42, c43, ([(Z07 c.x), (Z5 (c.S.length : Int))].flatten), (show ((vi 0) : Value) = _ by first | rfl | go_num), (by first | rfl | go_num), (Nat.zero_le _), (by rw [hhd]; simp), H41, rfl⟩ ?_
 rintro g45 w46 _ ⟨i, a, c_, D, v48, v49, hi, hD, H47, rfl⟩
 refine Zn 17 _ v48 ?_
 refine Zn 3 _ v49 ?_
 have hDl : D.length ≤ 9500 := by rw [hD, List.length_append]; have q1 := Z5u Z1E (c.S.take i); rw [List.length_take] at q1; omega
 have q2 := Z1E (c.S.getD i Zl)
 refine zsl <| wv 18 (.bool (decide ((i : Int) < c.S.length))) <| znt <| Z9 ?_
 refine zid (fun b51 g52 => ?_) fun b51 g76 => ?_
 ·refine Zp <| ztn <| Z9 <| Zh <| zsl <| wv 19 (vi i) <| wv 4 (vi i) <| znt <| ZG <| wv 20 (.slice a D.length c_) ?_
  refine wv 21 (pt b2 37) <| zw1 22 A1 (H47.cell 1 rfl kr) <| wv 23 (vi i) ?_
  obtain ⟨g54, o55, c56, e57, R58⟩ := SliceOf.atD hS Zl (show i < c.S.length by omega)
  refine wv 24 (.pointer (some ⟨g54, o55 + ((i : Int)).toNat * 38, none⟩)) ?_ (hr := Z8 (E := 149) kr kr kn rfl e57 rfl om om)
  let A3 := Z4y (c.S.getD i Zl)
  refine wv 25 (.agg ⟨A3⟩) ?_ (hr := ZX (vs := A3) rfl kr kr kn (H47.runR 0 rfl (Z08 R58 0 kr (show o55 + ((i : Int)).toNat * 38 = o55 + i * 38 + 0 by omega)) (fun h => h)))
  refine zy <| zdc 26 (Z7V w46 (c.S.getD i Zl) (hB.S i om)) ?_
  rintro _ w60 ⟨u61, rfl, k62, p63, q64⟩
  have H65 := H47.addU p63 k62 q64
  obtain ⟨a66, c67, rfl⟩ := Z3 (H65.at 6 rfl)
  refine ⟨_, rfl, ?_⟩
  let A0 := Z0p (c.S.getD i Zl)
  refine kk <| zy <| Z0t (T := 84) (e := 5) (size := 1) (bytes := 1) rfl H65 kr 5 6 rfl rfl rfl rfl (Z0q Zx Z1c A0) om om fun v69 w70 H71 => ?_
  have H74 := H71.ct 5 rfl (Zo 5 1 v69 ((D ++ A0).length) ((D ++ A0).flatMap Zx)) ja
  obtain ⟨a72, c73, rfl⟩ := Z3 (H74.at 5 rfl)
  refine kk <| wv 3 (.slice a72 ((D ++ A0).length) c73) <| ZL <| Z6 <| ztn <| ZG <| zwi 28 ((i : Int) + 1) <| wv 17 (vi ((i : Int) + 1)) <| ZL ?_
  have H75 := H74.pk [0, 1, 2, 3, 4, 5]
  refine Za ?_ _ ⟨(i + 1), a72, c73, (D ++ A0), rfl, (show ((.slice a72 ((D ++ A0).length) c73) : Value) = _ by first | rfl | go_num), om, (by rw [hD, Z4I c.S Zl om, List.append_assoc]), H75, rfl⟩ om
  exact zs
 refine zxb <| ztn <| zsl <| wv 29 (.slice a D.length c_) <| wv 2 (.slice a D.length c_) <| znt <| Zk <| ze1 (.slice a D.length c_) ?_
 have hX : D = Z0e c := by unfold Z0e Z6W; rw [hD, hhd, List.take_of_length_le om]
 exact ⟨_, rfl, (by rw [← hX]; exact H47.at 5 rfl), H47.upd 0 rfl [] ne, (by rw [← hX]; exact H47.fresh 0 rfl (fun _ h => h) 5 rfl rfl)⟩
theorem Z6z {w : World} {C : List CeR} (h : ∀ i, i < C.length → CeB w (C.getD i ce0)) : ∀ c ∈ C, c.S.length ≤ 100 := fun c hm => by
 obtain ⟨i, hi, e⟩ := List.mem_iff_getElem.1 hm
 have q := (h i hi).len
 rw [List.getD_eq_getElem?_getD, List.getElem?_eq_getElem hi] at q
 rw [← e]; exact q
theorem Z5Z (w : World) (p : PrR) (hC : ListAt Z1o 38 w (.slice p.ca p.C.length p.cc) p.C) (hB : ∀ i, i < p.C.length → CeB w (p.C.getD i ce0)) (hl : p.C.length ≤ 64) (hn : p.r ≤ 9223372036854775807 ∧ p.e ≤ 9223372036854775807 ∧ 0 ≤ p.f ∧ p.f < 18446744073709551616) :
  Calls Tryz.prog 88 #[(.agg ⟨([i6 p.r, i6 p.e, u6 p.f, (.slice p.ca p.C.length p.cc), i6 p.sb, i6 p.sm] : LV)⟩)] w fun e w' => ∃ u, e = .returned u ∧ (Zo 5 1 u (Z1O p).length ((Z1O p).flatMap Zx)).ok w' ∧ Upd [] w w' ∧ ∀ q_, (Zo 5 1 u (Z1O p).length ((Z1O p).flatMap Zx)).fp q_ → w.heap.size ≤ q_ := by
 have H := Sat.start0 w
 refine Zg Tryz.func88 rfl 36 rfl kn ?_
 refine zsl <| zy <| zdb (Z6u p) H fun b2 w3 H4 => ?_
 refine kk <| wv 2 (.slice none 0 0) <| znt <| Z9 <| Z0a H4 [zR w, Z0 b2 71 (Z6u p)] 16 rfl kr (fun Hx => (Hx.pk [0, 1])) fun w5 H6 S7 => ?_
 refine hv0 0 S7 5 (pt b2 0) <| hv0 1 S7 6 (vi p.r) ?_ (he := fun _ H' => (zl1 (H'.cell 1 rfl rfl)))
 refine hv0 3 S7 8 (pt b2 1) <| hv0 4 S7 9 (vi p.e) ?_ (he := fun _ H' => (zl1 (H'.cell 1 rfl rfl)))
 refine hv0 6 S7 11 (pt b2 2) <| hv0 7 S7 12 (vu p.f) ?_ (he := fun _ H' => (zl1 (H'.cell 1 rfl rfl)))
 let A2 : Value := .slice p.ca p.C.length p.cc
 refine hv0 9 S7 14 (pt b2 3) <| hv0 10 S7 15 A2 ?_ (he := fun _ H' => (zl1 (H'.cell 1 rfl rfl)))
 refine Z0V 11 rfl kr kr kr (fun _ _ _ h => h) S7 (Zc rfl) (d := 16) (v := (vi p.C.length)) rfl (fun _ H' => kr) ?_
 refine zhy 2 ?_
 refine zdc 7 (Z1b w5 p.r om) ?_
 rintro _ w9 ⟨u10, rfl, k11, p12, q13⟩
 have H14 := H6.addU p12 k11 q13
 obtain ⟨a15, c16, rfl⟩ := Z3 (H14.at 2 rfl)
 refine ⟨_, rfl, ?_⟩
 have S17 := H14.pk [0, 1]
 refine kh S17 <| zhy 5 ?_
 refine zdc 10 (Z1b w9 p.e om) ?_
 rintro _ w19 ⟨u20, rfl, k21, p22, q23⟩
 have H24 := H14.addU p22 k21 q23
 obtain ⟨a25, c26, rfl⟩ := Z3 (H24.at 3 rfl)
 refine ⟨_, rfl, ?_⟩
 have S27 := H24.pk [0, 1]
 refine kh S27 <| zhy 8 ?_
 refine Z10 (d := 13) rfl (by rw [show p.f = ((p.f.toNat : Nat) : Int) by omega]; kernel_rfl) (Z61 w19 p.f.toNat om) ?_
 rintro _ w29 ⟨u30, rfl, k31, p32, q33⟩
 have H34 := H24.addU p32 k31 q33
 obtain ⟨a35, c36, rfl⟩ := Z3 (H34.at 4 rfl)
 refine ⟨_, rfl, ?_⟩
 have S37 := H34.pk [0, 1]
 refine kh S37 <| zhy 12 ?_
 refine zdc 17 (Z1b w29 (p.C.length : Int) om) ?_
 rintro _ w39 ⟨u40, rfl, k41, p42, q43⟩
 have H44 := H34.addU p42 k41 q43
 obtain ⟨a45, c46, rfl⟩ := Z3 (H44.at 5 rfl)
 refine ⟨_, rfl, ?_⟩
 have S47 := H44.pk [0, 1]
 refine kh S47 <| zhy 13 ?_
 refine Z2z 84 1 24 (.slice none 0 0) [(0, (.slice a15 ((Z5 p.r).length) c16)), (1, (.slice a25 ((Z5 p.e).length) c26)), (2, (.slice a35 ((Z1I p.f.toNat).length) c36)), (3, (.slice a45 ((Z5 (p.C.length : Int)).length) c46))] (Zee a15 ((Z5 p.r).length) c16 a25 ((Z5 p.e).length) c26 a35 ((Z1I p.f.toNat).length) c36 a45 ((Z5 (p.C.length : Int)).length) c46) H44 ?_
 intro b49 w50 H51
 have S52 := H51.pk [0, 1]
 refine kh S52 <| zhy 14 ?_
 have l54 := ZA p.r
 have l55 := ZA p.e
 have l56 := Z2I p.f.toNat
 have l57 := ZA (p.C.length : Int)
 let A3 : Value := .slice (some ⟨b49, 0, none⟩) 4 4
 refine zdc 19 (Z1p w50 A3 [(.slice a15 ((Z5 p.r).length) c16), (.slice a25 ((Z5 p.e).length) c26), (.slice a35 ((Z1I p.f.toNat).length) c36), (.slice a45 ((Z5 (p.C.length : Int)).length) c46)] [(Z5 p.r), (Z5 p.e), (Z1I p.f.toNat), (Z5 (p.C.length : Int))] (ListAt.row (enc := Z9k) (sz := 1) (xs := [(.slice a15 ((Z5 p.r).length) c16), (.slice a25 ((Z5 p.e).length) c26), (.slice a35 ((Z1I p.f.toNat).length) c36), (.slice a45 ((Z5 (p.C.length : Int)).length) c46)]) Z1T (by decide) (H51.at 6 rfl)) (Parts.cons (ListAt.row (enc := Zx) (sz := 1) Zw (by decide) (H51.at 2 rfl)) (Parts.cons (ListAt.row (enc := Zx) (sz := 1) Zw (by decide) (H51.at 3 rfl)) (Parts.cons (ListAt.row (enc := Zx) (sz := 1) Zw (by decide) (H51.at 4 rfl)) (Parts.cons (ListAt.row (enc := Zx) (sz := 1) Zw (by decide) (H51.at 5 rfl)) Parts.nil)))) (by simp only [List.flatten_cons, List.flatten_nil, List.length_append, List.length_nil]; omega) (by simp)) ?_
 rintro _ w58 ⟨u59, rfl, k60, p61, q62⟩
 have H63 := H51.addU p61 k60 q62
 obtain ⟨a64, c65, rfl⟩ := Z3 (H63.at 7 rfl)
 refine ⟨_, rfl, ?_⟩
 have S66 := H63.pk [0, 1]
 refine kh S66 <| hv0 15 S66 3 (.slice a64 (([(Z5 p.r), (Z5 p.e), (Z1I p.f.toNat), (Z5 (p.C.length : Int))].flatten).length) c65) <| zhf <| ztn <| Z9 <| zsl <| wv 20 (pt b2 3) <| zw1 21 A2 (H63.cell 1 rfl rfl) <| wv 22 (vi p.C.length) <| wv 23 (vi 0) ?_
 refine znt <| Zh ?_
 obtain ⟨hd, hhd⟩ : ∃ hd, hd = ([(Z5 p.r), (Z5 p.e), (Z1I p.f.toNat), (Z5 (p.C.length : Int))].flatten) := ⟨_, rfl⟩
 have hdl : hd.length ≤ 200 := by rw [hhd]; have q1 := ZA p.r; have q2 := ZA p.e; have q3 := Z2I p.f.toNat; have q4 := ZA (p.C.length : Int); simp only [List.flatten_cons, List.flatten_nil, List.length_append, List.length_nil]; omega
 refine ZB ([3, 4] ++ List.range' 23 12) (fun F_ W_ m_ => ∃ (i : Nat) (a : Option Addr) (c_ : Nat) (D : List UInt8), F_ 23 = (vi i) ∧ F_ 3 = (.slice a D.length c_) ∧ (i ≤ p.C.length) ∧ (D = hd ++ (p.C.take i).flatMap Z0e) ∧ Sat w [zR w, Z0 b2 71 (Z6u p), (Z5J a15 (Z5 p.r) c16), (Z5J a25 (Z5 p.e) c26), (Z5J a35 (Z1I p.f.toNat) c36), (Z5J a45 (Z5 (p.C.length : Int)) c46), Zo 84 1 A3 4 (Zee a15 ((Z5 p.r).length) c16 a25 ((Z5 p.e).length) c26 a35 ((Z1I p.f.toNat).length) c36 a45 ((Z5 (p.C.length : Int)).length) c46), (Z5J a D c_)] W_ ∧ m_ = p.C.length - i) _ ⟨0, a64, c65, ([(Z5 p.r), (Z5 p.e), (Z1I p.f.toNat), (Z5 (p.C.length : Int))].flatten), (show ((vi 0) : Value) = _ by first | rfl | go_num), (by first | rfl | go_num), (Nat.zero_le _), (by rw [hhd]; simp), H63, rfl⟩ ?_
 rintro g67 w68 _ ⟨i, a, c_, D, v70, v71, hi, hD, H69, rfl⟩
 refine Zn 23 _ v70 ?_
 refine Zn 3 _ v71 ?_
 have hDl : D.length ≤ 600000 := by rw [hD, List.length_append]; have q1 := Z4m (g := Z0e) (p.C.take i) (fun c hc => Z1V (Z6z hB c (List.mem_of_mem_take hc))); rw [List.length_take] at q1; omega
 have q2 := fun h : i < p.C.length => Z1V (hB i h).len
 refine zsl <| wv 24 (.bool (decide ((i : Int) < p.C.length))) <| znt <| Z9 ?_
 refine zid (fun b73 g74 => ?_) fun b73 g98 => ?_
 ·refine Zp <| ztn <| Z9 <| Zh <| zsl <| wv 25 (vi i) <| wv 4 (vi i) <| znt <| ZG <| wv 26 (.slice a D.length c_) ?_
  refine wv 27 (pt b2 3) <| zw1 28 A2 (H69.cell 1 rfl rfl) <| wv 29 (vi i) ?_
  obtain ⟨g76, o77, c78, e79, R80⟩ := SliceOf.atD hC ce0 (show i < p.C.length by omega)
  refine wv 30 (.pointer (some ⟨g76, o77 + ((i : Int)).toNat * 38, none⟩)) ?_ (hr := Z8 (E := 76) kr kr kn rfl e79 rfl om om)
  let A1 := kRt3_8 ((p.C.getD i ce0).x) (p.C.getD i ce0) (((p.C.getD i ce0).S).length)
  refine wv 31 (.agg ⟨A1⟩) ?_ (hr := ZX (vs := A1) rfl kr kr kn (H69.runR 0 rfl (Z08 R80 0 kr (show o77 + ((i : Int)).toNat * 38 = o77 + i * 38 + 0 by omega)) (fun h => h)))
  refine zy <| zdc 32 (Z92 w68 (p.C.getD i ce0) ((hB i om).keep H69 0 rfl)) ?_
  rintro _ w82 ⟨u83, rfl, k84, p85, q86⟩
  have H87 := H69.addU p85 k84 q86
  obtain ⟨a88, c89, rfl⟩ := Z3 (H87.at 8 rfl)
  refine ⟨_, rfl, ?_⟩
  let A0 := Z0e (p.C.getD i ce0)
  refine kk <| zy <| Z0t (T := 84) (e := 5) (size := 1) (bytes := 1) rfl H87 kr 7 8 rfl rfl rfl rfl (Z0q Zx Z1c A0) om om fun v91 w92 H93 => ?_
  have H96 := H93.ct 7 rfl (Zo 5 1 v91 ((D ++ A0).length) ((D ++ A0).flatMap Zx)) ja
  obtain ⟨a94, c95, rfl⟩ := Z3 (H96.at 7 rfl)
  refine kk <| wv 3 (.slice a94 ((D ++ A0).length) c95) <| ZL <| Z6 <| ztn <| ZG <| zwi 34 ((i : Int) + 1) <| wv 23 (vi ((i : Int) + 1)) <| ZL ?_
  have H97 := H96.pk [0, 1, 2, 3, 4, 5, 6, 7]
  refine Za ?_ _ ⟨(i + 1), a94, c95, (D ++ A0), rfl, (show ((.slice a94 ((D ++ A0).length) c95) : Value) = _ by first | rfl | go_num), om, (by rw [hD, Z4I p.C ce0 om, List.append_assoc]), H97, rfl⟩ om
  exact zs
 refine zxb <| ztn <| zsl <| wv 35 (.slice a D.length c_) <| wv 2 (.slice a D.length c_) <| znt <| Zk <| ze1 (.slice a D.length c_) ?_
 have hX : D = Z1O p := by unfold Z1O Z5P; rw [hD, hhd, List.take_of_length_le om]
 exact ⟨_, rfl, (by rw [← hX]; exact H69.at 7 rfl), H69.upd 0 rfl [] ne, (by rw [← hX]; exact H69.fresh 0 rfl (fun _ h => h) 7 rfl rfl)⟩
theorem Z2Y (w : World) (p : PrR) (hC : ListAt Z1o 38 w (.slice p.ca p.C.length p.cc) p.C) (hB : ∀ i, i < p.C.length → CeB w (p.C.getD i ce0)) (hl : p.C.length ≤ 64) (hn : p.r ≤ 9223372036854775807 ∧ p.e ≤ 9223372036854775807 ∧ 0 ≤ p.f ∧ p.f < 18446744073709551616) :
  Calls Tryz.prog 38 #[(.agg ⟨([i6 p.r, i6 p.e, u6 p.f, (.slice p.ca p.C.length p.cc), i6 p.sb, i6 p.sm] : LV)⟩)] w fun e w' => ∃ u, e = .returned u ∧ (Zo 5 1 u (Z11 p).length ((Z11 p).flatMap Zx)).ok w' ∧ Upd [] w w' ∧ ∀ q_, (Zo 5 1 u (Z11 p).length ((Z11 p).flatMap Zx)).fp q_ → w.heap.size ≤ q_ := by
 have hp := Z53 (Z6z hB) hl
 have H := Sat.start0 w
 refine Zg Tryz.func38 rfl 10 rfl kn ?_
 refine zsl <| zy <| zdb (Z6u p) H fun b2 w3 H4 => ?_
 refine kk <| wv 2 (.slice none 0 0) <| znt <| Z9 <| Z0a H4 [zR w, Z0 b2 71 (Z6u p)] 8 rfl kr (fun Hx => (Hx.pk [0, 1])) fun w5 H6 S7 => ?_
 refine hv0 3 S7 6 (.agg ⟨(Z6u p)⟩) ?_ (he := fun _ H' => (zlN (vs := (Z6u p)) (H'.at 1 rfl)))
 refine zhy 0 ?_
 refine Z2z 5 1 1 (.int .u8 (0)) [(0, (.int .u8 (112))), (1, (.int .u8 (114))), (2, (.int .u8 (111))), (3, (.int .u8 (109))), (4, (.int .u8 (105))), (5, (.int .u8 (115))), (6, (.int .u8 (101)))] (Ze3) H6 ?_
 intro b9 w10 H11
 let A1 : Value := .slice (some ⟨b9, 0, none⟩) 7 7
 have H12 := H11.ct 2 rfl (Zo 5 1 A1 7 (zq3.flatMap Zx)) (by rw [show ((Ze3) : LV) = zq3.flatMap Zx from rfl])
 have S13 := H12.pk [0, 1]
 refine kh S13 <| zhy 1 ?_
 refine Z1l (e := 5) (s := zq3) rfl H12 2 rfl kr kr rfl ?_
 intro w15 H16
 have S17 := H16.pk [0, 1]
 refine kh S17 <| zhy 2 ?_
 refine zdc 5 (Z3Y w15 A1 zq3 (ListAt.ofTxt (H16.at 2 rfl)) (by simp)) ?_
 rintro _ w19 ⟨u20, rfl, k21, p22, q23⟩
 have H24 := H16.addU p22 k21 q23
 obtain ⟨a25, c26, rfl⟩ := Z3 (H24.at 3 rfl)
 refine ⟨_, rfl, ?_⟩
 have S27 := H24.pk [0, 1]
 refine kh S27 <| zhy 4 ?_
 refine zdc 7 (Z5Z w19 p (ListAt.now H24 0 rfl hC) (fun i hi => (hB i hi).keep H24 0 rfl) hl hn) ?_
 rintro _ w29 ⟨u30, rfl, k31, p32, q33⟩
 have H34 := H24.addU p32 k31 q33
 obtain ⟨a35, c36, rfl⟩ := Z3 (H34.at 4 rfl)
 refine ⟨_, rfl, ?_⟩
 have S37 := H34.pk [0, 1]
 refine kh S37 <| zhy 5 ?_
 refine Z2z 84 1 24 (.slice none 0 0) [(0, (.slice a25 ((Zm zq3).length) c26)), (1, (.slice a35 ((Z1O p).length) c36))] (Z7d a25 ((Zm zq3).length) c26 a35 ((Z1O p).length) c36) H34 ?_
 intro b39 w40 H41
 have S42 := H41.pk [0, 1]
 refine kh S42 <| zhy 6 ?_
 have l44 := Z0K zq3
 simp only [List.length_cons, List.length_nil] at l44
 have l45 := hp
 refine zdc 9 (Z1p w40 (.slice (some ⟨b39, 0, none⟩) 2 2) [(.slice a25 ((Zm zq3).length) c26), (.slice a35 ((Z1O p).length) c36)] [(Zm zq3), (Z1O p)] (ListAt.row (enc := Z9k) (sz := 1) (xs := [(.slice a25 ((Zm zq3).length) c26), (.slice a35 ((Z1O p).length) c36)]) Z1T (by decide) (H41.at 5 rfl)) (Parts.cons (ListAt.row (enc := Zx) (sz := 1) Zw (by decide) (H41.at 3 rfl)) (Parts.cons (ListAt.row (enc := Zx) (sz := 1) Zw (by decide) (H41.at 4 rfl)) Parts.nil)) (by simp only [List.flatten_cons, List.flatten_nil, List.length_append, List.length_nil]; omega) (by simp)) ?_
 rintro _ w46 ⟨u47, rfl, k48, p49, q50⟩
 have H51 := H41.addU p49 k48 q50
 obtain ⟨a52, c53, rfl⟩ := Z3 (H51.at 6 rfl)
 refine ⟨_, rfl, ?_⟩
 have S54 := H51.pk [0, 1]
 let A0 : Value := .slice a52 (([(Zm zq3), (Z1O p)].flatten).length) c53
 refine kh S54 <| hv0 7 S54 2 A0 <| zhf <| ztn <| Zk <| ze1 A0 ?_
 have hX : ([(Zm zq3), (Z1O p)].flatten) = Z11 p := by rfl
 exact ⟨_, rfl, (by rw [← hX]; exact H51.at 6 rfl), H51.upd 0 rfl [] ne, (by rw [← hX]; exact H51.fresh 0 rfl (fun _ h => h) 6 rfl rfl)⟩
end Go.Proofs.YtenihpghfdcpkaaGreat
