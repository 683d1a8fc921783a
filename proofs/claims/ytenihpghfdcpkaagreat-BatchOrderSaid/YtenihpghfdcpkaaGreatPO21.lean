/- WHAT IS PROVED: contracts and plain laws of Rt3. Conditions: stated with each. -/
import Derived.Test.YtenihpghfdcpkaaGreatPO02
import Derived.Test.YtenihpghfdcpkaaGreatPO05
import Derived.Test.YtenihpghfdcpkaaGreatPO16
import Derived.Test.YtenihpghfdcpkaaGreatPO20
set_option maxHeartbeats 4000000
set_option maxRecDepth 100000
namespace Go.Proofs.YtenihpghfdcpkaaGreat
open Go.RowKit
abbrev Z56 (p0 : Int) (p1 : Int) : List Value := ([i6 p0, i6 p1] : LV)
abbrev Z6g (p0 : Option Addr) (p1 : List UInt8) (p2 : Nat) : Ck := Zh 5 1 (.slice p0 p1.length p2) p1.length (p1.flatMap Zr)
abbrev Z7H (p0 : Option Addr) (p1 : Nat) (p2 : Nat) (p3 : Option Addr) (p4 : Nat) (p5 : Nat) : List Value := ([(.slice p0 p1 p2), (.slice p3 p4 p5)] : LV)
abbrev Z4r (p0 : Z9) : List Value := ([i6 p0.r, i6 p0.cl, i6 p0.seq] : LV) ++ hc p0.h ++ ([u6 p0.t, i6 p0.sb, i6 p0.sm] : LV)
abbrev Zbq (p0 : Zg) : List Value := ([i6 p0.cl, i6 p0.seq] : LV) ++ hc p0.h ++ ([i6 p0.len, i6 p0.sb, i6 p0.sm] : LV)
abbrev Zd0 (p0 : CeR) : List Value := ([i6 p0.x.cl, i6 p0.x.seq] : LV) ++ hc p0.x.h ++ ([i6 p0.x.len, i6 p0.x.sb, i6 p0.x.sm, (.slice p0.sa p0.S.length p0.sc)] : LV)
abbrev Z74 (p0 : PrR) : List Value := ([i6 p0.r, i6 p0.e, u6 p0.f, (.slice p0.ca p0.C.length p0.cc), i6 p0.sb, i6 p0.sm] : LV)
abbrev ZfR (p0 : Option Addr) (p1 : Nat) (p2 : Nat) (p3 : Option Addr) (p4 : Nat) (p5 : Nat) (p6 : Option Addr) (p7 : Nat) (p8 : Nat) (p9 : Option Addr) (p10 : Nat) (p11 : Nat) : List Value := ([(.slice p0 p1 p2), (.slice p3 p4 p5), (.slice p6 p7 p8), (.slice p9 p10 p11)] : LV)
abbrev kRt3_8 (p0 : Zg) (p1 : CeR) (p2 : Nat) : List Value := ([i6 p0.cl, i6 p0.seq] : LV) ++ hc p0.h ++ ([i6 p0.len, i6 p0.sb, i6 p0.sm, (.slice p1.sa p2 p1.sc)] : LV)
abbrev ZfQ : List Value := ([(.int .u8 (112)), (.int .u8 (114)), (.int .u8 (111)), (.int .u8 (109)), (.int .u8 (105)), (.int .u8 (115)), (.int .u8 (101))] : LV)
def StB (s : Z9) : Prop := (s.r ≤ 9223372036854775807 ∧ s.cl ≤ 9223372036854775807 ∧ s.seq ≤ 9223372036854775807 ∧ 0 ≤ s.t ∧ s.t < 18446744073709551616) ∧ s.sb ≤ 9223372036854775807 ∧ s.sm ≤ 9223372036854775807
def CoB (x : Zg) : Prop := (x.cl ≤ 9223372036854775807 ∧ x.seq ≤ 9223372036854775807 ∧ x.len ≤ 9223372036854775807) ∧ x.sb ≤ 9223372036854775807 ∧ x.sm ≤ 9223372036854775807
structure CeB (w : World) (c : CeR) : Prop where
 x : CoB c.x
 at_ : ListAt Z1T 38 w (.slice c.sa c.S.length c.sc) c.S
 S : ∀ i, i < c.S.length → StB (c.S.getD i Zi)
 len : c.S.length ≤ 100
theorem CeB.keep {w w0 w' : World} {G : List Ck} {c : CeR} (h : CeB w c) (H : Sat w0 G w') (j : Nat) (hj : G[j]? = some (ZF w fun _ => False)) : CeB w' c := ⟨h.x, ListAt.now H j hj h.at_, h.S, h.len⟩
theorem Zbn (w : World) (a b : Int) (hs : a ≤ 9223372036854775807 ∧ b ≤ 9223372036854775807) :
  Calls Tryz.prog 192 #[(.agg ⟨([i6 a, i6 b] : LV)⟩)] w fun e w' => ∃ u, e = .returned u ∧ (Zh 5 1 u (Z5f a b).length ((Z5f a b).flatMap Zr)).ok w' ∧ Upd [] w w' ∧ ∀ q_, (Zh 5 1 u (Z5f a b).length ((Z5f a b).flatMap Zr)).fp q_ → w.heap.size ≤ q_ := by
 have H := Sat.start0 w
 refine Za Tryz.func192 rfl 11 rfl kn ?_
 refine zsl <| zy <| zdb (Z56 a b) H fun b2 w3 H4 => ?_
 refine kk <| wv 2 (.slice none 0 0) <| znt <| Z7 <| ZX H4 [zR w, Z0 b2 69 (Z56 a b)] 9 rfl kr (fun Hx => (Hx.pk [0, 1])) fun w5 H6 S7 => ?_
 refine hv0 0 S7 3 (pt b2 0) <| hv0 1 S7 4 (vi a) ?_ (he := fun _ H' => (zl1 (H'.cell 1 rfl rfl)))
 refine hv0 3 S7 6 (pt b2 1) <| hv0 4 S7 7 (vi b) ?_ (he := fun _ H' => (zl1 (H'.cell 1 rfl rfl)))
 refine zhy 2 ?_
 refine zdc 5 (Z16 w5 a om) ?_
 rintro _ w9 ⟨u10, rfl, k11, p12, q13⟩
 have H14 := H6.addU p12 k11 q13
 obtain ⟨a15, c16, rfl⟩ := Z1 (H14.at 2 rfl)
 refine ⟨_, rfl, ?_⟩
 have S17 := H14.pk [0, 1]
 refine kh S17 <| zhy 5 ?_
 refine zdc 8 (Z16 w9 b om) ?_
 rintro _ w19 ⟨u20, rfl, k21, p22, q23⟩
 have H24 := H14.addU p22 k21 q23
 obtain ⟨a25, c26, rfl⟩ := Z1 (H24.at 3 rfl)
 refine ⟨_, rfl, ?_⟩
 have S27 := H24.pk [0, 1]
 refine kh S27 <| zhy 6 ?_
 refine Z2J 84 1 24 (.slice none 0 0) [(0, (.slice a15 ((Z4 a).length) c16)), (1, (.slice a25 ((Z4 b).length) c26))] (Z7H a15 ((Z4 a).length) c16 a25 ((Z4 b).length) c26) H24 ?_
 intro b29 w30 H31
 have S32 := H31.pk [0, 1]
 refine kh S32 <| zhy 7 ?_
 have l34 := Zv a
 have l35 := Zv b
 refine zdc 10 (Z1n w30 (.slice (some ⟨b29, 0, none⟩) 2 2) [(.slice a15 ((Z4 a).length) c16), (.slice a25 ((Z4 b).length) c26)] [(Z4 a), (Z4 b)] (ListAt.row (enc := Z9T) (sz := 1) (xs := [(.slice a15 ((Z4 a).length) c16), (.slice a25 ((Z4 b).length) c26)]) Z1Q (by decide) (H31.at 4 rfl)) (Parts.cons (ListAt.row (enc := Zr) (sz := 1) Zs (by decide) (H31.at 2 rfl)) (Parts.cons (ListAt.row (enc := Zr) (sz := 1) Zs (by decide) (H31.at 3 rfl)) Parts.nil)) (by simp only [List.flatten_cons, List.flatten_nil, List.length_append, List.length_nil]; omega) (by simp)) ?_
 rintro _ w36 ⟨u37, rfl, k38, p39, q40⟩
 have H41 := H31.addU p39 k38 q40
 obtain ⟨a42, c43, rfl⟩ := Z1 (H41.at 5 rfl)
 refine ⟨_, rfl, ?_⟩
 have S44 := H41.pk [0, 1]
 refine kh S44 <| hv0 8 S44 2 (.slice a42 (([(Z4 a), (Z4 b)].flatten).length) c43) <| zhf <| ztn <| Zk <| ze1 (.slice a42 (([(Z4 a), (Z4 b)].flatten).length) c43) ?_
 have hX : ([(Z4 a), (Z4 b)].flatten) = Z5f a b := by rfl
 exact ⟨_, rfl, (by rw [← hX]; exact H41.at 5 rfl), H41.upd 0 rfl [] ne, (by rw [← hX]; exact H41.fresh 0 rfl (fun _ h => h) 5 rfl rfl)⟩
theorem Z8w (w : World) (s : Z9) (hs : StB s) :
  Calls Tryz.prog 148 #[(.agg ⟨(([i6 s.r, i6 s.cl, i6 s.seq] : LV) ++ hc s.h ++ ([u6 s.t, i6 s.sb, i6 s.sm] : LV))⟩)] w fun e w' => ∃ u, e = .returned u ∧ (Zh 5 1 u (Z0e s).length ((Z0e s).flatMap Zr)).ok w' ∧ Upd [] w w' ∧ ∀ q_, (Zh 5 1 u (Z0e s).length ((Z0e s).flatMap Zr)).fp q_ → w.heap.size ≤ q_ := by
 unfold StB at hs
 have H := Sat.start0 w
 refine Za Tryz.func148 rfl 10 rfl kn ?_
 refine zsl <| zy <| zdb (Z4r s) H fun b2 w3 H4 => ?_
 refine kk <| wv 2 (.slice none 0 0) <| znt <| Z7 <| ZX H4 [zR w, Z0 b2 149 (Z4r s)] 8 rfl kr (fun Hx => (Hx.pk [0, 1])) fun w5 H6 S7 => ?_
 refine hv0 0 S7 3 (.agg ⟨(Z4r s)⟩) ?_ (he := fun _ H' => (zlN (vs := (Z4r s)) (H'.at 1 rfl)))
 refine hv0 2 S7 5 (pt b2 36) <| hv0 3 S7 6 (.agg ⟨(Z56 s.sb s.sm)⟩) ?_ (he := fun _ H' => (zlN (vs := (Z56 s.sb s.sm)) (H'.at 1 rfl)))
 refine zhy 1 ?_
 refine zdc 4 (Z8Z w5 s hs.1) ?_
 rintro _ w9 ⟨u10, rfl, k11, p12, q13⟩
 have H14 := H6.addU p12 k11 q13
 obtain ⟨a15, c16, rfl⟩ := Z1 (H14.at 2 rfl)
 refine ⟨_, rfl, ?_⟩
 have S17 := H14.pk [0, 1]
 refine kh S17 <| zhy 4 ?_
 refine zdc 7 (Zbn w9 s.sb s.sm om) ?_
 rintro _ w19 ⟨u20, rfl, k21, p22, q23⟩
 have H24 := H14.addU p22 k21 q23
 obtain ⟨a25, c26, rfl⟩ := Z1 (H24.at 3 rfl)
 refine ⟨_, rfl, ?_⟩
 have S27 := H24.pk [0, 1]
 refine kh S27 <| zhy 5 ?_
 let A0 : Value := .slice a25 ((Z5f s.sb s.sm).length) c26
 let A1 : Value := .slice a15 ((Z28 s).length) c16
 refine Z2J 84 1 24 (.slice none 0 0) [(0, A1), (1, A0)] (Z7H a15 ((Z28 s).length) c16 a25 ((Z5f s.sb s.sm).length) c26) H24 ?_
 intro b29 w30 H31
 have S32 := H31.pk [0, 1]
 refine kh S32 <| zhy 6 ?_
 have l34 := Z4v s
 have l35 := Z4J s.sb s.sm
 refine zdc 9 (Z1n w30 (.slice (some ⟨b29, 0, none⟩) 2 2) [A1, A0] [(Z28 s), (Z5f s.sb s.sm)] (ListAt.row (enc := Z9T) (sz := 1) (xs := [A1, A0]) Z1Q (by decide) (H31.at 4 rfl)) (Parts.cons (ListAt.row (enc := Zr) (sz := 1) Zs (by decide) (H31.at 2 rfl)) (Parts.cons (ListAt.row (enc := Zr) (sz := 1) Zs (by decide) (H31.at 3 rfl)) Parts.nil)) (by simp only [List.flatten_cons, List.flatten_nil, List.length_append, List.length_nil]; omega) (by simp)) ?_
 rintro _ w36 ⟨u37, rfl, k38, p39, q40⟩
 have H41 := H31.addU p39 k38 q40
 obtain ⟨a42, c43, rfl⟩ := Z1 (H41.at 5 rfl)
 refine ⟨_, rfl, ?_⟩
 have S44 := H41.pk [0, 1]
 let A2 : Value := .slice a42 (([(Z28 s), (Z5f s.sb s.sm)].flatten).length) c43
 refine kh S44 <| hv0 7 S44 2 A2 <| zhf <| ztn <| Zk <| ze1 A2 ?_
 have hX : ([(Z28 s), (Z5f s.sb s.sm)].flatten) = Z0e s := by rfl
 exact ⟨_, rfl, (by rw [← hX]; exact H41.at 5 rfl), H41.upd 0 rfl [] ne, (by rw [← hX]; exact H41.fresh 0 rfl (fun _ h => h) 5 rfl rfl)⟩
theorem Z7F (w : World) (s : Zg) (hs : CoB s) :
  Calls Tryz.prog 147 #[(.agg ⟨(([i6 s.cl, i6 s.seq] : LV) ++ hc s.h ++ ([i6 s.len, i6 s.sb, i6 s.sm] : LV))⟩)] w fun e w' => ∃ u, e = .returned u ∧ (Zh 5 1 u (ZV s).length ((ZV s).flatMap Zr)).ok w' ∧ Upd [] w w' ∧ ∀ q_, (Zh 5 1 u (ZV s).length ((ZV s).flatMap Zr)).fp q_ → w.heap.size ≤ q_ := by
 unfold CoB at hs
 have H := Sat.start0 w
 refine Za Tryz.func147 rfl 16 rfl kn ?_
 refine zsl <| zy <| zdb (Zbq s) H fun b2 w3 H4 => ?_
 refine kk <| wv 2 (.slice none 0 0) <| znt <| Z7 <| ZX H4 [zR w, Z0 b2 73 (Zbq s)] 14 rfl kr (fun Hx => (Hx.pk [0, 1])) fun w5 H6 S7 => ?_
 refine hv0 0 S7 3 (pt b2 0) <| hv0 1 S7 4 (.agg ⟨(Z56 s.cl s.seq)⟩) ?_ (he := fun _ H' => (zlN (vs := (Z56 s.cl s.seq)) (H'.at 1 rfl)))
 let A0 : Value := .slice (some ⟨b2, 2, none⟩) 32 32
 refine hv0 3 S7 6 (pt b2 2) <| hv0 4 S7 7 A0 <| hv0 5 S7 8 (pt b2 34) <| hv0 6 S7 9 (vi s.len) ?_ (he := fun _ H' => (zl1 (H'.cell 1 rfl kr)))
 refine hv0 8 S7 11 (pt b2 35) <| hv0 9 S7 12 (.agg ⟨(Z56 s.sb s.sm)⟩) ?_ (he := fun _ H' => (zlN (vs := (Z56 s.sb s.sm)) (H'.at 1 rfl)))
 refine zhy 2 ?_
 refine zdc 5 (Z7e w5 s.cl s.seq om) ?_
 rintro _ w9 ⟨u10, rfl, k11, p12, q13⟩
 have H14 := H6.addU p12 k11 q13
 obtain ⟨a15, c16, rfl⟩ := Z1 (H14.at 2 rfl)
 refine ⟨_, rfl, ?_⟩
 have S17 := H14.pk [0, 1]
 refine kh S17 <| zhy 7 ?_
 refine zdc 10 (Z16 w9 s.len om) ?_
 rintro _ w19 ⟨u20, rfl, k21, p22, q23⟩
 have H24 := H14.addU p22 k21 q23
 obtain ⟨a25, c26, rfl⟩ := Z1 (H24.at 3 rfl)
 refine ⟨_, rfl, ?_⟩
 have S27 := H24.pk [0, 1]
 refine kh S27 <| zhy 10 ?_
 refine zdc 13 (Zbn w19 s.sb s.sm om) ?_
 rintro _ w29 ⟨u30, rfl, k31, p32, q33⟩
 have H34 := H24.addU p32 k31 q33
 obtain ⟨a35, c36, rfl⟩ := Z1 (H34.at 4 rfl)
 refine ⟨_, rfl, ?_⟩
 have S37 := H34.pk [0, 1]
 refine kh S37 <| zhy 11 ?_
 let A1 : Value := .slice a15 ((Z0l s.cl s.seq).length) c16
 let A2 : Value := .slice a35 ((Z5f s.sb s.sm).length) c36
 refine Z2J 84 1 24 (.slice none 0 0) [(0, A1), (1, A0), (2, (.slice a25 ((Z4 s.len).length) c26)), (3, A2)] ([A1, A0, (.slice a25 ((Z4 s.len).length) c26), A2] : LV) H34 ?_
 intro b39 w40 H41
 have S42 := H41.pk [0, 1]
 refine kh S42 <| zhy 12 ?_
 have l44 := Z32 s.cl s.seq
 have l45 := s.h.len
 have l46 := Zv s.len
 have l47 := Z4J s.sb s.sm
 refine zdc 15 (Z1n w40 (.slice (some ⟨b39, 0, none⟩) 4 4) [A1, A0, (.slice a25 ((Z4 s.len).length) c26), A2] [(Z0l s.cl s.seq), s.h.l, (Z4 s.len), (Z5f s.sb s.sm)] (ListAt.row (enc := Z9T) (sz := 1) (xs := [A1, A0, (.slice a25 ((Z4 s.len).length) c26), A2]) Z1Q (by decide) (H41.at 5 rfl)) (Parts.cons (ListAt.row (enc := Zr) (sz := 1) Zs (by decide) (H41.at 2 rfl)) (Parts.cons (ListAt.ofHash (Z3N (H41.at 1 rfl) kr) (by decide)) (Parts.cons (ListAt.row (enc := Zr) (sz := 1) Zs (by decide) (H41.at 3 rfl)) (Parts.cons (ListAt.row (enc := Zr) (sz := 1) Zs (by decide) (H41.at 4 rfl)) Parts.nil)))) (by simp only [List.flatten_cons, List.flatten_nil, List.length_append, List.length_nil]; omega) (by simp)) ?_
 rintro _ w48 ⟨u49, rfl, k50, p51, q52⟩
 have H53 := H41.addU p51 k50 q52
 obtain ⟨a54, c55, rfl⟩ := Z1 (H53.at 6 rfl)
 refine ⟨_, rfl, ?_⟩
 have S56 := H53.pk [0, 1]
 refine kh S56 <| hv0 13 S56 2 (.slice a54 (([(Z0l s.cl s.seq), s.h.l, (Z4 s.len), (Z5f s.sb s.sm)].flatten).length) c55) <| zhf <| ztn <| Zk <| ze1 (.slice a54 (([(Z0l s.cl s.seq), s.h.l, (Z4 s.len), (Z5f s.sb s.sm)].flatten).length) c55) ?_
 have hX : ([(Z0l s.cl s.seq), s.h.l, (Z4 s.len), (Z5f s.sb s.sm)].flatten) = ZV s := by rfl
 exact ⟨_, rfl, (by rw [← hX]; exact H53.at 6 rfl), H53.upd 0 rfl [] ne, (by rw [← hX]; exact H53.fresh 0 rfl (fun _ h => h) 6 rfl rfl)⟩
theorem Z8L (w : World) (s : Z9) (hs : (s.r ≤ 9223372036854775807 ∧ s.cl ≤ 9223372036854775807 ∧ s.seq ≤ 9223372036854775807 ∧ 0 ≤ s.t ∧ s.t < 18446744073709551616)) :
  Calls Tryz.prog 87 #[(.agg ⟨(([i6 s.r, i6 s.cl, i6 s.seq] : LV) ++ hc s.h ++ ([u6 s.t, i6 s.sb, i6 s.sm] : LV))⟩)] w fun e w' => ∃ u, e = .returned u ∧ (Zh 5 1 u (Z28 s).length ((Z28 s).flatMap Zr)).ok w' ∧ Upd [] w w' ∧ ∀ q_, (Zh 5 1 u (Z28 s).length ((Z28 s).flatMap Zr)).fp q_ → w.heap.size ≤ q_ := by
 have H := Sat.start0 w
 refine Za Tryz.func87 rfl 16 rfl kn ?_
 refine zsl <| zy <| zdb (Z4r s) H fun b2 w3 H4 => ?_
 refine kk <| wv 2 (.slice none 0 0) <| znt <| Z7 <| ZX H4 [zR w, Z0 b2 113 (Z4r s)] 14 rfl kr (fun Hx => (Hx.pk [0, 1])) fun w5 H6 S7 => ?_
 refine hv0 0 S7 3 (pt b2 0) <| hv0 1 S7 4 (vi s.r) ?_ (he := fun _ H' => (zl1 (H'.cell 1 rfl kr)))
 refine hv0 3 S7 6 (pt b2 1) <| hv0 4 S7 7 (.agg ⟨(Z56 s.cl s.seq)⟩) ?_ (he := fun _ H' => (zlN (vs := (Z56 s.cl s.seq)) (H'.at 1 rfl)))
 let A0 : Value := .slice (some ⟨b2, 3, none⟩) 32 32
 refine hv0 6 S7 9 (pt b2 3) <| hv0 7 S7 10 A0 <| hv0 8 S7 11 (pt b2 35) <| hv0 9 S7 12 (vu s.t) ?_ (he := fun _ H' => (zl1 (H'.cell 1 rfl kr)))
 refine zhy 2 ?_
 refine zdc 5 (Z16 w5 s.r om) ?_
 rintro _ w9 ⟨u10, rfl, k11, p12, q13⟩
 have H14 := H6.addU p12 k11 q13
 obtain ⟨a15, c16, rfl⟩ := Z1 (H14.at 2 rfl)
 refine ⟨_, rfl, ?_⟩
 have S17 := H14.pk [0, 1]
 refine kh S17 <| zhy 5 ?_
 refine zdc 8 (Z7e w9 s.cl s.seq om) ?_
 rintro _ w19 ⟨u20, rfl, k21, p22, q23⟩
 have H24 := H14.addU p22 k21 q23
 obtain ⟨a25, c26, rfl⟩ := Z1 (H24.at 3 rfl)
 refine ⟨_, rfl, ?_⟩
 have S27 := H24.pk [0, 1]
 refine kh S27 <| zhy 10 ?_
 refine Z0S (d := 13) rfl (by rw [show s.t = ((s.t.toNat : Nat) : Int) by omega]; kernel_rfl) (Z6z w19 s.t.toNat om) ?_
 rintro _ w29 ⟨u30, rfl, k31, p32, q33⟩
 have H34 := H24.addU p32 k31 q33
 obtain ⟨a35, c36, rfl⟩ := Z1 (H34.at 4 rfl)
 refine ⟨_, rfl, ?_⟩
 have S37 := H34.pk [0, 1]
 refine kh S37 <| zhy 11 ?_
 let A1 : Value := .slice a25 ((Z0l s.cl s.seq).length) c26
 refine Z2J 84 1 24 (.slice none 0 0) [(0, (.slice a15 ((Z4 s.r).length) c16)), (1, A1), (2, A0), (3, (.slice a35 ((Z1A s.t.toNat).length) c36))] ([(.slice a15 ((Z4 s.r).length) c16), A1, A0, (.slice a35 ((Z1A s.t.toNat).length) c36)] : LV) H34 ?_
 intro b39 w40 H41
 have S42 := H41.pk [0, 1]
 refine kh S42 <| zhy 12 ?_
 have l44 := Zv s.r
 have l45 := Z32 s.cl s.seq
 have l46 := s.h.len
 have l47 := Z2U s.t.toNat
 refine zdc 15 (Z1n w40 (.slice (some ⟨b39, 0, none⟩) 4 4) [(.slice a15 ((Z4 s.r).length) c16), A1, A0, (.slice a35 ((Z1A s.t.toNat).length) c36)] [(Z4 s.r), (Z0l s.cl s.seq), s.h.l, (Z1A s.t.toNat)] (ListAt.row (enc := Z9T) (sz := 1) (xs := [(.slice a15 ((Z4 s.r).length) c16), A1, A0, (.slice a35 ((Z1A s.t.toNat).length) c36)]) Z1Q (by decide) (H41.at 5 rfl)) (Parts.cons (ListAt.row (enc := Zr) (sz := 1) Zs (by decide) (H41.at 2 rfl)) (Parts.cons (ListAt.row (enc := Zr) (sz := 1) Zs (by decide) (H41.at 3 rfl)) (Parts.cons (ListAt.ofHash (Z3N (H41.at 1 rfl) kr) (by decide)) (Parts.cons (ListAt.row (enc := Zr) (sz := 1) Zs (by decide) (H41.at 4 rfl)) Parts.nil)))) (by simp only [List.flatten_cons, List.flatten_nil, List.length_append, List.length_nil]; omega) (by simp)) ?_
 rintro _ w48 ⟨u49, rfl, k50, p51, q52⟩
 have H53 := H41.addU p51 k50 q52
 obtain ⟨a54, c55, rfl⟩ := Z1 (H53.at 6 rfl)
 refine ⟨_, rfl, ?_⟩
 have S56 := H53.pk [0, 1]
 refine kh S56 <| hv0 13 S56 2 (.slice a54 (([(Z4 s.r), (Z0l s.cl s.seq), s.h.l, (Z1A s.t.toNat)].flatten).length) c55) <| zhf <| ztn <| Zk <| ze1 (.slice a54 (([(Z4 s.r), (Z0l s.cl s.seq), s.h.l, (Z1A s.t.toNat)].flatten).length) c55) ?_
 have hX : ([(Z4 s.r), (Z0l s.cl s.seq), s.h.l, (Z1A s.t.toNat)].flatten) = Z28 s := by rfl
 exact ⟨_, rfl, (by rw [← hX]; exact H53.at 6 rfl), H53.upd 0 rfl [] ne, (by rw [← hX]; exact H53.fresh 0 rfl (fun _ h => h) 6 rfl rfl)⟩
theorem Z4D (w : World) (s : Z9) (hs : (s.r ≤ 9223372036854775807 ∧ s.cl ≤ 9223372036854775807 ∧ s.seq ≤ 9223372036854775807 ∧ 0 ≤ s.t ∧ s.t < 18446744073709551616)) :
  Calls Tryz.prog 36 #[(.agg ⟨(([i6 s.r, i6 s.cl, i6 s.seq] : LV) ++ hc s.h ++ ([u6 s.t, i6 s.sb, i6 s.sm] : LV))⟩)] w fun e w' => ∃ u, e = .returned u ∧ (Zh 5 1 u (Z2T s).length ((Z2T s).flatMap Zr)).ok w' ∧ Upd [] w w' ∧ ∀ q_, (Zh 5 1 u (Z2T s).length ((Z2T s).flatMap Zr)).fp q_ → w.heap.size ≤ q_ := by
 have H := Sat.start0 w
 refine Za Tryz.func36 rfl 10 rfl kn ?_
 refine zsl <| zy <| zdb (Z4r s) H fun b2 w3 H4 => ?_
 refine kk <| wv 2 (.slice none 0 0) <| znt <| Z7 <| ZX H4 [zR w, Z0 b2 113 (Z4r s)] 8 rfl kr (fun Hx => (Hx.pk [0, 1])) fun w5 H6 S7 => ?_
 refine hv0 3 S7 6 (.agg ⟨(Z4r s)⟩) ?_ (he := fun _ H' => (zlN (vs := (Z4r s)) (H'.at 1 rfl)))
 refine zhy 0 ?_
 let A1 := ([(.int .u8 (97)), (.int .u8 (99)), (.int .u8 (107))] : LV)
 refine Z2J 5 1 1 (.int .u8 (0)) [(0, (.int .u8 (97))), (1, (.int .u8 (99))), (2, (.int .u8 (107)))] A1 H6 ?_
 intro b9 w10 H11
 let A4 : Value := .slice (some ⟨b9, 0, none⟩) 3 3
 have H12 := H11.ct 2 rfl (Zh 5 1 A4 3 ([97, 99, 107].flatMap Zr)) (by rw [show (A1 : LV) = [97, 99, 107].flatMap Zr from rfl])
 have S13 := H12.pk [0, 1]
 refine kh S13 <| zhy 1 ?_
 refine Z1l (e := 5) (s := [97, 99, 107]) rfl H12 2 rfl kr kr rfl ?_
 intro w15 H16
 have S17 := H16.pk [0, 1]
 refine kh S17 <| zhy 2 ?_
 refine zdc 5 (Z43 w15 A4 ([97, 99, 107]) (ListAt.ofTxt (H16.at 2 rfl)) (by simp)) ?_
 rintro _ w19 ⟨u20, rfl, k21, p22, q23⟩
 have H24 := H16.addU p22 k21 q23
 obtain ⟨a25, c26, rfl⟩ := Z1 (H24.at 3 rfl)
 refine ⟨_, rfl, ?_⟩
 have S27 := H24.pk [0, 1]
 refine kh S27 <| zhy 4 ?_
 refine zdc 7 (Z8L w19 s hs) ?_
 rintro _ w29 ⟨u30, rfl, k31, p32, q33⟩
 have H34 := H24.addU p32 k31 q33
 obtain ⟨a35, c36, rfl⟩ := Z1 (H34.at 4 rfl)
 refine ⟨_, rfl, ?_⟩
 have S37 := H34.pk [0, 1]
 refine kh S37 <| zhy 5 ?_
 let A0 : Value := .slice a25 ((Zj ([97, 99, 107])).length) c26
 let A3 : Value := .slice a35 ((Z28 s).length) c36
 refine Z2J 84 1 24 (.slice none 0 0) [(0, A0), (1, A3)] (Z7H a25 ((Zj ([97, 99, 107])).length) c26 a35 ((Z28 s).length) c36) H34 ?_
 intro b39 w40 H41
 have S42 := H41.pk [0, 1]
 refine kh S42 <| zhy 6 ?_
 have l44 := Z0A ([97, 99, 107])
 simp only [List.length_cons, List.length_nil] at l44
 have l45 := Z4v s
 refine zdc 9 (Z1n w40 (.slice (some ⟨b39, 0, none⟩) 2 2) [A0, A3] [(Zj ([97, 99, 107])), (Z28 s)] (ListAt.row (enc := Z9T) (sz := 1) (xs := [A0, A3]) Z1Q (by decide) (H41.at 5 rfl)) (Parts.cons (ListAt.row (enc := Zr) (sz := 1) Zs (by decide) (H41.at 3 rfl)) (Parts.cons (ListAt.row (enc := Zr) (sz := 1) Zs (by decide) (H41.at 4 rfl)) Parts.nil)) (by simp only [List.flatten_cons, List.flatten_nil, List.length_append, List.length_nil]; omega) (by simp)) ?_
 rintro _ w46 ⟨u47, rfl, k48, p49, q50⟩
 have H51 := H41.addU p49 k48 q50
 obtain ⟨a52, c53, rfl⟩ := Z1 (H51.at 6 rfl)
 refine ⟨_, rfl, ?_⟩
 have S54 := H51.pk [0, 1]
 let A2 : Value := .slice a52 (([(Zj ([97, 99, 107])), (Z28 s)].flatten).length) c53
 refine kh S54 <| hv0 7 S54 2 A2 <| zhf <| ztn <| Zk <| ze1 A2 ?_
 have hX : ([(Zj ([97, 99, 107])), (Z28 s)].flatten) = Z2T s := by rfl
 exact ⟨_, rfl, (by rw [← hX]; exact H51.at 6 rfl), H51.upd 0 rfl [] ne, (by rw [← hX]; exact H51.fresh 0 rfl (fun _ h => h) 6 rfl rfl)⟩
theorem Z8X (w : World) (c : CeR) (hB : CeB w c) :
  Calls Tryz.prog 118 #[(.agg ⟨(([i6 c.x.cl, i6 c.x.seq] : LV) ++ hc c.x.h ++ ([i6 c.x.len, i6 c.x.sb, i6 c.x.sm, (.slice c.sa c.S.length c.sc)] : LV))⟩)] w fun e w' => ∃ u, e = .returned u ∧ (Zh 5 1 u (Z05 c).length ((Z05 c).flatMap Zr)).ok w' ∧ Upd [] w w' ∧ ∀ q_, (Zh 5 1 u (Z05 c).length ((Z05 c).flatMap Zr)).fp q_ → w.heap.size ≤ q_ := by
 have hS := hB.at_
 have hlS := hB.len
 have hx := hB.x
 unfold CoB at hx
 have H := Sat.start0 w
 refine Za Tryz.func118 rfl 30 rfl kn ?_
 refine zsl <| zy <| zdb (Zd0 c) H fun b2 w3 H4 => ?_
 refine kk <| wv 2 (.slice none 0 0) <| znt <| Z7 <| ZX H4 [zR w, Z0 b2 76 (Zd0 c)] 10 rfl kr (fun Hx => (Hx.pk [0, 1])) fun w5 H6 S7 => ?_
 refine hv0 0 S7 5 (pt b2 0) <| hv0 1 S7 6 (.agg ⟨(Zbq c.x)⟩) ?_ (he := fun _ H' => (zlN (vs := (Zbq c.x)) (H'.at 1 rfl)))
 let A1 : Value := .slice c.sa c.S.length c.sc
 refine hv0 3 S7 8 (pt b2 37) <| hv0 4 S7 9 A1 ?_ (he := fun _ H' => (zl1 (H'.cell 1 rfl kr)))
 refine Z0H 5 rfl kr kr kr (fun _ _ _ h => h) S7 (Z8 rfl) (d := 10) (v := (vi c.S.length)) rfl (fun _ H' => kr) ?_
 refine zhy 2 ?_
 refine zdc 7 (Z7F w5 c.x hB.x) ?_
 rintro _ w9 ⟨u10, rfl, k11, p12, q13⟩
 have H14 := H6.addU p12 k11 q13
 obtain ⟨a15, c16, rfl⟩ := Z1 (H14.at 2 rfl)
 refine ⟨_, rfl, ?_⟩
 have S17 := H14.pk [0, 1]
 refine kh S17 <| zhy 6 ?_
 refine zdc 11 (Z16 w9 (c.S.length : Int) om) ?_
 rintro _ w19 ⟨u20, rfl, k21, p22, q23⟩
 have H24 := H14.addU p22 k21 q23
 obtain ⟨a25, c26, rfl⟩ := Z1 (H24.at 3 rfl)
 refine ⟨_, rfl, ?_⟩
 have S27 := H24.pk [0, 1]
 refine kh S27 <| zhy 7 ?_
 refine Z2J 84 1 24 (.slice none 0 0) [(0, (.slice a15 ((ZV c.x).length) c16)), (1, (.slice a25 ((Z4 (c.S.length : Int)).length) c26))] (Z7H a15 ((ZV c.x).length) c16 a25 ((Z4 (c.S.length : Int)).length) c26) H24 ?_
 intro b29 w30 H31
 have S32 := H31.pk [0, 1]
 refine kh S32 <| zhy 8 ?_
 have l34 := Z2W c.x
 have l35 := Zv (c.S.length : Int)
 let A2 : Value := .slice (some ⟨b29, 0, none⟩) 2 2
 refine zdc 13 (Z1n w30 A2 [(.slice a15 ((ZV c.x).length) c16), (.slice a25 ((Z4 (c.S.length : Int)).length) c26)] [(ZV c.x), (Z4 (c.S.length : Int))] (ListAt.row (enc := Z9T) (sz := 1) (xs := [(.slice a15 ((ZV c.x).length) c16), (.slice a25 ((Z4 (c.S.length : Int)).length) c26)]) Z1Q (by decide) (H31.at 4 rfl)) (Parts.cons (ListAt.row (enc := Zr) (sz := 1) Zs (by decide) (H31.at 2 rfl)) (Parts.cons (ListAt.row (enc := Zr) (sz := 1) Zs (by decide) (H31.at 3 rfl)) Parts.nil)) (by simp only [List.flatten_cons, List.flatten_nil, List.length_append, List.length_nil]; omega) (by simp)) ?_
 rintro _ w36 ⟨u37, rfl, k38, p39, q40⟩
 have H41 := H31.addU p39 k38 q40
 obtain ⟨a42, c43, rfl⟩ := Z1 (H41.at 5 rfl)
 refine ⟨_, rfl, ?_⟩
 have S44 := H41.pk [0, 1]
 refine kh S44 <| hv0 9 S44 3 (.slice a42 (([(ZV c.x), (Z4 (c.S.length : Int))].flatten).length) c43) <| zhf <| ztn <| Z7 <| zsl <| wv 14 (pt b2 37) <| zw1 15 A1 (H41.cell 1 rfl kr) <| wv 16 (vi c.S.length) <| wv 17 (vi 0) ?_
 refine znt <| Zc ?_
 obtain ⟨hd, hhd⟩ : ∃ hd, hd = ([(ZV c.x), (Z4 (c.S.length : Int))].flatten) := ⟨_, rfl⟩
 have hdl : hd.length ≤ 200 := by rw [hhd]; have q1 := Z2W c.x; have q2 := Zv (c.S.length : Int); simp only [List.flatten_cons, List.flatten_nil, List.length_append, List.length_nil]; omega
 refine Zq ([3, 4] ++ List.range' 17 12) (fun F_ W_ m_ => ∃ (i : Nat) (a : Option Addr) (c_ : Nat) (D : List UInt8), F_ 17 = (vi i) ∧ F_ 3 = (.slice a D.length c_) ∧ (i ≤ c.S.length) ∧ (D = hd ++ (c.S.take i).flatMap Z0e) ∧ Sat w [zR w, Z0 b2 76 (Zd0 c), (Z6g a15 (ZV c.x) c16), (Z6g a25 (Z4 (c.S.length : Int)) c26), Zh 84 1 A2 2 (Z7H a15 ((ZV c.x).length) c16 a25 ((Z4 (c.S.length : Int)).length) c26), (Z6g a D c_)] W_ ∧ m_ = c.S.length - i) _ ⟨0, a42, c43, ([(ZV c.x), (Z4 (c.S.length : Int))].flatten), (show ((vi 0) : Value) = _ by first | rfl | go_num), (by first | rfl | go_num), (Nat.zero_le _), (by rw [hhd]; simp), H41, rfl⟩ ?_
 rintro g45 w46 _ ⟨i, a, c_, D, v48, v49, hi, hD, H47, rfl⟩
 refine Ze 17 _ v48 ?_
 refine Ze 3 _ v49 ?_
 have hDl : D.length ≤ 9500 := by rw [hD, List.length_append]; have q1 := Z5L Z1D (c.S.take i); rw [List.length_take] at q1; omega
 have q2 := Z1D (c.S.getD i Zi)
 refine zsl <| wv 18 (.bool (decide ((i : Int) < c.S.length))) <| znt <| Z7 ?_
 refine zid (fun b51 g52 => ?_) fun b51 g76 => ?_
 ·refine Zm <| ztn <| Z7 <| Zc <| zsl <| wv 19 (vi i) <| wv 4 (vi i) <| znt <| Zl <| wv 20 (.slice a D.length c_) ?_
  refine wv 21 (pt b2 37) <| zw1 22 A1 (H47.cell 1 rfl kr) <| wv 23 (vi i) ?_
  obtain ⟨g54, o55, c56, e57, R58⟩ := SliceOf.atD hS Zi (show i < c.S.length by omega)
  refine wv 24 (.pointer (some ⟨g54, o55 + ((i : Int)).toNat * 38, none⟩)) ?_ (hr := Zd (E := 149) kr kr kn rfl e57 rfl om om)
  let A3 := Z4r (c.S.getD i Zi)
  refine wv 25 (.agg ⟨A3⟩) ?_ (hr := ZE (vs := A3) rfl kr kr kn (H47.runR 0 rfl (Z0k R58 0 kr (show o55 + ((i : Int)).toNat * 38 = o55 + i * 38 + 0 by omega)) (fun h => h)))
  refine zy <| zdc 26 (Z8w w46 (c.S.getD i Zi) (hB.S i om)) ?_
  rintro _ w60 ⟨u61, rfl, k62, p63, q64⟩
  have H65 := H47.addU p63 k62 q64
  obtain ⟨a66, c67, rfl⟩ := Z1 (H65.at 6 rfl)
  refine ⟨_, rfl, ?_⟩
  let A0 := Z0e (c.S.getD i Zi)
  refine kk <| zy <| Z0g (T := 84) (e := 5) (size := 1) (bytes := 1) rfl H65 kr 5 6 rfl rfl rfl rfl (Z07 Zr Z10 A0) om om fun v69 w70 H71 => ?_
  have H74 := H71.ct 5 rfl (Zh 5 1 v69 ((D ++ A0).length) ((D ++ A0).flatMap Zr)) ja
  obtain ⟨a72, c73, rfl⟩ := Z1 (H74.at 5 rfl)
  refine kk <| wv 3 (.slice a72 ((D ++ A0).length) c73) <| Zn <| Z6 <| ztn <| Zl <| zwi 28 ((i : Int) + 1) <| wv 17 (vi ((i : Int) + 1)) <| Zn ?_
  have H75 := H74.pk [0, 1, 2, 3, 4, 5]
  refine Z5 ?_ _ ⟨(i + 1), a72, c73, (D ++ A0), rfl, (show ((.slice a72 ((D ++ A0).length) c73) : Value) = _ by first | rfl | go_num), om, (by rw [hD, Z50 c.S Zi om, List.append_assoc]), H75, rfl⟩ om
  exact zs
 refine zxb <| ztn <| zsl <| wv 29 (.slice a D.length c_) <| wv 2 (.slice a D.length c_) <| znt <| Zk <| ze1 (.slice a D.length c_) ?_
 have hX : D = Z05 c := by unfold Z05 Z76; rw [hD, hhd, List.take_of_length_le om]
 exact ⟨_, rfl, (by rw [← hX]; exact H47.at 5 rfl), H47.upd 0 rfl [] ne, (by rw [← hX]; exact H47.fresh 0 rfl (fun _ h => h) 5 rfl rfl)⟩
theorem Z7i {w : World} {C : List CeR} (h : ∀ i, i < C.length → CeB w (C.getD i ce0)) : ∀ c ∈ C, c.S.length ≤ 100 := fun c hm => by
 obtain ⟨i, hi, e⟩ := List.mem_iff_getElem.1 hm
 have q := (h i hi).len
 rw [List.getD_eq_getElem?_getD, List.getElem?_eq_getElem hi] at q
 rw [← e]; exact q
theorem Z6k (w : World) (p : PrR) (hC : ListAt Z0Z 38 w (.slice p.ca p.C.length p.cc) p.C) (hB : ∀ i, i < p.C.length → CeB w (p.C.getD i ce0)) (hl : p.C.length ≤ 64) (hn : p.r ≤ 9223372036854775807 ∧ p.e ≤ 9223372036854775807 ∧ 0 ≤ p.f ∧ p.f < 18446744073709551616) :
  Calls Tryz.prog 88 #[(.agg ⟨([i6 p.r, i6 p.e, u6 p.f, (.slice p.ca p.C.length p.cc), i6 p.sb, i6 p.sm] : LV)⟩)] w fun e w' => ∃ u, e = .returned u ∧ (Zh 5 1 u (Z1O p).length ((Z1O p).flatMap Zr)).ok w' ∧ Upd [] w w' ∧ ∀ q_, (Zh 5 1 u (Z1O p).length ((Z1O p).flatMap Zr)).fp q_ → w.heap.size ≤ q_ := by
 have H := Sat.start0 w
 refine Za Tryz.func88 rfl 36 rfl kn ?_
 refine zsl <| zy <| zdb (Z74 p) H fun b2 w3 H4 => ?_
 refine kk <| wv 2 (.slice none 0 0) <| znt <| Z7 <| ZX H4 [zR w, Z0 b2 71 (Z74 p)] 16 rfl kr (fun Hx => (Hx.pk [0, 1])) fun w5 H6 S7 => ?_
 refine hv0 0 S7 5 (pt b2 0) <| hv0 1 S7 6 (vi p.r) ?_ (he := fun _ H' => (zl1 (H'.cell 1 rfl rfl)))
 refine hv0 3 S7 8 (pt b2 1) <| hv0 4 S7 9 (vi p.e) ?_ (he := fun _ H' => (zl1 (H'.cell 1 rfl rfl)))
 refine hv0 6 S7 11 (pt b2 2) <| hv0 7 S7 12 (vu p.f) ?_ (he := fun _ H' => (zl1 (H'.cell 1 rfl rfl)))
 let A2 : Value := .slice p.ca p.C.length p.cc
 refine hv0 9 S7 14 (pt b2 3) <| hv0 10 S7 15 A2 ?_ (he := fun _ H' => (zl1 (H'.cell 1 rfl rfl)))
 refine Z0H 11 rfl kr kr kr (fun _ _ _ h => h) S7 (Z8 rfl) (d := 16) (v := (vi p.C.length)) rfl (fun _ H' => kr) ?_
 refine zhy 2 ?_
 refine zdc 7 (Z16 w5 p.r om) ?_
 rintro _ w9 ⟨u10, rfl, k11, p12, q13⟩
 have H14 := H6.addU p12 k11 q13
 obtain ⟨a15, c16, rfl⟩ := Z1 (H14.at 2 rfl)
 refine ⟨_, rfl, ?_⟩
 have S17 := H14.pk [0, 1]
 refine kh S17 <| zhy 5 ?_
 refine zdc 10 (Z16 w9 p.e om) ?_
 rintro _ w19 ⟨u20, rfl, k21, p22, q23⟩
 have H24 := H14.addU p22 k21 q23
 obtain ⟨a25, c26, rfl⟩ := Z1 (H24.at 3 rfl)
 refine ⟨_, rfl, ?_⟩
 have S27 := H24.pk [0, 1]
 refine kh S27 <| zhy 8 ?_
 refine Z0S (d := 13) rfl (by rw [show p.f = ((p.f.toNat : Nat) : Int) by omega]; kernel_rfl) (Z6z w19 p.f.toNat om) ?_
 rintro _ w29 ⟨u30, rfl, k31, p32, q33⟩
 have H34 := H24.addU p32 k31 q33
 obtain ⟨a35, c36, rfl⟩ := Z1 (H34.at 4 rfl)
 refine ⟨_, rfl, ?_⟩
 have S37 := H34.pk [0, 1]
 refine kh S37 <| zhy 12 ?_
 refine zdc 17 (Z16 w29 (p.C.length : Int) om) ?_
 rintro _ w39 ⟨u40, rfl, k41, p42, q43⟩
 have H44 := H34.addU p42 k41 q43
 obtain ⟨a45, c46, rfl⟩ := Z1 (H44.at 5 rfl)
 refine ⟨_, rfl, ?_⟩
 have S47 := H44.pk [0, 1]
 refine kh S47 <| zhy 13 ?_
 refine Z2J 84 1 24 (.slice none 0 0) [(0, (.slice a15 ((Z4 p.r).length) c16)), (1, (.slice a25 ((Z4 p.e).length) c26)), (2, (.slice a35 ((Z1A p.f.toNat).length) c36)), (3, (.slice a45 ((Z4 (p.C.length : Int)).length) c46))] (ZfR a15 ((Z4 p.r).length) c16 a25 ((Z4 p.e).length) c26 a35 ((Z1A p.f.toNat).length) c36 a45 ((Z4 (p.C.length : Int)).length) c46) H44 ?_
 intro b49 w50 H51
 have S52 := H51.pk [0, 1]
 refine kh S52 <| zhy 14 ?_
 have l54 := Zv p.r
 have l55 := Zv p.e
 have l56 := Z2U p.f.toNat
 have l57 := Zv (p.C.length : Int)
 let A3 : Value := .slice (some ⟨b49, 0, none⟩) 4 4
 refine zdc 19 (Z1n w50 A3 [(.slice a15 ((Z4 p.r).length) c16), (.slice a25 ((Z4 p.e).length) c26), (.slice a35 ((Z1A p.f.toNat).length) c36), (.slice a45 ((Z4 (p.C.length : Int)).length) c46)] [(Z4 p.r), (Z4 p.e), (Z1A p.f.toNat), (Z4 (p.C.length : Int))] (ListAt.row (enc := Z9T) (sz := 1) (xs := [(.slice a15 ((Z4 p.r).length) c16), (.slice a25 ((Z4 p.e).length) c26), (.slice a35 ((Z1A p.f.toNat).length) c36), (.slice a45 ((Z4 (p.C.length : Int)).length) c46)]) Z1Q (by decide) (H51.at 6 rfl)) (Parts.cons (ListAt.row (enc := Zr) (sz := 1) Zs (by decide) (H51.at 2 rfl)) (Parts.cons (ListAt.row (enc := Zr) (sz := 1) Zs (by decide) (H51.at 3 rfl)) (Parts.cons (ListAt.row (enc := Zr) (sz := 1) Zs (by decide) (H51.at 4 rfl)) (Parts.cons (ListAt.row (enc := Zr) (sz := 1) Zs (by decide) (H51.at 5 rfl)) Parts.nil)))) (by simp only [List.flatten_cons, List.flatten_nil, List.length_append, List.length_nil]; omega) (by simp)) ?_
 rintro _ w58 ⟨u59, rfl, k60, p61, q62⟩
 have H63 := H51.addU p61 k60 q62
 obtain ⟨a64, c65, rfl⟩ := Z1 (H63.at 7 rfl)
 refine ⟨_, rfl, ?_⟩
 have S66 := H63.pk [0, 1]
 refine kh S66 <| hv0 15 S66 3 (.slice a64 (([(Z4 p.r), (Z4 p.e), (Z1A p.f.toNat), (Z4 (p.C.length : Int))].flatten).length) c65) <| zhf <| ztn <| Z7 <| zsl <| wv 20 (pt b2 3) <| zw1 21 A2 (H63.cell 1 rfl rfl) <| wv 22 (vi p.C.length) <| wv 23 (vi 0) ?_
 refine znt <| Zc ?_
 obtain ⟨hd, hhd⟩ : ∃ hd, hd = ([(Z4 p.r), (Z4 p.e), (Z1A p.f.toNat), (Z4 (p.C.length : Int))].flatten) := ⟨_, rfl⟩
 have hdl : hd.length ≤ 200 := by rw [hhd]; have q1 := Zv p.r; have q2 := Zv p.e; have q3 := Z2U p.f.toNat; have q4 := Zv (p.C.length : Int); simp only [List.flatten_cons, List.flatten_nil, List.length_append, List.length_nil]; omega
 refine Zq ([3, 4] ++ List.range' 23 12) (fun F_ W_ m_ => ∃ (i : Nat) (a : Option Addr) (c_ : Nat) (D : List UInt8), F_ 23 = (vi i) ∧ F_ 3 = (.slice a D.length c_) ∧ (i ≤ p.C.length) ∧ (D = hd ++ (p.C.take i).flatMap Z05) ∧ Sat w [zR w, Z0 b2 71 (Z74 p), (Z6g a15 (Z4 p.r) c16), (Z6g a25 (Z4 p.e) c26), (Z6g a35 (Z1A p.f.toNat) c36), (Z6g a45 (Z4 (p.C.length : Int)) c46), Zh 84 1 A3 4 (ZfR a15 ((Z4 p.r).length) c16 a25 ((Z4 p.e).length) c26 a35 ((Z1A p.f.toNat).length) c36 a45 ((Z4 (p.C.length : Int)).length) c46), (Z6g a D c_)] W_ ∧ m_ = p.C.length - i) _ ⟨0, a64, c65, ([(Z4 p.r), (Z4 p.e), (Z1A p.f.toNat), (Z4 (p.C.length : Int))].flatten), (show ((vi 0) : Value) = _ by first | rfl | go_num), (by first | rfl | go_num), (Nat.zero_le _), (by rw [hhd]; simp), H63, rfl⟩ ?_
 rintro g67 w68 _ ⟨i, a, c_, D, v70, v71, hi, hD, H69, rfl⟩
 refine Ze 23 _ v70 ?_
 refine Ze 3 _ v71 ?_
 have hDl : D.length ≤ 600000 := by rw [hD, List.length_append]; have q1 := Z4F (g := Z05) (p.C.take i) (fun c hc => Z1Z (Z7i hB c (List.mem_of_mem_take hc))); rw [List.length_take] at q1; omega
 have q2 := fun h : i < p.C.length => Z1Z (hB i h).len
 refine zsl <| wv 24 (.bool (decide ((i : Int) < p.C.length))) <| znt <| Z7 ?_
 refine zid (fun b73 g74 => ?_) fun b73 g98 => ?_
 ·refine Zm <| ztn <| Z7 <| Zc <| zsl <| wv 25 (vi i) <| wv 4 (vi i) <| znt <| Zl <| wv 26 (.slice a D.length c_) ?_
  refine wv 27 (pt b2 3) <| zw1 28 A2 (H69.cell 1 rfl rfl) <| wv 29 (vi i) ?_
  obtain ⟨g76, o77, c78, e79, R80⟩ := SliceOf.atD hC ce0 (show i < p.C.length by omega)
  refine wv 30 (.pointer (some ⟨g76, o77 + ((i : Int)).toNat * 38, none⟩)) ?_ (hr := Zd (E := 76) kr kr kn rfl e79 rfl om om)
  let A1 := kRt3_8 ((p.C.getD i ce0).x) (p.C.getD i ce0) (((p.C.getD i ce0).S).length)
  refine wv 31 (.agg ⟨A1⟩) ?_ (hr := ZE (vs := A1) rfl kr kr kn (H69.runR 0 rfl (Z0k R80 0 kr (show o77 + ((i : Int)).toNat * 38 = o77 + i * 38 + 0 by omega)) (fun h => h)))
  refine zy <| zdc 32 (Z8X w68 (p.C.getD i ce0) ((hB i om).keep H69 0 rfl)) ?_
  rintro _ w82 ⟨u83, rfl, k84, p85, q86⟩
  have H87 := H69.addU p85 k84 q86
  obtain ⟨a88, c89, rfl⟩ := Z1 (H87.at 8 rfl)
  refine ⟨_, rfl, ?_⟩
  let A0 := Z05 (p.C.getD i ce0)
  refine kk <| zy <| Z0g (T := 84) (e := 5) (size := 1) (bytes := 1) rfl H87 kr 7 8 rfl rfl rfl rfl (Z07 Zr Z10 A0) om om fun v91 w92 H93 => ?_
  have H96 := H93.ct 7 rfl (Zh 5 1 v91 ((D ++ A0).length) ((D ++ A0).flatMap Zr)) ja
  obtain ⟨a94, c95, rfl⟩ := Z1 (H96.at 7 rfl)
  refine kk <| wv 3 (.slice a94 ((D ++ A0).length) c95) <| Zn <| Z6 <| ztn <| Zl <| zwi 34 ((i : Int) + 1) <| wv 23 (vi ((i : Int) + 1)) <| Zn ?_
  have H97 := H96.pk [0, 1, 2, 3, 4, 5, 6, 7]
  refine Z5 ?_ _ ⟨(i + 1), a94, c95, (D ++ A0), rfl, (show ((.slice a94 ((D ++ A0).length) c95) : Value) = _ by first | rfl | go_num), om, (by rw [hD, Z50 p.C ce0 om, List.append_assoc]), H97, rfl⟩ om
  exact zs
 refine zxb <| ztn <| zsl <| wv 35 (.slice a D.length c_) <| wv 2 (.slice a D.length c_) <| znt <| Zk <| ze1 (.slice a D.length c_) ?_
 have hX : D = Z1O p := by unfold Z1O Z6h; rw [hD, hhd, List.take_of_length_le om]
 exact ⟨_, rfl, (by rw [← hX]; exact H69.at 7 rfl), H69.upd 0 rfl [] ne, (by rw [← hX]; exact H69.fresh 0 rfl (fun _ h => h) 7 rfl rfl)⟩
theorem Z4g (w : World) (p : PrR) (hC : ListAt Z0Z 38 w (.slice p.ca p.C.length p.cc) p.C) (hB : ∀ i, i < p.C.length → CeB w (p.C.getD i ce0)) (hl : p.C.length ≤ 64) (hn : p.r ≤ 9223372036854775807 ∧ p.e ≤ 9223372036854775807 ∧ 0 ≤ p.f ∧ p.f < 18446744073709551616) :
  Calls Tryz.prog 38 #[(.agg ⟨([i6 p.r, i6 p.e, u6 p.f, (.slice p.ca p.C.length p.cc), i6 p.sb, i6 p.sm] : LV)⟩)] w fun e w' => ∃ u, e = .returned u ∧ (Zh 5 1 u (Z1a p).length ((Z1a p).flatMap Zr)).ok w' ∧ Upd [] w w' ∧ ∀ q_, (Zh 5 1 u (Z1a p).length ((Z1a p).flatMap Zr)).fp q_ → w.heap.size ≤ q_ := by
 have hp := Z5j (Z7i hB) hl
 have H := Sat.start0 w
 refine Za Tryz.func38 rfl 10 rfl kn ?_
 refine zsl <| zy <| zdb (Z74 p) H fun b2 w3 H4 => ?_
 refine kk <| wv 2 (.slice none 0 0) <| znt <| Z7 <| ZX H4 [zR w, Z0 b2 71 (Z74 p)] 8 rfl kr (fun Hx => (Hx.pk [0, 1])) fun w5 H6 S7 => ?_
 refine hv0 3 S7 6 (.agg ⟨(Z74 p)⟩) ?_ (he := fun _ H' => (zlN (vs := (Z74 p)) (H'.at 1 rfl)))
 refine zhy 0 ?_
 refine Z2J 5 1 1 (.int .u8 (0)) [(0, (.int .u8 (112))), (1, (.int .u8 (114))), (2, (.int .u8 (111))), (3, (.int .u8 (109))), (4, (.int .u8 (105))), (5, (.int .u8 (115))), (6, (.int .u8 (101)))] (ZfQ) H6 ?_
 intro b9 w10 H11
 let A1 : Value := .slice (some ⟨b9, 0, none⟩) 7 7
 have H12 := H11.ct 2 rfl (Zh 5 1 A1 7 (zq3.flatMap Zr)) (by rw [show ((ZfQ) : LV) = zq3.flatMap Zr from rfl])
 have S13 := H12.pk [0, 1]
 refine kh S13 <| zhy 1 ?_
 refine Z1l (e := 5) (s := zq3) rfl H12 2 rfl kr kr rfl ?_
 intro w15 H16
 have S17 := H16.pk [0, 1]
 refine kh S17 <| zhy 2 ?_
 refine zdc 5 (Z43 w15 A1 zq3 (ListAt.ofTxt (H16.at 2 rfl)) (by simp)) ?_
 rintro _ w19 ⟨u20, rfl, k21, p22, q23⟩
 have H24 := H16.addU p22 k21 q23
 obtain ⟨a25, c26, rfl⟩ := Z1 (H24.at 3 rfl)
 refine ⟨_, rfl, ?_⟩
 have S27 := H24.pk [0, 1]
 refine kh S27 <| zhy 4 ?_
 refine zdc 7 (Z6k w19 p (ListAt.now H24 0 rfl hC) (fun i hi => (hB i hi).keep H24 0 rfl) hl hn) ?_
 rintro _ w29 ⟨u30, rfl, k31, p32, q33⟩
 have H34 := H24.addU p32 k31 q33
 obtain ⟨a35, c36, rfl⟩ := Z1 (H34.at 4 rfl)
 refine ⟨_, rfl, ?_⟩
 have S37 := H34.pk [0, 1]
 refine kh S37 <| zhy 5 ?_
 refine Z2J 84 1 24 (.slice none 0 0) [(0, (.slice a25 ((Zj zq3).length) c26)), (1, (.slice a35 ((Z1O p).length) c36))] (Z7H a25 ((Zj zq3).length) c26 a35 ((Z1O p).length) c36) H34 ?_
 intro b39 w40 H41
 have S42 := H41.pk [0, 1]
 refine kh S42 <| zhy 6 ?_
 have l44 := Z0A zq3
 simp only [List.length_cons, List.length_nil] at l44
 have l45 := hp
 refine zdc 9 (Z1n w40 (.slice (some ⟨b39, 0, none⟩) 2 2) [(.slice a25 ((Zj zq3).length) c26), (.slice a35 ((Z1O p).length) c36)] [(Zj zq3), (Z1O p)] (ListAt.row (enc := Z9T) (sz := 1) (xs := [(.slice a25 ((Zj zq3).length) c26), (.slice a35 ((Z1O p).length) c36)]) Z1Q (by decide) (H41.at 5 rfl)) (Parts.cons (ListAt.row (enc := Zr) (sz := 1) Zs (by decide) (H41.at 3 rfl)) (Parts.cons (ListAt.row (enc := Zr) (sz := 1) Zs (by decide) (H41.at 4 rfl)) Parts.nil)) (by simp only [List.flatten_cons, List.flatten_nil, List.length_append, List.length_nil]; omega) (by simp)) ?_
 rintro _ w46 ⟨u47, rfl, k48, p49, q50⟩
 have H51 := H41.addU p49 k48 q50
 obtain ⟨a52, c53, rfl⟩ := Z1 (H51.at 6 rfl)
 refine ⟨_, rfl, ?_⟩
 have S54 := H51.pk [0, 1]
 let A0 : Value := .slice a52 (([(Zj zq3), (Z1O p)].flatten).length) c53
 refine kh S54 <| hv0 7 S54 2 A0 <| zhf <| ztn <| Zk <| ze1 A0 ?_
 have hX : ([(Zj zq3), (Z1O p)].flatten) = Z1a p := by rfl
 exact ⟨_, rfl, (by rw [← hX]; exact H51.at 6 rfl), H51.upd 0 rfl [] ne, (by rw [← hX]; exact H51.fresh 0 rfl (fun _ h => h) 6 rfl rfl)⟩
end Go.Proofs.YtenihpghfdcpkaaGreat
