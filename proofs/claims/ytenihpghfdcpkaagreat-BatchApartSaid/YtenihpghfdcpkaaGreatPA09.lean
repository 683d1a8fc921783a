/- WHAT IS PROVED: contracts and plain laws of Rt3. Conditions: stated with each. -/
import Derived.Test.YtenihpghfdcpkaaGreatPA05
import Derived.Test.YtenihpghfdcpkaaGreatPA08
set_option maxHeartbeats 4000000
set_option maxRecDepth 100000
namespace Go.Proofs.YtenihpghfdcpkaaGreat
open Go.RowKit
abbrev Z57 (p0 : Int) (p1 : Int) : List Value := ([(.int .i64 p0), (.int .i64 p1)] : List Value)
abbrev Z65 (p0 : Option Addr) (p1 : List UInt8) (p2 : Nat) : Ck := Zc 5 1 (.slice p0 p1.length p2) p1.length (p1.flatMap Zy)
abbrev Z7J (p0 : Option Addr) (p1 : Nat) (p2 : Nat) (p3 : Option Addr) (p4 : Nat) (p5 : Nat) : List Value := ([(.slice p0 p1 p2), (.slice p3 p4 p5)] : List Value)
abbrev Z4f (p0 : Z4) : List Value := ([(.int .i64 p0.r), (.int .i64 p0.cl), (.int .i64 p0.seq)] : List Value) ++ hc p0.h ++ ([(.int .u64 p0.t), (.int .i64 p0.sb), (.int .i64 p0.sm)] : List Value)
abbrev ZaH (p0 : Z9) : List Value := ([(.int .i64 p0.cl), (.int .i64 p0.seq)] : List Value) ++ hc p0.h ++ ([(.int .i64 p0.len), (.int .i64 p0.sb), (.int .i64 p0.sm)] : List Value)
abbrev Zcl (p0 : CeR) : List Value := ([(.int .i64 p0.x.cl), (.int .i64 p0.x.seq)] : List Value) ++ hc p0.x.h ++ ([(.int .i64 p0.x.len), (.int .i64 p0.x.sb), (.int .i64 p0.x.sm), (.slice p0.sa p0.S.length p0.sc)] : List Value)
abbrev Z6O (p0 : PrR) : List Value := ([(.int .i64 p0.r), (.int .i64 p0.e), (.int .u64 p0.f), (.slice p0.ca p0.C.length p0.cc), (.int .i64 p0.sb), (.int .i64 p0.sm)] : List Value)
abbrev ZeV (p0 : Option Addr) (p1 : Nat) (p2 : Nat) (p3 : Option Addr) (p4 : Nat) (p5 : Nat) (p6 : Option Addr) (p7 : Nat) (p8 : Nat) (p9 : Option Addr) (p10 : Nat) (p11 : Nat) : List Value := ([(.slice p0 p1 p2), (.slice p3 p4 p5), (.slice p6 p7 p8), (.slice p9 p10 p11)] : List Value)
abbrev ZeO (p0 : Z9) (p1 : CeR) (p2 : Nat) : List Value := ([(.int .i64 p0.cl), (.int .i64 p0.seq)] : List Value) ++ hc p0.h ++ ([(.int .i64 p0.len), (.int .i64 p0.sb), (.int .i64 p0.sm), (.slice p1.sa p2 p1.sc)] : List Value)
abbrev ZeI : List Value := ([(.int .u8 (112)), (.int .u8 (114)), (.int .u8 (111)), (.int .u8 (109)), (.int .u8 (105)), (.int .u8 (115)), (.int .u8 (101))] : List Value)
def StB (s : Z4) : Prop := (s.r ≤ 9223372036854775807 ∧ s.cl ≤ 9223372036854775807 ∧ s.seq ≤ 9223372036854775807 ∧ 0 ≤ s.t ∧ s.t < 18446744073709551616) ∧ s.sb ≤ 9223372036854775807 ∧ s.sm ≤ 9223372036854775807
def CoB (x : Z9) : Prop := (x.cl ≤ 9223372036854775807 ∧ x.seq ≤ 9223372036854775807 ∧ x.len ≤ 9223372036854775807) ∧ x.sb ≤ 9223372036854775807 ∧ x.sm ≤ 9223372036854775807
structure CeB (w : World) (c : CeR) : Prop where
 x : CoB c.x
 at_ : ListAt Z1U 38 w (.slice c.sa c.S.length c.sc) c.S
 S : ∀ i, i < c.S.length → StB (c.S.getD i Zf)
 len : c.S.length ≤ 100
theorem CeB.keep {w w0 w' : World} {G : List Ck} {c : CeR} (h : CeB w c) (H : Sat w0 G w') (j : Nat) (hj : G[j]? = some (Z3 w fun _ => False)) : CeB w' c := ⟨h.x, ListAt.now H j hj h.at_, h.S, h.len⟩
theorem ZaP (w : World) (a b : Int) (hs : a ≤ 9223372036854775807 ∧ b ≤ 9223372036854775807) :
  Calls Tryz.prog 192 #[(.agg ⟨([(.int .i64 (a)), (.int .i64 (b))] : List Value)⟩)] w fun e w' => ∃ u, e = .returned u ∧ (Zc 5 1 u (Z6d a b).length ((Z6d a b).flatMap Zy)).ok w' ∧ Upd [] w w' ∧ ∀ q_, (Zc 5 1 u (Z6d a b).length ((Z6d a b).flatMap Zy)).fp q_ → w.heap.size ≤ q_ := by
 have H := Sat.start0 w
 refine Z8 Tryz.func192 rfl 11 rfl kn ?_
 refine zsl <| zy <| zdb (Z57 a b) H fun b2 w3 H4 => ?_
 refine kk <| wv 2 (.slice none 0 0) <| znt <| Z5 <| Z08 H4 [Z3 w (fun _ => False), Z0 b2 69 (Z57 a b)] 9 rfl kr (fun Hx => (Hx.pk [0, 1])) fun w5 H6 S7 => ?_
 refine hv0 0 S7 3 (pt b2 0) <| hv0 1 S7 4 (vi a) ?_ (he := fun _ H' => (zl1 (H'.cell 1 rfl rfl)))
 refine hv0 3 S7 6 (pt b2 1) <| hv0 4 S7 7 (vi b) ?_ (he := fun _ H' => (zl1 (H'.cell 1 rfl rfl)))
 refine zhy 2 ?_
 refine zdc 5 (Z0Q w5 a om) ?_
 rintro _ w9 ⟨u10, rfl, k11, p12, q13⟩
 have H14 := H6.addU p12 k11 q13
 obtain ⟨a15, c16, rfl⟩ := Z2 (H14.at 2 rfl)
 refine ⟨_, rfl, ?_⟩
 have S17 := H14.pk [0, 1]
 refine kh S17 <| zhy 5 ?_
 refine zdc 8 (Z0Q w9 b om) ?_
 rintro _ w19 ⟨u20, rfl, k21, p22, q23⟩
 have H24 := H14.addU p22 k21 q23
 obtain ⟨a25, c26, rfl⟩ := Z2 (H24.at 3 rfl)
 refine ⟨_, rfl, ?_⟩
 have S27 := H24.pk [0, 1]
 refine kh S27 <| zhy 6 ?_
 refine Z2w 84 1 24 (.slice none 0 0) [(0, (.slice a15 ((Zi a).length) c16)), (1, (.slice a25 ((Zi b).length) c26))] (Z7J a15 ((Zi a).length) c16 a25 ((Zi b).length) c26) H24 ?_
 intro b29 w30 H31
 have S32 := H31.pk [0, 1]
 refine kh S32 <| zhy 7 ?_
 have l34 := ZM a
 have l35 := ZM b
 refine zdc 10 (Z1c w30 (.slice (some ⟨b29, 0, none⟩) 2 2) [(.slice a15 ((Zi a).length) c16), (.slice a25 ((Zi b).length) c26)] [(Zi a), (Zi b)] (ListAt.row (enc := Z9s) (sz := 1) (xs := [(.slice a15 ((Zi a).length) c16), (.slice a25 ((Zi b).length) c26)]) Z1F (by decide) (H31.at 4 rfl)) (Parts.cons (ListAt.row (enc := Zy) (sz := 1) Zk (by decide) (H31.at 2 rfl)) (Parts.cons (ListAt.row (enc := Zy) (sz := 1) Zk (by decide) (H31.at 3 rfl)) Parts.nil)) (by simp only [List.flatten_cons, List.flatten_nil, List.length_append, List.length_nil]; omega) (by simp)) ?_
 rintro _ w36 ⟨u37, rfl, k38, p39, q40⟩
 have H41 := H31.addU p39 k38 q40
 obtain ⟨a42, c43, rfl⟩ := Z2 (H41.at 5 rfl)
 refine ⟨_, rfl, ?_⟩
 have S44 := H41.pk [0, 1]
 refine kh S44 <| hv0 8 S44 2 (.slice a42 (([(Zi a), (Zi b)].flatten).length) c43) <| zhf <| ztn <| Zq <| ze1 (.slice a42 (([(Zi a), (Zi b)].flatten).length) c43) ?_
 have hX : ([(Zi a), (Zi b)].flatten) = Z6d a b := by rfl
 exact ⟨_, rfl, (by rw [← hX]; exact H41.at 5 rfl), H41.upd 0 rfl [] ne, (by rw [← hX]; exact H41.fresh 0 rfl (fun _ h => h) 5 rfl rfl)⟩
theorem Z8n (w : World) (s : Z4) (hs : StB s) :
  Calls Tryz.prog 148 #[(.agg ⟨(([(.int .i64 (s.r)), (.int .i64 (s.cl)), (.int .i64 (s.seq))] : List Value) ++ hc s.h ++ ([(.int .u64 (s.t)), (.int .i64 (s.sb)), (.int .i64 (s.sm))] : List Value))⟩)] w fun e w' => ∃ u, e = .returned u ∧ (Zc 5 1 u (Z0X s).length ((Z0X s).flatMap Zy)).ok w' ∧ Upd [] w w' ∧ ∀ q_, (Zc 5 1 u (Z0X s).length ((Z0X s).flatMap Zy)).fp q_ → w.heap.size ≤ q_ := by
 unfold StB at hs
 have H := Sat.start0 w
 refine Z8 Tryz.func148 rfl 10 rfl kn ?_
 refine zsl <| zy <| zdb (Z4f s) H fun b2 w3 H4 => ?_
 refine kk <| wv 2 (.slice none 0 0) <| znt <| Z5 <| Z08 H4 [Z3 w (fun _ => False), Z0 b2 149 (Z4f s)] 8 rfl kr (fun Hx => (Hx.pk [0, 1])) fun w5 H6 S7 => ?_
 refine hv0 0 S7 3 (.agg ⟨(Z4f s)⟩) ?_ (he := fun _ H' => (zlN (vs := (Z4f s)) (H'.at 1 rfl)))
 refine hv0 2 S7 5 (pt b2 36) <| hv0 3 S7 6 (.agg ⟨(Z57 s.sb s.sm)⟩) ?_ (he := fun _ H' => (zlN (vs := (Z57 s.sb s.sm)) (H'.at 1 rfl)))
 refine zhy 1 ?_
 refine zdc 4 (Z8E w5 s hs.1) ?_
 rintro _ w9 ⟨u10, rfl, k11, p12, q13⟩
 have H14 := H6.addU p12 k11 q13
 obtain ⟨a15, c16, rfl⟩ := Z2 (H14.at 2 rfl)
 refine ⟨_, rfl, ?_⟩
 have S17 := H14.pk [0, 1]
 refine kh S17 <| zhy 4 ?_
 refine zdc 7 (ZaP w9 s.sb s.sm om) ?_
 rintro _ w19 ⟨u20, rfl, k21, p22, q23⟩
 have H24 := H14.addU p22 k21 q23
 obtain ⟨a25, c26, rfl⟩ := Z2 (H24.at 3 rfl)
 refine ⟨_, rfl, ?_⟩
 have S27 := H24.pk [0, 1]
 refine kh S27 <| zhy 5 ?_
 refine Z2w 84 1 24 (.slice none 0 0) [(0, (.slice a15 ((Z1o s).length) c16)), (1, (.slice a25 ((Z6d s.sb s.sm).length) c26))] (Z7J a15 ((Z1o s).length) c16 a25 ((Z6d s.sb s.sm).length) c26) H24 ?_
 intro b29 w30 H31
 have S32 := H31.pk [0, 1]
 refine kh S32 <| zhy 6 ?_
 have l34 := Z4u s
 have l35 := Z6l s.sb s.sm
 refine zdc 9 (Z1c w30 (.slice (some ⟨b29, 0, none⟩) 2 2) [(.slice a15 ((Z1o s).length) c16), (.slice a25 ((Z6d s.sb s.sm).length) c26)] [(Z1o s), (Z6d s.sb s.sm)] (ListAt.row (enc := Z9s) (sz := 1) (xs := [(.slice a15 ((Z1o s).length) c16), (.slice a25 ((Z6d s.sb s.sm).length) c26)]) Z1F (by decide) (H31.at 4 rfl)) (Parts.cons (ListAt.row (enc := Zy) (sz := 1) Zk (by decide) (H31.at 2 rfl)) (Parts.cons (ListAt.row (enc := Zy) (sz := 1) Zk (by decide) (H31.at 3 rfl)) Parts.nil)) (by simp only [List.flatten_cons, List.flatten_nil, List.length_append, List.length_nil]; omega) (by simp)) ?_
 rintro _ w36 ⟨u37, rfl, k38, p39, q40⟩
 have H41 := H31.addU p39 k38 q40
 obtain ⟨a42, c43, rfl⟩ := Z2 (H41.at 5 rfl)
 refine ⟨_, rfl, ?_⟩
 have S44 := H41.pk [0, 1]
 refine kh S44 <| hv0 7 S44 2 (.slice a42 (([(Z1o s), (Z6d s.sb s.sm)].flatten).length) c43) <| zhf <| ztn <| Zq <| ze1 (.slice a42 (([(Z1o s), (Z6d s.sb s.sm)].flatten).length) c43) ?_
 have hX : ([(Z1o s), (Z6d s.sb s.sm)].flatten) = Z0X s := by rfl
 exact ⟨_, rfl, (by rw [← hX]; exact H41.at 5 rfl), H41.upd 0 rfl [] ne, (by rw [← hX]; exact H41.fresh 0 rfl (fun _ h => h) 5 rfl rfl)⟩
theorem Z7h (w : World) (s : Z9) (hs : CoB s) :
  Calls Tryz.prog 147 #[(.agg ⟨(([(.int .i64 (s.cl)), (.int .i64 (s.seq))] : List Value) ++ hc s.h ++ ([(.int .i64 (s.len)), (.int .i64 (s.sb)), (.int .i64 (s.sm))] : List Value))⟩)] w fun e w' => ∃ u, e = .returned u ∧ (Zc 5 1 u (Z0f s).length ((Z0f s).flatMap Zy)).ok w' ∧ Upd [] w w' ∧ ∀ q_, (Zc 5 1 u (Z0f s).length ((Z0f s).flatMap Zy)).fp q_ → w.heap.size ≤ q_ := by
 unfold CoB at hs
 have H := Sat.start0 w
 refine Z8 Tryz.func147 rfl 16 rfl kn ?_
 refine zsl <| zy <| zdb (ZaH s) H fun b2 w3 H4 => ?_
 refine kk <| wv 2 (.slice none 0 0) <| znt <| Z5 <| Z08 H4 [Z3 w (fun _ => False), Z0 b2 73 (ZaH s)] 14 rfl kr (fun Hx => (Hx.pk [0, 1])) fun w5 H6 S7 => ?_
 refine hv0 0 S7 3 (pt b2 0) <| hv0 1 S7 4 (.agg ⟨(Z57 s.cl s.seq)⟩) ?_ (he := fun _ H' => (zlN (vs := (Z57 s.cl s.seq)) (H'.at 1 rfl)))
 refine hv0 3 S7 6 (pt b2 2) <| hv0 4 S7 7 (.slice (some ⟨b2, 2, none⟩) 32 32) <| hv0 5 S7 8 (pt b2 34) <| hv0 6 S7 9 (vi s.len) ?_ (he := fun _ H' => (zl1 (H'.cell 1 rfl kr)))
 refine hv0 8 S7 11 (pt b2 35) <| hv0 9 S7 12 (.agg ⟨(Z57 s.sb s.sm)⟩) ?_ (he := fun _ H' => (zlN (vs := (Z57 s.sb s.sm)) (H'.at 1 rfl)))
 refine zhy 2 ?_
 refine zdc 5 (Z71 w5 s.cl s.seq om) ?_
 rintro _ w9 ⟨u10, rfl, k11, p12, q13⟩
 have H14 := H6.addU p12 k11 q13
 obtain ⟨a15, c16, rfl⟩ := Z2 (H14.at 2 rfl)
 refine ⟨_, rfl, ?_⟩
 have S17 := H14.pk [0, 1]
 refine kh S17 <| zhy 7 ?_
 refine zdc 10 (Z0Q w9 s.len om) ?_
 rintro _ w19 ⟨u20, rfl, k21, p22, q23⟩
 have H24 := H14.addU p22 k21 q23
 obtain ⟨a25, c26, rfl⟩ := Z2 (H24.at 3 rfl)
 refine ⟨_, rfl, ?_⟩
 have S27 := H24.pk [0, 1]
 refine kh S27 <| zhy 10 ?_
 refine zdc 13 (ZaP w19 s.sb s.sm om) ?_
 rintro _ w29 ⟨u30, rfl, k31, p32, q33⟩
 have H34 := H24.addU p32 k31 q33
 obtain ⟨a35, c36, rfl⟩ := Z2 (H34.at 4 rfl)
 refine ⟨_, rfl, ?_⟩
 have S37 := H34.pk [0, 1]
 refine kh S37 <| zhy 11 ?_
 refine Z2w 84 1 24 (.slice none 0 0) [(0, (.slice a15 ((Z1Z s.cl s.seq).length) c16)), (1, (.slice (some ⟨b2, 2, none⟩) 32 32)), (2, (.slice a25 ((Zi s.len).length) c26)), (3, (.slice a35 ((Z6d s.sb s.sm).length) c36))] ([(.slice a15 ((Z1Z s.cl s.seq).length) c16), (.slice (some ⟨b2, 2, none⟩) 32 32), (.slice a25 ((Zi s.len).length) c26), (.slice a35 ((Z6d s.sb s.sm).length) c36)] : List Value) H34 ?_
 intro b39 w40 H41
 have S42 := H41.pk [0, 1]
 refine kh S42 <| zhy 12 ?_
 have l44 := Z4w s.cl s.seq
 have l45 := s.h.len
 have l46 := ZM s.len
 have l47 := Z6l s.sb s.sm
 refine zdc 15 (Z1c w40 (.slice (some ⟨b39, 0, none⟩) 4 4) [(.slice a15 ((Z1Z s.cl s.seq).length) c16), (.slice (some ⟨b2, 2, none⟩) 32 32), (.slice a25 ((Zi s.len).length) c26), (.slice a35 ((Z6d s.sb s.sm).length) c36)] [(Z1Z s.cl s.seq), s.h.l, (Zi s.len), (Z6d s.sb s.sm)] (ListAt.row (enc := Z9s) (sz := 1) (xs := [(.slice a15 ((Z1Z s.cl s.seq).length) c16), (.slice (some ⟨b2, 2, none⟩) 32 32), (.slice a25 ((Zi s.len).length) c26), (.slice a35 ((Z6d s.sb s.sm).length) c36)]) Z1F (by decide) (H41.at 5 rfl)) (Parts.cons (ListAt.row (enc := Zy) (sz := 1) Zk (by decide) (H41.at 2 rfl)) (Parts.cons (ListAt.ofHash (Z3U (H41.at 1 rfl) kr) (by decide)) (Parts.cons (ListAt.row (enc := Zy) (sz := 1) Zk (by decide) (H41.at 3 rfl)) (Parts.cons (ListAt.row (enc := Zy) (sz := 1) Zk (by decide) (H41.at 4 rfl)) Parts.nil)))) (by simp only [List.flatten_cons, List.flatten_nil, List.length_append, List.length_nil]; omega) (by simp)) ?_
 rintro _ w48 ⟨u49, rfl, k50, p51, q52⟩
 have H53 := H41.addU p51 k50 q52
 obtain ⟨a54, c55, rfl⟩ := Z2 (H53.at 6 rfl)
 refine ⟨_, rfl, ?_⟩
 have S56 := H53.pk [0, 1]
 refine kh S56 <| hv0 13 S56 2 (.slice a54 (([(Z1Z s.cl s.seq), s.h.l, (Zi s.len), (Z6d s.sb s.sm)].flatten).length) c55) <| zhf <| ztn <| Zq <| ze1 (.slice a54 (([(Z1Z s.cl s.seq), s.h.l, (Zi s.len), (Z6d s.sb s.sm)].flatten).length) c55) ?_
 have hX : ([(Z1Z s.cl s.seq), s.h.l, (Zi s.len), (Z6d s.sb s.sm)].flatten) = Z0f s := by rfl
 exact ⟨_, rfl, (by rw [← hX]; exact H53.at 6 rfl), H53.upd 0 rfl [] ne, (by rw [← hX]; exact H53.fresh 0 rfl (fun _ h => h) 6 rfl rfl)⟩
theorem Z9k (w : World) (s : Z4) (hs : (s.r ≤ 9223372036854775807 ∧ s.cl ≤ 9223372036854775807 ∧ s.seq ≤ 9223372036854775807 ∧ 0 ≤ s.t ∧ s.t < 18446744073709551616)) :
  Calls Tryz.prog 87 #[(.agg ⟨(([(.int .i64 (s.r)), (.int .i64 (s.cl)), (.int .i64 (s.seq))] : List Value) ++ hc s.h ++ ([(.int .u64 (s.t)), (.int .i64 (s.sb)), (.int .i64 (s.sm))] : List Value))⟩)] w fun e w' => ∃ u, e = .returned u ∧ (Zc 5 1 u (Z1o s).length ((Z1o s).flatMap Zy)).ok w' ∧ Upd [] w w' ∧ ∀ q_, (Zc 5 1 u (Z1o s).length ((Z1o s).flatMap Zy)).fp q_ → w.heap.size ≤ q_ := by
 have H := Sat.start0 w
 refine Z8 Tryz.func87 rfl 16 rfl kn ?_
 refine zsl <| zy <| zdb (Z4f s) H fun b2 w3 H4 => ?_
 refine kk <| wv 2 (.slice none 0 0) <| znt <| Z5 <| Z08 H4 [Z3 w (fun _ => False), Z0 b2 113 (Z4f s)] 14 rfl kr (fun Hx => (Hx.pk [0, 1])) fun w5 H6 S7 => ?_
 refine hv0 0 S7 3 (pt b2 0) <| hv0 1 S7 4 (vi s.r) ?_ (he := fun _ H' => (zl1 (H'.cell 1 rfl kr)))
 refine hv0 3 S7 6 (pt b2 1) <| hv0 4 S7 7 (.agg ⟨(Z57 s.cl s.seq)⟩) ?_ (he := fun _ H' => (zlN (vs := (Z57 s.cl s.seq)) (H'.at 1 rfl)))
 refine hv0 6 S7 9 (pt b2 3) <| hv0 7 S7 10 (.slice (some ⟨b2, 3, none⟩) 32 32) <| hv0 8 S7 11 (pt b2 35) <| hv0 9 S7 12 (vu s.t) ?_ (he := fun _ H' => (zl1 (H'.cell 1 rfl kr)))
 refine zhy 2 ?_
 refine zdc 5 (Z0Q w5 s.r om) ?_
 rintro _ w9 ⟨u10, rfl, k11, p12, q13⟩
 have H14 := H6.addU p12 k11 q13
 obtain ⟨a15, c16, rfl⟩ := Z2 (H14.at 2 rfl)
 refine ⟨_, rfl, ?_⟩
 have S17 := H14.pk [0, 1]
 refine kh S17 <| zhy 5 ?_
 refine zdc 8 (Z71 w9 s.cl s.seq om) ?_
 rintro _ w19 ⟨u20, rfl, k21, p22, q23⟩
 have H24 := H14.addU p22 k21 q23
 obtain ⟨a25, c26, rfl⟩ := Z2 (H24.at 3 rfl)
 refine ⟨_, rfl, ?_⟩
 have S27 := H24.pk [0, 1]
 refine kh S27 <| zhy 10 ?_
 refine Z6K (d := 13) rfl (by rw [show s.t = ((s.t.toNat : Nat) : Int) by omega]; kernel_rfl) (Z6j w19 s.t.toNat om) ?_
 rintro _ w29 ⟨u30, rfl, k31, p32, q33⟩
 have H34 := H24.addU p32 k31 q33
 obtain ⟨a35, c36, rfl⟩ := Z2 (H34.at 4 rfl)
 refine ⟨_, rfl, ?_⟩
 have S37 := H34.pk [0, 1]
 refine kh S37 <| zhy 11 ?_
 refine Z2w 84 1 24 (.slice none 0 0) [(0, (.slice a15 ((Zi s.r).length) c16)), (1, (.slice a25 ((Z1Z s.cl s.seq).length) c26)), (2, (.slice (some ⟨b2, 3, none⟩) 32 32)), (3, (.slice a35 ((Z2W s.t.toNat).length) c36))] ([(.slice a15 ((Zi s.r).length) c16), (.slice a25 ((Z1Z s.cl s.seq).length) c26), (.slice (some ⟨b2, 3, none⟩) 32 32), (.slice a35 ((Z2W s.t.toNat).length) c36)] : List Value) H34 ?_
 intro b39 w40 H41
 have S42 := H41.pk [0, 1]
 refine kh S42 <| zhy 12 ?_
 have l44 := ZM s.r
 have l45 := Z4w s.cl s.seq
 have l46 := s.h.len
 have l47 := Z45 s.t.toNat
 refine zdc 15 (Z1c w40 (.slice (some ⟨b39, 0, none⟩) 4 4) [(.slice a15 ((Zi s.r).length) c16), (.slice a25 ((Z1Z s.cl s.seq).length) c26), (.slice (some ⟨b2, 3, none⟩) 32 32), (.slice a35 ((Z2W s.t.toNat).length) c36)] [(Zi s.r), (Z1Z s.cl s.seq), s.h.l, (Z2W s.t.toNat)] (ListAt.row (enc := Z9s) (sz := 1) (xs := [(.slice a15 ((Zi s.r).length) c16), (.slice a25 ((Z1Z s.cl s.seq).length) c26), (.slice (some ⟨b2, 3, none⟩) 32 32), (.slice a35 ((Z2W s.t.toNat).length) c36)]) Z1F (by decide) (H41.at 5 rfl)) (Parts.cons (ListAt.row (enc := Zy) (sz := 1) Zk (by decide) (H41.at 2 rfl)) (Parts.cons (ListAt.row (enc := Zy) (sz := 1) Zk (by decide) (H41.at 3 rfl)) (Parts.cons (ListAt.ofHash (Z3U (H41.at 1 rfl) kr) (by decide)) (Parts.cons (ListAt.row (enc := Zy) (sz := 1) Zk (by decide) (H41.at 4 rfl)) Parts.nil)))) (by simp only [List.flatten_cons, List.flatten_nil, List.length_append, List.length_nil]; omega) (by simp)) ?_
 rintro _ w48 ⟨u49, rfl, k50, p51, q52⟩
 have H53 := H41.addU p51 k50 q52
 obtain ⟨a54, c55, rfl⟩ := Z2 (H53.at 6 rfl)
 refine ⟨_, rfl, ?_⟩
 have S56 := H53.pk [0, 1]
 refine kh S56 <| hv0 13 S56 2 (.slice a54 (([(Zi s.r), (Z1Z s.cl s.seq), s.h.l, (Z2W s.t.toNat)].flatten).length) c55) <| zhf <| ztn <| Zq <| ze1 (.slice a54 (([(Zi s.r), (Z1Z s.cl s.seq), s.h.l, (Z2W s.t.toNat)].flatten).length) c55) ?_
 have hX : ([(Zi s.r), (Z1Z s.cl s.seq), s.h.l, (Z2W s.t.toNat)].flatten) = Z1o s := by rfl
 exact ⟨_, rfl, (by rw [← hX]; exact H53.at 6 rfl), H53.upd 0 rfl [] ne, (by rw [← hX]; exact H53.fresh 0 rfl (fun _ h => h) 6 rfl rfl)⟩
theorem Z4o (w : World) (s : Z4) (hs : (s.r ≤ 9223372036854775807 ∧ s.cl ≤ 9223372036854775807 ∧ s.seq ≤ 9223372036854775807 ∧ 0 ≤ s.t ∧ s.t < 18446744073709551616)) :
  Calls Tryz.prog 36 #[(.agg ⟨(([(.int .i64 (s.r)), (.int .i64 (s.cl)), (.int .i64 (s.seq))] : List Value) ++ hc s.h ++ ([(.int .u64 (s.t)), (.int .i64 (s.sb)), (.int .i64 (s.sm))] : List Value))⟩)] w fun e w' => ∃ u, e = .returned u ∧ (Zc 5 1 u (Z2K s).length ((Z2K s).flatMap Zy)).ok w' ∧ Upd [] w w' ∧ ∀ q_, (Zc 5 1 u (Z2K s).length ((Z2K s).flatMap Zy)).fp q_ → w.heap.size ≤ q_ := by
 have H := Sat.start0 w
 refine Z8 Tryz.func36 rfl 10 rfl kn ?_
 refine zsl <| zy <| zdb (Z4f s) H fun b2 w3 H4 => ?_
 refine kk <| wv 2 (.slice none 0 0) <| znt <| Z5 <| Z08 H4 [Z3 w (fun _ => False), Z0 b2 113 (Z4f s)] 8 rfl kr (fun Hx => (Hx.pk [0, 1])) fun w5 H6 S7 => ?_
 refine hv0 3 S7 6 (.agg ⟨(Z4f s)⟩) ?_ (he := fun _ H' => (zlN (vs := (Z4f s)) (H'.at 1 rfl)))
 refine zhy 0 ?_
 refine Z2w 5 1 1 (.int .u8 (0)) [(0, (.int .u8 (97))), (1, (.int .u8 (99))), (2, (.int .u8 (107)))] ([(.int .u8 (97)), (.int .u8 (99)), (.int .u8 (107))] : List Value) H6 ?_
 intro b9 w10 H11
 have H12 := H11.ct 2 rfl (Zc 5 1 (.slice (some ⟨b9, 0, none⟩) 3 3) 3 ([97, 99, 107].flatMap Zy)) (by rw [show (([(.int .u8 (97)), (.int .u8 (99)), (.int .u8 (107))] : List Value) : List Value) = [97, 99, 107].flatMap Zy from rfl])
 have S13 := H12.pk [0, 1]
 refine kh S13 <| zhy 1 ?_
 refine Z1W (e := 5) (s := [97, 99, 107]) rfl H12 2 rfl kr kr rfl ?_
 intro w15 H16
 have S17 := H16.pk [0, 1]
 refine kh S17 <| zhy 2 ?_
 refine zdc 5 (Z4d w15 (.slice (some ⟨b9, 0, none⟩) 3 3) ([97, 99, 107]) (ListAt.ofTxt (H16.at 2 rfl)) (by simp)) ?_
 rintro _ w19 ⟨u20, rfl, k21, p22, q23⟩
 have H24 := H16.addU p22 k21 q23
 obtain ⟨a25, c26, rfl⟩ := Z2 (H24.at 3 rfl)
 refine ⟨_, rfl, ?_⟩
 have S27 := H24.pk [0, 1]
 refine kh S27 <| zhy 4 ?_
 refine zdc 7 (Z9k w19 s hs) ?_
 rintro _ w29 ⟨u30, rfl, k31, p32, q33⟩
 have H34 := H24.addU p32 k31 q33
 obtain ⟨a35, c36, rfl⟩ := Z2 (H34.at 4 rfl)
 refine ⟨_, rfl, ?_⟩
 have S37 := H34.pk [0, 1]
 refine kh S37 <| zhy 5 ?_
 refine Z2w 84 1 24 (.slice none 0 0) [(0, (.slice a25 ((ZK ([97, 99, 107])).length) c26)), (1, (.slice a35 ((Z1o s).length) c36))] (Z7J a25 ((ZK ([97, 99, 107])).length) c26 a35 ((Z1o s).length) c36) H34 ?_
 intro b39 w40 H41
 have S42 := H41.pk [0, 1]
 refine kh S42 <| zhy 6 ?_
 have l44 := Z0D ([97, 99, 107])
 simp only [List.length_cons, List.length_nil] at l44
 have l45 := Z4u s
 refine zdc 9 (Z1c w40 (.slice (some ⟨b39, 0, none⟩) 2 2) [(.slice a25 ((ZK ([97, 99, 107])).length) c26), (.slice a35 ((Z1o s).length) c36)] [(ZK ([97, 99, 107])), (Z1o s)] (ListAt.row (enc := Z9s) (sz := 1) (xs := [(.slice a25 ((ZK ([97, 99, 107])).length) c26), (.slice a35 ((Z1o s).length) c36)]) Z1F (by decide) (H41.at 5 rfl)) (Parts.cons (ListAt.row (enc := Zy) (sz := 1) Zk (by decide) (H41.at 3 rfl)) (Parts.cons (ListAt.row (enc := Zy) (sz := 1) Zk (by decide) (H41.at 4 rfl)) Parts.nil)) (by simp only [List.flatten_cons, List.flatten_nil, List.length_append, List.length_nil]; omega) (by simp)) ?_
 rintro _ w46 ⟨u47, rfl, k48, p49, q50⟩
 have H51 := H41.addU p49 k48 q50
 obtain ⟨a52, c53, rfl⟩ := Z2 (H51.at 6 rfl)
 refine ⟨_, rfl, ?_⟩
 have S54 := H51.pk [0, 1]
 refine kh S54 <| hv0 7 S54 2 (.slice a52 (([(ZK ([97, 99, 107])), (Z1o s)].flatten).length) c53) <| zhf <| ztn <| Zq <| ze1 (.slice a52 (([(ZK ([97, 99, 107])), (Z1o s)].flatten).length) c53) ?_
 have hX : ([(ZK ([97, 99, 107])), (Z1o s)].flatten) = Z2K s := by rfl
 exact ⟨_, rfl, (by rw [← hX]; exact H51.at 6 rfl), H51.upd 0 rfl [] ne, (by rw [← hX]; exact H51.fresh 0 rfl (fun _ h => h) 6 rfl rfl)⟩
theorem Z8D (w : World) (c : CeR) (hB : CeB w c) :
  Calls Tryz.prog 118 #[(.agg ⟨(([(.int .i64 (c.x.cl)), (.int .i64 (c.x.seq))] : List Value) ++ hc c.x.h ++ ([(.int .i64 (c.x.len)), (.int .i64 (c.x.sb)), (.int .i64 (c.x.sm)), (.slice c.sa c.S.length c.sc)] : List Value))⟩)] w fun e w' => ∃ u, e = .returned u ∧ (Zc 5 1 u (Z1f c).length ((Z1f c).flatMap Zy)).ok w' ∧ Upd [] w w' ∧ ∀ q_, (Zc 5 1 u (Z1f c).length ((Z1f c).flatMap Zy)).fp q_ → w.heap.size ≤ q_ := by
 have hS := hB.at_
 have hlS := hB.len
 have hx := hB.x
 unfold CoB at hx
 have H := Sat.start0 w
 refine Z8 Tryz.func118 rfl 30 rfl kn ?_
 refine zsl <| zy <| zdb (Zcl c) H fun b2 w3 H4 => ?_
 refine kk <| wv 2 (.slice none 0 0) <| znt <| Z5 <| Z08 H4 [Z3 w (fun _ => False), Z0 b2 76 (Zcl c)] 10 rfl kr (fun Hx => (Hx.pk [0, 1])) fun w5 H6 S7 => ?_
 refine hv0 0 S7 5 (pt b2 0) <| hv0 1 S7 6 (.agg ⟨(ZaH c.x)⟩) ?_ (he := fun _ H' => (zlN (vs := (ZaH c.x)) (H'.at 1 rfl)))
 refine hv0 3 S7 8 (pt b2 37) <| hv0 4 S7 9 (.slice c.sa c.S.length c.sc) ?_ (he := fun _ H' => (zl1 (H'.cell 1 rfl kr)))
 refine Z3u 5 rfl kr kr kr (fun _ _ _ h => h) S7 (Zb rfl) (d := 10) (v := (vi c.S.length)) rfl (fun _ H' => kr) ?_
 refine zhy 2 ?_
 refine zdc 7 (Z7h w5 c.x hB.x) ?_
 rintro _ w9 ⟨u10, rfl, k11, p12, q13⟩
 have H14 := H6.addU p12 k11 q13
 obtain ⟨a15, c16, rfl⟩ := Z2 (H14.at 2 rfl)
 refine ⟨_, rfl, ?_⟩
 have S17 := H14.pk [0, 1]
 refine kh S17 <| zhy 6 ?_
 refine zdc 11 (Z0Q w9 (c.S.length : Int) om) ?_
 rintro _ w19 ⟨u20, rfl, k21, p22, q23⟩
 have H24 := H14.addU p22 k21 q23
 obtain ⟨a25, c26, rfl⟩ := Z2 (H24.at 3 rfl)
 refine ⟨_, rfl, ?_⟩
 have S27 := H24.pk [0, 1]
 refine kh S27 <| zhy 7 ?_
 refine Z2w 84 1 24 (.slice none 0 0) [(0, (.slice a15 ((Z0f c.x).length) c16)), (1, (.slice a25 ((Zi (c.S.length : Int)).length) c26))] (Z7J a15 ((Z0f c.x).length) c16 a25 ((Zi (c.S.length : Int)).length) c26) H24 ?_
 intro b29 w30 H31
 have S32 := H31.pk [0, 1]
 refine kh S32 <| zhy 8 ?_
 have l34 := Z3J c.x
 have l35 := ZM (c.S.length : Int)
 refine zdc 13 (Z1c w30 (.slice (some ⟨b29, 0, none⟩) 2 2) [(.slice a15 ((Z0f c.x).length) c16), (.slice a25 ((Zi (c.S.length : Int)).length) c26)] [(Z0f c.x), (Zi (c.S.length : Int))] (ListAt.row (enc := Z9s) (sz := 1) (xs := [(.slice a15 ((Z0f c.x).length) c16), (.slice a25 ((Zi (c.S.length : Int)).length) c26)]) Z1F (by decide) (H31.at 4 rfl)) (Parts.cons (ListAt.row (enc := Zy) (sz := 1) Zk (by decide) (H31.at 2 rfl)) (Parts.cons (ListAt.row (enc := Zy) (sz := 1) Zk (by decide) (H31.at 3 rfl)) Parts.nil)) (by simp only [List.flatten_cons, List.flatten_nil, List.length_append, List.length_nil]; omega) (by simp)) ?_
 rintro _ w36 ⟨u37, rfl, k38, p39, q40⟩
 have H41 := H31.addU p39 k38 q40
 obtain ⟨a42, c43, rfl⟩ := Z2 (H41.at 5 rfl)
 refine ⟨_, rfl, ?_⟩
 have S44 := H41.pk [0, 1]
 refine kh S44 <| hv0 9 S44 3 (.slice a42 (([(Z0f c.x), (Zi (c.S.length : Int))].flatten).length) c43) <| zhf <| ztn <| Z5 <| zsl <| wv 14 (pt b2 37) <| zw1 15 (.slice c.sa c.S.length c.sc) (H41.cell 1 rfl kr) <| wv 16 (vi c.S.length) <| wv 17 (vi 0) ?_
 refine znt <| Za ?_
 obtain ⟨hd, hhd⟩ : ∃ hd, hd = ([(Z0f c.x), (Zi (c.S.length : Int))].flatten) := ⟨_, rfl⟩
 have hdl : hd.length ≤ 200 := by rw [hhd]; have q1 := Z3J c.x; have q2 := ZM (c.S.length : Int); simp only [List.flatten_cons, List.flatten_nil, List.length_append, List.length_nil]; omega
 refine Zw ([3, 4] ++ List.range' 17 12) (fun F_ W_ m_ => ∃ (i : Nat) (a : Option Addr) (c_ : Nat) (D : List UInt8), F_ 17 = (vi i) ∧ F_ 3 = (.slice a D.length c_) ∧ (i ≤ c.S.length) ∧ (D = hd ++ (c.S.take i).flatMap Z0X) ∧ Sat w [Z3 w (fun _ => False), Z0 b2 76 (Zcl c), (Z65 a15 (Z0f c.x) c16), (Z65 a25 (Zi (c.S.length : Int)) c26), Zc 84 1 (.slice (some ⟨b29, 0, none⟩) 2 2) 2 (Z7J a15 ((Z0f c.x).length) c16 a25 ((Zi (c.S.length : Int)).length) c26), (Z65 a D c_)] W_ ∧ m_ = c.S.length - i) _ ⟨0, a42, c43, ([(Z0f c.x), (Zi (c.S.length : Int))].flatten), (show ((vi 0) : Value) = _ by first | rfl | go_num), (by first | rfl | go_num), (Nat.zero_le _), (by rw [hhd]; simp), H41, rfl⟩ ?_
 rintro g45 w46 _ ⟨i, a, c_, D, v48, v49, hi, hD, H47, rfl⟩
 refine Zd 17 _ v48 ?_
 refine Zd 3 _ v49 ?_
 have hDl : D.length ≤ 9500 := by rw [hD, List.length_append]; have q1 := Z8m Z47 (c.S.take i); rw [List.length_take] at q1; omega
 have q2 := Z47 (c.S.getD i Zf)
 refine zsl <| wv 18 (.bool (decide ((i : Int) < c.S.length))) <| znt <| Z5 ?_
 refine zid (fun b51 g52 => ?_) fun b51 g76 => ?_
 ·refine Zt <| ztn <| Z5 <| Za <| zsl <| wv 19 (vi i) <| wv 4 (vi i) <| znt <| Zl <| wv 20 (.slice a D.length c_) ?_
  refine wv 21 (pt b2 37) <| zw1 22 (.slice c.sa c.S.length c.sc) (H47.cell 1 rfl kr) <| wv 23 (vi i) ?_
  obtain ⟨g54, o55, c56, e57, R58⟩ := SliceOf.atD hS Zf (show i < c.S.length by omega)
  refine wv 24 (.pointer (some ⟨g54, o55 + ((i : Int)).toNat * 38, none⟩)) ?_ (hr := Zh (E := 149) kr kr kn rfl e57 rfl om om)
  refine wv 25 (.agg ⟨(Z4f (c.S.getD i Zf))⟩) ?_ (hr := Z05 (vs := (Z4f (c.S.getD i Zf))) rfl kr kr kn (H47.runR 0 rfl (Z0W R58 0 kr (show o55 + ((i : Int)).toNat * 38 = o55 + i * 38 + 0 by omega)) (fun h => h)))
  refine zy <| zdc 26 (Z8n w46 (c.S.getD i Zf) (hB.S i om)) ?_
  rintro _ w60 ⟨u61, rfl, k62, p63, q64⟩
  have H65 := H47.addU p63 k62 q64
  obtain ⟨a66, c67, rfl⟩ := Z2 (H65.at 6 rfl)
  refine ⟨_, rfl, ?_⟩
  refine kk <| zy <| Z00 (T := 84) (e := 5) (size := 1) (bytes := 1) rfl H65 kr 5 6 rfl rfl rfl rfl (ZX Zy Z0C (Z0X (c.S.getD i Zf))) om om fun v69 w70 H71 => ?_
  have H74 := H71.ct 5 rfl (Zc 5 1 v69 ((D ++ (Z0X (c.S.getD i Zf))).length) ((D ++ (Z0X (c.S.getD i Zf))).flatMap Zy)) ja
  obtain ⟨a72, c73, rfl⟩ := Z2 (H74.at 5 rfl)
  refine kk <| wv 3 (.slice a72 ((D ++ (Z0X (c.S.getD i Zf))).length) c73) <| Zu <| Z7 <| ztn <| Zl <| zwi 28 ((i : Int) + 1) <| wv 17 (vi ((i : Int) + 1)) <| Zu ?_
  have H75 := H74.pk [0, 1, 2, 3, 4, 5]
  refine Z6 ?_ _ ⟨(i + 1), a72, c73, (D ++ (Z0X (c.S.getD i Zf))), rfl, (show ((.slice a72 ((D ++ (Z0X (c.S.getD i Zf))).length) c73) : Value) = _ by first | rfl | go_num), om, (by rw [hD, Z7y c.S Zf om, List.append_assoc]), H75, rfl⟩ om
  exact zs
 refine zxb <| ztn <| zsl <| wv 29 (.slice a D.length c_) <| wv 2 (.slice a D.length c_) <| znt <| Zq <| ze1 (.slice a D.length c_) ?_
 have hX : D = Z1f c := by unfold Z1f Z7V; rw [hD, hhd, List.take_of_length_le om]
 exact ⟨_, rfl, (by rw [← hX]; exact H47.at 5 rfl), H47.upd 0 rfl [] ne, (by rw [← hX]; exact H47.fresh 0 rfl (fun _ h => h) 5 rfl rfl)⟩
theorem Zc9 {w : World} {C : List CeR} (h : ∀ i, i < C.length → CeB w (C.getD i ce0)) : ∀ c ∈ C, c.S.length ≤ 100 := fun c hm => by
 obtain ⟨i, hi, e⟩ := List.mem_iff_getElem.1 hm
 have q := (h i hi).len
 rw [List.getD_eq_getElem?_getD, List.getElem?_eq_getElem hi] at q
 rw [← e]; exact q
theorem Z6e (w : World) (p : PrR) (hC : ListAt Z0V 38 w (.slice p.ca p.C.length p.cc) p.C) (hB : ∀ i, i < p.C.length → CeB w (p.C.getD i ce0)) (hl : p.C.length ≤ 64) (hn : p.r ≤ 9223372036854775807 ∧ p.e ≤ 9223372036854775807 ∧ 0 ≤ p.f ∧ p.f < 18446744073709551616) :
  Calls Tryz.prog 88 #[(.agg ⟨([(.int .i64 (p.r)), (.int .i64 (p.e)), (.int .u64 (p.f)), (.slice p.ca p.C.length p.cc), (.int .i64 (p.sb)), (.int .i64 (p.sm))] : List Value)⟩)] w fun e w' => ∃ u, e = .returned u ∧ (Zc 5 1 u (Z1D p).length ((Z1D p).flatMap Zy)).ok w' ∧ Upd [] w w' ∧ ∀ q_, (Zc 5 1 u (Z1D p).length ((Z1D p).flatMap Zy)).fp q_ → w.heap.size ≤ q_ := by
 have H := Sat.start0 w
 refine Z8 Tryz.func88 rfl 36 rfl kn ?_
 refine zsl <| zy <| zdb (Z6O p) H fun b2 w3 H4 => ?_
 refine kk <| wv 2 (.slice none 0 0) <| znt <| Z5 <| Z08 H4 [Z3 w (fun _ => False), Z0 b2 71 (Z6O p)] 16 rfl kr (fun Hx => (Hx.pk [0, 1])) fun w5 H6 S7 => ?_
 refine hv0 0 S7 5 (pt b2 0) <| hv0 1 S7 6 (vi p.r) ?_ (he := fun _ H' => (zl1 (H'.cell 1 rfl rfl)))
 refine hv0 3 S7 8 (pt b2 1) <| hv0 4 S7 9 (vi p.e) ?_ (he := fun _ H' => (zl1 (H'.cell 1 rfl rfl)))
 refine hv0 6 S7 11 (pt b2 2) <| hv0 7 S7 12 (vu p.f) ?_ (he := fun _ H' => (zl1 (H'.cell 1 rfl rfl)))
 refine hv0 9 S7 14 (pt b2 3) <| hv0 10 S7 15 (.slice p.ca p.C.length p.cc) ?_ (he := fun _ H' => (zl1 (H'.cell 1 rfl rfl)))
 refine Z3u 11 rfl kr kr kr (fun _ _ _ h => h) S7 (Zb rfl) (d := 16) (v := (vi p.C.length)) rfl (fun _ H' => kr) ?_
 refine zhy 2 ?_
 refine zdc 7 (Z0Q w5 p.r om) ?_
 rintro _ w9 ⟨u10, rfl, k11, p12, q13⟩
 have H14 := H6.addU p12 k11 q13
 obtain ⟨a15, c16, rfl⟩ := Z2 (H14.at 2 rfl)
 refine ⟨_, rfl, ?_⟩
 have S17 := H14.pk [0, 1]
 refine kh S17 <| zhy 5 ?_
 refine zdc 10 (Z0Q w9 p.e om) ?_
 rintro _ w19 ⟨u20, rfl, k21, p22, q23⟩
 have H24 := H14.addU p22 k21 q23
 obtain ⟨a25, c26, rfl⟩ := Z2 (H24.at 3 rfl)
 refine ⟨_, rfl, ?_⟩
 have S27 := H24.pk [0, 1]
 refine kh S27 <| zhy 8 ?_
 refine Z6K (d := 13) rfl (by rw [show p.f = ((p.f.toNat : Nat) : Int) by omega]; kernel_rfl) (Z6j w19 p.f.toNat om) ?_
 rintro _ w29 ⟨u30, rfl, k31, p32, q33⟩
 have H34 := H24.addU p32 k31 q33
 obtain ⟨a35, c36, rfl⟩ := Z2 (H34.at 4 rfl)
 refine ⟨_, rfl, ?_⟩
 have S37 := H34.pk [0, 1]
 refine kh S37 <| zhy 12 ?_
 refine zdc 17 (Z0Q w29 (p.C.length : Int) om) ?_
 rintro _ w39 ⟨u40, rfl, k41, p42, q43⟩
 have H44 := H34.addU p42 k41 q43
 obtain ⟨a45, c46, rfl⟩ := Z2 (H44.at 5 rfl)
 refine ⟨_, rfl, ?_⟩
 have S47 := H44.pk [0, 1]
 refine kh S47 <| zhy 13 ?_
 refine Z2w 84 1 24 (.slice none 0 0) [(0, (.slice a15 ((Zi p.r).length) c16)), (1, (.slice a25 ((Zi p.e).length) c26)), (2, (.slice a35 ((Z2W p.f.toNat).length) c36)), (3, (.slice a45 ((Zi (p.C.length : Int)).length) c46))] (ZeV a15 ((Zi p.r).length) c16 a25 ((Zi p.e).length) c26 a35 ((Z2W p.f.toNat).length) c36 a45 ((Zi (p.C.length : Int)).length) c46) H44 ?_
 intro b49 w50 H51
 have S52 := H51.pk [0, 1]
 refine kh S52 <| zhy 14 ?_
 have l54 := ZM p.r
 have l55 := ZM p.e
 have l56 := Z45 p.f.toNat
 have l57 := ZM (p.C.length : Int)
 refine zdc 19 (Z1c w50 (.slice (some ⟨b49, 0, none⟩) 4 4) [(.slice a15 ((Zi p.r).length) c16), (.slice a25 ((Zi p.e).length) c26), (.slice a35 ((Z2W p.f.toNat).length) c36), (.slice a45 ((Zi (p.C.length : Int)).length) c46)] [(Zi p.r), (Zi p.e), (Z2W p.f.toNat), (Zi (p.C.length : Int))] (ListAt.row (enc := Z9s) (sz := 1) (xs := [(.slice a15 ((Zi p.r).length) c16), (.slice a25 ((Zi p.e).length) c26), (.slice a35 ((Z2W p.f.toNat).length) c36), (.slice a45 ((Zi (p.C.length : Int)).length) c46)]) Z1F (by decide) (H51.at 6 rfl)) (Parts.cons (ListAt.row (enc := Zy) (sz := 1) Zk (by decide) (H51.at 2 rfl)) (Parts.cons (ListAt.row (enc := Zy) (sz := 1) Zk (by decide) (H51.at 3 rfl)) (Parts.cons (ListAt.row (enc := Zy) (sz := 1) Zk (by decide) (H51.at 4 rfl)) (Parts.cons (ListAt.row (enc := Zy) (sz := 1) Zk (by decide) (H51.at 5 rfl)) Parts.nil)))) (by simp only [List.flatten_cons, List.flatten_nil, List.length_append, List.length_nil]; omega) (by simp)) ?_
 rintro _ w58 ⟨u59, rfl, k60, p61, q62⟩
 have H63 := H51.addU p61 k60 q62
 obtain ⟨a64, c65, rfl⟩ := Z2 (H63.at 7 rfl)
 refine ⟨_, rfl, ?_⟩
 have S66 := H63.pk [0, 1]
 refine kh S66 <| hv0 15 S66 3 (.slice a64 (([(Zi p.r), (Zi p.e), (Z2W p.f.toNat), (Zi (p.C.length : Int))].flatten).length) c65) <| zhf <| ztn <| Z5 <| zsl <| wv 20 (pt b2 3) <| zw1 21 (.slice p.ca p.C.length p.cc) (H63.cell 1 rfl rfl) <| wv 22 (vi p.C.length) <| wv 23 (vi 0) ?_
 refine znt <| Za ?_
 obtain ⟨hd, hhd⟩ : ∃ hd, hd = ([(Zi p.r), (Zi p.e), (Z2W p.f.toNat), (Zi (p.C.length : Int))].flatten) := ⟨_, rfl⟩
 have hdl : hd.length ≤ 200 := by rw [hhd]; have q1 := ZM p.r; have q2 := ZM p.e; have q3 := Z45 p.f.toNat; have q4 := ZM (p.C.length : Int); simp only [List.flatten_cons, List.flatten_nil, List.length_append, List.length_nil]; omega
 refine Zw ([3, 4] ++ List.range' 23 12) (fun F_ W_ m_ => ∃ (i : Nat) (a : Option Addr) (c_ : Nat) (D : List UInt8), F_ 23 = (vi i) ∧ F_ 3 = (.slice a D.length c_) ∧ (i ≤ p.C.length) ∧ (D = hd ++ (p.C.take i).flatMap Z1f) ∧ Sat w [Z3 w (fun _ => False), Z0 b2 71 (Z6O p), (Z65 a15 (Zi p.r) c16), (Z65 a25 (Zi p.e) c26), (Z65 a35 (Z2W p.f.toNat) c36), (Z65 a45 (Zi (p.C.length : Int)) c46), Zc 84 1 (.slice (some ⟨b49, 0, none⟩) 4 4) 4 (ZeV a15 ((Zi p.r).length) c16 a25 ((Zi p.e).length) c26 a35 ((Z2W p.f.toNat).length) c36 a45 ((Zi (p.C.length : Int)).length) c46), (Z65 a D c_)] W_ ∧ m_ = p.C.length - i) _ ⟨0, a64, c65, ([(Zi p.r), (Zi p.e), (Z2W p.f.toNat), (Zi (p.C.length : Int))].flatten), (show ((vi 0) : Value) = _ by first | rfl | go_num), (by first | rfl | go_num), (Nat.zero_le _), (by rw [hhd]; simp), H63, rfl⟩ ?_
 rintro g67 w68 _ ⟨i, a, c_, D, v70, v71, hi, hD, H69, rfl⟩
 refine Zd 23 _ v70 ?_
 refine Zd 3 _ v71 ?_
 have hDl : D.length ≤ 600000 := by rw [hD, List.length_append]; have q1 := Z6r (g := Z1f) (p.C.take i) (fun c hc => Z4C (Zc9 hB c (List.mem_of_mem_take hc))); rw [List.length_take] at q1; omega
 have q2 := fun h : i < p.C.length => Z4C (hB i h).len
 refine zsl <| wv 24 (.bool (decide ((i : Int) < p.C.length))) <| znt <| Z5 ?_
 refine zid (fun b73 g74 => ?_) fun b73 g98 => ?_
 ·refine Zt <| ztn <| Z5 <| Za <| zsl <| wv 25 (vi i) <| wv 4 (vi i) <| znt <| Zl <| wv 26 (.slice a D.length c_) ?_
  refine wv 27 (pt b2 3) <| zw1 28 (.slice p.ca p.C.length p.cc) (H69.cell 1 rfl rfl) <| wv 29 (vi i) ?_
  obtain ⟨g76, o77, c78, e79, R80⟩ := SliceOf.atD hC ce0 (show i < p.C.length by omega)
  refine wv 30 (.pointer (some ⟨g76, o77 + ((i : Int)).toNat * 38, none⟩)) ?_ (hr := Zh (E := 76) kr kr kn rfl e79 rfl om om)
  refine wv 31 (.agg ⟨(ZeO ((p.C.getD i ce0).x) (p.C.getD i ce0) (((p.C.getD i ce0).S).length))⟩) ?_ (hr := Z05 (vs := (ZeO ((p.C.getD i ce0).x) (p.C.getD i ce0) (((p.C.getD i ce0).S).length))) rfl kr kr kn (H69.runR 0 rfl (Z0W R80 0 kr (show o77 + ((i : Int)).toNat * 38 = o77 + i * 38 + 0 by omega)) (fun h => h)))
  refine zy <| zdc 32 (Z8D w68 (p.C.getD i ce0) ((hB i om).keep H69 0 rfl)) ?_
  rintro _ w82 ⟨u83, rfl, k84, p85, q86⟩
  have H87 := H69.addU p85 k84 q86
  obtain ⟨a88, c89, rfl⟩ := Z2 (H87.at 8 rfl)
  refine ⟨_, rfl, ?_⟩
  refine kk <| zy <| Z00 (T := 84) (e := 5) (size := 1) (bytes := 1) rfl H87 kr 7 8 rfl rfl rfl rfl (ZX Zy Z0C (Z1f (p.C.getD i ce0))) om om fun v91 w92 H93 => ?_
  have H96 := H93.ct 7 rfl (Zc 5 1 v91 ((D ++ (Z1f (p.C.getD i ce0))).length) ((D ++ (Z1f (p.C.getD i ce0))).flatMap Zy)) ja
  obtain ⟨a94, c95, rfl⟩ := Z2 (H96.at 7 rfl)
  refine kk <| wv 3 (.slice a94 ((D ++ (Z1f (p.C.getD i ce0))).length) c95) <| Zu <| Z7 <| ztn <| Zl <| zwi 34 ((i : Int) + 1) <| wv 23 (vi ((i : Int) + 1)) <| Zu ?_
  have H97 := H96.pk [0, 1, 2, 3, 4, 5, 6, 7]
  refine Z6 ?_ _ ⟨(i + 1), a94, c95, (D ++ (Z1f (p.C.getD i ce0))), rfl, (show ((.slice a94 ((D ++ (Z1f (p.C.getD i ce0))).length) c95) : Value) = _ by first | rfl | go_num), om, (by rw [hD, Z7y p.C ce0 om, List.append_assoc]), H97, rfl⟩ om
  exact zs
 refine zxb <| ztn <| zsl <| wv 35 (.slice a D.length c_) <| wv 2 (.slice a D.length c_) <| znt <| Zq <| ze1 (.slice a D.length c_) ?_
 have hX : D = Z1D p := by unfold Z1D Z79; rw [hD, hhd, List.take_of_length_le om]
 exact ⟨_, rfl, (by rw [← hX]; exact H69.at 7 rfl), H69.upd 0 rfl [] ne, (by rw [← hX]; exact H69.fresh 0 rfl (fun _ h => h) 7 rfl rfl)⟩
theorem Z4g (w : World) (p : PrR) (hC : ListAt Z0V 38 w (.slice p.ca p.C.length p.cc) p.C) (hB : ∀ i, i < p.C.length → CeB w (p.C.getD i ce0)) (hl : p.C.length ≤ 64) (hn : p.r ≤ 9223372036854775807 ∧ p.e ≤ 9223372036854775807 ∧ 0 ≤ p.f ∧ p.f < 18446744073709551616) :
  Calls Tryz.prog 38 #[(.agg ⟨([(.int .i64 (p.r)), (.int .i64 (p.e)), (.int .u64 (p.f)), (.slice p.ca p.C.length p.cc), (.int .i64 (p.sb)), (.int .i64 (p.sm))] : List Value)⟩)] w fun e w' => ∃ u, e = .returned u ∧ (Zc 5 1 u (Z0R p).length ((Z0R p).flatMap Zy)).ok w' ∧ Upd [] w w' ∧ ∀ q_, (Zc 5 1 u (Z0R p).length ((Z0R p).flatMap Zy)).fp q_ → w.heap.size ≤ q_ := by
 have hp := Z73 (Zc9 hB) hl
 have H := Sat.start0 w
 refine Z8 Tryz.func38 rfl 10 rfl kn ?_
 refine zsl <| zy <| zdb (Z6O p) H fun b2 w3 H4 => ?_
 refine kk <| wv 2 (.slice none 0 0) <| znt <| Z5 <| Z08 H4 [Z3 w (fun _ => False), Z0 b2 71 (Z6O p)] 8 rfl kr (fun Hx => (Hx.pk [0, 1])) fun w5 H6 S7 => ?_
 refine hv0 3 S7 6 (.agg ⟨(Z6O p)⟩) ?_ (he := fun _ H' => (zlN (vs := (Z6O p)) (H'.at 1 rfl)))
 refine zhy 0 ?_
 refine Z2w 5 1 1 (.int .u8 (0)) [(0, (.int .u8 (112))), (1, (.int .u8 (114))), (2, (.int .u8 (111))), (3, (.int .u8 (109))), (4, (.int .u8 (105))), (5, (.int .u8 (115))), (6, (.int .u8 (101)))] (ZeI) H6 ?_
 intro b9 w10 H11
 have H12 := H11.ct 2 rfl (Zc 5 1 (.slice (some ⟨b9, 0, none⟩) 7 7) 7 ([112, 114, 111, 109, 105, 115, 101].flatMap Zy)) (by rw [show ((ZeI) : List Value) = [112, 114, 111, 109, 105, 115, 101].flatMap Zy from rfl])
 have S13 := H12.pk [0, 1]
 refine kh S13 <| zhy 1 ?_
 refine Z1W (e := 5) (s := [112, 114, 111, 109, 105, 115, 101]) rfl H12 2 rfl kr kr rfl ?_
 intro w15 H16
 have S17 := H16.pk [0, 1]
 refine kh S17 <| zhy 2 ?_
 refine zdc 5 (Z4d w15 (.slice (some ⟨b9, 0, none⟩) 7 7) ([112, 114, 111, 109, 105, 115, 101]) (ListAt.ofTxt (H16.at 2 rfl)) (by simp)) ?_
 rintro _ w19 ⟨u20, rfl, k21, p22, q23⟩
 have H24 := H16.addU p22 k21 q23
 obtain ⟨a25, c26, rfl⟩ := Z2 (H24.at 3 rfl)
 refine ⟨_, rfl, ?_⟩
 have S27 := H24.pk [0, 1]
 refine kh S27 <| zhy 4 ?_
 refine zdc 7 (Z6e w19 p (ListAt.now H24 0 rfl hC) (fun i hi => (hB i hi).keep H24 0 rfl) hl hn) ?_
 rintro _ w29 ⟨u30, rfl, k31, p32, q33⟩
 have H34 := H24.addU p32 k31 q33
 obtain ⟨a35, c36, rfl⟩ := Z2 (H34.at 4 rfl)
 refine ⟨_, rfl, ?_⟩
 have S37 := H34.pk [0, 1]
 refine kh S37 <| zhy 5 ?_
 refine Z2w 84 1 24 (.slice none 0 0) [(0, (.slice a25 ((ZK ([112, 114, 111, 109, 105, 115, 101])).length) c26)), (1, (.slice a35 ((Z1D p).length) c36))] (Z7J a25 ((ZK ([112, 114, 111, 109, 105, 115, 101])).length) c26 a35 ((Z1D p).length) c36) H34 ?_
 intro b39 w40 H41
 have S42 := H41.pk [0, 1]
 refine kh S42 <| zhy 6 ?_
 have l44 := Z0D ([112, 114, 111, 109, 105, 115, 101])
 simp only [List.length_cons, List.length_nil] at l44
 have l45 := hp
 refine zdc 9 (Z1c w40 (.slice (some ⟨b39, 0, none⟩) 2 2) [(.slice a25 ((ZK ([112, 114, 111, 109, 105, 115, 101])).length) c26), (.slice a35 ((Z1D p).length) c36)] [(ZK ([112, 114, 111, 109, 105, 115, 101])), (Z1D p)] (ListAt.row (enc := Z9s) (sz := 1) (xs := [(.slice a25 ((ZK ([112, 114, 111, 109, 105, 115, 101])).length) c26), (.slice a35 ((Z1D p).length) c36)]) Z1F (by decide) (H41.at 5 rfl)) (Parts.cons (ListAt.row (enc := Zy) (sz := 1) Zk (by decide) (H41.at 3 rfl)) (Parts.cons (ListAt.row (enc := Zy) (sz := 1) Zk (by decide) (H41.at 4 rfl)) Parts.nil)) (by simp only [List.flatten_cons, List.flatten_nil, List.length_append, List.length_nil]; omega) (by simp)) ?_
 rintro _ w46 ⟨u47, rfl, k48, p49, q50⟩
 have H51 := H41.addU p49 k48 q50
 obtain ⟨a52, c53, rfl⟩ := Z2 (H51.at 6 rfl)
 refine ⟨_, rfl, ?_⟩
 have S54 := H51.pk [0, 1]
 refine kh S54 <| hv0 7 S54 2 (.slice a52 (([(ZK ([112, 114, 111, 109, 105, 115, 101])), (Z1D p)].flatten).length) c53) <| zhf <| ztn <| Zq <| ze1 (.slice a52 (([(ZK ([112, 114, 111, 109, 105, 115, 101])), (Z1D p)].flatten).length) c53) ?_
 have hX : ([(ZK ([112, 114, 111, 109, 105, 115, 101])), (Z1D p)].flatten) = Z0R p := by rfl
 exact ⟨_, rfl, (by rw [← hX]; exact H51.at 6 rfl), H51.upd 0 rfl [] ne, (by rw [← hX]; exact H51.fresh 0 rfl (fun _ h => h) 6 rfl rfl)⟩
end Go.Proofs.YtenihpghfdcpkaaGreat
