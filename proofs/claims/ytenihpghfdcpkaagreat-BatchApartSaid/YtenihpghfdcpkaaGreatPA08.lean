/- WHAT IS PROVED: contracts and plain laws of Rt2, EntD, TxtP. Conditions: stated with each. -/
import Derived.Test.YtenihpghfdcpkaaGreatPA05
import Derived.Test.YtenihpghfdcpkaaGreatPA06
import Derived.Test.YtenihpghfdcpkaaGreatPA07
set_option maxHeartbeats 4000000
set_option maxRecDepth 100000
namespace Go.Proofs.YtenihpghfdcpkaaGreat
open Go.RowKit
abbrev ZaC (p0 : Int) (p1 : Int) : List Value := ([(.int .i64 p0), (.int .i64 p1)] : List Value)
abbrev Z7u (p0 : Z4) : List Value := ([(.int .i64 p0.r), (.int .i64 p0.cl), (.int .i64 p0.seq)] : List Value) ++ hc p0.h ++ ([(.int .u64 p0.t), (.int .i64 p0.sb), (.int .i64 p0.sm)] : List Value)
abbrev ZeH : List Value := ([(.int .u8 (115)), (.int .u8 (116)), (.int .u8 (97)), (.int .u8 (109)), (.int .u8 (112))] : List Value)
abbrev ZeZ (p0 : Z9) : List Value := ([(.int .i64 p0.cl), (.int .i64 p0.seq)] : List Value) ++ hc p0.h ++ ([(.int .i64 p0.len), (.int .i64 p0.sb), (.int .i64 p0.sm)] : List Value)
abbrev ZeS : List Value := ([(.int .u8 (114)), (.int .u8 (101)), (.int .u8 (113)), (.int .u8 (117)), (.int .u8 (101)), (.int .u8 (115)), (.int .u8 (116))] : List Value)
theorem Z71 (w : World) (a b : Int) (hs : a ≤ 9223372036854775807 ∧ b ≤ 9223372036854775807) :
  Calls Tryz.prog 117 #[(.agg ⟨([(.int .i64 (a)), (.int .i64 (b))] : List Value)⟩)] w fun e w' => ∃ u, e = .returned u ∧ (Zc 5 1 u (Z1Z a b).length ((Z1Z a b).flatMap Zy)).ok w' ∧ Upd [] w w' ∧ ∀ q_, (Zc 5 1 u (Z1Z a b).length ((Z1Z a b).flatMap Zy)).fp q_ → w.heap.size ≤ q_ := by
 have H := Sat.start0 w
 refine Z8 Tryz.func117 rfl 11 rfl kn ?_
 refine zsl <| zy <| zdb (ZaC a b) H fun b2 w3 H4 => ?_
 refine kk <| wv 2 (.slice none 0 0) <| znt <| Z5 <| Z08 H4 [Z3 w (fun _ => False), Z0 b2 59 (ZaC a b)] 9 rfl kr (fun Hx => (Hx.pk [0, 1])) fun w5 H6 S7 => ?_
 refine hv0 0 S7 3 (pt b2 0) <| hv0 1 S7 4 (vi a) ?_ (he := fun _ H' => (zl1 (H'.cell 1 rfl rfl)))
 refine hv0 3 S7 6 (pt b2 1) <| hv0 4 S7 7 (vi b) ?_ (he := fun _ H' => (zl1 (H'.cell 1 rfl rfl)))
 refine zhy 2 ?_
 refine zdc 5 (Z0Q w5 a om) ?_
 rintro _ w9 ⟨u10, rfl, k11, p12, q13⟩
 have H14 := H6.addU p12 k11 q13
 obtain ⟨a15, c16, rfl⟩ := Z2 (H14.at 2 rfl)
 refine ⟨_, rfl, ?_⟩
 have S17 := H14.pk [0, 1]
 refine kh S17 <| zhy 5 ?_
 refine zdc 8 (Z0Q w9 b om) ?_
 rintro _ w19 ⟨u20, rfl, k21, p22, q23⟩
 have H24 := H14.addU p22 k21 q23
 obtain ⟨a25, c26, rfl⟩ := Z2 (H24.at 3 rfl)
 refine ⟨_, rfl, ?_⟩
 have S27 := H24.pk [0, 1]
 refine kh S27 <| zhy 6 ?_
 refine Z2w 84 1 24 (.slice none 0 0) [(0, (.slice a15 ((Zi a).length) c16)), (1, (.slice a25 ((Zi b).length) c26))] ([(.slice a15 ((Zi a).length) c16), (.slice a25 ((Zi b).length) c26)] : List Value) H24 ?_
 intro b29 w30 H31
 have S32 := H31.pk [0, 1]
 refine kh S32 <| zhy 7 ?_
 have l34 := ZM a
 have l35 := ZM b
 refine zdc 10 (Z1c w30 (.slice (some ⟨b29, 0, none⟩) 2 2) [(.slice a15 ((Zi a).length) c16), (.slice a25 ((Zi b).length) c26)] [(Zi a), (Zi b)] (ListAt.row (enc := Z9s) (sz := 1) (xs := [(.slice a15 ((Zi a).length) c16), (.slice a25 ((Zi b).length) c26)]) Z1F (by decide) (H31.at 4 rfl)) (Parts.cons (ListAt.row (enc := Zy) (sz := 1) Zk (by decide) (H31.at 2 rfl)) (Parts.cons (ListAt.row (enc := Zy) (sz := 1) Zk (by decide) (H31.at 3 rfl)) Parts.nil)) (by simp only [List.flatten_cons, List.flatten_nil, List.length_append, List.length_nil]; omega) (by simp)) ?_
 rintro _ w36 ⟨u37, rfl, k38, p39, q40⟩
 have H41 := H31.addU p39 k38 q40
 obtain ⟨a42, c43, rfl⟩ := Z2 (H41.at 5 rfl)
 refine ⟨_, rfl, ?_⟩
 have S44 := H41.pk [0, 1]
 refine kh S44 <| hv0 8 S44 2 (.slice a42 (([(Zi a), (Zi b)].flatten).length) c43) <| zhf <| ztn <| Zq <| ze1 (.slice a42 (([(Zi a), (Zi b)].flatten).length) c43) ?_
 have hX : ([(Zi a), (Zi b)].flatten) = Z1Z a b := by rfl
 exact ⟨_, rfl, (by rw [← hX]; exact H41.at 5 rfl), H41.upd 0 rfl [] ne, (by rw [← hX]; exact H41.fresh 0 rfl (fun _ h => h) 5 rfl rfl)⟩
theorem Z8E (w : World) (s : Z4) (hs : (s.r ≤ 9223372036854775807 ∧ s.cl ≤ 9223372036854775807 ∧ s.seq ≤ 9223372036854775807 ∧ 0 ≤ s.t ∧ s.t < 18446744073709551616)) :
  Calls Tryz.prog 145 #[(.agg ⟨(([(.int .i64 (s.r)), (.int .i64 (s.cl)), (.int .i64 (s.seq))] : List Value) ++ hc s.h ++ ([(.int .u64 (s.t)), (.int .i64 (s.sb)), (.int .i64 (s.sm))] : List Value))⟩)] w fun e w' => ∃ u, e = .returned u ∧ (Zc 5 1 u (Z1o s).length ((Z1o s).flatMap Zy)).ok w' ∧ Upd [] w w' ∧ ∀ q_, (Zc 5 1 u (Z1o s).length ((Z1o s).flatMap Zy)).fp q_ → w.heap.size ≤ q_ := by
 have H := Sat.start0 w
 refine Z8 Tryz.func145 rfl 16 rfl kn ?_
 refine zsl <| zy <| zdb (Z7u s) H fun b2 w3 H4 => ?_
 refine kk <| wv 2 (.slice none 0 0) <| znt <| Z5 <| Z08 H4 [Z3 w (fun _ => False), Z0 b2 149 (Z7u s)] 14 rfl kr (fun Hx => (Hx.pk [0, 1])) fun w5 H6 S7 => ?_
 refine hv0 0 S7 3 (pt b2 0) <| hv0 1 S7 4 (vi s.r) ?_ (he := fun _ H' => (zl1 (H'.cell 1 rfl kr)))
 refine hv0 3 S7 6 (pt b2 1) <| hv0 4 S7 7 (.agg ⟨(ZaC s.cl s.seq)⟩) ?_ (he := fun _ H' => (zlN (vs := (ZaC s.cl s.seq)) (H'.at 1 rfl)))
 refine hv0 6 S7 9 (pt b2 3) <| hv0 7 S7 10 (.slice (some ⟨b2, 3, none⟩) 32 32) <| hv0 8 S7 11 (pt b2 35) <| hv0 9 S7 12 (vu s.t) ?_ (he := fun _ H' => (zl1 (H'.cell 1 rfl kr)))
 refine zhy 2 ?_
 refine zdc 5 (Z0Q w5 s.r om) ?_
 rintro _ w9 ⟨u10, rfl, k11, p12, q13⟩
 have H14 := H6.addU p12 k11 q13
 obtain ⟨a15, c16, rfl⟩ := Z2 (H14.at 2 rfl)
 refine ⟨_, rfl, ?_⟩
 have S17 := H14.pk [0, 1]
 refine kh S17 <| zhy 5 ?_
 refine zdc 8 (Z71 w9 s.cl s.seq om) ?_
 rintro _ w19 ⟨u20, rfl, k21, p22, q23⟩
 have H24 := H14.addU p22 k21 q23
 obtain ⟨a25, c26, rfl⟩ := Z2 (H24.at 3 rfl)
 refine ⟨_, rfl, ?_⟩
 have S27 := H24.pk [0, 1]
 refine kh S27 <| zhy 10 ?_
 refine Z6K (d := 13) rfl (by rw [show s.t = ((s.t.toNat : Nat) : Int) by omega]; kernel_rfl) (Z6j w19 s.t.toNat om) ?_
 rintro _ w29 ⟨u30, rfl, k31, p32, q33⟩
 have H34 := H24.addU p32 k31 q33
 obtain ⟨a35, c36, rfl⟩ := Z2 (H34.at 4 rfl)
 refine ⟨_, rfl, ?_⟩
 have S37 := H34.pk [0, 1]
 refine kh S37 <| zhy 11 ?_
 refine Z2w 84 1 24 (.slice none 0 0) [(0, (.slice a15 ((Zi s.r).length) c16)), (1, (.slice a25 ((Z1Z s.cl s.seq).length) c26)), (2, (.slice (some ⟨b2, 3, none⟩) 32 32)), (3, (.slice a35 ((Z2W s.t.toNat).length) c36))] ([(.slice a15 ((Zi s.r).length) c16), (.slice a25 ((Z1Z s.cl s.seq).length) c26), (.slice (some ⟨b2, 3, none⟩) 32 32), (.slice a35 ((Z2W s.t.toNat).length) c36)] : List Value) H34 ?_
 intro b39 w40 H41
 have S42 := H41.pk [0, 1]
 refine kh S42 <| zhy 12 ?_
 have l44 := ZM s.r
 have l45 := Z4w s.cl s.seq
 have l46 := s.h.len
 have l47 := Z45 s.t.toNat
 refine zdc 15 (Z1c w40 (.slice (some ⟨b39, 0, none⟩) 4 4) [(.slice a15 ((Zi s.r).length) c16), (.slice a25 ((Z1Z s.cl s.seq).length) c26), (.slice (some ⟨b2, 3, none⟩) 32 32), (.slice a35 ((Z2W s.t.toNat).length) c36)] [(Zi s.r), (Z1Z s.cl s.seq), s.h.l, (Z2W s.t.toNat)] (ListAt.row (enc := Z9s) (sz := 1) (xs := [(.slice a15 ((Zi s.r).length) c16), (.slice a25 ((Z1Z s.cl s.seq).length) c26), (.slice (some ⟨b2, 3, none⟩) 32 32), (.slice a35 ((Z2W s.t.toNat).length) c36)]) Z1F (by decide) (H41.at 5 rfl)) (Parts.cons (ListAt.row (enc := Zy) (sz := 1) Zk (by decide) (H41.at 2 rfl)) (Parts.cons (ListAt.row (enc := Zy) (sz := 1) Zk (by decide) (H41.at 3 rfl)) (Parts.cons (ListAt.ofHash (Z3U (H41.at 1 rfl) kr) (by decide)) (Parts.cons (ListAt.row (enc := Zy) (sz := 1) Zk (by decide) (H41.at 4 rfl)) Parts.nil)))) (by simp only [List.flatten_cons, List.flatten_nil, List.length_append, List.length_nil]; omega) (by simp)) ?_
 rintro _ w48 ⟨u49, rfl, k50, p51, q52⟩
 have H53 := H41.addU p51 k50 q52
 obtain ⟨a54, c55, rfl⟩ := Z2 (H53.at 6 rfl)
 refine ⟨_, rfl, ?_⟩
 have S56 := H53.pk [0, 1]
 refine kh S56 <| hv0 13 S56 2 (.slice a54 (([(Zi s.r), (Z1Z s.cl s.seq), s.h.l, (Z2W s.t.toNat)].flatten).length) c55) <| zhf <| ztn <| Zq <| ze1 (.slice a54 (([(Zi s.r), (Z1Z s.cl s.seq), s.h.l, (Z2W s.t.toNat)].flatten).length) c55) ?_
 have hX : ([(Zi s.r), (Z1Z s.cl s.seq), s.h.l, (Z2W s.t.toNat)].flatten) = Z1o s := by rfl
 exact ⟨_, rfl, (by rw [← hX]; exact H53.at 6 rfl), H53.upd 0 rfl [] ne, (by rw [← hX]; exact H53.fresh 0 rfl (fun _ h => h) 6 rfl rfl)⟩
theorem Z3L (w : World) (s : Z4) (hs : (s.r ≤ 9223372036854775807 ∧ s.cl ≤ 9223372036854775807 ∧ s.seq ≤ 9223372036854775807 ∧ 0 ≤ s.t ∧ s.t < 18446744073709551616)) :
  Calls Tryz.prog 114 #[(.agg ⟨(([(.int .i64 (s.r)), (.int .i64 (s.cl)), (.int .i64 (s.seq))] : List Value) ++ hc s.h ++ ([(.int .u64 (s.t)), (.int .i64 (s.sb)), (.int .i64 (s.sm))] : List Value))⟩)] w fun e w' => ∃ u, e = .returned u ∧ (Zc 5 1 u (Zv s).length ((Zv s).flatMap Zy)).ok w' ∧ Upd [] w w' ∧ ∀ q_, (Zc 5 1 u (Zv s).length ((Zv s).flatMap Zy)).fp q_ → w.heap.size ≤ q_ := by
 have H := Sat.start0 w
 refine Z8 Tryz.func114 rfl 10 rfl kn ?_
 refine zsl <| zy <| zdb (Z7u s) H fun b2 w3 H4 => ?_
 refine kk <| wv 2 (.slice none 0 0) <| znt <| Z5 <| Z08 H4 [Z3 w (fun _ => False), Z0 b2 149 (Z7u s)] 8 rfl kr (fun Hx => (Hx.pk [0, 1])) fun w5 H6 S7 => ?_
 refine hv0 3 S7 6 (.agg ⟨(Z7u s)⟩) ?_ (he := fun _ H' => (zlN (vs := (Z7u s)) (H'.at 1 rfl)))
 refine zhy 0 ?_
 refine Z2w 5 1 1 (.int .u8 (0)) [(0, (.int .u8 (115))), (1, (.int .u8 (116))), (2, (.int .u8 (97))), (3, (.int .u8 (109))), (4, (.int .u8 (112)))] (ZeH) H6 ?_
 intro b9 w10 H11
 have H12 := H11.ct 2 rfl (Zc 5 1 (.slice (some ⟨b9, 0, none⟩) 5 5) 5 ([115, 116, 97, 109, 112].flatMap Zy)) (by rw [show ((ZeH) : List Value) = [115, 116, 97, 109, 112].flatMap Zy from rfl])
 have S13 := H12.pk [0, 1]
 refine kh S13 <| zhy 1 ?_
 refine Z1W (e := 5) (s := [115, 116, 97, 109, 112]) rfl H12 2 rfl kr kr rfl ?_
 intro w15 H16
 have S17 := H16.pk [0, 1]
 refine kh S17 <| zhy 2 ?_
 refine zdc 5 (Z4d w15 (.slice (some ⟨b9, 0, none⟩) 5 5) ([115, 116, 97, 109, 112]) (ListAt.ofTxt (H16.at 2 rfl)) (by simp)) ?_
 rintro _ w19 ⟨u20, rfl, k21, p22, q23⟩
 have H24 := H16.addU p22 k21 q23
 obtain ⟨a25, c26, rfl⟩ := Z2 (H24.at 3 rfl)
 refine ⟨_, rfl, ?_⟩
 have S27 := H24.pk [0, 1]
 refine kh S27 <| zhy 4 ?_
 refine zdc 7 (Z8E w19 s hs) ?_
 rintro _ w29 ⟨u30, rfl, k31, p32, q33⟩
 have H34 := H24.addU p32 k31 q33
 obtain ⟨a35, c36, rfl⟩ := Z2 (H34.at 4 rfl)
 refine ⟨_, rfl, ?_⟩
 have S37 := H34.pk [0, 1]
 refine kh S37 <| zhy 5 ?_
 refine Z2w 84 1 24 (.slice none 0 0) [(0, (.slice a25 ((ZK ([115, 116, 97, 109, 112])).length) c26)), (1, (.slice a35 ((Z1o s).length) c36))] ([(.slice a25 ((ZK ([115, 116, 97, 109, 112])).length) c26), (.slice a35 ((Z1o s).length) c36)] : List Value) H34 ?_
 intro b39 w40 H41
 have S42 := H41.pk [0, 1]
 refine kh S42 <| zhy 6 ?_
 have l44 := Z0D ([115, 116, 97, 109, 112])
 simp only [List.length_cons, List.length_nil] at l44
 have l45 := Z4u s
 refine zdc 9 (Z1c w40 (.slice (some ⟨b39, 0, none⟩) 2 2) [(.slice a25 ((ZK ([115, 116, 97, 109, 112])).length) c26), (.slice a35 ((Z1o s).length) c36)] [(ZK ([115, 116, 97, 109, 112])), (Z1o s)] (ListAt.row (enc := Z9s) (sz := 1) (xs := [(.slice a25 ((ZK ([115, 116, 97, 109, 112])).length) c26), (.slice a35 ((Z1o s).length) c36)]) Z1F (by decide) (H41.at 5 rfl)) (Parts.cons (ListAt.row (enc := Zy) (sz := 1) Zk (by decide) (H41.at 3 rfl)) (Parts.cons (ListAt.row (enc := Zy) (sz := 1) Zk (by decide) (H41.at 4 rfl)) Parts.nil)) (by simp only [List.flatten_cons, List.flatten_nil, List.length_append, List.length_nil]; omega) (by simp)) ?_
 rintro _ w46 ⟨u47, rfl, k48, p49, q50⟩
 have H51 := H41.addU p49 k48 q50
 obtain ⟨a52, c53, rfl⟩ := Z2 (H51.at 6 rfl)
 refine ⟨_, rfl, ?_⟩
 have S54 := H51.pk [0, 1]
 refine kh S54 <| hv0 7 S54 2 (.slice a52 (([(ZK ([115, 116, 97, 109, 112])), (Z1o s)].flatten).length) c53) <| zhf <| ztn <| Zq <| ze1 (.slice a52 (([(ZK ([115, 116, 97, 109, 112])), (Z1o s)].flatten).length) c53) ?_
 have hX : ([(ZK ([115, 116, 97, 109, 112])), (Z1o s)].flatten) = Zv s := by rfl
 exact ⟨_, rfl, (by rw [← hX]; exact H51.at 6 rfl), H51.upd 0 rfl [] ne, (by rw [← hX]; exact H51.fresh 0 rfl (fun _ h => h) 6 rfl rfl)⟩
theorem Z2u (w : World) (s : Z9) (hs : (s.cl ≤ 9223372036854775807 ∧ s.seq ≤ 9223372036854775807 ∧ s.len ≤ 9223372036854775807)) :
  Calls Tryz.prog 84 #[(.agg ⟨(([(.int .i64 (s.cl)), (.int .i64 (s.seq))] : List Value) ++ hc s.h ++ ([(.int .i64 (s.len)), (.int .i64 (s.sb)), (.int .i64 (s.sm))] : List Value))⟩)] w fun e w' => ∃ u, e = .returned u ∧ (Zc 5 1 u (Zo s).length ((Zo s).flatMap Zy)).ok w' ∧ Upd [] w w' ∧ ∀ q_, (Zc 5 1 u (Zo s).length ((Zo s).flatMap Zy)).fp q_ → w.heap.size ≤ q_ := by
 have H := Sat.start0 w
 refine Z8 Tryz.func84 rfl 21 rfl kn ?_
 refine zsl <| zy <| zdb (ZeZ s) H fun b2 w3 H4 => ?_
 refine kk <| wv 2 (.slice none 0 0) <| znt <| Z5 <| Z08 H4 [Z3 w (fun _ => False), Z0 b2 73 (ZeZ s)] 19 rfl kr (fun Hx => (Hx.pk [0, 1])) fun w5 H6 S7 => ?_
 refine hv0 3 S7 6 (pt b2 0) <| hv0 4 S7 7 (pt b2 0) <| hv0 5 S7 8 (vi s.cl) ?_ (he := fun _ H' => (zl1 (H'.cell 1 rfl kr)))
 refine hv0 7 S7 10 (pt b2 0) <| hv0 8 S7 11 (pt b2 1) <| hv0 9 S7 12 (vi s.seq) ?_ (he := fun _ H' => (zl1 (H'.cell 1 rfl kr)))
 refine hv0 11 S7 14 (pt b2 2) <| hv0 12 S7 15 (.slice (some ⟨b2, 2, none⟩) 32 32) <| hv0 13 S7 16 (pt b2 34) <| hv0 14 S7 17 (vi s.len) ?_ (he := fun _ H' => (zl1 (H'.cell 1 rfl kr)))
 refine zhy 0 ?_
 refine Z2w 5 1 1 (.int .u8 (0)) [(0, (.int .u8 (114))), (1, (.int .u8 (101))), (2, (.int .u8 (113))), (3, (.int .u8 (117))), (4, (.int .u8 (101))), (5, (.int .u8 (115))), (6, (.int .u8 (116)))] (ZeS) H6 ?_
 intro b9 w10 H11
 have H12 := H11.ct 2 rfl (Zc 5 1 (.slice (some ⟨b9, 0, none⟩) 7 7) 7 ([114, 101, 113, 117, 101, 115, 116].flatMap Zy)) (by rw [show ((ZeS) : List Value) = [114, 101, 113, 117, 101, 115, 116].flatMap Zy from rfl])
 have S13 := H12.pk [0, 1]
 refine kh S13 <| zhy 1 ?_
 refine Z1W (e := 5) (s := [114, 101, 113, 117, 101, 115, 116]) rfl H12 2 rfl kr kr rfl ?_
 intro w15 H16
 have S17 := H16.pk [0, 1]
 refine kh S17 <| zhy 2 ?_
 refine zdc 5 (Z4d w15 (.slice (some ⟨b9, 0, none⟩) 7 7) ([114, 101, 113, 117, 101, 115, 116]) (ListAt.ofTxt (H16.at 2 rfl)) (by simp)) ?_
 rintro _ w19 ⟨u20, rfl, k21, p22, q23⟩
 have H24 := H16.addU p22 k21 q23
 obtain ⟨a25, c26, rfl⟩ := Z2 (H24.at 3 rfl)
 refine ⟨_, rfl, ?_⟩
 have S27 := H24.pk [0, 1]
 refine kh S27 <| zhy 6 ?_
 refine zdc 9 (Z0Q w19 s.cl om) ?_
 rintro _ w29 ⟨u30, rfl, k31, p32, q33⟩
 have H34 := H24.addU p32 k31 q33
 obtain ⟨a35, c36, rfl⟩ := Z2 (H34.at 4 rfl)
 refine ⟨_, rfl, ?_⟩
 have S37 := H34.pk [0, 1]
 refine kh S37 <| zhy 10 ?_
 refine zdc 13 (Z0Q w29 s.seq om) ?_
 rintro _ w39 ⟨u40, rfl, k41, p42, q43⟩
 have H44 := H34.addU p42 k41 q43
 obtain ⟨a45, c46, rfl⟩ := Z2 (H44.at 5 rfl)
 refine ⟨_, rfl, ?_⟩
 have S47 := H44.pk [0, 1]
 refine kh S47 <| zhy 15 ?_
 refine zdc 18 (Z0Q w39 s.len om) ?_
 rintro _ w49 ⟨u50, rfl, k51, p52, q53⟩
 have H54 := H44.addU p52 k51 q53
 obtain ⟨a55, c56, rfl⟩ := Z2 (H54.at 6 rfl)
 refine ⟨_, rfl, ?_⟩
 have S57 := H54.pk [0, 1]
 refine kh S57 <| zhy 16 ?_
 refine Z2w 84 1 24 (.slice none 0 0) [(0, (.slice a25 ((ZK ([114, 101, 113, 117, 101, 115, 116])).length) c26)), (1, (.slice a35 ((Zi s.cl).length) c36)), (2, (.slice a45 ((Zi s.seq).length) c46)), (3, (.slice (some ⟨b2, 2, none⟩) 32 32)), (4, (.slice a55 ((Zi s.len).length) c56))] ([(.slice a25 ((ZK ([114, 101, 113, 117, 101, 115, 116])).length) c26), (.slice a35 ((Zi s.cl).length) c36), (.slice a45 ((Zi s.seq).length) c46), (.slice (some ⟨b2, 2, none⟩) 32 32), (.slice a55 ((Zi s.len).length) c56)] : List Value) H54 ?_
 intro b59 w60 H61
 have S62 := H61.pk [0, 1]
 refine kh S62 <| zhy 17 ?_
 have l64 := Z0D ([114, 101, 113, 117, 101, 115, 116])
 simp only [List.length_cons, List.length_nil] at l64
 have l65 := ZM s.cl
 have l66 := ZM s.seq
 have l67 := s.h.len
 have l68 := ZM s.len
 refine zdc 20 (Z1c w60 (.slice (some ⟨b59, 0, none⟩) 5 5) [(.slice a25 ((ZK ([114, 101, 113, 117, 101, 115, 116])).length) c26), (.slice a35 ((Zi s.cl).length) c36), (.slice a45 ((Zi s.seq).length) c46), (.slice (some ⟨b2, 2, none⟩) 32 32), (.slice a55 ((Zi s.len).length) c56)] [(ZK ([114, 101, 113, 117, 101, 115, 116])), (Zi s.cl), (Zi s.seq), s.h.l, (Zi s.len)] (ListAt.row (enc := Z9s) (sz := 1) (xs := [(.slice a25 ((ZK ([114, 101, 113, 117, 101, 115, 116])).length) c26), (.slice a35 ((Zi s.cl).length) c36), (.slice a45 ((Zi s.seq).length) c46), (.slice (some ⟨b2, 2, none⟩) 32 32), (.slice a55 ((Zi s.len).length) c56)]) Z1F (by decide) (H61.at 7 rfl)) (Parts.cons (ListAt.row (enc := Zy) (sz := 1) Zk (by decide) (H61.at 3 rfl)) (Parts.cons (ListAt.row (enc := Zy) (sz := 1) Zk (by decide) (H61.at 4 rfl)) (Parts.cons (ListAt.row (enc := Zy) (sz := 1) Zk (by decide) (H61.at 5 rfl)) (Parts.cons (ListAt.ofHash (Z3U (H61.at 1 rfl) kr) (by decide)) (Parts.cons (ListAt.row (enc := Zy) (sz := 1) Zk (by decide) (H61.at 6 rfl)) Parts.nil))))) (by simp only [List.flatten_cons, List.flatten_nil, List.length_append, List.length_nil]; omega) (by simp)) ?_
 rintro _ w69 ⟨u70, rfl, k71, p72, q73⟩
 have H74 := H61.addU p72 k71 q73
 obtain ⟨a75, c76, rfl⟩ := Z2 (H74.at 8 rfl)
 refine ⟨_, rfl, ?_⟩
 have S77 := H74.pk [0, 1]
 refine kh S77 <| hv0 18 S77 2 (.slice a75 (([(ZK ([114, 101, 113, 117, 101, 115, 116])), (Zi s.cl), (Zi s.seq), s.h.l, (Zi s.len)].flatten).length) c76) <| zhf <| ztn <| Zq <| ze1 (.slice a75 (([(ZK ([114, 101, 113, 117, 101, 115, 116])), (Zi s.cl), (Zi s.seq), s.h.l, (Zi s.len)].flatten).length) c76) ?_
 have hX : ([(ZK ([114, 101, 113, 117, 101, 115, 116])), (Zi s.cl), (Zi s.seq), s.h.l, (Zi s.len)].flatten) = Zo s := by rfl
 exact ⟨_, rfl, (by rw [← hX]; exact H74.at 8 rfl), H74.upd 0 rfl [] ne, (by rw [← hX]; exact H74.fresh 0 rfl (fun _ h => h) 8 rfl rfl)⟩
structure CeR where
 x : Z9
 sa : Option Addr
 sc : Nat
 S : List Z4
def Z0V (c : CeR) : List Value := Zaa c.x ++ [.slice c.sa c.S.length c.sc]
theorem Z0N (c : CeR) : (Z0V c).length = 38 := by simp [Z0V, Zaa, Zaz]
theorem Z5t (c : CeR) : (Z0V c).all (·.oneCell') = true := by
 simp only [Z0V, Zaa, List.all_append, Z8r]
 simp [Value.oneCell', Z4a]
def ce0 : CeR := ⟨⟨0, 0, Zn, 0, 0, 0⟩, none, 0, []⟩
structure PrR where
 r : Int
 e : Int
 f : Int
 ca : Option Addr
 cc : Nat
 sb : Int
 sm : Int
 C : List CeR
def Z0p (p : PrR) : List Value := [.int .i64 p.r, .int .i64 p.e, .int .u64 p.f, .slice p.ca p.C.length p.cc, .int .i64 p.sb, .int .i64 p.sm]
theorem Z26 (p : PrR) : (Z0p p).length = 6 := rfl
theorem Z5s (p : PrR) : (Z0p p).all (·.oneCell') = true := rfl
def pr0 : PrR := ⟨0, 0, 0, none, 0, 0, 0, []⟩
def CeOk (w : World) (c : CeR) : Prop := ListAt Z1U 38 w (.slice c.sa c.S.length c.sc) c.S
def PrOk (w : World) (p : PrR) : Prop := ListAt Z0V 38 w (.slice p.ca p.C.length p.cc) p.C ∧ ∀ c ∈ p.C, CeOk w c
def Z6d (a b : Int) : List UInt8 := [Zi a, Zi b].flatten
def Z0X (s : Z4) : List UInt8 := [Z1o s, Z6d s.sb s.sm].flatten
def Z0f (x : Z9) : List UInt8 := [Z1Z x.cl x.seq, x.h.l, Zi x.len, Z6d x.sb x.sm].flatten
def Z7V (S : List Z4) : List UInt8 := S.flatMap Z0X
def Z1f (c : CeR) : List UInt8 := [Z0f c.x, Zi (c.S.length : Int)].flatten ++ Z7V c.S
def Z79 (C : List CeR) : List UInt8 := C.flatMap Z1f
def Z1D (p : PrR) : List UInt8 := [Zi p.r, Zi p.e, Z2W p.f.toNat, Zi (p.C.length : Int)].flatten ++ Z79 p.C
def Z0R (p : PrR) : List UInt8 := [ZK [112, 114, 111, 109, 105, 115, 101], Z1D p].flatten
def Z2K (s : Z4) : List UInt8 := [ZK [97, 99, 107], Z1o s].flatten
theorem Z6l (a b : Int) : (Z6d a b).length ≤ 20 := by
 have h1 := ZM a; have h2 := ZM b
 simp only [Z6d, List.flatten_cons, List.flatten_nil, List.length_append, List.length_nil]; omega
theorem Z47 (s : Z4) : (Z0X s).length ≤ 92 := by
 have h1 := Z4u s; have h2 := Z6l s.sb s.sm
 simp only [Z0X, List.flatten_cons, List.flatten_nil, List.length_append, List.length_nil]; omega
theorem Z3J (x : Z9) : (Z0f x).length ≤ 82 := by
 have h1 := Z4w x.cl x.seq; have h2 := x.h.len; have h3 := ZM x.len; have h4 := Z6l x.sb x.sm
 simp only [Z0f, List.flatten_cons, List.flatten_nil, List.length_append, List.length_nil]; omega
theorem Z81 (s : Z4) : (Z2K s).length ≤ 100 := by
 have h1 := Z4u s; have h2 := Z0D [97, 99, 107]
 simp only [List.length_cons, List.length_nil] at h2
 simp only [Z2K, List.flatten_cons, List.flatten_nil, List.length_append, List.length_nil]; omega
section
variable {α : Type} {g : α → List UInt8} {k : Nat}
theorem Z8m (hg : ∀ x, (g x).length ≤ k) : ∀ (L : List α), (L.flatMap g).length ≤ L.length * k
 | [] => by simp
 | x :: L => by
  have h1 := hg x; have h2 := Z8m hg L
  rw [List.flatMap_cons, List.length_append, List.length_cons, Nat.succ_mul]; omega
theorem Z6r : ∀ (L : List α), (∀ x ∈ L, (g x).length ≤ k) → (L.flatMap g).length ≤ L.length * k
 | [], _ => by simp
 | x :: L, hg => by
  have h1 := hg x (by simp); have h2 := Z6r L fun y hy => hg y (by simp [hy])
  rw [List.flatMap_cons, List.length_append, List.length_cons, Nat.succ_mul]; omega
theorem Z7y (L : List α) (d : α) {i : Nat} (h : i < L.length) : (L.take (i + 1)).flatMap g = (L.take i).flatMap g ++ g (L.getD i d) := by
 have e : L.take (i + 1) = L.take i ++ [L.getD i d] := by
  rw [List.take_add_one, List.getElem?_eq_getElem h, List.getD_eq_getElem?_getD, List.getElem?_eq_getElem h]; rfl
 rw [e, List.flatMap_append]; simp only [List.flatMap_cons, List.flatMap_nil, List.append_nil]
end
theorem Z9W (S : List Z4) : (Z7V S).length ≤ S.length * 92 := Z8m Z47 S
theorem Z4C {c : CeR} (h : c.S.length ≤ 100) : (Z1f c).length ≤ 9292 := by
 have h1 := Z3J c.x; have h2 := ZM (c.S.length : Int); have h3 := Z9W c.S
 simp only [Z1f, List.flatten_cons, List.flatten_nil, List.length_append, List.length_nil]; omega
theorem ZbA {C : List CeR} (h : ∀ c ∈ C, c.S.length ≤ 100) : (Z79 C).length ≤ C.length * 9292 := Z6r C fun c hc => Z4C (h c hc)
theorem Z73 {p : PrR} (h : ∀ c ∈ p.C, c.S.length ≤ 100) (hl : p.C.length ≤ 64) : (Z1D p).length ≤ 600000 := by
 have h1 := ZM p.r; have h2 := ZM p.e; have h3 := Z45 p.f.toNat; have h4 := ZM (p.C.length : Int); have h5 := ZbA h
 simp only [Z1D, List.flatten_cons, List.flatten_nil, List.length_append, List.length_nil]; omega
theorem Z99 {p : PrR} (h : ∀ c ∈ p.C, c.S.length ≤ 100) (hl : p.C.length ≤ 64) : (Z0R p).length ≤ 600100 := by
 have h1 := Z73 h hl; have h2 := Z0D [112, 114, 111, 109, 105, 115, 101]
 simp only [List.length_cons, List.length_nil] at h2
 simp only [Z0R, List.flatten_cons, List.flatten_nil, List.length_append, List.length_nil]; omega
end Go.Proofs.YtenihpghfdcpkaaGreat
