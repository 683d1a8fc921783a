/- WHAT IS PROVED: contracts and plain laws of Rt2, RbD, RefB, SortU. Conditions: stated with each. -/
import Derived.Test.YtenihpghfdcpkaaGreatPV02
import Derived.Test.YtenihpghfdcpkaaGreatPV05
import Derived.Test.YtenihpghfdcpkaaGreatPV06
import Derived.Test.YtenihpghfdcpkaaGreatPV07
import Derived.Test.YtenihpghfdcpkaaGreatPV10
set_option maxHeartbeats 4000000
set_option maxRecDepth 100000
namespace Go.Proofs.YtenihpghfdcpkaaGreat
open Go.RowKit
abbrev Zaa (p0 : Int) (p1 : Int) : List Value := ([i6 p0, i6 p1] : LV)
abbrev Z7f (p0 : Zb) : List Value := ([i6 p0.r, i6 p0.cl, i6 p0.seq] : LV) ++ hc p0.h ++ ([u6 p0.t, i6 p0.sb, i6 p0.sm] : LV)
abbrev Ze7 : List Value := ([(.int .u8 (115)), (.int .u8 (116)), (.int .u8 (97)), (.int .u8 (109)), (.int .u8 (112))] : LV)
abbrev Ze2 (p0 : Zj) : List Value := ([i6 p0.cl, i6 p0.seq] : LV) ++ hc p0.h ++ ([i6 p0.len, i6 p0.sb, i6 p0.sm] : LV)
abbrev Zei : List Value := ([(.int .u8 (114)), (.int .u8 (101)), (.int .u8 (113)), (.int .u8 (117)), (.int .u8 (101)), (.int .u8 (115)), (.int .u8 (116))] : LV)
theorem Z6q (w : World) (a b : Int) (hs : a ≤ 9223372036854775807 ∧ b ≤ 9223372036854775807) :
  Calls Tryz.prog 117 #[(.agg ⟨([i6 a, i6 b] : LV)⟩)] w fun e w' => ∃ u, e = .returned u ∧ (Zo 5 1 u (Z0y a b).length ((Z0y a b).flatMap Zx)).ok w' ∧ Upd [] w w' ∧ ∀ q_, (Zo 5 1 u (Z0y a b).length ((Z0y a b).flatMap Zx)).fp q_ → w.heap.size ≤ q_ := by
 have H := Sat.start0 w
 refine Zg Tryz.func117 rfl 11 rfl kn ?_
 refine zsl <| zy <| zdb (Zaa a b) H fun b2 w3 H4 => ?_
 refine kk <| wv 2 (.slice none 0 0) <| znt <| Z9 <| Z0a H4 [zR w, Z0 b2 59 (Zaa a b)] 9 rfl kr (fun Hx => (Hx.pk [0, 1])) fun w5 H6 S7 => ?_
 refine hv0 0 S7 3 (pt b2 0) <| hv0 1 S7 4 (vi a) ?_ (he := fun _ H' => (zl1 (H'.cell 1 rfl rfl)))
 refine hv0 3 S7 6 (pt b2 1) <| hv0 4 S7 7 (vi b) ?_ (he := fun _ H' => (zl1 (H'.cell 1 rfl rfl)))
 refine zhy 2 ?_
 refine zdc 5 (Z1b w5 a om) ?_
 rintro _ w9 ⟨u10, rfl, k11, p12, q13⟩
 have H14 := H6.addU p12 k11 q13
 obtain ⟨a15, c16, rfl⟩ := Z3 (H14.at 2 rfl)
 refine ⟨_, rfl, ?_⟩
 have S17 := H14.pk [0, 1]
 refine kh S17 <| zhy 5 ?_
 refine zdc 8 (Z1b w9 b om) ?_
 rintro _ w19 ⟨u20, rfl, k21, p22, q23⟩
 have H24 := H14.addU p22 k21 q23
 obtain ⟨a25, c26, rfl⟩ := Z3 (H24.at 3 rfl)
 refine ⟨_, rfl, ?_⟩
 have S27 := H24.pk [0, 1]
 refine kh S27 <| zhy 6 ?_
 let A0 : Value := .slice a15 ((Z5 a).length) c16
 let A1 : Value := .slice a25 ((Z5 b).length) c26
 refine Z2z 84 1 24 (.slice none 0 0) [(0, A0), (1, A1)] ([A0, A1] : LV) H24 ?_
 intro b29 w30 H31
 have S32 := H31.pk [0, 1]
 refine kh S32 <| zhy 7 ?_
 have l34 := ZA a
 have l35 := ZA b
 refine zdc 10 (Z1p w30 (.slice (some ⟨b29, 0, none⟩) 2 2) [A0, A1] [(Z5 a), (Z5 b)] (ListAt.row (enc := Z9k) (sz := 1) (xs := [A0, A1]) Z1T (by decide) (H31.at 4 rfl)) (Parts.cons (ListAt.row (enc := Zx) (sz := 1) Zw (by decide) (H31.at 2 rfl)) (Parts.cons (ListAt.row (enc := Zx) (sz := 1) Zw (by decide) (H31.at 3 rfl)) Parts.nil)) (by simp only [List.flatten_cons, List.flatten_nil, List.length_append, List.length_nil]; omega) (by simp)) ?_
 rintro _ w36 ⟨u37, rfl, k38, p39, q40⟩
 have H41 := H31.addU p39 k38 q40
 obtain ⟨a42, c43, rfl⟩ := Z3 (H41.at 5 rfl)
 refine ⟨_, rfl, ?_⟩
 have S44 := H41.pk [0, 1]
 let A2 : Value := .slice a42 (([(Z5 a), (Z5 b)].flatten).length) c43
 refine kh S44 <| hv0 8 S44 2 A2 <| zhf <| ztn <| Zk <| ze1 A2 ?_
 have hX : ([(Z5 a), (Z5 b)].flatten) = Z0y a b := by rfl
 exact ⟨_, rfl, (by rw [← hX]; exact H41.at 5 rfl), H41.upd 0 rfl [] ne, (by rw [← hX]; exact H41.fresh 0 rfl (fun _ h => h) 5 rfl rfl)⟩
theorem Z96 (w : World) (s : Zb) (hs : (s.r ≤ 9223372036854775807 ∧ s.cl ≤ 9223372036854775807 ∧ s.seq ≤ 9223372036854775807 ∧ 0 ≤ s.t ∧ s.t < 18446744073709551616)) :
  Calls Tryz.prog 145 #[(.agg ⟨(([i6 s.r, i6 s.cl, i6 s.seq] : LV) ++ hc s.h ++ ([u6 s.t, i6 s.sb, i6 s.sm] : LV))⟩)] w fun e w' => ∃ u, e = .returned u ∧ (Zo 5 1 u (Z27 s).length ((Z27 s).flatMap Zx)).ok w' ∧ Upd [] w w' ∧ ∀ q_, (Zo 5 1 u (Z27 s).length ((Z27 s).flatMap Zx)).fp q_ → w.heap.size ≤ q_ := by
 have H := Sat.start0 w
 refine Zg Tryz.func145 rfl 16 rfl kn ?_
 refine zsl <| zy <| zdb (Z7f s) H fun b2 w3 H4 => ?_
 refine kk <| wv 2 (.slice none 0 0) <| znt <| Z9 <| Z0a H4 [zR w, Z0 b2 149 (Z7f s)] 14 rfl kr (fun Hx => (Hx.pk [0, 1])) fun w5 H6 S7 => ?_
 refine hv0 0 S7 3 (pt b2 0) <| hv0 1 S7 4 (vi s.r) ?_ (he := fun _ H' => (zl1 (H'.cell 1 rfl kr)))
 refine hv0 3 S7 6 (pt b2 1) <| hv0 4 S7 7 (.agg ⟨(Zaa s.cl s.seq)⟩) ?_ (he := fun _ H' => (zlN (vs := (Zaa s.cl s.seq)) (H'.at 1 rfl)))
 let A0 : Value := .slice (some ⟨b2, 3, none⟩) 32 32
 refine hv0 6 S7 9 (pt b2 3) <| hv0 7 S7 10 A0 <| hv0 8 S7 11 (pt b2 35) <| hv0 9 S7 12 (vu s.t) ?_ (he := fun _ H' => (zl1 (H'.cell 1 rfl kr)))
 refine zhy 2 ?_
 refine zdc 5 (Z1b w5 s.r om) ?_
 rintro _ w9 ⟨u10, rfl, k11, p12, q13⟩
 have H14 := H6.addU p12 k11 q13
 obtain ⟨a15, c16, rfl⟩ := Z3 (H14.at 2 rfl)
 refine ⟨_, rfl, ?_⟩
 have S17 := H14.pk [0, 1]
 refine kh S17 <| zhy 5 ?_
 refine zdc 8 (Z6q w9 s.cl s.seq om) ?_
 rintro _ w19 ⟨u20, rfl, k21, p22, q23⟩
 have H24 := H14.addU p22 k21 q23
 obtain ⟨a25, c26, rfl⟩ := Z3 (H24.at 3 rfl)
 refine ⟨_, rfl, ?_⟩
 have S27 := H24.pk [0, 1]
 refine kh S27 <| zhy 10 ?_
 refine Z10 (d := 13) rfl (by rw [show s.t = ((s.t.toNat : Nat) : Int) by omega]; kernel_rfl) (Z61 w19 s.t.toNat om) ?_
 rintro _ w29 ⟨u30, rfl, k31, p32, q33⟩
 have H34 := H24.addU p32 k31 q33
 obtain ⟨a35, c36, rfl⟩ := Z3 (H34.at 4 rfl)
 refine ⟨_, rfl, ?_⟩
 have S37 := H34.pk [0, 1]
 refine kh S37 <| zhy 11 ?_
 let A1 : Value := .slice a25 ((Z0y s.cl s.seq).length) c26
 let A2 : Value := .slice a35 ((Z1I s.t.toNat).length) c36
 let A3 : Value := .slice a15 ((Z5 s.r).length) c16
 refine Z2z 84 1 24 (.slice none 0 0) [(0, A3), (1, A1), (2, A0), (3, A2)] ([A3, A1, A0, A2] : LV) H34 ?_
 intro b39 w40 H41
 have S42 := H41.pk [0, 1]
 refine kh S42 <| zhy 12 ?_
 have l44 := ZA s.r
 have l45 := Z2V s.cl s.seq
 have l46 := s.h.len
 have l47 := Z2I s.t.toNat
 refine zdc 15 (Z1p w40 (.slice (some ⟨b39, 0, none⟩) 4 4) [A3, A1, A0, A2] [(Z5 s.r), (Z0y s.cl s.seq), s.h.l, (Z1I s.t.toNat)] (ListAt.row (enc := Z9k) (sz := 1) (xs := [A3, A1, A0, A2]) Z1T (by decide) (H41.at 5 rfl)) (Parts.cons (ListAt.row (enc := Zx) (sz := 1) Zw (by decide) (H41.at 2 rfl)) (Parts.cons (ListAt.row (enc := Zx) (sz := 1) Zw (by decide) (H41.at 3 rfl)) (Parts.cons (ListAt.ofHash (Z3F (H41.at 1 rfl) kr) (by decide)) (Parts.cons (ListAt.row (enc := Zx) (sz := 1) Zw (by decide) (H41.at 4 rfl)) Parts.nil)))) (by simp only [List.flatten_cons, List.flatten_nil, List.length_append, List.length_nil]; omega) (by simp)) ?_
 rintro _ w48 ⟨u49, rfl, k50, p51, q52⟩
 have H53 := H41.addU p51 k50 q52
 obtain ⟨a54, c55, rfl⟩ := Z3 (H53.at 6 rfl)
 refine ⟨_, rfl, ?_⟩
 have S56 := H53.pk [0, 1]
 let A4 : Value := .slice a54 (([(Z5 s.r), (Z0y s.cl s.seq), s.h.l, (Z1I s.t.toNat)].flatten).length) c55
 refine kh S56 <| hv0 13 S56 2 A4 <| zhf <| ztn <| Zk <| ze1 A4 ?_
 have hX : ([(Z5 s.r), (Z0y s.cl s.seq), s.h.l, (Z1I s.t.toNat)].flatten) = Z27 s := by rfl
 exact ⟨_, rfl, (by rw [← hX]; exact H53.at 6 rfl), H53.upd 0 rfl [] ne, (by rw [← hX]; exact H53.fresh 0 rfl (fun _ h => h) 6 rfl rfl)⟩
theorem Z3u (w : World) (s : Zb) (hs : (s.r ≤ 9223372036854775807 ∧ s.cl ≤ 9223372036854775807 ∧ s.seq ≤ 9223372036854775807 ∧ 0 ≤ s.t ∧ s.t < 18446744073709551616)) :
  Calls Tryz.prog 114 #[(.agg ⟨(([i6 s.r, i6 s.cl, i6 s.seq] : LV) ++ hc s.h ++ ([u6 s.t, i6 s.sb, i6 s.sm] : LV))⟩)] w fun e w' => ∃ u, e = .returned u ∧ (Zo 5 1 u (ZE s).length ((ZE s).flatMap Zx)).ok w' ∧ Upd [] w w' ∧ ∀ q_, (Zo 5 1 u (ZE s).length ((ZE s).flatMap Zx)).fp q_ → w.heap.size ≤ q_ := by
 have H := Sat.start0 w
 refine Zg Tryz.func114 rfl 10 rfl kn ?_
 refine zsl <| zy <| zdb (Z7f s) H fun b2 w3 H4 => ?_
 refine kk <| wv 2 (.slice none 0 0) <| znt <| Z9 <| Z0a H4 [zR w, Z0 b2 149 (Z7f s)] 8 rfl kr (fun Hx => (Hx.pk [0, 1])) fun w5 H6 S7 => ?_
 refine hv0 3 S7 6 (.agg ⟨(Z7f s)⟩) ?_ (he := fun _ H' => (zlN (vs := (Z7f s)) (H'.at 1 rfl)))
 refine zhy 0 ?_
 refine Z2z 5 1 1 (.int .u8 (0)) [(0, (.int .u8 (115))), (1, (.int .u8 (116))), (2, (.int .u8 (97))), (3, (.int .u8 (109))), (4, (.int .u8 (112)))] (Ze7) H6 ?_
 intro b9 w10 H11
 let A3 : Value := .slice (some ⟨b9, 0, none⟩) 5 5
 have H12 := H11.ct 2 rfl (Zo 5 1 A3 5 (zq2.flatMap Zx)) (by rw [show ((Ze7) : LV) = zq2.flatMap Zx from rfl])
 have S13 := H12.pk [0, 1]
 refine kh S13 <| zhy 1 ?_
 refine Z1l (e := 5) (s := zq2) rfl H12 2 rfl kr kr rfl ?_
 intro w15 H16
 have S17 := H16.pk [0, 1]
 refine kh S17 <| zhy 2 ?_
 refine zdc 5 (Z3Y w15 A3 zq2 (ListAt.ofTxt (H16.at 2 rfl)) (by simp)) ?_
 rintro _ w19 ⟨u20, rfl, k21, p22, q23⟩
 have H24 := H16.addU p22 k21 q23
 obtain ⟨a25, c26, rfl⟩ := Z3 (H24.at 3 rfl)
 refine ⟨_, rfl, ?_⟩
 have S27 := H24.pk [0, 1]
 refine kh S27 <| zhy 4 ?_
 refine zdc 7 (Z96 w19 s hs) ?_
 rintro _ w29 ⟨u30, rfl, k31, p32, q33⟩
 have H34 := H24.addU p32 k31 q33
 obtain ⟨a35, c36, rfl⟩ := Z3 (H34.at 4 rfl)
 refine ⟨_, rfl, ?_⟩
 have S37 := H34.pk [0, 1]
 refine kh S37 <| zhy 5 ?_
 let A0 : Value := .slice a25 ((Zm zq2).length) c26
 let A1 : Value := .slice a35 ((Z27 s).length) c36
 refine Z2z 84 1 24 (.slice none 0 0) [(0, A0), (1, A1)] ([A0, A1] : LV) H34 ?_
 intro b39 w40 H41
 have S42 := H41.pk [0, 1]
 refine kh S42 <| zhy 6 ?_
 have l44 := Z0K zq2
 simp only [List.length_cons, List.length_nil] at l44
 have l45 := Z4s s
 refine zdc 9 (Z1p w40 (.slice (some ⟨b39, 0, none⟩) 2 2) [A0, A1] [(Zm zq2), (Z27 s)] (ListAt.row (enc := Z9k) (sz := 1) (xs := [A0, A1]) Z1T (by decide) (H41.at 5 rfl)) (Parts.cons (ListAt.row (enc := Zx) (sz := 1) Zw (by decide) (H41.at 3 rfl)) (Parts.cons (ListAt.row (enc := Zx) (sz := 1) Zw (by decide) (H41.at 4 rfl)) Parts.nil)) (by simp only [List.flatten_cons, List.flatten_nil, List.length_append, List.length_nil]; omega) (by simp)) ?_
 rintro _ w46 ⟨u47, rfl, k48, p49, q50⟩
 have H51 := H41.addU p49 k48 q50
 obtain ⟨a52, c53, rfl⟩ := Z3 (H51.at 6 rfl)
 refine ⟨_, rfl, ?_⟩
 have S54 := H51.pk [0, 1]
 let A2 : Value := .slice a52 (([(Zm zq2), (Z27 s)].flatten).length) c53
 refine kh S54 <| hv0 7 S54 2 A2 <| zhf <| ztn <| Zk <| ze1 A2 ?_
 have hX : ([(Zm zq2), (Z27 s)].flatten) = ZE s := by rfl
 exact ⟨_, rfl, (by rw [← hX]; exact H51.at 6 rfl), H51.upd 0 rfl [] ne, (by rw [← hX]; exact H51.fresh 0 rfl (fun _ h => h) 6 rfl rfl)⟩
theorem Z2v (w : World) (s : Zj) (hs : (s.cl ≤ 9223372036854775807 ∧ s.seq ≤ 9223372036854775807 ∧ s.len ≤ 9223372036854775807)) :
  Calls Tryz.prog 84 #[(.agg ⟨(([i6 s.cl, i6 s.seq] : LV) ++ hc s.h ++ ([i6 s.len, i6 s.sb, i6 s.sm] : LV))⟩)] w fun e w' => ∃ u, e = .returned u ∧ (Zo 5 1 u (Zt s).length ((Zt s).flatMap Zx)).ok w' ∧ Upd [] w w' ∧ ∀ q_, (Zo 5 1 u (Zt s).length ((Zt s).flatMap Zx)).fp q_ → w.heap.size ≤ q_ := by
 have H := Sat.start0 w
 refine Zg Tryz.func84 rfl 21 rfl kn ?_
 refine zsl <| zy <| zdb (Ze2 s) H fun b2 w3 H4 => ?_
 refine kk <| wv 2 (.slice none 0 0) <| znt <| Z9 <| Z0a H4 [zR w, Z0 b2 73 (Ze2 s)] 19 rfl kr (fun Hx => (Hx.pk [0, 1])) fun w5 H6 S7 => ?_
 refine hv0 3 S7 6 (pt b2 0) <| hv0 4 S7 7 (pt b2 0) <| hv0 5 S7 8 (vi s.cl) ?_ (he := fun _ H' => (zl1 (H'.cell 1 rfl kr)))
 refine hv0 7 S7 10 (pt b2 0) <| hv0 8 S7 11 (pt b2 1) <| hv0 9 S7 12 (vi s.seq) ?_ (he := fun _ H' => (zl1 (H'.cell 1 rfl kr)))
 refine hv0 11 S7 14 (pt b2 2) <| hv0 12 S7 15 (.slice (some ⟨b2, 2, none⟩) 32 32) <| hv0 13 S7 16 (pt b2 34) <| hv0 14 S7 17 (vi s.len) ?_ (he := fun _ H' => (zl1 (H'.cell 1 rfl kr)))
 refine zhy 0 ?_
 refine Z2z 5 1 1 (.int .u8 (0)) [(0, (.int .u8 (114))), (1, (.int .u8 (101))), (2, (.int .u8 (113))), (3, (.int .u8 (117))), (4, (.int .u8 (101))), (5, (.int .u8 (115))), (6, (.int .u8 (116)))] (Zei) H6 ?_
 intro b9 w10 H11
 let A1 : Value := .slice (some ⟨b9, 0, none⟩) 7 7
 have H12 := H11.ct 2 rfl (Zo 5 1 A1 7 (zq0.flatMap Zx)) (by rw [show ((Zei) : LV) = zq0.flatMap Zx from rfl])
 have S13 := H12.pk [0, 1]
 refine kh S13 <| zhy 1 ?_
 refine Z1l (e := 5) (s := zq0) rfl H12 2 rfl kr kr rfl ?_
 intro w15 H16
 have S17 := H16.pk [0, 1]
 refine kh S17 <| zhy 2 ?_
 refine zdc 5 (Z3Y w15 A1 zq0 (ListAt.ofTxt (H16.at 2 rfl)) (by simp)) ?_
 rintro _ w19 ⟨u20, rfl, k21, p22, q23⟩
 have H24 := H16.addU p22 k21 q23
 obtain ⟨a25, c26, rfl⟩ := Z3 (H24.at 3 rfl)
 refine ⟨_, rfl, ?_⟩
 have S27 := H24.pk [0, 1]
 refine kh S27 <| zhy 6 ?_
 refine zdc 9 (Z1b w19 s.cl om) ?_
 rintro _ w29 ⟨u30, rfl, k31, p32, q33⟩
 have H34 := H24.addU p32 k31 q33
 obtain ⟨a35, c36, rfl⟩ := Z3 (H34.at 4 rfl)
 refine ⟨_, rfl, ?_⟩
 have S37 := H34.pk [0, 1]
 refine kh S37 <| zhy 10 ?_
 refine zdc 13 (Z1b w29 s.seq om) ?_
 rintro _ w39 ⟨u40, rfl, k41, p42, q43⟩
 have H44 := H34.addU p42 k41 q43
 obtain ⟨a45, c46, rfl⟩ := Z3 (H44.at 5 rfl)
 refine ⟨_, rfl, ?_⟩
 have S47 := H44.pk [0, 1]
 refine kh S47 <| zhy 15 ?_
 refine zdc 18 (Z1b w39 s.len om) ?_
 rintro _ w49 ⟨u50, rfl, k51, p52, q53⟩
 have H54 := H44.addU p52 k51 q53
 obtain ⟨a55, c56, rfl⟩ := Z3 (H54.at 6 rfl)
 refine ⟨_, rfl, ?_⟩
 have S57 := H54.pk [0, 1]
 refine kh S57 <| zhy 16 ?_
 refine Z2z 84 1 24 (.slice none 0 0) [(0, (.slice a25 ((Zm zq0).length) c26)), (1, (.slice a35 ((Z5 s.cl).length) c36)), (2, (.slice a45 ((Z5 s.seq).length) c46)), (3, (.slice (some ⟨b2, 2, none⟩) 32 32)), (4, (.slice a55 ((Z5 s.len).length) c56))] ([(.slice a25 ((Zm zq0).length) c26), (.slice a35 ((Z5 s.cl).length) c36), (.slice a45 ((Z5 s.seq).length) c46), (.slice (some ⟨b2, 2, none⟩) 32 32), (.slice a55 ((Z5 s.len).length) c56)] : LV) H54 ?_
 intro b59 w60 H61
 have S62 := H61.pk [0, 1]
 refine kh S62 <| zhy 17 ?_
 have l64 := Z0K zq0
 simp only [List.length_cons, List.length_nil] at l64
 have l65 := ZA s.cl
 have l66 := ZA s.seq
 have l67 := s.h.len
 have l68 := ZA s.len
 refine zdc 20 (Z1p w60 (.slice (some ⟨b59, 0, none⟩) 5 5) [(.slice a25 ((Zm zq0).length) c26), (.slice a35 ((Z5 s.cl).length) c36), (.slice a45 ((Z5 s.seq).length) c46), (.slice (some ⟨b2, 2, none⟩) 32 32), (.slice a55 ((Z5 s.len).length) c56)] [(Zm zq0), (Z5 s.cl), (Z5 s.seq), s.h.l, (Z5 s.len)] (ListAt.row (enc := Z9k) (sz := 1) (xs := [(.slice a25 ((Zm zq0).length) c26), (.slice a35 ((Z5 s.cl).length) c36), (.slice a45 ((Z5 s.seq).length) c46), (.slice (some ⟨b2, 2, none⟩) 32 32), (.slice a55 ((Z5 s.len).length) c56)]) Z1T (by decide) (H61.at 7 rfl)) (Parts.cons (ListAt.row (enc := Zx) (sz := 1) Zw (by decide) (H61.at 3 rfl)) (Parts.cons (ListAt.row (enc := Zx) (sz := 1) Zw (by decide) (H61.at 4 rfl)) (Parts.cons (ListAt.row (enc := Zx) (sz := 1) Zw (by decide) (H61.at 5 rfl)) (Parts.cons (ListAt.ofHash (Z3F (H61.at 1 rfl) kr) (by decide)) (Parts.cons (ListAt.row (enc := Zx) (sz := 1) Zw (by decide) (H61.at 6 rfl)) Parts.nil))))) (by simp only [List.flatten_cons, List.flatten_nil, List.length_append, List.length_nil]; omega) (by simp)) ?_
 rintro _ w69 ⟨u70, rfl, k71, p72, q73⟩
 have H74 := H61.addU p72 k71 q73
 obtain ⟨a75, c76, rfl⟩ := Z3 (H74.at 8 rfl)
 refine ⟨_, rfl, ?_⟩
 have S77 := H74.pk [0, 1]
 let A0 : Value := .slice a75 (([(Zm zq0), (Z5 s.cl), (Z5 s.seq), s.h.l, (Z5 s.len)].flatten).length) c76
 refine kh S77 <| hv0 18 S77 2 A0 <| zhf <| ztn <| Zk <| ze1 A0 ?_
 have hX : ([(Zm zq0), (Z5 s.cl), (Z5 s.seq), s.h.l, (Z5 s.len)].flatten) = Zt s := by rfl
 exact ⟨_, rfl, (by rw [← hX]; exact H74.at 8 rfl), H74.upd 0 rfl [] ne, (by rw [← hX]; exact H74.fresh 0 rfl (fun _ h => h) 8 rfl rfl)⟩
def Z47 (x : Signed) : List Value := [i6 x.p, Z5l x.s]
theorem Z66 (x : Signed) : (Z47 x).length = 2 := rfl
theorem BytesAt.now {W w : World} {G : List Ck} {v : Value} {s : List UInt8} (H : Sat W G w) (j : Nat) (hj : G[j]? = Option.some (ZQ W fun _ => False)) (hv : BytesAt W v s) : BytesAt w v s :=
 SliceOf.mono hv fun _ _ h => H.cellR j hj h (fun h => h)
abbrev Zcz (p0 : Option Addr) (p1 : Nat) (p2 : Nat) : List Value := ([(.slice p0 p1 p2)] : LV)
abbrev Zex (p0 : Option Addr) (p1 : List Signed) (p2 : Nat) : Ck := Zo 181 2 (.slice p0 p1.length p2) p1.length (p1.flatMap Z47)
abbrev Z88 (p0 : Int) (p1 : Int) : List Value := ([i6 p0, i6 p1] : LV)
abbrev Zcq : List Value := ([i6 0, i6 0] : LV)
abbrev Zf4 (p0 : Int) (p1 : Value) : List Value := ([i6 p0, p1] : LV)
def rbkL (r : Nat) (a : Option Addr) (c : Nat) (L : List Signed) (tv : Value) (tx : List UInt8) : List Ck := [Z0 r 165 [.slice a L.length c], Zo 181 2 (.slice a L.length c) L.length (L.flatMap Z47), Zo 5 1 tv tx.length (tx.flatMap Zx)]
theorem Z5o {L : List Signed} (hn : L.Nodup) {i : Nat} {y : Signed} (h : L[i]? = some y) : Zr L y = (i : Int) + 1 := by
 obtain ⟨hi, rfl⟩ := List.getElem?_eq_some_iff.1 h
 have : L.idxOf? L[i] = some i := by
  rw [List.idxOf?_eq_some_iff]
  refine ⟨hi, rfl, fun j hj e => ?_⟩
  have := List.pairwise_iff_getElem.1 hn j i om hi hj
  exact this e
 unfold Zr; rw [this]; rfl
theorem ZcD {L : List Signed} {y : Signed} (h : y ∉ L) : Zr L y = 0 := by
 unfold Zr
 cases hq : L.idxOf? y with
 | none => rfl
 | some i =>
  obtain ⟨h1, h2, _⟩ := List.idxOf?_eq_some_iff.1 hq
  exact absurd (h2 ▸ List.getElem_mem h1) h
theorem Z5j {L : List Signed} (hn : L.Nodup) {p m : Int} {tx : List UInt8} : Z0B L p m tx = true ↔ ∃ i : Nat, L[i]? = some ⟨p, tx⟩ ∧ m = (i : Int) + 1 := by
 unfold Z0B
 simp only [Bool.and_eq_true, decide_eq_true_eq]
 constructor
 ·rintro ⟨h1, h2⟩
  by_cases hm : (⟨p, tx⟩ : Signed) ∈ L
  ·obtain ⟨i, hi, e⟩ := List.mem_iff_getElem.1 hm
   have h3 : L[i]? = some ⟨p, tx⟩ := by rw [List.getElem?_eq_getElem hi, e]
   exact ⟨i, h3, by have := Z5o hn h3; omega⟩
  rw [ZcD hm] at h1; omega
 rintro ⟨i, h1, h2⟩
 have := Z5o hn h1
 omega
theorem Zc0 {L : List Signed} {i : Nat} {x : Signed} {y : Signed} (hx : L[i]? = some x) (hne : ¬ x = y) (h : y ∉ L.take i) : y ∉ L.take (i + 1) := by
 rw [List.take_add_one, hx, List.mem_append]
 rintro (q | q)
 ·exact h q
 simp at q; exact hne q.symm
theorem Z2F (w : World) (r : Nat) (a : Option Addr) (c : Nat) (L : List Signed) (tv : Value) (tx : List UInt8) (hB : (Z0h (rbkL r a c L tv tx)).ok w) (hl : L.length ≤ 1000000) (hn : L.Nodup) (p : Int) :
  Calls Tryz.prog 40 #[zp r, i6 p, tv] w fun e w' => ∃ a' c', e = .returned (.agg #[i6 p, i6 (Zr (Zy L (⟨p, tx⟩ : Signed)) (⟨p, tx⟩ : Signed))]) ∧ Sat w [Z0 r 165 [.slice a' (Zy L (⟨p, tx⟩ : Signed)).length c'], Zo 181 2 (.slice a' (Zy L (⟨p, tx⟩ : Signed)).length c') (Zy L (⟨p, tx⟩ : Signed)).length ((Zy L (⟨p, tx⟩ : Signed)).flatMap Z47), Zo 5 1 tv tx.length (tx.flatMap Zx), ZQ w (Z0h (rbkL r a c L tv tx)).fp] w' := by
 have H := Sat.start (rbkL r a c L tv tx) hB
 refine Zg Tryz.func40 rfl 64 rfl kn ?_
 refine zsl <| zy <| zda (Zcq) H fun b2 w3 H4 => ?_
 let A3 : Value := .slice a L.length c
 refine kk <| znt <| Z9 <| zsl <| wv 8 (pt r 0) <| wv 9 (pt r 0) <| wv 10 (pt r 0) <| zw1 11 A3 (H4.cell 0 rfl rfl) <| wv 12 (vi L.length) <| wv 13 (vi 0) ?_
 let A1 := Zo 5 1 tv tx.length (tx.flatMap Zx)
 let A2 := ZQ w (Z0h (rbkL r a c L tv tx)).fp
 let A6 := Z0 b2 69 (Zcq)
 let A7 := Z0 r 165 (Zcz a L.length c)
 refine znt <| Zh <| ZB ([7] ++ List.range' 13 31) (fun F_ W_ m_ => ∃ (i : Nat), F_ 13 = (vi i) ∧ (i ≤ L.length) ∧ ((⟨p, tx⟩ : Signed) ∉ L.take i) ∧ Sat w [A7, (Zex a L c), A1, A2, A6] W_ ∧ m_ = L.length + 1 - i) _ ⟨0, (show ((vi 0) : Value) = _ by first | rfl | go_num), by omega, by simp, H4, rfl⟩ ?_
 rintro g5 w6 _ ⟨i, v8, hi, hno, H7, rfl⟩
 refine Zn 13 _ v8 ?_
 refine zsl <| wv 14 (.bool (decide ((i : Int) < L.length))) <| znt <| Z9 ?_
 refine zid (fun b10 g11 => ?_) fun b10 g36 => ?_
 ·refine Zp <| ztn <| Z9 <| Zh <| zsl <| wv 15 (vi i) <| wv 7 (vi i) <| znt <| Z9 <| zqs H7 ?_
  refine qv 16 (pt r 0) <| qv 17 (pt r 0) <| qv 18 (pt r 0) <| qv 19 A3 ?_ (hr := fun _ H' => (zl1 (H'.cell 0 rfl rfl)))
  refine qv 20 (vi i) ?_
  obtain ⟨g13, c14, e15⟩ := Z1A (H7.at 1 rfl) om
  obtain ⟨x16, h17⟩ := Z2P (show i < L.length by omega)
  let A0 : Value := .pointer (some ⟨g13, 0 + ((i : Int)).toNat * 2, none⟩)
  refine qv 21 A0 ?_ (hr := fun _ H' => (Z1e (E := 181) kr kr kn rfl e15 rfl om om))
  refine qv 22 A0 <| qv 23 (vi x16.p) ?_ (hr := fun _ H' => (zl1 (Z1U (H'.at 1 rfl) e15 Z66 h17 0 rfl (show 0 + ((i : Int)).toNat * 2 = i * 2 + 0 by omega) kr)))
  refine qv 24 (vi p) <| qv 25 (.bool (decide (x16.p = p))) <| qv 26 (.bool (decide (x16.p = p))) ?_
  refine ziq 26 (fun b18 g19 => ?_) fun b18 g32 => ?_
  ·refine qy 10 26 true 27 (pt r 0) <| qy 10 26 true 28 (pt r 0) <| qy 10 26 true 29 (pt r 0) <| qy 10 26 true 30 A3 ?_ (hr := fun _ H' => (zl1 (H'.cell 0 rfl rfl)))
   refine qy 10 26 true 31 (vi i) <| qy 10 26 true 32 A0 ?_ (hr := fun _ H' => (Z1e (E := 181) kr kr kn rfl e15 rfl om om))
   refine qy 10 26 true 33 (.pointer (some ⟨g13, 0 + ((i : Int)).toNat * 2 + 1, none⟩)) <| qy 10 26 true 34 (Z5l x16.s) ?_ (hr := fun _ H' => (zl1 (Z1U (H'.at 1 rfl) e15 Z66 h17 1 rfl (show 0 + ((i : Int)).toNat * 2 + 1 = i * 2 + 1 by omega) kr)))
   refine qy 10 26 true 35 (tv) <| qy 10 26 true 36 (Z5l tx) ?_ (hr := fun _ H' => (Z2G (e := 5) (s := tx) kr kr kr rfl (Z25 (ListAt.row (e := 5) (enc := Zx) (sz := 1) (v := tv) (n := tx.length) (xs := tx) Zw (by decide) (H'.at 2 rfl)))))
   refine qy 10 26 true 37 (.bool (decide (x16.s = tx))) ?_ (hr := fun _ H' => (Zbu x16.s tx rfl rfl))
   refine qv 38 (.bool (decide (x16.s = tx))) <| Z01 fun w21 H22 => ?_
   apply ztn
   refine zid (fun b23 g24 => ?_) fun b23 g29 => ?_
   ·let A4 := Z88 p ((i : Int) + 1)
    refine zsl <| wv 39 (vi p) <| wv 40 (vi i) <| zwi 41 ((i : Int) + 1) <| wv 42 (.agg ⟨A4⟩) <| zy <| Z3e (vs := A4) rfl H22 4 rfl rfl rfl rfl kr kn kn kr fun w27 H28 => ?_
    refine kk <| znt <| Zk <| Zf <| Z4 <| Zs <| Zf <| Z4 <| Z5v rfl (Z02 (vs := A4) rfl kr kr kn (H28.at 4 rfl) kr) ?_
    have hy : L[i]? = some (⟨p, tx⟩ : Signed) := by rw [h17]; congr 1; have q1 := of_decide_eq_true b18; have q2 := of_decide_eq_true b23; rw [← q1, ← q2]
    have hm : (⟨p, tx⟩ : Signed) ∈ L := List.mem_of_getElem? hy
    refine ⟨a, c, ?_, ?_⟩
    ·rw [Z3o hm, Z5o hn hy]
    rw [Z3o hm]; exact H28.pk [0, 1, 2, 3]
   refine Zp <| Z6 <| ztn <| ZG <| zwi 43 ((i : Int) + 1) <| wv 13 (vi ((i : Int) + 1)) <| ZL <| Za ?_ _ ⟨(i + 1), rfl, by omega, (Zc0 h17 (fun e => by first | exact absurd (congrArg Signed.s e) (of_decide_eq_false b23) | exact absurd (congrArg Signed.p e) (of_decide_eq_false b23)) hno), H22, rfl⟩ om
   exact zs
  iterate 11 refine qn 10 26 true ?_
  refine qv 38 (.bool false) <| Z01 fun w34 H35 => ?_
  refine ztn <| Z2h rfl ?_
  refine Zp <| Z6 <| ztn <| ZG <| zwi 43 ((i : Int) + 1) <| wv 13 (vi ((i : Int) + 1)) <| ZL <| Za ?_ _ ⟨(i + 1), rfl, by omega, (Zc0 h17 (fun e => by first | exact absurd (congrArg Signed.s e) (of_decide_eq_false b18) | exact absurd (congrArg Signed.p e) (of_decide_eq_false b18)) hno), H35, rfl⟩ om
  exact zs
 refine zxb <| ztn <| Z9 <| Z0Z H7 [A7, A1, A2, A6] [13] 14 rfl kr (fun Hx => (Hx.pk [0, 2, 3, 4])) fun w38 H39 S40 => ?_
 refine zkp 0 S40 44 (pt r 0) <| zkp 1 S40 45 (pt r 0) <| zkp 2 S40 46 (pt r 0) <| zkp 3 S40 47 (pt r 0) <| zkv 4 S40 48 A3 ?_ (he := fun _ H' => (zl1 (H'.cell 0 rfl rfl)))
 refine zkp 5 S40 49 (vi p) <| zkp 6 S40 50 tv <| ZbS 7 rfl kr kr kr (fun _ _ _ h => h) S40 (Zc rfl) rfl kr (d := 51) (v := (Z5l tx)) rfl (fun _ H' => (Z2G (e := 5) (s := tx) kr kr kr rfl (Z25 (ListAt.row (e := 5) (enc := Zx) (sz := 1) (v := tv) (n := tx.length) (xs := tx) Zw (by decide) (H'.at 1 rfl))))) ?_
 let A5 := Zf4 p (Z5l tx)
 refine Z2s 8 rfl kr kr kr (fun _ _ _ h => h) S40 (Zc rfl) rfl (d := 52) (v := (.agg ⟨A5⟩)) rfl (fun _ => kr) ?_
 refine zky 9 ?_
 refine Z2z 181 2 24 (.agg ⟨([(vi 0), (Z5l z8)] : LV)⟩) [(0, (.agg ⟨A5⟩))] A5 H39 ?_
 intro b42 w43 H44
 have S45 := H44.pk [0, 2, 3, 4]
 refine ke S45 <| zky 10 ?_
 refine Z0t (T := 163) (e := 181) (size := 2) (bytes := 24) rfl H44 kr 1 5 rfl rfl rfl rfl kr om om ?_
 intro v47 w48 H49
 have H52 := H49.ct 1 rfl (Zo 181 2 v47 ((L ++ [(⟨p, tx⟩ : Signed)]).length) ((L ++ [(⟨p, tx⟩ : Signed)]).flatMap Z47)) ja
 obtain ⟨a50, c51, rfl⟩ := Z3 (H52.at 1 rfl)
 have S53 := H52.pk [0, 2, 3, 4]
 refine ke S53 <| zkp 11 S53 55 (pt r 0) <| zkp 12 S53 56 (pt r 0) <| Z2B 13 (Sat w [A1, A2, A6]) rfl kr (Zc rfl) rfl (fun Kq kq => ?_)
 refine Z3e (vs := (Zcz a50 ((L ++ [(⟨p, tx⟩ : Signed)]).length) c51)) rfl H52 0 rfl rfl rfl rfl kr kn kn kr ?_
 intro w55 H56
 have S58 := H56.pk [2, 3, 4]
 refine kq _ _ S58 <| zhf <| ztn <| zsl <| wv 57 (vi p) <| wv 58 (pt r 0) <| wv 59 (pt r 0) <| wv 60 (pt r 0) <| zw1 61 (.slice a50 ((L ++ [(⟨p, tx⟩ : Signed)]).length) c51) (H56.cell 0 rfl rfl) <| wv 62 (vi ((L ++ [(⟨p, tx⟩ : Signed)]).length)) ?_
 refine wv 63 (.agg ⟨(Z88 p (((L ++ [(⟨p, tx⟩ : Signed)]).length : Int)))⟩) <| zy <| Z3e (vs := (Z88 p (((L ++ [(⟨p, tx⟩ : Signed)]).length : Int)))) rfl H56 4 rfl rfl rfl rfl kr kn kn kr fun w60 H61 => ?_
 refine kk <| znt <| Zk <| Z5v rfl (Z02 (vs := (Z88 p (((L ++ [(⟨p, tx⟩ : Signed)]).length : Int)))) rfl kr kr kn (H61.at 4 rfl) kr) ?_
 have hno2 : (⟨p, tx⟩ : Signed) ∉ L := by rw [List.take_of_length_le (show L.length ≤ i by omega)] at hno; exact hno
 have hsl : Zy L (⟨p, tx⟩ : Signed) = L ++ [(⟨p, tx⟩ : Signed)] := by unfold Zy; rw [if_neg hno2]
 have hnd : (L ++ [(⟨p, tx⟩ : Signed)]).Nodup := by rw [List.nodup_append]; exact ⟨hn, by simp, fun x hx y hy => by rw [List.mem_singleton.1 hy]; exact fun e => hno2 (e ▸ hx)⟩
 have hat : (L ++ [(⟨p, tx⟩ : Signed)])[L.length]? = some (⟨p, tx⟩ : Signed) := by simp
 refine ⟨a50, c51, ?_, ?_⟩
 ·rw [hsl, Z5o hnd hat]; first | rfl | simp
 rw [hsl]; exact H61.pk [0, 1, 2, 3]
def Z4b (x : Int) : List Value := [u6 x]
theorem Z2j (x : Int) : (Z4b x).length = 1 := rfl
theorem Zao (x : Int) : (Z4b x).all (·.oneCell') = true := rfl
def ltU (x y : Int) : Bool := decide (x < y)
theorem swU : SW ltU := ⟨fun x y h => by simp [ltU] at h ⊢; omega, fun x y z h1 h2 => by simp [ltU] at h1 h2 ⊢; omega⟩
def Z5K (g n c : Nat) (A : List Int) : Ck := Zo 25 1 (.slice (some ⟨g, 0, none⟩) n c) n (A.flatMap Z4b)
theorem Z7N {g n c : Nat} {A : List Int} {w : World} (h : (Z5K g n c A).ok w) : A.length = n := by
 have := h.1
 rw [Z2i Z4b 1 Z2j] at this
 omega
theorem Z5s {g n c o j : Nat} {A : List Int} {w : World} {x : Int} (h : (Z5K g n c A).ok w) (hx : A[j]? = some x) (ho : o = j) : w.cell? ⟨g, o, none⟩ = some (u6 x) := by
 refine Z5c h rfl ?_
 have := Z55 Z4b 1 Z2j A j 0 x hx (by omega)
 rw [Nat.mul_one, Nat.add_zero] at this
 rw [ho]
 exact this
theorem Zal {P : Program} {n : Nat} {f : Nat → Value} {w : World} {ty : TypeId} {pos : String} {aft : Array Edge} {gd : Option (Nat × Bool)} {w0 : World} {G : List Ck} {K : Act → World → Prop} {Q : Exit → Act → World → Prop} {dst : Option Tmp} {T : TypeId} {x y : Operand} {g m c o j : Nat} {A : List Int} {u : Int}
  (hd : dst = none) (H : Sat w0 G w) (i : Nat) (hi : G[i]? = some (Z5K g m c A)) (hx : ev n f x = .pointer (some ⟨g, o, none⟩)) (hy : ev n f y = u6 u) (hT : P.cellsOf T = 1) (ho : o = j) (hj : j < A.length)
  (k : ∀ w', Sat w0 (G.set i (Z5K g m c (A.set j u))) w' → K (fr n f) w') : WO P ⟨dst, .store T x y, ty, pos, aft, gd⟩ K Q n f w :=
 Z7y hd H i hi rfl hx hy (vs := [u6 u]) rfl hT (Nat.succ_pos _) (by rw [Z2i Z4b 1 Z2j, ho]; show j + 1 ≤ _; omega) rfl (xs' := (A.set j u).flatMap Z4b) (by subst ho; have := Zaz Z4b 1 Z2j A o u hj; rw [Nat.mul_one] at this; exact this) k
end Go.Proofs.YtenihpghfdcpkaaGreat
