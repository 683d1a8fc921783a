/- WHAT IS PROVED: contracts and plain laws of Wt2. Conditions: stated with each. -/
import Derived.Test.YtenihpghfdcpkaaGreatPV02
import Derived.Test.YtenihpghfdcpkaaGreatPV05
import Derived.Test.YtenihpghfdcpkaaGreatPV08
set_option maxHeartbeats 4000000
set_option maxRecDepth 100000
namespace Go.Proofs.YtenihpghfdcpkaaGreat
open Go.RowKit
theorem Z74 (w : World) (s : Zb) (hs : (s.r ≤ 9223372036854775807 ∧ s.cl ≤ 9223372036854775807 ∧ s.seq ≤ 9223372036854775807 ∧ 0 ≤ s.t ∧ s.t < 18446744073709551616)) :
  Calls Tryz.prog 210 #[(.agg ⟨(([i6 s.r, i6 s.cl, i6 s.seq] : LV) ++ hc s.h ++ ([u6 s.t, i6 s.sb, i6 s.sm] : LV))⟩)] w fun e w' => ∃ u, e = .returned u ∧ (Zo 5 1 u (ZE s).length ((ZE s).flatMap Zx)).ok w' ∧ Upd [] w w' ∧ ∀ q_, (Zo 5 1 u (ZE s).length ((ZE s).flatMap Zx)).fp q_ → w.heap.size ≤ q_ := by
 have H := Sat.start0 w
 refine Zg Tryz.func210 rfl 20 rfl kn ?_
 refine Z9 <| ZG <| Z6R (Zc rfl) (fun K1 hK1 => ?_)
 refine ZeA (vs := (([(vi s.r), (vi s.cl), (vi s.seq)] : LV) ++ hc s.h ++ ([(vu s.t), (vi s.sb), (vi s.sm)] : LV))) rfl H rfl rfl ?_
 intro b2 w3 (H4 : Sat w [zR w, Z0 b2 149 (([(vi s.r), (vi s.cl), (vi s.seq)] : LV) ++ hc s.h ++ ([(vu s.t), (vi s.sb), (vi s.sm)] : LV))] w3)
 refine hK1 _ _ ?_
 clear hK1 K1
 refine Z1H (Zc rfl) (d := 2) (v := (.slice none 0 0)) rfl kr ?_
 let A0 := Z0 b2 149 (([(vi s.r), (vi s.cl), (vi s.seq)] : LV) ++ hc s.h ++ ([(vu s.t), (vi s.sb), (vi s.sm)] : LV))
 refine ZL <| Z0Y <| Z9 <| Z0a H4 [zR w, A0] 5 rfl kr (fun Hx => (Hx.pick [0, 1] (by decide))) fun w5 H6 S7 => ?_
 refine Z0V 1 rfl kr kr kr (fun _ _ _ h => h) S7 (Zc rfl) (d := 5) (v := (zp b2)) rfl (fun _ H' => kr) ?_
 refine Z0V 2 rfl kr kr kr (fun _ _ _ h => h) S7 (Zc rfl) (d := 6) (v := (vi s.r)) rfl (fun _ H' => (zl1 (H'.cell 1 rfl kr))) ?_
 refine Z34 0 rfl kr (Zc rfl) (fun K8 hK8 => ?_)
 refine Z10 (d := 4) rfl kr (Z6M w5 zq2 (by decide)) ?_
 rintro _ w9 ⟨r10, a11, c12, rfl, k13, p14, q15⟩
 have H16 : Sat w [zR w, A0, Z0h (wrL r10 a11 c12 (Zm zq2))] w9 := H6.addU p14 k13 q15
 let A6 : Value := .slice a11 ((Zm zq2).length) c12
 have H17 : Sat w [zR w, A0, Z0 r10 266 ([A6] : LV), Zo 5 1 A6 ((Zm zq2).length) ((Zm zq2).flatMap Zx)] w9 := H16.open 2 rfl
 refine ⟨_, rfl, ?_⟩
 have l18 := (show (Zm zq2).length ≤ 15 from Z0K _)
 have S19 := H17.pick [0, 1] (by decide)
 refine hK8 _ _ S19 ?_
 clear hK8 K8
 refine Z34 3 rfl kr (Zc rfl) (fun K20 hK20 => ?_)
 have l26 := ZA s.r
 refine Z10 (d := 7) rfl kr (Z0C w9 r10 a11 c12 (Zm zq2) (H17.fin [2, 3] (by decide) rfl) om s.r om) ?_
 rintro _ w21 ⟨a23, c24, rfl, T22⟩
 let A5 := ([(.slice a23 (((Zm zq2) ++ Z5 s.r).length) c24)] : LV)
 have H27 : Sat w [zR w, A0, Z0 r10 266 A5, Zo 5 1 (.slice a23 (((Zm zq2) ++ Z5 s.r).length) c24) (((Zm zq2) ++ Z5 s.r).length) (((Zm zq2) ++ Z5 s.r).flatMap Zx)] w21 := (Sat.turnL (L' := [Z0 r10 266 A5, Zo 5 1 (.slice a23 (((Zm zq2) ++ Z5 s.r).length) c24) (((Zm zq2) ++ Z5 s.r).length) (((Zm zq2) ++ Z5 s.r).flatMap Zx)]) (R := [zR w, A0]) H17 [2, 3] [0, 1] (by decide) kr rfl T22).pick [2, 3, 0, 1] (by decide)
 refine ⟨_, rfl, ?_⟩
 have S28 := H27.pick [0, 1] (by decide)
 refine hK20 _ _ S28 ?_
 clear hK20 K20
 refine Z0V 4 rfl kr kr kr (fun _ _ _ h => h) S28 (Zc rfl) (d := 3) (v := (zp r10)) rfl (fun _ H' => kr) ?_
 refine Z8i kr ?_
 refine Z0Y <| Z9 <| ZG <| Z1H (Zc rfl) (d := 8) (v := (zp r10)) rfl kr ?_
 refine Z1H (Zc rfl) (d := 9) (v := (.pointer (some ⟨b2, 1, none⟩))) rfl kr ?_
 refine Z1H (Zc rfl) (d := 10) (v := (.agg ⟨([(vi s.cl), (vi s.seq)] : LV)⟩)) rfl (zlN (vs := ([(vi s.cl), (vi s.seq)] : LV)) (H27.at 1 rfl)) ?_
 refine Z6R (Zc rfl) (fun K29 hK29 => ?_)
 have l35 := Z2V s.cl s.seq
 refine Z10 (d := 11) rfl kr (Z6L w21 r10 a23 c24 ((Zm zq2) ++ Z5 s.r) (H27.fin [2, 3] (by decide) rfl) (by simp only [List.length_append, List.length_nil]; omega) s.cl s.seq om) ?_
 rintro _ w30 ⟨a32, c33, rfl, T31⟩
 let A4 := ([(.slice a32 ((((Zm zq2) ++ Z5 s.r) ++ Z0y s.cl s.seq).length) c33)] : LV)
 have H36 : Sat w [zR w, A0, Z0 r10 266 A4, Zo 5 1 (.slice a32 ((((Zm zq2) ++ Z5 s.r) ++ Z0y s.cl s.seq).length) c33) ((((Zm zq2) ++ Z5 s.r) ++ Z0y s.cl s.seq).length) ((((Zm zq2) ++ Z5 s.r) ++ Z0y s.cl s.seq).flatMap Zx)] w30 := (Sat.turnL (L' := [Z0 r10 266 A4, Zo 5 1 (.slice a32 ((((Zm zq2) ++ Z5 s.r) ++ Z0y s.cl s.seq).length) c33) ((((Zm zq2) ++ Z5 s.r) ++ Z0y s.cl s.seq).length) ((((Zm zq2) ++ Z5 s.r) ++ Z0y s.cl s.seq).flatMap Zx)]) (R := [zR w, A0]) H27 [2, 3] [0, 1] (by decide) kr rfl T31).pick [2, 3, 0, 1] (by decide)
 refine ⟨_, rfl, ?_⟩
 refine hK29 _ _ ?_
 clear hK29 K29
 refine ZL <| Z0Y <| Z9 <| Z0a H36 [zR w, A0] 9 rfl kr (fun Hx => (Hx.pick [0, 1] (by decide))) fun w37 H38 S39 => ?_
 refine Z0V 0 rfl kr kr kr (fun _ _ _ h => h) S39 (Zc rfl) (d := 12) (v := (zp r10)) rfl (fun _ H' => kr) ?_
 refine Z0V 1 rfl kr kr kr (fun _ _ _ h => h) S39 (Zc rfl) (d := 13) (v := (.pointer (some ⟨b2, 3, none⟩))) rfl (fun _ H' => kr) ?_
 refine Z0V 2 rfl kr kr kr (fun _ _ _ h => h) S39 (Zc rfl) (d := 14) (v := (.agg ⟨(hc s.h)⟩)) rfl (fun _ H' => (zlN (vs := (hc s.h)) (H'.at 1 rfl))) ?_
 refine Z0V 4 rfl kr kr kr (fun _ _ _ h => h) S39 (Zc rfl) (d := 16) (v := (.pointer (some ⟨b2, 35, none⟩))) rfl (fun _ H' => kr) ?_
 refine Z0V 5 rfl kr kr kr (fun _ _ _ h => h) S39 (Zc rfl) (d := 17) (v := (vu s.t)) rfl (fun _ H' => (zl1 (H'.cell 1 rfl kr))) ?_
 refine Z34 3 rfl kr (Zc rfl) (fun K40 hK40 => ?_)
 have l46 := s.h.len
 refine Z10 (d := 15) rfl kr (Z2t w37 r10 a32 c33 (((Zm zq2) ++ Z5 s.r) ++ Z0y s.cl s.seq) (H38.fin [2, 3] (by decide) rfl) (by simp only [List.length_append, List.length_nil]; omega) s.h) ?_
 rintro _ w41 ⟨a43, c44, rfl, T42⟩
 let A3 : Value := .slice a43 (((((Zm zq2) ++ Z5 s.r) ++ Z0y s.cl s.seq) ++ s.h.l).length) c44
 have H47 : Sat w [zR w, A0, Z0 r10 266 ([A3] : LV), Zo 5 1 A3 (((((Zm zq2) ++ Z5 s.r) ++ Z0y s.cl s.seq) ++ s.h.l).length) (((((Zm zq2) ++ Z5 s.r) ++ Z0y s.cl s.seq) ++ s.h.l).flatMap Zx)] w41 := (Sat.turnL (L' := [Z0 r10 266 ([A3] : LV), Zo 5 1 A3 (((((Zm zq2) ++ Z5 s.r) ++ Z0y s.cl s.seq) ++ s.h.l).length) (((((Zm zq2) ++ Z5 s.r) ++ Z0y s.cl s.seq) ++ s.h.l).flatMap Zx)]) (R := [zR w, A0]) H38 [2, 3] [0, 1] (by decide) kr rfl T42).pick [2, 3, 0, 1] (by decide)
 refine ⟨_, rfl, ?_⟩
 have S48 := H47.pick [0, 1] (by decide)
 refine hK40 _ _ S48 ?_
 clear hK40 K40
 refine Z34 6 rfl kr (Zc rfl) (fun K49 hK49 => ?_)
 have l55 := Z2I s.t.toNat
 refine Z10 (d := 18) rfl (by rw [show s.t = ((s.t.toNat : Nat) : Int) by omega]; kernel_rfl) (Z6a w41 r10 a43 c44 ((((Zm zq2) ++ Z5 s.r) ++ Z0y s.cl s.seq) ++ s.h.l) (H47.fin [2, 3] (by decide) rfl) (by simp only [List.length_append, List.length_nil]; omega) s.t.toNat om) ?_
 rintro _ w50 ⟨a52, c53, rfl, T51⟩
 let A1 := Zo 5 1 (.slice a52 ((((((Zm zq2) ++ Z5 s.r) ++ Z0y s.cl s.seq) ++ s.h.l) ++ Z1I s.t.toNat).length) c53) ((((((Zm zq2) ++ Z5 s.r) ++ Z0y s.cl s.seq) ++ s.h.l) ++ Z1I s.t.toNat).length) ((((((Zm zq2) ++ Z5 s.r) ++ Z0y s.cl s.seq) ++ s.h.l) ++ Z1I s.t.toNat).flatMap Zx)
 let A2 := Z0 r10 266 ([(.slice a52 ((((((Zm zq2) ++ Z5 s.r) ++ Z0y s.cl s.seq) ++ s.h.l) ++ Z1I s.t.toNat).length) c53)] : LV)
 have H56 : Sat w [zR w, A0, A2, A1] w50 := (Sat.turnL (L' := [A2, A1]) (R := [zR w, A0]) H47 [2, 3] [0, 1] (by decide) kr rfl T51).pick [2, 3, 0, 1] (by decide)
 refine ⟨_, rfl, ?_⟩
 have S57 := H56.pick [0, 1] (by decide)
 refine hK49 _ _ S57 ?_
 clear hK49 K49
 refine Z34 7 rfl kr (Zc rfl) (fun K58 hK58 => ?_)
 refine Z10 (d := 19) rfl kr (Z26 w50 r10 a52 c53 (((((Zm zq2) ++ Z5 s.r) ++ Z0y s.cl s.seq) ++ s.h.l) ++ Z1I s.t.toNat) (H56.fin [2, 3] (by decide) rfl) (by simp only [List.length_append, List.length_nil]; omega)) ?_
 rintro _ w59 ⟨u60, rfl, T61⟩
 have H62 : Sat w [zR w, A0, A2, A1, Zo 5 1 u60 ((((((Zm zq2) ++ Z5 s.r) ++ Z0y s.cl s.seq) ++ s.h.l) ++ Z1I s.t.toNat).length) ((((((Zm zq2) ++ Z5 s.r) ++ Z0y s.cl s.seq) ++ s.h.l) ++ Z1I s.t.toNat).flatMap Zx)] w59 := (Sat.turnL (L' := [A2, A1, Zo 5 1 u60 ((((((Zm zq2) ++ Z5 s.r) ++ Z0y s.cl s.seq) ++ s.h.l) ++ Z1I s.t.toNat).length) ((((((Zm zq2) ++ Z5 s.r) ++ Z0y s.cl s.seq) ++ s.h.l) ++ Z1I s.t.toNat).flatMap Zx)]) (R := [zR w, A0]) H56 [2, 3] [0, 1] (by decide) kr rfl T61).pick [3, 4, 0, 1, 2] (by decide)
 obtain ⟨a63, c64, rfl⟩ := Z3 (H62.at 4 rfl)
 refine ⟨_, rfl, ?_⟩
 have S65 := H62.pick [0, 1] (by decide)
 refine hK58 _ _ S65 ?_
 clear hK58 K58
 refine Z0V 8 rfl kr kr kr (fun _ _ _ h => h) S65 (Zc rfl) (d := 2) (v := (.slice a63 (((((Zm zq2) ++ Z5 s.r) ++ Z0y s.cl s.seq) ++ s.h.l) ++ Z1I s.t.toNat).length c64)) rfl (fun _ H' => kr) ?_
 refine Z8i kr ?_
 refine Z0Y <| Zk <| Z5v rfl (Z0S (v := (.slice a63 (((((Zm zq2) ++ Z5 s.r) ++ Z0y s.cl s.seq) ++ s.h.l) ++ Z1I s.t.toNat).length c64)) rfl) ?_
 have hX : (((((Zm zq2) ++ Z5 s.r) ++ Z0y s.cl s.seq) ++ s.h.l) ++ Z1I s.t.toNat) = ZE s := by simp only [ZE, Zt, Z27, List.flatten_cons, List.flatten_nil, List.append_nil, List.append_assoc, List.nil_append]
 exact ⟨_, rfl, (by rw [← hX]; exact H62.at 4 rfl), H62.upd 0 rfl [] ne, (by rw [← hX]; exact H62.fresh 0 rfl (fun _ h => h) 4 rfl rfl)⟩
theorem Z6x (w : World) (s : Zj) (hs : (s.cl ≤ 9223372036854775807 ∧ s.seq ≤ 9223372036854775807 ∧ s.len ≤ 9223372036854775807)) :
  Calls Tryz.prog 209 #[(.agg ⟨(([i6 s.cl, i6 s.seq] : LV) ++ hc s.h ++ ([i6 s.len, i6 s.sb, i6 s.sm] : LV))⟩)] w fun e w' => ∃ u, e = .returned u ∧ (Zo 5 1 u (Zt s).length ((Zt s).flatMap Zx)).ok w' ∧ Upd [] w w' ∧ ∀ q_, (Zo 5 1 u (Zt s).length ((Zt s).flatMap Zx)).fp q_ → w.heap.size ≤ q_ := by
 have H := Sat.start0 w
 refine Zg Tryz.func209 rfl 24 rfl kn ?_
 refine Z9 <| ZG <| Z6R (Zc rfl) (fun K1 hK1 => ?_)
 refine ZeA (vs := (([(vi s.cl), (vi s.seq)] : LV) ++ hc s.h ++ ([(vi s.len), (vi s.sb), (vi s.sm)] : LV))) rfl H rfl rfl ?_
 intro b2 w3 (H4 : Sat w [zR w, Z0 b2 73 (([(vi s.cl), (vi s.seq)] : LV) ++ hc s.h ++ ([(vi s.len), (vi s.sb), (vi s.sm)] : LV))] w3)
 refine hK1 _ _ ?_
 clear hK1 K1
 refine Z1H (Zc rfl) (d := 2) (v := (.slice none 0 0)) rfl kr ?_
 refine ZL <| Z0Y <| Z9 <| Z0a H4 [zR w, Z0 b2 73 (([(vi s.cl), (vi s.seq)] : LV) ++ hc s.h ++ ([(vi s.len), (vi s.sb), (vi s.sm)] : LV))] 13 rfl kr (fun Hx => (Hx.pick [0, 1] (by decide))) fun w5 H6 S7 => ?_
 refine Z0V 4 rfl kr kr kr (fun _ _ _ h => h) S7 (Zc rfl) (d := 8) (v := (zp b2)) rfl (fun _ H' => kr) ?_
 refine Z0V 5 rfl kr kr kr (fun _ _ _ h => h) S7 (Zc rfl) (d := 9) (v := (zp b2)) rfl (fun _ H' => kr) ?_
 refine Z0V 6 rfl kr kr kr (fun _ _ _ h => h) S7 (Zc rfl) (d := 10) (v := (vi s.cl)) rfl (fun _ H' => (zl1 (H'.cell 1 rfl kr))) ?_
 refine Z0V 8 rfl kr kr kr (fun _ _ _ h => h) S7 (Zc rfl) (d := 12) (v := (zp b2)) rfl (fun _ H' => kr) ?_
 refine Z0V 9 rfl kr kr kr (fun _ _ _ h => h) S7 (Zc rfl) (d := 13) (v := (.pointer (some ⟨b2, 1, none⟩))) rfl (fun _ H' => kr) ?_
 refine Z0V 10 rfl kr kr kr (fun _ _ _ h => h) S7 (Zc rfl) (d := 14) (v := (vi s.seq)) rfl (fun _ H' => (zl1 (H'.cell 1 rfl kr))) ?_
 let A0 : Value := .int .u8 (114)
 let A1 : Value := .int .u8 (113)
 let A2 : Value := .int .u8 (117)
 let A3 : Value := .int .u8 (115)
 let A4 : Value := .int .u8 (116)
 refine Z5X 0 1 rfl rfl kr (Zc rfl) (Zc rfl) (fun K8 hK8 => ?_) (fun K8 hK8 => ?_)
 ·refine Z10 (d := 4) rfl kr (Z42 w5) ?_
  rintro _ w9 ⟨r10, a11, c12, rfl, k13, p14, q15⟩
  have H16 : Sat w [zR w, Z0 b2 73 (([(vi s.cl), (vi s.seq)] : LV) ++ hc s.h ++ ([(vi s.len), (vi s.sb), (vi s.sm)] : LV)), Z0h (wrL r10 a11 c12 z8)] w9 := H6.addU p14 k13 q15
  have H17 : Sat w [zR w, Z0 b2 73 (([(vi s.cl), (vi s.seq)] : LV) ++ hc s.h ++ ([(vi s.len), (vi s.sb), (vi s.sm)] : LV)), Z0 r10 266 ([(.slice a11 (z8.length) c12)] : LV), Zo 5 1 (.slice a11 (z8.length) c12) (z8.length) (z8.flatMap Zx)] w9 := H16.open 2 rfl
  refine ⟨_, rfl, ?_⟩
  have S18 := H17.pick [0, 1] (by decide)
  refine hK8 _ _ S18 ?_
  clear hK8 K8
  refine Z34 1 rfl kr (Zc rfl) (fun K19 hK19 => ?_)
  refine Z4e (e := 5) (size := 1) (bytes := 1) (z := (.int .u8 (0))) (pvs := [(0, A0), (1, (.int .u8 (101))), (2, A1), (3, A2), (4, (.int .u8 (101))), (5, A3), (6, A4)]) (vs := ([A0, (.int .u8 (101)), A1, A2, (.int .u8 (101)), A3, A4] : LV)) rfl H17 kr kr kr kr kr rfl rfl ?_
  intro b20 w21 (H22 : Sat w [zR w, Z0 b2 73 (([(vi s.cl), (vi s.seq)] : LV) ++ hc s.h ++ ([(vi s.len), (vi s.sb), (vi s.sm)] : LV)), Z0 r10 266 ([(.slice a11 (z8.length) c12)] : LV), Zo 5 1 (.slice a11 (z8.length) c12) (z8.length) (z8.flatMap Zx), Zo 5 1 (.slice (some ⟨b20, 0, none⟩) 7 7) 7 ([A0, (.int .u8 (101)), A1, A2, (.int .u8 (101)), A3, A4] : LV)] w21)
  have H23 : Sat w [zR w, Z0 b2 73 (([(vi s.cl), (vi s.seq)] : LV) ++ hc s.h ++ ([(vi s.len), (vi s.sb), (vi s.sm)] : LV)), Z0 r10 266 ([(.slice a11 (z8.length) c12)] : LV), Zo 5 1 (.slice a11 (z8.length) c12) (z8.length) (z8.flatMap Zx), Zo 5 1 (.slice (some ⟨b20, 0, none⟩) 7 7) 7 (zq0.flatMap Zx)] w21 := H22.cast (by rw [show (([A0, (.int .u8 (101)), A1, A2, (.int .u8 (101)), A3, A4] : LV) : LV) = zq0.flatMap Zx from rfl])
  have S24 := H23.pick [0, 1] (by decide)
  refine hK19 _ _ S24 ?_
  clear hK19 K19
  refine Z34 2 rfl kr (Zc rfl) (fun K25 hK25 => ?_)
  refine Z1l (e := 5) (s := zq0) rfl H23 4 rfl kr kr rfl ?_
  intro w26 (H27 : Sat w [zR w, Z0 b2 73 (([(vi s.cl), (vi s.seq)] : LV) ++ hc s.h ++ ([(vi s.len), (vi s.sb), (vi s.sm)] : LV)), Z0 r10 266 ([(.slice a11 (z8.length) c12)] : LV), Zo 5 1 (.slice a11 (z8.length) c12) (z8.length) (z8.flatMap Zx), Z1y (.slice (some ⟨b20, 0, none⟩) 7 7) zq0] w26)
  have S28 := H27.pick [0, 1] (by decide)
  refine hK25 _ _ S28 ?_
  clear hK25 K25
  refine Z34 3 rfl kr (Zc rfl) (fun K29 hK29 => ?_)
  have l35 := (show (Zm zq0).length ≤ 17 from Z0K _)
  refine Z10 (d := 7) rfl kr (Z2c w26 r10 a11 c12 z8 (H27.fin [2, 3] (by decide) rfl) (by simp) (some ⟨b20, 0, none⟩) 7 zq0 (ListAt.ofTxt (H27.at 4 rfl)) (Z4Y (fun b hb => H27.offP [2, 3] 4 rfl rfl (by decide) hb)) (by first | omega | simp)) ?_
  rintro _ w30 ⟨a32, c33, rfl, T31⟩
  have H36 : Sat w [zR w, Z0 b2 73 (([(vi s.cl), (vi s.seq)] : LV) ++ hc s.h ++ ([(vi s.len), (vi s.sb), (vi s.sm)] : LV)), Z0 r10 266 ([(.slice a32 ((z8 ++ Zm zq0).length) c33)] : LV), Zo 5 1 (.slice a32 ((z8 ++ Zm zq0).length) c33) ((z8 ++ Zm zq0).length) ((z8 ++ Zm zq0).flatMap Zx), Z1y (.slice (some ⟨b20, 0, none⟩) 7 7) zq0] w30 := (Sat.turnL (L' := [Z0 r10 266 ([(.slice a32 ((z8 ++ Zm zq0).length) c33)] : LV), Zo 5 1 (.slice a32 ((z8 ++ Zm zq0).length) c33) ((z8 ++ Zm zq0).length) ((z8 ++ Zm zq0).flatMap Zx)]) (R := [zR w, Z0 b2 73 (([(vi s.cl), (vi s.seq)] : LV) ++ hc s.h ++ ([(vi s.len), (vi s.sb), (vi s.sm)] : LV)), Z1y (.slice (some ⟨b20, 0, none⟩) 7 7) zq0]) H27 [2, 3] [0, 1, 4] (by decide) kr rfl T31).pick [2, 3, 0, 1, 4] (by decide)
  refine ⟨_, rfl, ?_⟩
  have S37 := H36.pick [0, 1] (by decide)
  refine hK29 _ _ S37 ?_
  clear hK29 K29
  refine Z34 7 rfl kr (Zc rfl) (fun K38 hK38 => ?_)
  have l44 := ZA s.cl
  refine Z10 (d := 11) rfl kr (Z0C w30 r10 a32 c33 (z8 ++ Zm zq0) (H36.fin [2, 3] (by decide) rfl) (by simp only [List.length_append, List.length_nil]; omega) s.cl om) ?_
  rintro _ w39 ⟨a41, c42, rfl, T40⟩
  have H45 : Sat w [zR w, Z0 b2 73 (([(vi s.cl), (vi s.seq)] : LV) ++ hc s.h ++ ([(vi s.len), (vi s.sb), (vi s.sm)] : LV)), Z0 r10 266 ([(.slice a41 (((z8 ++ Zm zq0) ++ Z5 s.cl).length) c42)] : LV), Zo 5 1 (.slice a41 (((z8 ++ Zm zq0) ++ Z5 s.cl).length) c42) (((z8 ++ Zm zq0) ++ Z5 s.cl).length) (((z8 ++ Zm zq0) ++ Z5 s.cl).flatMap Zx), Z1y (.slice (some ⟨b20, 0, none⟩) 7 7) zq0] w39 := (Sat.turnL (L' := [Z0 r10 266 ([(.slice a41 (((z8 ++ Zm zq0) ++ Z5 s.cl).length) c42)] : LV), Zo 5 1 (.slice a41 (((z8 ++ Zm zq0) ++ Z5 s.cl).length) c42) (((z8 ++ Zm zq0) ++ Z5 s.cl).length) (((z8 ++ Zm zq0) ++ Z5 s.cl).flatMap Zx)]) (R := [zR w, Z0 b2 73 (([(vi s.cl), (vi s.seq)] : LV) ++ hc s.h ++ ([(vi s.len), (vi s.sb), (vi s.sm)] : LV)), Z1y (.slice (some ⟨b20, 0, none⟩) 7 7) zq0]) H36 [2, 3] [0, 1, 4] (by decide) kr rfl T40).pick [2, 3, 0, 1, 4] (by decide)
  refine ⟨_, rfl, ?_⟩
  have S46 := H45.pick [0, 1] (by decide)
  refine hK38 _ _ S46 ?_
  clear hK38 K38
  refine Z34 11 rfl kr (Zc rfl) (fun K47 hK47 => ?_)
  have l53 := ZA s.seq
  refine Z10 (d := 15) rfl kr (Z0C w39 r10 a41 c42 ((z8 ++ Zm zq0) ++ Z5 s.cl) (H45.fin [2, 3] (by decide) rfl) (by simp only [List.length_append, List.length_nil]; omega) s.seq om) ?_
  rintro _ w48 ⟨a50, c51, rfl, T49⟩
  have H54 : Sat w [zR w, Z0 b2 73 (([(vi s.cl), (vi s.seq)] : LV) ++ hc s.h ++ ([(vi s.len), (vi s.sb), (vi s.sm)] : LV)), Z0 r10 266 ([(.slice a50 ((((z8 ++ Zm zq0) ++ Z5 s.cl) ++ Z5 s.seq).length) c51)] : LV), Zo 5 1 (.slice a50 ((((z8 ++ Zm zq0) ++ Z5 s.cl) ++ Z5 s.seq).length) c51) ((((z8 ++ Zm zq0) ++ Z5 s.cl) ++ Z5 s.seq).length) ((((z8 ++ Zm zq0) ++ Z5 s.cl) ++ Z5 s.seq).flatMap Zx), Z1y (.slice (some ⟨b20, 0, none⟩) 7 7) zq0] w48 := (Sat.turnL (L' := [Z0 r10 266 ([(.slice a50 ((((z8 ++ Zm zq0) ++ Z5 s.cl) ++ Z5 s.seq).length) c51)] : LV), Zo 5 1 (.slice a50 ((((z8 ++ Zm zq0) ++ Z5 s.cl) ++ Z5 s.seq).length) c51) ((((z8 ++ Zm zq0) ++ Z5 s.cl) ++ Z5 s.seq).length) ((((z8 ++ Zm zq0) ++ Z5 s.cl) ++ Z5 s.seq).flatMap Zx)]) (R := [zR w, Z0 b2 73 (([(vi s.cl), (vi s.seq)] : LV) ++ hc s.h ++ ([(vi s.len), (vi s.sb), (vi s.sm)] : LV)), Z1y (.slice (some ⟨b20, 0, none⟩) 7 7) zq0]) H45 [2, 3] [0, 1, 4] (by decide) kr rfl T49).pick [2, 3, 0, 1, 4] (by decide)
  refine ⟨_, rfl, ?_⟩
  have S55 := H54.pick [0, 1] (by decide)
  refine hK47 _ _ S55 ?_
  clear hK47 K47
  refine Z0V 12 rfl kr kr kr (fun _ _ _ h => h) S55 (Zc rfl) (d := 3) (v := (zp r10)) rfl (fun _ H' => kr) ?_
  refine Z8i kr ?_
  refine Z0Y <| Z9 <| Z0a H54 [zR w, Z0 b2 73 (([(vi s.cl), (vi s.seq)] : LV) ++ hc s.h ++ ([(vi s.len), (vi s.sb), (vi s.sm)] : LV)), Z1y (.slice (some ⟨b20, 0, none⟩) 7 7) zq0] 9 rfl kr (fun Hx => (Hx.pick [0, 1, 4] (by decide))) fun w56 H57 S58 => ?_
  refine Z0V 0 rfl kr kr kr (fun _ _ _ h => h) S58 (Zc rfl) (d := 16) (v := (zp r10)) rfl (fun _ H' => kr) ?_
  refine Z0V 1 rfl kr kr kr (fun _ _ _ h => h) S58 (Zc rfl) (d := 17) (v := (.pointer (some ⟨b2, 2, none⟩))) rfl (fun _ H' => kr) ?_
  refine Z0V 2 rfl kr kr kr (fun _ _ _ h => h) S58 (Zc rfl) (d := 18) (v := (.agg ⟨(hc s.h)⟩)) rfl (fun _ H' => (zlN (vs := (hc s.h)) (H'.at 1 rfl))) ?_
  refine Z0V 4 rfl kr kr kr (fun _ _ _ h => h) S58 (Zc rfl) (d := 20) (v := (.pointer (some ⟨b2, 34, none⟩))) rfl (fun _ H' => kr) ?_
  refine Z0V 5 rfl kr kr kr (fun _ _ _ h => h) S58 (Zc rfl) (d := 21) (v := (vi s.len)) rfl (fun _ H' => (zl1 (H'.cell 1 rfl kr))) ?_
  refine Z34 3 rfl kr (Zc rfl) (fun K59 hK59 => ?_)
  have l65 := s.h.len
  refine Z10 (d := 19) rfl kr (Z2t w56 r10 a50 c51 (((z8 ++ Zm zq0) ++ Z5 s.cl) ++ Z5 s.seq) (H57.fin [2, 3] (by decide) rfl) (by simp only [List.length_append, List.length_nil]; omega) s.h) ?_
  rintro _ w60 ⟨a62, c63, rfl, T61⟩
  have H66 : Sat w [zR w, Z0 b2 73 (([(vi s.cl), (vi s.seq)] : LV) ++ hc s.h ++ ([(vi s.len), (vi s.sb), (vi s.sm)] : LV)), Z0 r10 266 ([(.slice a62 (((((z8 ++ Zm zq0) ++ Z5 s.cl) ++ Z5 s.seq) ++ s.h.l).length) c63)] : LV), Zo 5 1 (.slice a62 (((((z8 ++ Zm zq0) ++ Z5 s.cl) ++ Z5 s.seq) ++ s.h.l).length) c63) (((((z8 ++ Zm zq0) ++ Z5 s.cl) ++ Z5 s.seq) ++ s.h.l).length) (((((z8 ++ Zm zq0) ++ Z5 s.cl) ++ Z5 s.seq) ++ s.h.l).flatMap Zx), Z1y (.slice (some ⟨b20, 0, none⟩) 7 7) zq0] w60 := (Sat.turnL (L' := [Z0 r10 266 ([(.slice a62 (((((z8 ++ Zm zq0) ++ Z5 s.cl) ++ Z5 s.seq) ++ s.h.l).length) c63)] : LV), Zo 5 1 (.slice a62 (((((z8 ++ Zm zq0) ++ Z5 s.cl) ++ Z5 s.seq) ++ s.h.l).length) c63) (((((z8 ++ Zm zq0) ++ Z5 s.cl) ++ Z5 s.seq) ++ s.h.l).length) (((((z8 ++ Zm zq0) ++ Z5 s.cl) ++ Z5 s.seq) ++ s.h.l).flatMap Zx)]) (R := [zR w, Z0 b2 73 (([(vi s.cl), (vi s.seq)] : LV) ++ hc s.h ++ ([(vi s.len), (vi s.sb), (vi s.sm)] : LV)), Z1y (.slice (some ⟨b20, 0, none⟩) 7 7) zq0]) H57 [2, 3] [0, 1, 4] (by decide) kr rfl T61).pick [2, 3, 0, 1, 4] (by decide)
  refine ⟨_, rfl, ?_⟩
  have S67 := H66.pick [0, 1, 4] (by decide)
  refine hK59 _ _ S67 ?_
  clear hK59 K59
  refine Z34 6 rfl kr (Zc rfl) (fun K68 hK68 => ?_)
  have l74 := ZA s.len
  refine Z10 (d := 22) rfl kr (Z0C w60 r10 a62 c63 ((((z8 ++ Zm zq0) ++ Z5 s.cl) ++ Z5 s.seq) ++ s.h.l) (H66.fin [2, 3] (by decide) rfl) (by simp only [List.length_append, List.length_nil]; omega) s.len om) ?_
  rintro _ w69 ⟨a71, c72, rfl, T70⟩
  have H75 : Sat w [zR w, Z0 b2 73 (([(vi s.cl), (vi s.seq)] : LV) ++ hc s.h ++ ([(vi s.len), (vi s.sb), (vi s.sm)] : LV)), Z0 r10 266 ([(.slice a71 ((((((z8 ++ Zm zq0) ++ Z5 s.cl) ++ Z5 s.seq) ++ s.h.l) ++ Z5 s.len).length) c72)] : LV), Zo 5 1 (.slice a71 ((((((z8 ++ Zm zq0) ++ Z5 s.cl) ++ Z5 s.seq) ++ s.h.l) ++ Z5 s.len).length) c72) ((((((z8 ++ Zm zq0) ++ Z5 s.cl) ++ Z5 s.seq) ++ s.h.l) ++ Z5 s.len).length) ((((((z8 ++ Zm zq0) ++ Z5 s.cl) ++ Z5 s.seq) ++ s.h.l) ++ Z5 s.len).flatMap Zx), Z1y (.slice (some ⟨b20, 0, none⟩) 7 7) zq0] w69 := (Sat.turnL (L' := [Z0 r10 266 ([(.slice a71 ((((((z8 ++ Zm zq0) ++ Z5 s.cl) ++ Z5 s.seq) ++ s.h.l) ++ Z5 s.len).length) c72)] : LV), Zo 5 1 (.slice a71 ((((((z8 ++ Zm zq0) ++ Z5 s.cl) ++ Z5 s.seq) ++ s.h.l) ++ Z5 s.len).length) c72) ((((((z8 ++ Zm zq0) ++ Z5 s.cl) ++ Z5 s.seq) ++ s.h.l) ++ Z5 s.len).length) ((((((z8 ++ Zm zq0) ++ Z5 s.cl) ++ Z5 s.seq) ++ s.h.l) ++ Z5 s.len).flatMap Zx)]) (R := [zR w, Z0 b2 73 (([(vi s.cl), (vi s.seq)] : LV) ++ hc s.h ++ ([(vi s.len), (vi s.sb), (vi s.sm)] : LV)), Z1y (.slice (some ⟨b20, 0, none⟩) 7 7) zq0]) H66 [2, 3] [0, 1, 4] (by decide) kr rfl T70).pick [2, 3, 0, 1, 4] (by decide)
  refine ⟨_, rfl, ?_⟩
  have S76 := H75.pick [0, 1, 4] (by decide)
  refine hK68 _ _ S76 ?_
  clear hK68 K68
  refine Z34 7 rfl kr (Zc rfl) (fun K77 hK77 => ?_)
  refine Z10 (d := 23) rfl kr (Z26 w69 r10 a71 c72 (((((z8 ++ Zm zq0) ++ Z5 s.cl) ++ Z5 s.seq) ++ s.h.l) ++ Z5 s.len) (H75.fin [2, 3] (by decide) rfl) (by simp only [List.length_append, List.length_nil]; omega)) ?_
  rintro _ w78 ⟨u79, rfl, T80⟩
  have H81 : Sat w [zR w, Z0 b2 73 (([(vi s.cl), (vi s.seq)] : LV) ++ hc s.h ++ ([(vi s.len), (vi s.sb), (vi s.sm)] : LV)), Z0 r10 266 ([(.slice a71 ((((((z8 ++ Zm zq0) ++ Z5 s.cl) ++ Z5 s.seq) ++ s.h.l) ++ Z5 s.len).length) c72)] : LV), Zo 5 1 (.slice a71 ((((((z8 ++ Zm zq0) ++ Z5 s.cl) ++ Z5 s.seq) ++ s.h.l) ++ Z5 s.len).length) c72) ((((((z8 ++ Zm zq0) ++ Z5 s.cl) ++ Z5 s.seq) ++ s.h.l) ++ Z5 s.len).length) ((((((z8 ++ Zm zq0) ++ Z5 s.cl) ++ Z5 s.seq) ++ s.h.l) ++ Z5 s.len).flatMap Zx), Z1y (.slice (some ⟨b20, 0, none⟩) 7 7) zq0, Zo 5 1 u79 ((((((z8 ++ Zm zq0) ++ Z5 s.cl) ++ Z5 s.seq) ++ s.h.l) ++ Z5 s.len).length) ((((((z8 ++ Zm zq0) ++ Z5 s.cl) ++ Z5 s.seq) ++ s.h.l) ++ Z5 s.len).flatMap Zx)] w78 := (Sat.turnL (L' := [Z0 r10 266 ([(.slice a71 ((((((z8 ++ Zm zq0) ++ Z5 s.cl) ++ Z5 s.seq) ++ s.h.l) ++ Z5 s.len).length) c72)] : LV), Zo 5 1 (.slice a71 ((((((z8 ++ Zm zq0) ++ Z5 s.cl) ++ Z5 s.seq) ++ s.h.l) ++ Z5 s.len).length) c72) ((((((z8 ++ Zm zq0) ++ Z5 s.cl) ++ Z5 s.seq) ++ s.h.l) ++ Z5 s.len).length) ((((((z8 ++ Zm zq0) ++ Z5 s.cl) ++ Z5 s.seq) ++ s.h.l) ++ Z5 s.len).flatMap Zx), Zo 5 1 u79 ((((((z8 ++ Zm zq0) ++ Z5 s.cl) ++ Z5 s.seq) ++ s.h.l) ++ Z5 s.len).length) ((((((z8 ++ Zm zq0) ++ Z5 s.cl) ++ Z5 s.seq) ++ s.h.l) ++ Z5 s.len).flatMap Zx)]) (R := [zR w, Z0 b2 73 (([(vi s.cl), (vi s.seq)] : LV) ++ hc s.h ++ ([(vi s.len), (vi s.sb), (vi s.sm)] : LV)), Z1y (.slice (some ⟨b20, 0, none⟩) 7 7) zq0]) H75 [2, 3] [0, 1, 4] (by decide) kr rfl T80).pick [3, 4, 0, 1, 5, 2] (by decide)
  obtain ⟨a82, c83, rfl⟩ := Z3 (H81.at 5 rfl)
  refine ⟨_, rfl, ?_⟩
  have S84 := H81.pick [0, 1, 4] (by decide)
  refine hK77 _ _ S84 ?_
  clear hK77 K77
  refine Z0V 8 rfl kr kr kr (fun _ _ _ h => h) S84 (Zc rfl) (d := 2) (v := (.slice a82 (((((z8 ++ Zm zq0) ++ Z5 s.cl) ++ Z5 s.seq) ++ s.h.l) ++ Z5 s.len).length c83)) rfl (fun _ H' => kr) ?_
  refine Z8i kr ?_
  refine Z0Y <| Zk <| Z5v rfl (Z0S (v := (.slice a82 (((((z8 ++ Zm zq0) ++ Z5 s.cl) ++ Z5 s.seq) ++ s.h.l) ++ Z5 s.len).length c83)) rfl) ?_
  have hX : (((((z8 ++ Zm zq0) ++ Z5 s.cl) ++ Z5 s.seq) ++ s.h.l) ++ Z5 s.len) = Zt s := by simp only [ZE, Zt, Z27, List.flatten_cons, List.flatten_nil, List.append_nil, List.append_assoc, List.nil_append]
  exact ⟨_, rfl, (by rw [← hX]; exact H81.at 5 rfl), H81.upd 0 rfl [] ne, (by rw [← hX]; exact H81.fresh 0 rfl (fun _ h => h) 5 rfl rfl)⟩
 ·refine Z4e (e := 5) (size := 1) (bytes := 1) (z := (.int .u8 (0))) (pvs := [(0, A0), (1, (.int .u8 (101))), (2, A1), (3, A2), (4, (.int .u8 (101))), (5, A3), (6, A4)]) (vs := ([A0, (.int .u8 (101)), A1, A2, (.int .u8 (101)), A3, A4] : LV)) rfl H6 kr kr kr kr kr rfl rfl ?_
  intro b85 w86 (H87 : Sat w [zR w, Z0 b2 73 (([(vi s.cl), (vi s.seq)] : LV) ++ hc s.h ++ ([(vi s.len), (vi s.sb), (vi s.sm)] : LV)), Zo 5 1 (.slice (some ⟨b85, 0, none⟩) 7 7) 7 ([A0, (.int .u8 (101)), A1, A2, (.int .u8 (101)), A3, A4] : LV)] w86)
  have H88 : Sat w [zR w, Z0 b2 73 (([(vi s.cl), (vi s.seq)] : LV) ++ hc s.h ++ ([(vi s.len), (vi s.sb), (vi s.sm)] : LV)), Zo 5 1 (.slice (some ⟨b85, 0, none⟩) 7 7) 7 (zq0.flatMap Zx)] w86 := H87.cast (by rw [show (([A0, (.int .u8 (101)), A1, A2, (.int .u8 (101)), A3, A4] : LV) : LV) = zq0.flatMap Zx from rfl])
  have S89 := H88.pick [0, 1] (by decide)
  refine hK8 _ _ S89 ?_
  clear hK8 K8
  refine Z5X 0 2 rfl rfl kr (Zc rfl) (Zc rfl) (fun K90 hK90 => ?_) (fun K90 hK90 => ?_)
  ·refine Z10 (d := 4) rfl kr (Z42 w86) ?_
   rintro _ w91 ⟨r92, a93, c94, rfl, k95, p96, q97⟩
   have H98 : Sat w [zR w, Z0 b2 73 (([(vi s.cl), (vi s.seq)] : LV) ++ hc s.h ++ ([(vi s.len), (vi s.sb), (vi s.sm)] : LV)), Zo 5 1 (.slice (some ⟨b85, 0, none⟩) 7 7) 7 (zq0.flatMap Zx), Z0h (wrL r92 a93 c94 z8)] w91 := H88.addU p96 k95 q97
   have H99 : Sat w [zR w, Z0 b2 73 (([(vi s.cl), (vi s.seq)] : LV) ++ hc s.h ++ ([(vi s.len), (vi s.sb), (vi s.sm)] : LV)), Zo 5 1 (.slice (some ⟨b85, 0, none⟩) 7 7) 7 (zq0.flatMap Zx), Z0 r92 266 ([(.slice a93 (z8.length) c94)] : LV), Zo 5 1 (.slice a93 (z8.length) c94) (z8.length) (z8.flatMap Zx)] w91 := H98.open 3 rfl
   refine ⟨_, rfl, ?_⟩
   have S100 := H99.pick [0, 1] (by decide)
   refine hK90 _ _ S100 ?_
   clear hK90 K90
   refine Z34 2 rfl kr (Zc rfl) (fun K101 hK101 => ?_)
   refine Z1l (e := 5) (s := zq0) rfl H99 2 rfl kr kr rfl ?_
   intro w102 (H103 : Sat w [zR w, Z0 b2 73 (([(vi s.cl), (vi s.seq)] : LV) ++ hc s.h ++ ([(vi s.len), (vi s.sb), (vi s.sm)] : LV)), Z1y (.slice (some ⟨b85, 0, none⟩) 7 7) zq0, Z0 r92 266 ([(.slice a93 (z8.length) c94)] : LV), Zo 5 1 (.slice a93 (z8.length) c94) (z8.length) (z8.flatMap Zx)] w102)
   have S104 := H103.pick [0, 1] (by decide)
   refine hK101 _ _ S104 ?_
   clear hK101 K101
   refine Z34 3 rfl kr (Zc rfl) (fun K105 hK105 => ?_)
   have l111 := (show (Zm zq0).length ≤ 17 from Z0K _)
   refine Z10 (d := 7) rfl kr (Z2c w102 r92 a93 c94 z8 (H103.fin [3, 4] (by decide) rfl) (by simp) (some ⟨b85, 0, none⟩) 7 zq0 (ListAt.ofTxt (H103.at 2 rfl)) (Z4Y (fun b hb => H103.offP [3, 4] 2 rfl rfl (by decide) hb)) (by first | omega | simp)) ?_
   rintro _ w106 ⟨a108, c109, rfl, T107⟩
   have H112 : Sat w [zR w, Z0 b2 73 (([(vi s.cl), (vi s.seq)] : LV) ++ hc s.h ++ ([(vi s.len), (vi s.sb), (vi s.sm)] : LV)), Z1y (.slice (some ⟨b85, 0, none⟩) 7 7) zq0, Z0 r92 266 ([(.slice a108 ((z8 ++ Zm zq0).length) c109)] : LV), Zo 5 1 (.slice a108 ((z8 ++ Zm zq0).length) c109) ((z8 ++ Zm zq0).length) ((z8 ++ Zm zq0).flatMap Zx)] w106 := (Sat.turnL (L' := [Z0 r92 266 ([(.slice a108 ((z8 ++ Zm zq0).length) c109)] : LV), Zo 5 1 (.slice a108 ((z8 ++ Zm zq0).length) c109) ((z8 ++ Zm zq0).length) ((z8 ++ Zm zq0).flatMap Zx)]) (R := [zR w, Z0 b2 73 (([(vi s.cl), (vi s.seq)] : LV) ++ hc s.h ++ ([(vi s.len), (vi s.sb), (vi s.sm)] : LV)), Z1y (.slice (some ⟨b85, 0, none⟩) 7 7) zq0]) H103 [3, 4] [0, 1, 2] (by decide) kr rfl T107).pick [2, 3, 4, 0, 1] (by decide)
   refine ⟨_, rfl, ?_⟩
   have S113 := H112.pick [0, 1] (by decide)
   refine hK105 _ _ S113 ?_
   clear hK105 K105
   refine Z34 7 rfl kr (Zc rfl) (fun K114 hK114 => ?_)
   have l120 := ZA s.cl
   refine Z10 (d := 11) rfl kr (Z0C w106 r92 a108 c109 (z8 ++ Zm zq0) (H112.fin [3, 4] (by decide) rfl) (by simp only [List.length_append, List.length_nil]; omega) s.cl om) ?_
   rintro _ w115 ⟨a117, c118, rfl, T116⟩
   have H121 : Sat w [zR w, Z0 b2 73 (([(vi s.cl), (vi s.seq)] : LV) ++ hc s.h ++ ([(vi s.len), (vi s.sb), (vi s.sm)] : LV)), Z1y (.slice (some ⟨b85, 0, none⟩) 7 7) zq0, Z0 r92 266 ([(.slice a117 (((z8 ++ Zm zq0) ++ Z5 s.cl).length) c118)] : LV), Zo 5 1 (.slice a117 (((z8 ++ Zm zq0) ++ Z5 s.cl).length) c118) (((z8 ++ Zm zq0) ++ Z5 s.cl).length) (((z8 ++ Zm zq0) ++ Z5 s.cl).flatMap Zx)] w115 := (Sat.turnL (L' := [Z0 r92 266 ([(.slice a117 (((z8 ++ Zm zq0) ++ Z5 s.cl).length) c118)] : LV), Zo 5 1 (.slice a117 (((z8 ++ Zm zq0) ++ Z5 s.cl).length) c118) (((z8 ++ Zm zq0) ++ Z5 s.cl).length) (((z8 ++ Zm zq0) ++ Z5 s.cl).flatMap Zx)]) (R := [zR w, Z0 b2 73 (([(vi s.cl), (vi s.seq)] : LV) ++ hc s.h ++ ([(vi s.len), (vi s.sb), (vi s.sm)] : LV)), Z1y (.slice (some ⟨b85, 0, none⟩) 7 7) zq0]) H112 [3, 4] [0, 1, 2] (by decide) kr rfl T116).pick [2, 3, 4, 0, 1] (by decide)
   refine ⟨_, rfl, ?_⟩
   have S122 := H121.pick [0, 1] (by decide)
   refine hK114 _ _ S122 ?_
   clear hK114 K114
   refine Z34 11 rfl kr (Zc rfl) (fun K123 hK123 => ?_)
   have l129 := ZA s.seq
   refine Z10 (d := 15) rfl kr (Z0C w115 r92 a117 c118 ((z8 ++ Zm zq0) ++ Z5 s.cl) (H121.fin [3, 4] (by decide) rfl) (by simp only [List.length_append, List.length_nil]; omega) s.seq om) ?_
   rintro _ w124 ⟨a126, c127, rfl, T125⟩
   have H130 : Sat w [zR w, Z0 b2 73 (([(vi s.cl), (vi s.seq)] : LV) ++ hc s.h ++ ([(vi s.len), (vi s.sb), (vi s.sm)] : LV)), Z1y (.slice (some ⟨b85, 0, none⟩) 7 7) zq0, Z0 r92 266 ([(.slice a126 ((((z8 ++ Zm zq0) ++ Z5 s.cl) ++ Z5 s.seq).length) c127)] : LV), Zo 5 1 (.slice a126 ((((z8 ++ Zm zq0) ++ Z5 s.cl) ++ Z5 s.seq).length) c127) ((((z8 ++ Zm zq0) ++ Z5 s.cl) ++ Z5 s.seq).length) ((((z8 ++ Zm zq0) ++ Z5 s.cl) ++ Z5 s.seq).flatMap Zx)] w124 := (Sat.turnL (L' := [Z0 r92 266 ([(.slice a126 ((((z8 ++ Zm zq0) ++ Z5 s.cl) ++ Z5 s.seq).length) c127)] : LV), Zo 5 1 (.slice a126 ((((z8 ++ Zm zq0) ++ Z5 s.cl) ++ Z5 s.seq).length) c127) ((((z8 ++ Zm zq0) ++ Z5 s.cl) ++ Z5 s.seq).length) ((((z8 ++ Zm zq0) ++ Z5 s.cl) ++ Z5 s.seq).flatMap Zx)]) (R := [zR w, Z0 b2 73 (([(vi s.cl), (vi s.seq)] : LV) ++ hc s.h ++ ([(vi s.len), (vi s.sb), (vi s.sm)] : LV)), Z1y (.slice (some ⟨b85, 0, none⟩) 7 7) zq0]) H121 [3, 4] [0, 1, 2] (by decide) kr rfl T125).pick [2, 3, 4, 0, 1] (by decide)
   refine ⟨_, rfl, ?_⟩
   have S131 := H130.pick [0, 1] (by decide)
   refine hK123 _ _ S131 ?_
   clear hK123 K123
   refine Z0V 12 rfl kr kr kr (fun _ _ _ h => h) S131 (Zc rfl) (d := 3) (v := (zp r92)) rfl (fun _ H' => kr) ?_
   refine Z8i kr ?_
   refine Z0Y <| Z9 <| Z0a H130 [zR w, Z0 b2 73 (([(vi s.cl), (vi s.seq)] : LV) ++ hc s.h ++ ([(vi s.len), (vi s.sb), (vi s.sm)] : LV)), Z1y (.slice (some ⟨b85, 0, none⟩) 7 7) zq0] 9 rfl kr (fun Hx => (Hx.pick [0, 1, 2] (by decide))) fun w132 H133 S134 => ?_
   refine Z0V 0 rfl kr kr kr (fun _ _ _ h => h) S134 (Zc rfl) (d := 16) (v := (zp r92)) rfl (fun _ H' => kr) ?_
   refine Z0V 1 rfl kr kr kr (fun _ _ _ h => h) S134 (Zc rfl) (d := 17) (v := (.pointer (some ⟨b2, 2, none⟩))) rfl (fun _ H' => kr) ?_
   refine Z0V 2 rfl kr kr kr (fun _ _ _ h => h) S134 (Zc rfl) (d := 18) (v := (.agg ⟨(hc s.h)⟩)) rfl (fun _ H' => (zlN (vs := (hc s.h)) (H'.at 1 rfl))) ?_
   refine Z0V 4 rfl kr kr kr (fun _ _ _ h => h) S134 (Zc rfl) (d := 20) (v := (.pointer (some ⟨b2, 34, none⟩))) rfl (fun _ H' => kr) ?_
   refine Z0V 5 rfl kr kr kr (fun _ _ _ h => h) S134 (Zc rfl) (d := 21) (v := (vi s.len)) rfl (fun _ H' => (zl1 (H'.cell 1 rfl kr))) ?_
   refine Z34 3 rfl kr (Zc rfl) (fun K135 hK135 => ?_)
   have l141 := s.h.len
   refine Z10 (d := 19) rfl kr (Z2t w132 r92 a126 c127 (((z8 ++ Zm zq0) ++ Z5 s.cl) ++ Z5 s.seq) (H133.fin [3, 4] (by decide) rfl) (by simp only [List.length_append, List.length_nil]; omega) s.h) ?_
   rintro _ w136 ⟨a138, c139, rfl, T137⟩
   have H142 : Sat w [zR w, Z0 b2 73 (([(vi s.cl), (vi s.seq)] : LV) ++ hc s.h ++ ([(vi s.len), (vi s.sb), (vi s.sm)] : LV)), Z1y (.slice (some ⟨b85, 0, none⟩) 7 7) zq0, Z0 r92 266 ([(.slice a138 (((((z8 ++ Zm zq0) ++ Z5 s.cl) ++ Z5 s.seq) ++ s.h.l).length) c139)] : LV), Zo 5 1 (.slice a138 (((((z8 ++ Zm zq0) ++ Z5 s.cl) ++ Z5 s.seq) ++ s.h.l).length) c139) (((((z8 ++ Zm zq0) ++ Z5 s.cl) ++ Z5 s.seq) ++ s.h.l).length) (((((z8 ++ Zm zq0) ++ Z5 s.cl) ++ Z5 s.seq) ++ s.h.l).flatMap Zx)] w136 := (Sat.turnL (L' := [Z0 r92 266 ([(.slice a138 (((((z8 ++ Zm zq0) ++ Z5 s.cl) ++ Z5 s.seq) ++ s.h.l).length) c139)] : LV), Zo 5 1 (.slice a138 (((((z8 ++ Zm zq0) ++ Z5 s.cl) ++ Z5 s.seq) ++ s.h.l).length) c139) (((((z8 ++ Zm zq0) ++ Z5 s.cl) ++ Z5 s.seq) ++ s.h.l).length) (((((z8 ++ Zm zq0) ++ Z5 s.cl) ++ Z5 s.seq) ++ s.h.l).flatMap Zx)]) (R := [zR w, Z0 b2 73 (([(vi s.cl), (vi s.seq)] : LV) ++ hc s.h ++ ([(vi s.len), (vi s.sb), (vi s.sm)] : LV)), Z1y (.slice (some ⟨b85, 0, none⟩) 7 7) zq0]) H133 [3, 4] [0, 1, 2] (by decide) kr rfl T137).pick [2, 3, 4, 0, 1] (by decide)
   refine ⟨_, rfl, ?_⟩
   have S143 := H142.pick [0, 1, 2] (by decide)
   refine hK135 _ _ S143 ?_
   clear hK135 K135
   refine Z34 6 rfl kr (Zc rfl) (fun K144 hK144 => ?_)
   have l150 := ZA s.len
   refine Z10 (d := 22) rfl kr (Z0C w136 r92 a138 c139 ((((z8 ++ Zm zq0) ++ Z5 s.cl) ++ Z5 s.seq) ++ s.h.l) (H142.fin [3, 4] (by decide) rfl) (by simp only [List.length_append, List.length_nil]; omega) s.len om) ?_
   rintro _ w145 ⟨a147, c148, rfl, T146⟩
   have H151 : Sat w [zR w, Z0 b2 73 (([(vi s.cl), (vi s.seq)] : LV) ++ hc s.h ++ ([(vi s.len), (vi s.sb), (vi s.sm)] : LV)), Z1y (.slice (some ⟨b85, 0, none⟩) 7 7) zq0, Z0 r92 266 ([(.slice a147 ((((((z8 ++ Zm zq0) ++ Z5 s.cl) ++ Z5 s.seq) ++ s.h.l) ++ Z5 s.len).length) c148)] : LV), Zo 5 1 (.slice a147 ((((((z8 ++ Zm zq0) ++ Z5 s.cl) ++ Z5 s.seq) ++ s.h.l) ++ Z5 s.len).length) c148) ((((((z8 ++ Zm zq0) ++ Z5 s.cl) ++ Z5 s.seq) ++ s.h.l) ++ Z5 s.len).length) ((((((z8 ++ Zm zq0) ++ Z5 s.cl) ++ Z5 s.seq) ++ s.h.l) ++ Z5 s.len).flatMap Zx)] w145 := (Sat.turnL (L' := [Z0 r92 266 ([(.slice a147 ((((((z8 ++ Zm zq0) ++ Z5 s.cl) ++ Z5 s.seq) ++ s.h.l) ++ Z5 s.len).length) c148)] : LV), Zo 5 1 (.slice a147 ((((((z8 ++ Zm zq0) ++ Z5 s.cl) ++ Z5 s.seq) ++ s.h.l) ++ Z5 s.len).length) c148) ((((((z8 ++ Zm zq0) ++ Z5 s.cl) ++ Z5 s.seq) ++ s.h.l) ++ Z5 s.len).length) ((((((z8 ++ Zm zq0) ++ Z5 s.cl) ++ Z5 s.seq) ++ s.h.l) ++ Z5 s.len).flatMap Zx)]) (R := [zR w, Z0 b2 73 (([(vi s.cl), (vi s.seq)] : LV) ++ hc s.h ++ ([(vi s.len), (vi s.sb), (vi s.sm)] : LV)), Z1y (.slice (some ⟨b85, 0, none⟩) 7 7) zq0]) H142 [3, 4] [0, 1, 2] (by decide) kr rfl T146).pick [2, 3, 4, 0, 1] (by decide)
   refine ⟨_, rfl, ?_⟩
   have S152 := H151.pick [0, 1, 2] (by decide)
   refine hK144 _ _ S152 ?_
   clear hK144 K144
   refine Z34 7 rfl kr (Zc rfl) (fun K153 hK153 => ?_)
   refine Z10 (d := 23) rfl kr (Z26 w145 r92 a147 c148 (((((z8 ++ Zm zq0) ++ Z5 s.cl) ++ Z5 s.seq) ++ s.h.l) ++ Z5 s.len) (H151.fin [3, 4] (by decide) rfl) (by simp only [List.length_append, List.length_nil]; omega)) ?_
   rintro _ w154 ⟨u155, rfl, T156⟩
   have H157 : Sat w [zR w, Z0 b2 73 (([(vi s.cl), (vi s.seq)] : LV) ++ hc s.h ++ ([(vi s.len), (vi s.sb), (vi s.sm)] : LV)), Z1y (.slice (some ⟨b85, 0, none⟩) 7 7) zq0, Z0 r92 266 ([(.slice a147 ((((((z8 ++ Zm zq0) ++ Z5 s.cl) ++ Z5 s.seq) ++ s.h.l) ++ Z5 s.len).length) c148)] : LV), Zo 5 1 (.slice a147 ((((((z8 ++ Zm zq0) ++ Z5 s.cl) ++ Z5 s.seq) ++ s.h.l) ++ Z5 s.len).length) c148) ((((((z8 ++ Zm zq0) ++ Z5 s.cl) ++ Z5 s.seq) ++ s.h.l) ++ Z5 s.len).length) ((((((z8 ++ Zm zq0) ++ Z5 s.cl) ++ Z5 s.seq) ++ s.h.l) ++ Z5 s.len).flatMap Zx), Zo 5 1 u155 ((((((z8 ++ Zm zq0) ++ Z5 s.cl) ++ Z5 s.seq) ++ s.h.l) ++ Z5 s.len).length) ((((((z8 ++ Zm zq0) ++ Z5 s.cl) ++ Z5 s.seq) ++ s.h.l) ++ Z5 s.len).flatMap Zx)] w154 := (Sat.turnL (L' := [Z0 r92 266 ([(.slice a147 ((((((z8 ++ Zm zq0) ++ Z5 s.cl) ++ Z5 s.seq) ++ s.h.l) ++ Z5 s.len).length) c148)] : LV), Zo 5 1 (.slice a147 ((((((z8 ++ Zm zq0) ++ Z5 s.cl) ++ Z5 s.seq) ++ s.h.l) ++ Z5 s.len).length) c148) ((((((z8 ++ Zm zq0) ++ Z5 s.cl) ++ Z5 s.seq) ++ s.h.l) ++ Z5 s.len).length) ((((((z8 ++ Zm zq0) ++ Z5 s.cl) ++ Z5 s.seq) ++ s.h.l) ++ Z5 s.len).flatMap Zx), Zo 5 1 u155 ((((((z8 ++ Zm zq0) ++ Z5 s.cl) ++ Z5 s.seq) ++ s.h.l) ++ Z5 s.len).length) ((((((z8 ++ Zm zq0) ++ Z5 s.cl) ++ Z5 s.seq) ++ s.h.l) ++ Z5 s.len).flatMap Zx)]) (R := [zR w, Z0 b2 73 (([(vi s.cl), (vi s.seq)] : LV) ++ hc s.h ++ ([(vi s.len), (vi s.sb), (vi s.sm)] : LV)), Z1y (.slice (some ⟨b85, 0, none⟩) 7 7) zq0]) H151 [3, 4] [0, 1, 2] (by decide) kr rfl T156).pick [3, 4, 5, 0, 1, 2] (by decide)
   obtain ⟨a158, c159, rfl⟩ := Z3 (H157.at 5 rfl)
   refine ⟨_, rfl, ?_⟩
   have S160 := H157.pick [0, 1, 2] (by decide)
   refine hK153 _ _ S160 ?_
   clear hK153 K153
   refine Z0V 8 rfl kr kr kr (fun _ _ _ h => h) S160 (Zc rfl) (d := 2) (v := (.slice a158 (((((z8 ++ Zm zq0) ++ Z5 s.cl) ++ Z5 s.seq) ++ s.h.l) ++ Z5 s.len).length c159)) rfl (fun _ H' => kr) ?_
   refine Z8i kr ?_
   refine Z0Y <| Zk <| Z5v rfl (Z0S (v := (.slice a158 (((((z8 ++ Zm zq0) ++ Z5 s.cl) ++ Z5 s.seq) ++ s.h.l) ++ Z5 s.len).length c159)) rfl) ?_
   have hX : (((((z8 ++ Zm zq0) ++ Z5 s.cl) ++ Z5 s.seq) ++ s.h.l) ++ Z5 s.len) = Zt s := by simp only [ZE, Zt, Z27, List.flatten_cons, List.flatten_nil, List.append_nil, List.append_assoc, List.nil_append]
   exact ⟨_, rfl, (by rw [← hX]; exact H157.at 5 rfl), H157.upd 0 rfl [] ne, (by rw [← hX]; exact H157.fresh 0 rfl (fun _ h => h) 5 rfl rfl)⟩
  ·refine Z1l (e := 5) (s := zq0) rfl H88 2 rfl kr kr rfl ?_
   intro w161 (H162 : Sat w [zR w, Z0 b2 73 (([(vi s.cl), (vi s.seq)] : LV) ++ hc s.h ++ ([(vi s.len), (vi s.sb), (vi s.sm)] : LV)), Z1y (.slice (some ⟨b85, 0, none⟩) 7 7) zq0] w161)
   have S163 := H162.pick [0, 1] (by decide)
   refine hK90 _ _ S163 ?_
   clear hK90 K90
   refine Z34 0 rfl kr (Zc rfl) (fun K164 hK164 => ?_)
   refine Z10 (d := 4) rfl kr (Z42 w161) ?_
   rintro _ w165 ⟨r166, a167, c168, rfl, k169, p170, q171⟩
   have H172 : Sat w [zR w, Z0 b2 73 (([(vi s.cl), (vi s.seq)] : LV) ++ hc s.h ++ ([(vi s.len), (vi s.sb), (vi s.sm)] : LV)), Z1y (.slice (some ⟨b85, 0, none⟩) 7 7) zq0, Z0h (wrL r166 a167 c168 z8)] w165 := H162.addU p170 k169 q171
   have H173 : Sat w [zR w, Z0 b2 73 (([(vi s.cl), (vi s.seq)] : LV) ++ hc s.h ++ ([(vi s.len), (vi s.sb), (vi s.sm)] : LV)), Z1y (.slice (some ⟨b85, 0, none⟩) 7 7) zq0, Z0 r166 266 ([(.slice a167 (z8.length) c168)] : LV), Zo 5 1 (.slice a167 (z8.length) c168) (z8.length) (z8.flatMap Zx)] w165 := H172.open 3 rfl
   refine ⟨_, rfl, ?_⟩
   have S174 := H173.pick [0, 1] (by decide)
   refine hK164 _ _ S174 ?_
   clear hK164 K164
   refine Z34 3 rfl kr (Zc rfl) (fun K175 hK175 => ?_)
   have l181 := (show (Zm zq0).length ≤ 17 from Z0K _)
   refine Z10 (d := 7) rfl kr (Z2c w165 r166 a167 c168 z8 (H173.fin [3, 4] (by decide) rfl) (by simp) (some ⟨b85, 0, none⟩) 7 zq0 (ListAt.ofTxt (H173.at 2 rfl)) (Z4Y (fun b hb => H173.offP [3, 4] 2 rfl rfl (by decide) hb)) (by first | omega | simp)) ?_
   rintro _ w176 ⟨a178, c179, rfl, T177⟩
   have H182 : Sat w [zR w, Z0 b2 73 (([(vi s.cl), (vi s.seq)] : LV) ++ hc s.h ++ ([(vi s.len), (vi s.sb), (vi s.sm)] : LV)), Z1y (.slice (some ⟨b85, 0, none⟩) 7 7) zq0, Z0 r166 266 ([(.slice a178 ((z8 ++ Zm zq0).length) c179)] : LV), Zo 5 1 (.slice a178 ((z8 ++ Zm zq0).length) c179) ((z8 ++ Zm zq0).length) ((z8 ++ Zm zq0).flatMap Zx)] w176 := (Sat.turnL (L' := [Z0 r166 266 ([(.slice a178 ((z8 ++ Zm zq0).length) c179)] : LV), Zo 5 1 (.slice a178 ((z8 ++ Zm zq0).length) c179) ((z8 ++ Zm zq0).length) ((z8 ++ Zm zq0).flatMap Zx)]) (R := [zR w, Z0 b2 73 (([(vi s.cl), (vi s.seq)] : LV) ++ hc s.h ++ ([(vi s.len), (vi s.sb), (vi s.sm)] : LV)), Z1y (.slice (some ⟨b85, 0, none⟩) 7 7) zq0]) H173 [3, 4] [0, 1, 2] (by decide) kr rfl T177).pick [2, 3, 4, 0, 1] (by decide)
   refine ⟨_, rfl, ?_⟩
   have S183 := H182.pick [0, 1] (by decide)
   refine hK175 _ _ S183 ?_
   clear hK175 K175
   refine Z34 7 rfl kr (Zc rfl) (fun K184 hK184 => ?_)
   have l190 := ZA s.cl
   refine Z10 (d := 11) rfl kr (Z0C w176 r166 a178 c179 (z8 ++ Zm zq0) (H182.fin [3, 4] (by decide) rfl) (by simp only [List.length_append, List.length_nil]; omega) s.cl om) ?_
   rintro _ w185 ⟨a187, c188, rfl, T186⟩
   have H191 : Sat w [zR w, Z0 b2 73 (([(vi s.cl), (vi s.seq)] : LV) ++ hc s.h ++ ([(vi s.len), (vi s.sb), (vi s.sm)] : LV)), Z1y (.slice (some ⟨b85, 0, none⟩) 7 7) zq0, Z0 r166 266 ([(.slice a187 (((z8 ++ Zm zq0) ++ Z5 s.cl).length) c188)] : LV), Zo 5 1 (.slice a187 (((z8 ++ Zm zq0) ++ Z5 s.cl).length) c188) (((z8 ++ Zm zq0) ++ Z5 s.cl).length) (((z8 ++ Zm zq0) ++ Z5 s.cl).flatMap Zx)] w185 := (Sat.turnL (L' := [Z0 r166 266 ([(.slice a187 (((z8 ++ Zm zq0) ++ Z5 s.cl).length) c188)] : LV), Zo 5 1 (.slice a187 (((z8 ++ Zm zq0) ++ Z5 s.cl).length) c188) (((z8 ++ Zm zq0) ++ Z5 s.cl).length) (((z8 ++ Zm zq0) ++ Z5 s.cl).flatMap Zx)]) (R := [zR w, Z0 b2 73 (([(vi s.cl), (vi s.seq)] : LV) ++ hc s.h ++ ([(vi s.len), (vi s.sb), (vi s.sm)] : LV)), Z1y (.slice (some ⟨b85, 0, none⟩) 7 7) zq0]) H182 [3, 4] [0, 1, 2] (by decide) kr rfl T186).pick [2, 3, 4, 0, 1] (by decide)
   refine ⟨_, rfl, ?_⟩
   have S192 := H191.pick [0, 1] (by decide)
   refine hK184 _ _ S192 ?_
   clear hK184 K184
   refine Z34 11 rfl kr (Zc rfl) (fun K193 hK193 => ?_)
   have l199 := ZA s.seq
   refine Z10 (d := 15) rfl kr (Z0C w185 r166 a187 c188 ((z8 ++ Zm zq0) ++ Z5 s.cl) (H191.fin [3, 4] (by decide) rfl) (by simp only [List.length_append, List.length_nil]; omega) s.seq om) ?_
   rintro _ w194 ⟨a196, c197, rfl, T195⟩
   have H200 : Sat w [zR w, Z0 b2 73 (([(vi s.cl), (vi s.seq)] : LV) ++ hc s.h ++ ([(vi s.len), (vi s.sb), (vi s.sm)] : LV)), Z1y (.slice (some ⟨b85, 0, none⟩) 7 7) zq0, Z0 r166 266 ([(.slice a196 ((((z8 ++ Zm zq0) ++ Z5 s.cl) ++ Z5 s.seq).length) c197)] : LV), Zo 5 1 (.slice a196 ((((z8 ++ Zm zq0) ++ Z5 s.cl) ++ Z5 s.seq).length) c197) ((((z8 ++ Zm zq0) ++ Z5 s.cl) ++ Z5 s.seq).length) ((((z8 ++ Zm zq0) ++ Z5 s.cl) ++ Z5 s.seq).flatMap Zx)] w194 := (Sat.turnL (L' := [Z0 r166 266 ([(.slice a196 ((((z8 ++ Zm zq0) ++ Z5 s.cl) ++ Z5 s.seq).length) c197)] : LV), Zo 5 1 (.slice a196 ((((z8 ++ Zm zq0) ++ Z5 s.cl) ++ Z5 s.seq).length) c197) ((((z8 ++ Zm zq0) ++ Z5 s.cl) ++ Z5 s.seq).length) ((((z8 ++ Zm zq0) ++ Z5 s.cl) ++ Z5 s.seq).flatMap Zx)]) (R := [zR w, Z0 b2 73 (([(vi s.cl), (vi s.seq)] : LV) ++ hc s.h ++ ([(vi s.len), (vi s.sb), (vi s.sm)] : LV)), Z1y (.slice (some ⟨b85, 0, none⟩) 7 7) zq0]) H191 [3, 4] [0, 1, 2] (by decide) kr rfl T195).pick [2, 3, 4, 0, 1] (by decide)
   refine ⟨_, rfl, ?_⟩
   have S201 := H200.pick [0, 1] (by decide)
   refine hK193 _ _ S201 ?_
   clear hK193 K193
   refine Z0V 12 rfl kr kr kr (fun _ _ _ h => h) S201 (Zc rfl) (d := 3) (v := (zp r166)) rfl (fun _ H' => kr) ?_
   refine Z8i kr ?_
   refine Z0Y <| Z9 <| Z0a H200 [zR w, Z0 b2 73 (([(vi s.cl), (vi s.seq)] : LV) ++ hc s.h ++ ([(vi s.len), (vi s.sb), (vi s.sm)] : LV)), Z1y (.slice (some ⟨b85, 0, none⟩) 7 7) zq0] 9 rfl kr (fun Hx => (Hx.pick [0, 1, 2] (by decide))) fun w202 H203 S204 => ?_
   refine Z0V 0 rfl kr kr kr (fun _ _ _ h => h) S204 (Zc rfl) (d := 16) (v := (zp r166)) rfl (fun _ H' => kr) ?_
   refine Z0V 1 rfl kr kr kr (fun _ _ _ h => h) S204 (Zc rfl) (d := 17) (v := (.pointer (some ⟨b2, 2, none⟩))) rfl (fun _ H' => kr) ?_
   refine Z0V 2 rfl kr kr kr (fun _ _ _ h => h) S204 (Zc rfl) (d := 18) (v := (.agg ⟨(hc s.h)⟩)) rfl (fun _ H' => (zlN (vs := (hc s.h)) (H'.at 1 rfl))) ?_
   refine Z0V 4 rfl kr kr kr (fun _ _ _ h => h) S204 (Zc rfl) (d := 20) (v := (.pointer (some ⟨b2, 34, none⟩))) rfl (fun _ H' => kr) ?_
   refine Z0V 5 rfl kr kr kr (fun _ _ _ h => h) S204 (Zc rfl) (d := 21) (v := (vi s.len)) rfl (fun _ H' => (zl1 (H'.cell 1 rfl kr))) ?_
   refine Z34 3 rfl kr (Zc rfl) (fun K205 hK205 => ?_)
   have l211 := s.h.len
   refine Z10 (d := 19) rfl kr (Z2t w202 r166 a196 c197 (((z8 ++ Zm zq0) ++ Z5 s.cl) ++ Z5 s.seq) (H203.fin [3, 4] (by decide) rfl) (by simp only [List.length_append, List.length_nil]; omega) s.h) ?_
   rintro _ w206 ⟨a208, c209, rfl, T207⟩
   have H212 : Sat w [zR w, Z0 b2 73 (([(vi s.cl), (vi s.seq)] : LV) ++ hc s.h ++ ([(vi s.len), (vi s.sb), (vi s.sm)] : LV)), Z1y (.slice (some ⟨b85, 0, none⟩) 7 7) zq0, Z0 r166 266 ([(.slice a208 (((((z8 ++ Zm zq0) ++ Z5 s.cl) ++ Z5 s.seq) ++ s.h.l).length) c209)] : LV), Zo 5 1 (.slice a208 (((((z8 ++ Zm zq0) ++ Z5 s.cl) ++ Z5 s.seq) ++ s.h.l).length) c209) (((((z8 ++ Zm zq0) ++ Z5 s.cl) ++ Z5 s.seq) ++ s.h.l).length) (((((z8 ++ Zm zq0) ++ Z5 s.cl) ++ Z5 s.seq) ++ s.h.l).flatMap Zx)] w206 := (Sat.turnL (L' := [Z0 r166 266 ([(.slice a208 (((((z8 ++ Zm zq0) ++ Z5 s.cl) ++ Z5 s.seq) ++ s.h.l).length) c209)] : LV), Zo 5 1 (.slice a208 (((((z8 ++ Zm zq0) ++ Z5 s.cl) ++ Z5 s.seq) ++ s.h.l).length) c209) (((((z8 ++ Zm zq0) ++ Z5 s.cl) ++ Z5 s.seq) ++ s.h.l).length) (((((z8 ++ Zm zq0) ++ Z5 s.cl) ++ Z5 s.seq) ++ s.h.l).flatMap Zx)]) (R := [zR w, Z0 b2 73 (([(vi s.cl), (vi s.seq)] : LV) ++ hc s.h ++ ([(vi s.len), (vi s.sb), (vi s.sm)] : LV)), Z1y (.slice (some ⟨b85, 0, none⟩) 7 7) zq0]) H203 [3, 4] [0, 1, 2] (by decide) kr rfl T207).pick [2, 3, 4, 0, 1] (by decide)
   refine ⟨_, rfl, ?_⟩
   have S213 := H212.pick [0, 1, 2] (by decide)
   refine hK205 _ _ S213 ?_
   clear hK205 K205
   refine Z34 6 rfl kr (Zc rfl) (fun K214 hK214 => ?_)
   have l220 := ZA s.len
   refine Z10 (d := 22) rfl kr (Z0C w206 r166 a208 c209 ((((z8 ++ Zm zq0) ++ Z5 s.cl) ++ Z5 s.seq) ++ s.h.l) (H212.fin [3, 4] (by decide) rfl) (by simp only [List.length_append, List.length_nil]; omega) s.len om) ?_
   rintro _ w215 ⟨a217, c218, rfl, T216⟩
   have H221 : Sat w [zR w, Z0 b2 73 (([(vi s.cl), (vi s.seq)] : LV) ++ hc s.h ++ ([(vi s.len), (vi s.sb), (vi s.sm)] : LV)), Z1y (.slice (some ⟨b85, 0, none⟩) 7 7) zq0, Z0 r166 266 ([(.slice a217 ((((((z8 ++ Zm zq0) ++ Z5 s.cl) ++ Z5 s.seq) ++ s.h.l) ++ Z5 s.len).length) c218)] : LV), Zo 5 1 (.slice a217 ((((((z8 ++ Zm zq0) ++ Z5 s.cl) ++ Z5 s.seq) ++ s.h.l) ++ Z5 s.len).length) c218) ((((((z8 ++ Zm zq0) ++ Z5 s.cl) ++ Z5 s.seq) ++ s.h.l) ++ Z5 s.len).length) ((((((z8 ++ Zm zq0) ++ Z5 s.cl) ++ Z5 s.seq) ++ s.h.l) ++ Z5 s.len).flatMap Zx)] w215 := (Sat.turnL (L' := [Z0 r166 266 ([(.slice a217 ((((((z8 ++ Zm zq0) ++ Z5 s.cl) ++ Z5 s.seq) ++ s.h.l) ++ Z5 s.len).length) c218)] : LV), Zo 5 1 (.slice a217 ((((((z8 ++ Zm zq0) ++ Z5 s.cl) ++ Z5 s.seq) ++ s.h.l) ++ Z5 s.len).length) c218) ((((((z8 ++ Zm zq0) ++ Z5 s.cl) ++ Z5 s.seq) ++ s.h.l) ++ Z5 s.len).length) ((((((z8 ++ Zm zq0) ++ Z5 s.cl) ++ Z5 s.seq) ++ s.h.l) ++ Z5 s.len).flatMap Zx)]) (R := [zR w, Z0 b2 73 (([(vi s.cl), (vi s.seq)] : LV) ++ hc s.h ++ ([(vi s.len), (vi s.sb), (vi s.sm)] : LV)), Z1y (.slice (some ⟨b85, 0, none⟩) 7 7) zq0]) H212 [3, 4] [0, 1, 2] (by decide) kr rfl T216).pick [2, 3, 4, 0, 1] (by decide)
   refine ⟨_, rfl, ?_⟩
   have S222 := H221.pick [0, 1, 2] (by decide)
   refine hK214 _ _ S222 ?_
   clear hK214 K214
   refine Z34 7 rfl kr (Zc rfl) (fun K223 hK223 => ?_)
   refine Z10 (d := 23) rfl kr (Z26 w215 r166 a217 c218 (((((z8 ++ Zm zq0) ++ Z5 s.cl) ++ Z5 s.seq) ++ s.h.l) ++ Z5 s.len) (H221.fin [3, 4] (by decide) rfl) (by simp only [List.length_append, List.length_nil]; omega)) ?_
   rintro _ w224 ⟨u225, rfl, T226⟩
   have H227 : Sat w [zR w, Z0 b2 73 (([(vi s.cl), (vi s.seq)] : LV) ++ hc s.h ++ ([(vi s.len), (vi s.sb), (vi s.sm)] : LV)), Z1y (.slice (some ⟨b85, 0, none⟩) 7 7) zq0, Z0 r166 266 ([(.slice a217 ((((((z8 ++ Zm zq0) ++ Z5 s.cl) ++ Z5 s.seq) ++ s.h.l) ++ Z5 s.len).length) c218)] : LV), Zo 5 1 (.slice a217 ((((((z8 ++ Zm zq0) ++ Z5 s.cl) ++ Z5 s.seq) ++ s.h.l) ++ Z5 s.len).length) c218) ((((((z8 ++ Zm zq0) ++ Z5 s.cl) ++ Z5 s.seq) ++ s.h.l) ++ Z5 s.len).length) ((((((z8 ++ Zm zq0) ++ Z5 s.cl) ++ Z5 s.seq) ++ s.h.l) ++ Z5 s.len).flatMap Zx), Zo 5 1 u225 ((((((z8 ++ Zm zq0) ++ Z5 s.cl) ++ Z5 s.seq) ++ s.h.l) ++ Z5 s.len).length) ((((((z8 ++ Zm zq0) ++ Z5 s.cl) ++ Z5 s.seq) ++ s.h.l) ++ Z5 s.len).flatMap Zx)] w224 := (Sat.turnL (L' := [Z0 r166 266 ([(.slice a217 ((((((z8 ++ Zm zq0) ++ Z5 s.cl) ++ Z5 s.seq) ++ s.h.l) ++ Z5 s.len).length) c218)] : LV), Zo 5 1 (.slice a217 ((((((z8 ++ Zm zq0) ++ Z5 s.cl) ++ Z5 s.seq) ++ s.h.l) ++ Z5 s.len).length) c218) ((((((z8 ++ Zm zq0) ++ Z5 s.cl) ++ Z5 s.seq) ++ s.h.l) ++ Z5 s.len).length) ((((((z8 ++ Zm zq0) ++ Z5 s.cl) ++ Z5 s.seq) ++ s.h.l) ++ Z5 s.len).flatMap Zx), Zo 5 1 u225 ((((((z8 ++ Zm zq0) ++ Z5 s.cl) ++ Z5 s.seq) ++ s.h.l) ++ Z5 s.len).length) ((((((z8 ++ Zm zq0) ++ Z5 s.cl) ++ Z5 s.seq) ++ s.h.l) ++ Z5 s.len).flatMap Zx)]) (R := [zR w, Z0 b2 73 (([(vi s.cl), (vi s.seq)] : LV) ++ hc s.h ++ ([(vi s.len), (vi s.sb), (vi s.sm)] : LV)), Z1y (.slice (some ⟨b85, 0, none⟩) 7 7) zq0]) H221 [3, 4] [0, 1, 2] (by decide) kr rfl T226).pick [3, 4, 5, 0, 1, 2] (by decide)
   obtain ⟨a228, c229, rfl⟩ := Z3 (H227.at 5 rfl)
   refine ⟨_, rfl, ?_⟩
   have S230 := H227.pick [0, 1, 2] (by decide)
   refine hK223 _ _ S230 ?_
   clear hK223 K223
   refine Z0V 8 rfl kr kr kr (fun _ _ _ h => h) S230 (Zc rfl) (d := 2) (v := (.slice a228 (((((z8 ++ Zm zq0) ++ Z5 s.cl) ++ Z5 s.seq) ++ s.h.l) ++ Z5 s.len).length c229)) rfl (fun _ H' => kr) ?_
   refine Z8i kr ?_
   refine Z0Y <| Zk <| Z5v rfl (Z0S (v := (.slice a228 (((((z8 ++ Zm zq0) ++ Z5 s.cl) ++ Z5 s.seq) ++ s.h.l) ++ Z5 s.len).length c229)) rfl) ?_
   have hX : (((((z8 ++ Zm zq0) ++ Z5 s.cl) ++ Z5 s.seq) ++ s.h.l) ++ Z5 s.len) = Zt s := by simp only [ZE, Zt, Z27, List.flatten_cons, List.flatten_nil, List.append_nil, List.append_assoc, List.nil_append]
   exact ⟨_, rfl, (by rw [← hX]; exact H227.at 5 rfl), H227.upd 0 rfl [] ne, (by rw [← hX]; exact H227.fresh 0 rfl (fun _ h => h) 5 rfl rfl)⟩
end Go.Proofs.YtenihpghfdcpkaaGreat
