/- WHAT IS PROVED: contracts and plain laws of Put12. Conditions: stated with each. -/
import Derived.Test.YtenihpghfdcpkaaGreatPV02
import Derived.Test.YtenihpghfdcpkaaGreatPV05
import Derived.Test.YtenihpghfdcpkaaGreatPV08
import Derived.Test.YtenihpghfdcpkaaGreatPV21
set_option maxHeartbeats 4000000
set_option maxRecDepth 100000
namespace Go.Proofs.YtenihpghfdcpkaaGreat
open Go.RowKit
abbrev Z0N (p0 : Option Addr) (p1 : Nat) (p2 : Nat) : List Value := ([(.slice p0 p1 p2)] : LV)
abbrev Z0O (p0 : Option Addr) (p1 : List UInt8) (p2 : Nat) : Ck := Zo 5 1 (.slice p0 p1.length p2) p1.length (p1.flatMap Zx)
abbrev Z4B (p0 : Int) (p1 : Int) : List Value := ([i6 p0, i6 p1] : LV)
abbrev Z7Y (p0 : Zb) : List Value := ([i6 p0.r, i6 p0.cl, i6 p0.seq] : LV) ++ hc p0.h ++ ([u6 p0.t, i6 p0.sb, i6 p0.sm] : LV)
abbrev Z8b (p0 : Zj) : List Value := ([i6 p0.cl, i6 p0.seq] : LV) ++ hc p0.h ++ ([i6 p0.len, i6 p0.sb, i6 p0.sm] : LV)
abbrev ZcV : List Value := ([i6 0, i6 0, i6 0] : LV) ++ hc Zz ++ ([u6 0, i6 0, i6 0] : LV)
abbrev Zdd (p0 : CeR) : List Value := ([i6 p0.x.cl, i6 p0.x.seq] : LV) ++ hc p0.x.h ++ ([i6 p0.x.len, i6 p0.x.sb, i6 p0.x.sm, (.slice p0.sa p0.S.length p0.sc)] : LV)
abbrev Zd6 (p0 : Zj) (p1 : CeR) (p2 : Nat) : List Value := ([i6 p0.cl, i6 p0.seq] : LV) ++ hc p0.h ++ ([i6 p0.len, i6 p0.sb, i6 p0.sm, (.slice p1.sa p2 p1.sc)] : LV)
abbrev Zd1 : List Value := ([i6 0, i6 0] : LV) ++ hc Zz ++ ([i6 0, i6 0, i6 0, (.slice none 0 0)] : LV)
abbrev Zab (p0 : PrR) : List Value := ([i6 p0.r, i6 p0.e, u6 p0.f, (.slice p0.ca p0.C.length p0.cc), i6 p0.sb, i6 p0.sm] : LV)
theorem Z6i {va : Option Addr} {n c n' c' : Nat} {ad : Addr} (h : Value.slice va n c = .slice (some ad) n' c') : va = some ad := by simp only [Value.slice.injEq] at h; exact h.1
theorem Z57 {α : Type} {enc : α → List Value} {sz : Nat} (hs : ∀ x, (enc x).length = sz) (h0 : 0 < sz) {W w : World} {D : Nat → Prop} {G : List Ck} (H : Sat W G w) (is : List Nat) (j : Nat) {B : List Ck} (hB : (is.filterMap fun i => G[i]?) = B) (hj : G[j]? = some (ZQ W D)) (hne : is.all (fun i => !Nat.beq i j) = true) {va : Option Addr} {n vc : Nat} {ls : List α} (hv : ListAt enc sz W (.slice va n vc) ls) (hf : 0 < ls.length → ∀ ad, va = some ad → ¬ D ad.block) : 0 < ls.length → ∀ a, va = some a → ¬ (Z0h B).fp a.block := by
 intro h1 a ha hfp
 obtain ⟨vb, vo, vc', hva, hvs⟩ := hv.cells hs h0 h1
 have h2 : va = some ⟨vb, vo, none⟩ := by simp only [Value.slice.injEq] at hva; exact hva.1
 have h3 := h2
 rw [ha] at h3
 obtain rfl := (Option.some.inj h3)
 have hl : 0 < (ls.flatMap enc).length := by rw [Z2i enc sz hs]; exact Nat.mul_pos h1 h0
 have hc := hvs 0 _ (List.getElem?_eq_getElem hl)
 rw [Addr.add_lit] at hc
 have hlt := World.block_lt_of_cell? W _ hc
 subst hB
 obtain ⟨A, hA, hAf⟩ := hfp
 obtain ⟨i, hi, he⟩ := List.mem_filterMap.1 hA
 have hij : Nat.beq i j = false := by simpa using List.all_eq_true.1 hne i hi
 exact H.apart i j he hj hij _ hAf ⟨hlt, hf h1 _ ha⟩
theorem CeB.keepD {w w0 w' : World} {G : List Ck} {D : Nat → Prop} {c : CeR} (h : CeB w c) (H : Sat w0 G w') (j : Nat) (hj : G[j]? = some (ZQ w D)) (hf : 0 < c.S.length → ∀ ad, c.sa = some ad → ¬ D ad.block) : CeB w' c := ⟨h.x, ListAt.nowD H j hj h.at_ hf, h.S, h.len⟩
theorem ZaA (w : World) (r : Nat) (a0 : Option Addr) (c0 : Nat) (B : List UInt8) (hB : (Z0h (wrL r a0 c0 B)).ok w) (hl : B.length ≤ 900000) (a b : Int) (hs : a ≤ 9223372036854775807 ∧ b ≤ 9223372036854775807) :
  Calls Tryz.prog 229 #[zp r, (.agg ⟨([i6 a, i6 b] : LV)⟩)] w fun e w' => ∃ a' c', e = .returned (.tuple #[]) ∧ Sat w [Z0 r 266 [.slice a' (B ++ Z50 a b).length c'], Zo 5 1 (.slice a' (B ++ Z50 a b).length c') (B ++ Z50 a b).length ((B ++ Z50 a b).flatMap Zx), ZQ w (Z0h (wrL r a0 c0 B)).fp] w' := by
 have H := Sat.start (wrL r a0 c0 B) hB
 refine Zg Tryz.func229 rfl 11 rfl kn ?_
 refine zsl <| zy <| zdb (Z4B a b) H fun b2 w3 H4 => ?_
 refine kk <| znt <| Z0a H4 [ZQ w (Z0h (wrL r a0 c0 B)).fp, Z0 b2 69 (Z4B a b)] 7 rfl kr (fun Hx => (Hx.pk [2, 3])) fun w5 H6 S7 => ?_
 refine hv0 0 S7 4 (pt r 0) <| hv0 1 S7 5 (pt b2 0) <| hv0 2 S7 6 (vi a) ?_ (he := fun _ H' => (zl1 (H'.cell 1 rfl rfl)))
 refine hv0 4 S7 8 (pt b2 1) <| hv0 5 S7 9 (vi b) ?_ (he := fun _ H' => (zl1 (H'.cell 1 rfl rfl)))
 refine zhy 3 ?_
 have l14 := ZA a
 refine zdc 7 (Z0C w5 r a0 c0 B (H6.fn [0, 1]) om a om) ?_
 rintro _ w9 ⟨a11, c12, rfl, T10⟩
 have H15 := H6.tl [Z0 r 266 (Z0N a11 ((B ++ Z5 a).length) c12), (Z0O a11 (B ++ Z5 a) c12)] [0, 1] [2, 3] T10 [0, 1, 2, 3]
 refine ⟨_, rfl, ?_⟩
 have S16 := H15.pk [2, 3]
 refine kh S16 <| zhy 6 ?_
 have l23 := ZA b
 refine zdc 10 (Z0C w9 r a11 c12 (B ++ Z5 a) (H15.fn [0, 1]) (by simp only [List.length_append, List.length_nil]; omega) b om) ?_
 rintro _ w18 ⟨a20, c21, rfl, T19⟩
 have H24 := H15.tl [Z0 r 266 (Z0N a20 (((B ++ Z5 a) ++ Z5 b).length) c21), (Z0O a20 ((B ++ Z5 a) ++ Z5 b) c21)] [0, 1] [2, 3] T19 [0, 1, 2, 3]
 refine ⟨_, rfl, ?_⟩
 have S25 := H24.pk [2, 3]
 refine kh S25 <| zhf <| Z24 ?_
 refine ZcS rfl  ?_
 have hX : ((B ++ Z5 a) ++ Z5 b) = (B ++ Z50 a b) := by simp only [Z50, List.flatten_cons, List.flatten_nil, List.append_nil, List.append_assoc, List.nil_append]
 exact ⟨a20, c21, rfl, (H24.pk [0, 1, 2]).cast (by show [_, _, _] = _; rw [hX])⟩
theorem Z8c (w : World) (r : Nat) (a0 : Option Addr) (c0 : Nat) (B : List UInt8) (hB : (Z0h (wrL r a0 c0 B)).ok w) (hl : B.length ≤ 800000) (s : Zb) (hs : StB s) :
  Calls Tryz.prog 213 #[zp r, (.agg ⟨(([i6 s.r, i6 s.cl, i6 s.seq] : LV) ++ hc s.h ++ ([u6 s.t, i6 s.sb, i6 s.sm] : LV))⟩)] w fun e w' => ∃ a' c', e = .returned (.tuple #[]) ∧ Sat w [Z0 r 266 [.slice a' (B ++ Z0p s).length c'], Zo 5 1 (.slice a' (B ++ Z0p s).length c') (B ++ Z0p s).length ((B ++ Z0p s).flatMap Zx), ZQ w (Z0h (wrL r a0 c0 B)).fp] w' := by
 have H := Sat.start (wrL r a0 c0 B) hB
 unfold StB at hs
 refine Zg Tryz.func213 rfl 23 rfl kn ?_
 refine zsl <| zy <| zdb (Z7Y s) H fun b2 w3 H4 => ?_
 refine kk <| Z1a <| wv 4 (pt r 0) <| wv 5 (pt b2 0) <| zw1 6 (vi s.r) (H4.cell 3 rfl kr) <| zy ?_
 have l11 := ZA s.r
 refine zdc 7 (Z0C w3 r a0 c0 B (H4.fn [0, 1]) om s.r om) ?_
 rintro _ w6 ⟨a8, c9, rfl, T7⟩
 have H12 := H4.tl [Z0 r 266 (Z0N a8 ((B ++ Z5 s.r).length) c9), (Z0O a8 (B ++ Z5 s.r) c9)] [0, 1] [2, 3] T7 [0, 1, 2, 3]
 refine ⟨_, rfl, ?_⟩
 refine kk <| Z1a <| wv 8 (pt r 0) <| wv 9 (pt b2 1) <| zwN 10 (Z4B s.cl s.seq) (H12.at 3 rfl) <| zy ?_
 have l19 := Z2V s.cl s.seq
 refine zdc 11 (Z6L w6 r a8 c9 (B ++ Z5 s.r) (H12.fn [0, 1]) (by simp only [List.length_append, List.length_nil]; omega) s.cl s.seq om) ?_
 rintro _ w14 ⟨a16, c17, rfl, T15⟩
 have H20 := H12.tl [Z0 r 266 (Z0N a16 (((B ++ Z5 s.r) ++ Z0y s.cl s.seq).length) c17), (Z0O a16 ((B ++ Z5 s.r) ++ Z0y s.cl s.seq) c17)] [0, 1] [2, 3] T15 [0, 1, 2, 3]
 refine ⟨_, rfl, ?_⟩
 refine kk <| znt <| Z9 <| Z0a H20 [ZQ w (Z0h (wrL r a0 c0 B)).fp, Z0 b2 149 (Z7Y s)] 7 rfl kr (fun Hx => (Hx.pk [2, 3])) fun w21 H22 S23 => ?_
 refine hv0 0 S23 12 (pt r 0) <| hv0 1 S23 13 (pt b2 3) <| hv0 2 S23 14 (.agg ⟨(hc s.h)⟩) ?_ (he := fun _ H' => (zlN (vs := (hc s.h)) (H'.at 1 rfl)))
 refine hv0 4 S23 16 (pt b2 35) <| hv0 5 S23 17 (vu s.t) ?_ (he := fun _ H' => (zl1 (H'.cell 1 rfl kr)))
 refine zhy 3 ?_
 have l30 := s.h.len
 refine zdc 15 (Z2t w21 r a16 c17 ((B ++ Z5 s.r) ++ Z0y s.cl s.seq) (H22.fn [0, 1]) (by simp only [List.length_append, List.length_nil]; omega) s.h) ?_
 rintro _ w25 ⟨a27, c28, rfl, T26⟩
 have H31 := H22.tl [Z0 r 266 (Z0N a27 ((((B ++ Z5 s.r) ++ Z0y s.cl s.seq) ++ s.h.l).length) c28), (Z0O a27 (((B ++ Z5 s.r) ++ Z0y s.cl s.seq) ++ s.h.l) c28)] [0, 1] [2, 3] T26 [0, 1, 2, 3]
 refine ⟨_, rfl, ?_⟩
 have S32 := H31.pk [2, 3]
 refine kh S32 <| zhy 6 ?_
 have l39 := Z2I s.t.toNat
 refine Z10 (d := 18) rfl (by rw [show s.t = ((s.t.toNat : Nat) : Int) by omega]; kernel_rfl) (Z6a w25 r a27 c28 (((B ++ Z5 s.r) ++ Z0y s.cl s.seq) ++ s.h.l) (H31.fn [0, 1]) (by simp only [List.length_append, List.length_nil]; omega) s.t.toNat om) ?_
 rintro _ w34 ⟨a36, c37, rfl, T35⟩
 have H40 := H31.tl [Z0 r 266 (Z0N a36 (((((B ++ Z5 s.r) ++ Z0y s.cl s.seq) ++ s.h.l) ++ Z1I s.t.toNat).length) c37), (Z0O a36 ((((B ++ Z5 s.r) ++ Z0y s.cl s.seq) ++ s.h.l) ++ Z1I s.t.toNat) c37)] [0, 1] [2, 3] T35 [0, 1, 2, 3]
 refine ⟨_, rfl, ?_⟩
 have S41 := H40.pk [2, 3]
 refine kh S41 <| zhf <| ztn <| ZG <| wv 19 (pt r 0) <| wv 20 (pt b2 36) <| zwN 21 (Z4B s.sb s.sm) (H40.at 3 rfl) <| zy ?_
 have l48 := Z4C s.sb s.sm
 refine zdc 22 (ZaA w34 r a36 c37 ((((B ++ Z5 s.r) ++ Z0y s.cl s.seq) ++ s.h.l) ++ Z1I s.t.toNat) (H40.fn [0, 1]) (by simp only [List.length_append, List.length_nil]; omega) s.sb s.sm om) ?_
 rintro _ w43 ⟨a45, c46, rfl, T44⟩
 have H49 := H40.tl [Z0 r 266 (Z0N a45 ((((((B ++ Z5 s.r) ++ Z0y s.cl s.seq) ++ s.h.l) ++ Z1I s.t.toNat) ++ Z50 s.sb s.sm).length) c46), (Z0O a45 (((((B ++ Z5 s.r) ++ Z0y s.cl s.seq) ++ s.h.l) ++ Z1I s.t.toNat) ++ Z50 s.sb s.sm) c46)] [0, 1] [2, 3] T44 [0, 1, 2, 3]
 refine ⟨_, rfl, ?_⟩
 refine kk <| ZL <| Z24 ?_
 refine ZcS rfl  ?_
 have hX : (((((B ++ Z5 s.r) ++ Z0y s.cl s.seq) ++ s.h.l) ++ Z1I s.t.toNat) ++ Z50 s.sb s.sm) = (B ++ Z0p s) := by simp only [Z0p, Z27, List.flatten_cons, List.flatten_nil, List.append_nil, List.append_assoc, List.nil_append]
 exact ⟨a45, c46, rfl, (H49.pk [0, 1, 2]).cast (by show [_, _, _] = _; rw [hX])⟩
theorem Z73 (w : World) (r : Nat) (a0 : Option Addr) (c0 : Nat) (B : List UInt8) (hB : (Z0h (wrL r a0 c0 B)).ok w) (hl : B.length ≤ 800000) (s : Zj) (hs : CoB s) :
  Calls Tryz.prog 211 #[zp r, (.agg ⟨(([i6 s.cl, i6 s.seq] : LV) ++ hc s.h ++ ([i6 s.len, i6 s.sb, i6 s.sm] : LV))⟩)] w fun e w' => ∃ a' c', e = .returned (.tuple #[]) ∧ Sat w [Z0 r 266 [.slice a' (B ++ Z07 s).length c'], Zo 5 1 (.slice a' (B ++ Z07 s).length c') (B ++ Z07 s).length ((B ++ Z07 s).flatMap Zx), ZQ w (Z0h (wrL r a0 c0 B)).fp] w' := by
 have H := Sat.start (wrL r a0 c0 B) hB
 unfold CoB at hs
 refine Zg Tryz.func211 rfl 19 rfl kn ?_
 refine zsl <| zy <| zdb (Z8b s) H fun b2 w3 H4 => ?_
 refine kk <| Z1a <| wv 4 (pt r 0) <| wv 5 (pt b2 0) <| zwN 6 (Z4B s.cl s.seq) (H4.at 3 rfl) <| zy ?_
 have l11 := Z2V s.cl s.seq
 refine zdc 7 (Z6L w3 r a0 c0 B (H4.fn [0, 1]) om s.cl s.seq om) ?_
 rintro _ w6 ⟨a8, c9, rfl, T7⟩
 have H12 := H4.tl [Z0 r 266 (Z0N a8 ((B ++ Z0y s.cl s.seq).length) c9), (Z0O a8 (B ++ Z0y s.cl s.seq) c9)] [0, 1] [2, 3] T7 [0, 1, 2, 3]
 refine ⟨_, rfl, ?_⟩
 refine kk <| znt <| Z9 <| Z0a H12 [ZQ w (Z0h (wrL r a0 c0 B)).fp, Z0 b2 73 (Z8b s)] 7 rfl kr (fun Hx => (Hx.pk [2, 3])) fun w13 H14 S15 => ?_
 refine hv0 0 S15 8 (pt r 0) <| hv0 1 S15 9 (pt b2 2) <| hv0 2 S15 10 (.agg ⟨(hc s.h)⟩) ?_ (he := fun _ H' => (zlN (vs := (hc s.h)) (H'.at 1 rfl)))
 refine hv0 4 S15 12 (pt b2 34) <| hv0 5 S15 13 (vi s.len) ?_ (he := fun _ H' => (zl1 (H'.cell 1 rfl kr)))
 refine zhy 3 ?_
 have l22 := s.h.len
 refine zdc 11 (Z2t w13 r a8 c9 (B ++ Z0y s.cl s.seq) (H14.fn [0, 1]) (by simp only [List.length_append, List.length_nil]; omega) s.h) ?_
 rintro _ w17 ⟨a19, c20, rfl, T18⟩
 have H23 := H14.tl [Z0 r 266 (Z0N a19 (((B ++ Z0y s.cl s.seq) ++ s.h.l).length) c20), (Z0O a19 ((B ++ Z0y s.cl s.seq) ++ s.h.l) c20)] [0, 1] [2, 3] T18 [0, 1, 2, 3]
 refine ⟨_, rfl, ?_⟩
 have S24 := H23.pk [2, 3]
 refine kh S24 <| zhy 6 ?_
 have l31 := ZA s.len
 refine zdc 14 (Z0C w17 r a19 c20 ((B ++ Z0y s.cl s.seq) ++ s.h.l) (H23.fn [0, 1]) (by simp only [List.length_append, List.length_nil]; omega) s.len om) ?_
 rintro _ w26 ⟨a28, c29, rfl, T27⟩
 have H32 := H23.tl [Z0 r 266 (Z0N a28 ((((B ++ Z0y s.cl s.seq) ++ s.h.l) ++ Z5 s.len).length) c29), (Z0O a28 (((B ++ Z0y s.cl s.seq) ++ s.h.l) ++ Z5 s.len) c29)] [0, 1] [2, 3] T27 [0, 1, 2, 3]
 refine ⟨_, rfl, ?_⟩
 have S33 := H32.pk [2, 3]
 refine kh S33 <| zhf <| ztn <| ZG <| wv 15 (pt r 0) <| wv 16 (pt b2 35) <| zwN 17 (Z4B s.sb s.sm) (H32.at 3 rfl) <| zy ?_
 have l40 := Z4C s.sb s.sm
 refine zdc 18 (ZaA w26 r a28 c29 (((B ++ Z0y s.cl s.seq) ++ s.h.l) ++ Z5 s.len) (H32.fn [0, 1]) (by simp only [List.length_append, List.length_nil]; omega) s.sb s.sm om) ?_
 rintro _ w35 ⟨a37, c38, rfl, T36⟩
 have H41 := H32.tl [Z0 r 266 (Z0N a37 (((((B ++ Z0y s.cl s.seq) ++ s.h.l) ++ Z5 s.len) ++ Z50 s.sb s.sm).length) c38), (Z0O a37 ((((B ++ Z0y s.cl s.seq) ++ s.h.l) ++ Z5 s.len) ++ Z50 s.sb s.sm) c38)] [0, 1] [2, 3] T36 [0, 1, 2, 3]
 refine ⟨_, rfl, ?_⟩
 refine kk <| ZL <| Z24 ?_
 refine ZcS rfl  ?_
 have hX : ((((B ++ Z0y s.cl s.seq) ++ s.h.l) ++ Z5 s.len) ++ Z50 s.sb s.sm) = (B ++ Z07 s) := by simp only [Z07, List.flatten_cons, List.flatten_nil, List.append_nil, List.append_assoc, List.nil_append]
 exact ⟨a37, c38, rfl, (H41.pk [0, 1, 2]).cast (by show [_, _, _] = _; rw [hX])⟩
theorem Z5B (w : World) (r : Nat) (a0 : Option Addr) (c0 : Nat) (B : List UInt8) (hB : (Z0h (wrL r a0 c0 B)).ok w) (hl : B.length ≤ 780000) (la : Option Addr) (lc : Nat) (L : List Zb) (hL : ListAt Z2O 38 w (.slice la L.length lc) L) (hoff : 0 < L.length → ∀ ad, la = some ad → ¬ (Z0h (wrL r a0 c0 B)).fp ad.block) (hS : ∀ i, i < L.length → StB (L.getD i Zl)) (hl2 : L.length ≤ 100) :
  Calls Tryz.prog 212 #[zp r, (.slice la L.length lc), (.func (.func 213) #[] #[])] w fun e w' => ∃ a' c', e = .returned (.tuple #[]) ∧ Sat w [Z0 r 266 [.slice a' (B ++ (Z5 (L.length : Int) ++ L.flatMap Z0p)).length c'], Zo 5 1 (.slice a' (B ++ (Z5 (L.length : Int) ++ L.flatMap Z0p)).length c') (B ++ (Z5 (L.length : Int) ++ L.flatMap Z0p)).length ((B ++ (Z5 (L.length : Int) ++ L.flatMap Z0p)).flatMap Zx), ZQ w (Z0h (wrL r a0 c0 B)).fp] w' := by
 have H := Sat.start (wrL r a0 c0 B) hB
 have hvl := ZA (L.length : Int)
 refine Zg Tryz.func212 rfl 23 rfl kn ?_
 refine zsl <| wv 8 (pt r 0) <| wv 9 (.slice la L.length lc) <| wv 10 (vi L.length) <| zy ?_
 have l7 := ZA (L.length : Int)
 refine zdc 11 (Z0C w r a0 c0 B (H.fn [0, 1]) om (L.length : Int) om) ?_
 rintro _ w2 ⟨a4, c5, rfl, T3⟩
 have H8 := H.tl [Z0 r 266 (Z0N a4 ((B ++ Z5 (L.length : Int)).length) c5), (Z0O a4 (B ++ Z5 (L.length : Int)) c5)] [0, 1] [2] T3 [0, 1, 2]
 refine ⟨_, rfl, ?_⟩
 refine kk <| Z1a <| wv 12 (.slice la L.length lc) <| wv 13 (vi L.length) <| wv 14 (vi 0) <| znt <| Zh ?_
 obtain ⟨hd, hhd⟩ : ∃ hd, hd = (B ++ Z5 (L.length : Int)) := ⟨_, rfl⟩
 have hdl : hd.length ≤ 780010 := by rw [hhd]; simp only [List.length_append]; omega
 refine ZB [7, 14, 15, 16, 17, 18, 19, 20, 21, 22] (fun F_ W_ m_ => ∃ (i : Nat) (a : Option Addr) (c_ : Nat) (D : List UInt8), F_ 14 = (vi i) ∧ (i ≤ L.length) ∧ (D = hd ++ (L.take i).flatMap Z0p) ∧ Sat w [Z0 r 266 (Z0N a D.length c_), (Z0O a D c_), ZQ w (Z0h (wrL r a0 c0 B)).fp] W_ ∧ m_ = L.length - i) _ ⟨0, a4, c5, (B ++ Z5 (L.length : Int)), (show ((vi 0) : Value) = _ by first | rfl | go_num), (Nat.zero_le _), (by rw [hhd]; simp), H8, rfl⟩ ?_
 rintro g9 w10 _ ⟨i, a, c_, D, v12, hi, hD, H11, rfl⟩
 refine Zn 14 _ v12 ?_
 have hDl : D.length ≤ 799000 := by rw [hD, List.length_append]; have q1 := Z5u Z1E (L.take i); rw [List.length_take] at q1; omega
 have q2 := Z1E (L.getD i Zl)
 refine zsl <| wv 15 (.bool (decide ((i : Int) < L.length))) <| znt <| Z9 ?_
 refine zid (fun b14 g15 => ?_) fun b14 g39 => ?_
 ·refine Zp <| ztn <| Z9 <| Zh <| zsl ?_
  obtain ⟨g17, o18, c19, e20, R21⟩ := SliceOf.atD hL Zl (show i < L.length by omega)
  refine wv 16 (.pointer (some ⟨g17, o18 + ((i : Int)).toNat * 38, none⟩)) ?_ (hr := Z8 (E := 149) kr kr kn rfl e20 rfl om om)
  let A0 := Z7Y (L.getD i Zl)
  refine wv 17 (.agg ⟨A0⟩) ?_ (hr := ZX (vs := A0) rfl kr kr kn (H11.runR 2 rfl (Z08 R21 0 kr (show o18 + ((i : Int)).toNat * 38 = o18 + i * 38 + 0 by omega)) (hoff om _ (Z6i e20))))
  refine zy <| zda (ZcV) H11 fun b23 w24 H25 => ?_
  refine kk <| zy <| Z1S A0 H25 3 fun w27 H28 => ?_
  refine kk <| znt <| ZG <| wv 18 (.func (.func 213) #[] #[]) <| wv 19 (pt r 0) <| zwN 20 A0 (H28.at 3 rfl) <| zy ?_
  have l36 := Z1E (L.getD i Zl)
  refine zdc 21 (Z8c w27 r a c_ D (H28.fn [0, 1]) om (L.getD i Zl) (hS i om)) ?_
  rintro _ w31 ⟨a33, c34, rfl, T32⟩
  have H37 := H28.tl [Z0 r 266 (Z0N a33 ((D ++ Z0p (L.getD i Zl)).length) c34), (Z0O a33 (D ++ Z0p (L.getD i Zl)) c34)] [0, 1] [2, 3] T32 [0, 1, 2, 3]
  refine ⟨_, rfl, ?_⟩
  refine kk <| ZL <| Z6 <| ztn <| ZG <| zwi 22 ((i : Int) + 1) <| wv 14 (vi ((i : Int) + 1)) <| ZL ?_
  have H38 := H37.pk [0, 1, 2]
  refine Za ?_ _ ⟨(i + 1), a33, c34, (D ++ Z0p (L.getD i Zl)), rfl, om, (by rw [hD, Z4I L Zl om, List.append_assoc]), H38, rfl⟩ om
  exact zs
 refine zxb <| Z24 ?_
 refine ZcS rfl  ?_
 have hX : D = (B ++ (Z5 (L.length : Int) ++ L.flatMap Z0p)) := by rw [hD, hhd, List.take_of_length_le om, List.append_assoc]
 exact ⟨a, c_, rfl, (H11.pk [0, 1, 2]).cast (by show [_, _, _] = _; rw [hX])⟩
theorem Z8V (w : World) (r : Nat) (a0 : Option Addr) (c0 : Nat) (B : List UInt8) (hB : (Z0h (wrL r a0 c0 B)).ok w) (hl : B.length ≤ 700000) (c : CeR) (hE : CeB w c) (hoff : 0 < c.S.length → ∀ ad, c.sa = some ad → ¬ (Z0h (wrL r a0 c0 B)).fp ad.block) :
  Calls Tryz.prog 191 #[zp r, (.agg ⟨(([i6 c.x.cl, i6 c.x.seq] : LV) ++ hc c.x.h ++ ([i6 c.x.len, i6 c.x.sb, i6 c.x.sm, (.slice c.sa c.S.length c.sc)] : LV))⟩)] w fun e w' => ∃ a' c', e = .returned (.tuple #[]) ∧ Sat w [Z0 r 266 [.slice a' (B ++ Z0e c).length c'], Zo 5 1 (.slice a' (B ++ Z0e c).length c') (B ++ Z0e c).length ((B ++ Z0e c).flatMap Zx), ZQ w (Z0h (wrL r a0 c0 B)).fp] w' := by
 have hS := hE.at_
 have hlS := hE.len
 have H := Sat.start (wrL r a0 c0 B) hB
 refine Zg Tryz.func191 rfl 12 rfl kn ?_
 refine zsl <| zy <| zdb (Zdd c) H fun b2 w3 H4 => ?_
 refine kk <| Z1a <| wv 4 (pt r 0) <| wv 5 (pt b2 0) <| zwN 6 (Z8b c.x) (H4.at 3 rfl) <| zy ?_
 have l11 := Z2J c.x
 refine zdc 7 (Z73 w3 r a0 c0 B (H4.fn [0, 1]) om c.x hE.x) ?_
 rintro _ w6 ⟨a8, c9, rfl, T7⟩
 have H12 := H4.tl [Z0 r 266 (Z0N a8 ((B ++ Z07 c.x).length) c9), (Z0O a8 (B ++ Z07 c.x) c9)] [0, 1] [2, 3] T7 [0, 1, 2, 3]
 refine ⟨_, rfl, ?_⟩
 refine kk <| znt <| ZG <| wv 8 (pt r 0) <| wv 9 (pt b2 37) <| zw1 10 (.slice c.sa c.S.length c.sc) (H12.cell 3 rfl kr) <| zy ?_
 have l19 := ZA (c.S.length : Int)
 have l20 := Z5u Z1E c.S
 refine zdc 11 (Z5B w6 r a8 c9 (B ++ Z07 c.x) (H12.fn [0, 1]) (by simp only [List.length_append, List.length_nil]; omega) c.sa c.sc c.S (ListAt.nowD H12 2 rfl hE.at_ hoff) (Z57 (sz := 38) Z3H (by decide) H12 [0, 1] 2 rfl rfl (by decide) hE.at_ hoff) hE.S hE.len) ?_
 rintro _ w14 ⟨a16, c17, rfl, T15⟩
 have H21 := H12.tl [Z0 r 266 (Z0N a16 (((B ++ Z07 c.x) ++ (Z5 (c.S.length : Int) ++ c.S.flatMap Z0p)).length) c17), (Z0O a16 ((B ++ Z07 c.x) ++ (Z5 (c.S.length : Int) ++ c.S.flatMap Z0p)) c17)] [0, 1] [2, 3] T15 [0, 1, 2, 3]
 refine ⟨_, rfl, ?_⟩
 refine kk <| ZL <| Z24 ?_
 refine ZcS rfl  ?_
 have hX : ((B ++ Z07 c.x) ++ (Z5 (c.S.length : Int) ++ c.S.flatMap Z0p)) = (B ++ Z0e c) := by simp only [Z0e, Z6W, List.flatten_cons, List.flatten_nil, List.append_nil, List.append_assoc, List.nil_append]
 exact ⟨a16, c17, rfl, (H21.pk [0, 1, 2]).cast (by show [_, _, _] = _; rw [hX])⟩
theorem Z5V (w : World) (r : Nat) (a0 : Option Addr) (c0 : Nat) (B : List UInt8) (hB : (Z0h (wrL r a0 c0 B)).ok w) (hl : B.length ≤ 60000) (la : Option Addr) (lc : Nat) (L : List CeR) (hL : ListAt Z1o 38 w (.slice la L.length lc) L) (hoff : 0 < L.length → ∀ ad, la = some ad → ¬ (Z0h (wrL r a0 c0 B)).fp ad.block) (hE : ∀ i, i < L.length → CeB w (L.getD i ce0)) (hoS : ∀ i, i < L.length → 0 < (L.getD i ce0).S.length → ∀ ad, (L.getD i ce0).sa = some ad → ¬ (Z0h (wrL r a0 c0 B)).fp ad.block) (hl2 : L.length ≤ 64) :
  Calls Tryz.prog 190 #[zp r, (.slice la L.length lc), (.func (.func 191) #[] #[])] w fun e w' => ∃ a' c', e = .returned (.tuple #[]) ∧ Sat w [Z0 r 266 [.slice a' (B ++ (Z5 (L.length : Int) ++ L.flatMap Z0e)).length c'], Zo 5 1 (.slice a' (B ++ (Z5 (L.length : Int) ++ L.flatMap Z0e)).length c') (B ++ (Z5 (L.length : Int) ++ L.flatMap Z0e)).length ((B ++ (Z5 (L.length : Int) ++ L.flatMap Z0e)).flatMap Zx), ZQ w (Z0h (wrL r a0 c0 B)).fp] w' := by
 have H := Sat.start (wrL r a0 c0 B) hB
 have hvl := ZA (L.length : Int)
 refine Zg Tryz.func190 rfl 23 rfl kn ?_
 refine zsl <| wv 8 (pt r 0) <| wv 9 (.slice la L.length lc) <| wv 10 (vi L.length) <| zy ?_
 have l7 := ZA (L.length : Int)
 refine zdc 11 (Z0C w r a0 c0 B (H.fn [0, 1]) om (L.length : Int) om) ?_
 rintro _ w2 ⟨a4, c5, rfl, T3⟩
 have H8 := H.tl [Z0 r 266 (Z0N a4 ((B ++ Z5 (L.length : Int)).length) c5), (Z0O a4 (B ++ Z5 (L.length : Int)) c5)] [0, 1] [2] T3 [0, 1, 2]
 refine ⟨_, rfl, ?_⟩
 refine kk <| Z1a <| wv 12 (.slice la L.length lc) <| wv 13 (vi L.length) <| wv 14 (vi 0) <| znt <| Zh ?_
 obtain ⟨hd, hhd⟩ : ∃ hd, hd = (B ++ Z5 (L.length : Int)) := ⟨_, rfl⟩
 have hdl : hd.length ≤ 60010 := by rw [hhd]; simp only [List.length_append]; omega
 refine ZB [7, 14, 15, 16, 17, 18, 19, 20, 21, 22] (fun F_ W_ m_ => ∃ (i : Nat) (a : Option Addr) (c_ : Nat) (D : List UInt8), F_ 14 = (vi i) ∧ (i ≤ L.length) ∧ (D = hd ++ (L.take i).flatMap Z0e) ∧ Sat w [Z0 r 266 (Z0N a D.length c_), (Z0O a D c_), ZQ w (Z0h (wrL r a0 c0 B)).fp] W_ ∧ m_ = L.length - i) _ ⟨0, a4, c5, (B ++ Z5 (L.length : Int)), (show ((vi 0) : Value) = _ by first | rfl | go_num), (Nat.zero_le _), (by rw [hhd]; simp), H8, rfl⟩ ?_
 rintro g9 w10 _ ⟨i, a, c_, D, v12, hi, hD, H11, rfl⟩
 refine Zn 14 _ v12 ?_
 have hDl : D.length ≤ 690000 := by rw [hD, List.length_append]; have q1 := Z4m (g := Z0e) (L.take i) (fun c hc => Z1V (Z6z hE c (List.mem_of_mem_take hc))); rw [List.length_take] at q1; omega
 have q2 := fun h : i < L.length => Z1V (hE i h).len
 refine zsl <| wv 15 (.bool (decide ((i : Int) < L.length))) <| znt <| Z9 ?_
 refine zid (fun b14 g15 => ?_) fun b14 g39 => ?_
 ·refine Zp <| ztn <| Z9 <| Zh <| zsl ?_
  obtain ⟨g17, o18, c19, e20, R21⟩ := SliceOf.atD hL ce0 (show i < L.length by omega)
  refine wv 16 (.pointer (some ⟨g17, o18 + ((i : Int)).toNat * 38, none⟩)) ?_ (hr := Z8 (E := 76) kr kr kn rfl e20 rfl om om)
  let A0 := Zd6 ((L.getD i ce0).x) (L.getD i ce0) (((L.getD i ce0).S).length)
  refine wv 17 (.agg ⟨A0⟩) ?_ (hr := ZX (vs := A0) rfl kr kr kn (H11.runR 2 rfl (Z08 R21 0 kr (show o18 + ((i : Int)).toNat * 38 = o18 + i * 38 + 0 by omega)) (hoff om _ (Z6i e20))))
  refine zy <| zda (Zd1) H11 fun b23 w24 H25 => ?_
  refine kk <| zy <| Z1S A0 H25 3 fun w27 H28 => ?_
  refine kk <| znt <| ZG <| wv 18 (.func (.func 191) #[] #[]) <| wv 19 (pt r 0) <| zwN 20 A0 (H28.at 3 rfl) <| zy ?_
  have l36 := Z1V (show (L.getD i ce0).S.length ≤ 100 from (hE i om).len)
  refine zdc 21 (Z8V w27 r a c_ D (H28.fn [0, 1]) om (L.getD i ce0) ((hE i om).keepD H28 2 rfl (hoS i om)) (Z57 (sz := 38) Z3H (by decide) H28 [0, 1] 2 rfl rfl (by decide) (hE i om).at_ (hoS i om))) ?_
  rintro _ w31 ⟨a33, c34, rfl, T32⟩
  have H37 := H28.tl [Z0 r 266 (Z0N a33 ((D ++ Z0e (L.getD i ce0)).length) c34), (Z0O a33 (D ++ Z0e (L.getD i ce0)) c34)] [0, 1] [2, 3] T32 [0, 1, 2, 3]
  refine ⟨_, rfl, ?_⟩
  refine kk <| ZL <| Z6 <| ztn <| ZG <| zwi 22 ((i : Int) + 1) <| wv 14 (vi ((i : Int) + 1)) <| ZL ?_
  have H38 := H37.pk [0, 1, 2]
  refine Za ?_ _ ⟨(i + 1), a33, c34, (D ++ Z0e (L.getD i ce0)), rfl, om, (by rw [hD, Z4I L ce0 om, List.append_assoc]), H38, rfl⟩ om
  exact zs
 refine zxb <| Z24 ?_
 refine ZcS rfl  ?_
 have hX : D = (B ++ (Z5 (L.length : Int) ++ L.flatMap Z0e)) := by rw [hD, hhd, List.take_of_length_le om, List.append_assoc]
 exact ⟨a, c_, rfl, (H11.pk [0, 1, 2]).cast (by show [_, _, _] = _; rw [hX])⟩
theorem Z5Y (w : World) (p : PrR) (hC : ListAt Z1o 38 w (.slice p.ca p.C.length p.cc) p.C) (hB : ∀ i, i < p.C.length → CeB w (p.C.getD i ce0)) (hl : p.C.length ≤ 64) (hn : p.r ≤ 9223372036854775807 ∧ p.e ≤ 9223372036854775807 ∧ 0 ≤ p.f ∧ p.f < 18446744073709551616) :
  Calls Tryz.prog 144 #[(.agg ⟨([i6 p.r, i6 p.e, u6 p.f, (.slice p.ca p.C.length p.cc), i6 p.sb, i6 p.sm] : LV)⟩)] w fun e w' => ∃ u, e = .returned u ∧ (Zo 5 1 u (Z11 p).length ((Z11 p).flatMap Zx)).ok w' ∧ Upd [] w w' ∧ ∀ q_, (Zo 5 1 u (Z11 p).length ((Z11 p).flatMap Zx)).fp q_ → w.heap.size ≤ q_ := by
 have hp := Z53 (Z6z hB) hl
 obtain ⟨hn1, hn2, hn3, hn4⟩ := hn
 have H := Sat.start0 w
 refine Zg Tryz.func144 rfl 20 rfl kn ?_
 refine zsl <| zy <| zdb (Zab p) H fun b2 w3 H4 => ?_
 refine kk <| wv 2 (.slice none 0 0) <| znt <| Z9 <| Z0a H4 [zR w, Z0 b2 71 (Zab p)] 11 rfl kr (fun Hx => (Hx.pk [0, 1])) fun w5 H6 S7 => ?_
 refine hv0 1 S7 5 (pt b2 0) <| hv0 2 S7 6 (vi p.r) ?_ (he := fun _ H' => (zl1 (H'.cell 1 rfl rfl)))
 refine hv0 4 S7 8 (pt b2 1) <| hv0 5 S7 9 (vi p.e) ?_ (he := fun _ H' => (zl1 (H'.cell 1 rfl rfl)))
 refine hv0 7 S7 11 (pt b2 2) <| hv0 8 S7 12 (vu p.f) ?_ (he := fun _ H' => (zl1 (H'.cell 1 rfl rfl)))
 refine zhy 0 ?_
 refine zdc 4 (Z6M w5 zq3 (by decide)) ?_
 rintro _ w9 ⟨r10, a11, c12, rfl, k13, p14, q15⟩
 have H16 := H6.addU p14 k13 q15
 have H17 := H16.open 2 rfl
 refine ⟨_, rfl, ?_⟩
 have l18 := (show (Zm zq3).length ≤ 17 from Z0K _)
 have S19 := H17.pk [0, 1]
 refine kh S19 <| zhy 3 ?_
 have l26 := ZA p.r
 refine zdc 7 (Z0C w9 r10 a11 c12 (Zm zq3) (H17.fn [2, 3]) om p.r om) ?_
 rintro _ w21 ⟨a23, c24, rfl, T22⟩
 have H27 := H17.tl [Z0 r10 266 (Z0N a23 (((Zm zq3) ++ Z5 p.r).length) c24), (Z0O a23 ((Zm zq3) ++ Z5 p.r) c24)] [2, 3] [0, 1] T22 [2, 3, 0, 1]
 refine ⟨_, rfl, ?_⟩
 have S28 := H27.pk [0, 1]
 refine kh S28 <| zhy 6 ?_
 have l35 := ZA p.e
 refine zdc 10 (Z0C w21 r10 a23 c24 ((Zm zq3) ++ Z5 p.r) (H27.fn [2, 3]) (by simp only [List.length_append, List.length_nil]; omega) p.e om) ?_
 rintro _ w30 ⟨a32, c33, rfl, T31⟩
 have H36 := H27.tl [Z0 r10 266 (Z0N a32 ((((Zm zq3) ++ Z5 p.r) ++ Z5 p.e).length) c33), (Z0O a32 (((Zm zq3) ++ Z5 p.r) ++ Z5 p.e) c33)] [2, 3] [0, 1] T31 [2, 3, 0, 1]
 refine ⟨_, rfl, ?_⟩
 have S37 := H36.pk [0, 1]
 refine kh S37 <| zhy 9 ?_
 have l44 := Z2I p.f.toNat
 refine Z10 (d := 13) rfl (by rw [show p.f = ((p.f.toNat : Nat) : Int) by omega]; kernel_rfl) (Z6a w30 r10 a32 c33 (((Zm zq3) ++ Z5 p.r) ++ Z5 p.e) (H36.fn [2, 3]) (by simp only [List.length_append, List.length_nil]; omega) p.f.toNat om) ?_
 rintro _ w39 ⟨a41, c42, rfl, T40⟩
 have H45 := H36.tl [Z0 r10 266 (Z0N a41 (((((Zm zq3) ++ Z5 p.r) ++ Z5 p.e) ++ Z1I p.f.toNat).length) c42), (Z0O a41 ((((Zm zq3) ++ Z5 p.r) ++ Z5 p.e) ++ Z1I p.f.toNat) c42)] [2, 3] [0, 1] T40 [2, 3, 0, 1]
 refine ⟨_, rfl, ?_⟩
 have S46 := H45.pk [0, 1]
 refine kh S46 <| hv0 10 S46 3 (pt r10 0) <| zhf <| ztn <| zsl <| wv 14 (pt r10 0) <| wv 15 (pt b2 3) <| zw1 16 (.slice p.ca p.C.length p.cc) (H45.cell 1 rfl rfl) <| zy ?_
 have l53 := ZA (p.C.length : Int)
 have l54 := Z4m (g := Z0e) p.C (fun c hc => Z1V (Z6z hB c hc))
 refine zdc 17 (Z5V w39 r10 a41 c42 ((((Zm zq3) ++ Z5 p.r) ++ Z5 p.e) ++ Z1I p.f.toNat) (H45.fn [2, 3]) (by simp only [List.length_append, List.length_nil]; omega) p.ca p.cc p.C (ListAt.now H45 0 rfl hC) (Z57 (sz := 38) Z13 (by decide) H45 [2, 3] 0 rfl rfl (by decide) hC (fun _ _ _ h => h)) (fun i_ hi_ => (hB i_ hi_).keep H45 0 rfl) (fun i_ hi_ => (Z57 (sz := 38) Z3H (by decide) H45 [2, 3] 0 rfl rfl (by decide) (hB i_ hi_).at_ (fun _ _ _ h => h))) om) ?_
 rintro _ w48 ⟨a50, c51, rfl, T49⟩
 have H55 := H45.tl [Z0 r10 266 (Z0N a50 ((((((Zm zq3) ++ Z5 p.r) ++ Z5 p.e) ++ Z1I p.f.toNat) ++ (Z5 (p.C.length : Int) ++ p.C.flatMap Z0e)).length) c51), (Z0O a50 (((((Zm zq3) ++ Z5 p.r) ++ Z5 p.e) ++ Z1I p.f.toNat) ++ (Z5 (p.C.length : Int) ++ p.C.flatMap Z0e)) c51)] [2, 3] [0, 1] T49 [2, 3, 0, 1]
 refine ⟨_, rfl, ?_⟩
 refine kk <| Z1a <| wv 18 (pt r10 0) <| zy <| zdc 19 (Z26 w48 r10 a50 c51 (((((Zm zq3) ++ Z5 p.r) ++ Z5 p.e) ++ Z1I p.f.toNat) ++ (Z5 (p.C.length : Int) ++ p.C.flatMap Z0e)) (H55.fn [2, 3]) (by simp only [List.length_append, List.length_nil]; omega)) ?_
 rintro _ w57 ⟨u58, rfl, T59⟩
 have H60 := H55.tl [Z0 r10 266 (Z0N a50 ((((((Zm zq3) ++ Z5 p.r) ++ Z5 p.e) ++ Z1I p.f.toNat) ++ (Z5 (p.C.length : Int) ++ p.C.flatMap Z0e)).length) c51), (Z0O a50 (((((Zm zq3) ++ Z5 p.r) ++ Z5 p.e) ++ Z1I p.f.toNat) ++ (Z5 (p.C.length : Int) ++ p.C.flatMap Z0e)) c51), Zo 5 1 u58 ((((((Zm zq3) ++ Z5 p.r) ++ Z5 p.e) ++ Z1I p.f.toNat) ++ (Z5 (p.C.length : Int) ++ p.C.flatMap Z0e)).length) ((((((Zm zq3) ++ Z5 p.r) ++ Z5 p.e) ++ Z1I p.f.toNat) ++ (Z5 (p.C.length : Int) ++ p.C.flatMap Z0e)).flatMap Zx)] [2, 3] [0, 1] T59 [3, 4, 0, 1, 2]
 obtain ⟨a61, c62, rfl⟩ := Z3 (H60.at 4 rfl)
 refine ⟨_, rfl, ?_⟩
 refine kk <| wv 2 (.slice a61 (((((Zm zq3) ++ Z5 p.r) ++ Z5 p.e) ++ Z1I p.f.toNat) ++ (Z5 (p.C.length : Int) ++ p.C.flatMap Z0e)).length c62) <| znt <| Zk <| ze1 (.slice a61 (((((Zm zq3) ++ Z5 p.r) ++ Z5 p.e) ++ Z1I p.f.toNat) ++ (Z5 (p.C.length : Int) ++ p.C.flatMap Z0e)).length c62) ?_
 have hX : (((((Zm zq3) ++ Z5 p.r) ++ Z5 p.e) ++ Z1I p.f.toNat) ++ (Z5 (p.C.length : Int) ++ p.C.flatMap Z0e)) = Z11 p := by simp only [Z11, Z1O, Z5P, List.flatten_cons, List.flatten_nil, List.append_nil, List.append_assoc, List.nil_append]
 exact ⟨_, rfl, (by rw [← hX]; exact H60.at 4 rfl), H60.upd 0 rfl [] ne, (by rw [← hX]; exact H60.fresh 0 rfl (fun _ h => h) 4 rfl rfl)⟩
end Go.Proofs.YtenihpghfdcpkaaGreat
