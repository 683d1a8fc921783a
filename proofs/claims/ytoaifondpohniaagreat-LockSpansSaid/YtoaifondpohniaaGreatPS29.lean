/- WHAT IS PROVED: contracts and plain laws of Put12. Conditions: stated with each. -/
import Derived.Test.YtoaifondpohniaaGreatPS07
import Derived.Test.YtoaifondpohniaaGreatPS19
set_option maxHeartbeats 4000000
set_option maxRecDepth 100000
namespace Go.Proofs.YtoaifondpohniaaGreat
open Go.RowKit
theorem Z3B {va : Option Addr} {n c n' c' : Nat} {ad : Addr} (h : Value.slice va n c = .slice (some ad) n' c') : va = some ad := by simp only [Value.slice.injEq] at h; exact h.1
theorem Z2W {α : Type} {enc : α → List Value} {sz : Nat} (hs : ∀ x, (enc x).length = sz) (h0 : 0 < sz) {W w : World} {D : Nat → Prop} {G : List Ck} (H : Sat W G w) (is : List Nat) (j : Nat) {B : List Ck} (hB : (is.filterMap fun i => G[i]?) = B) (hj : G[j]? = some (Z6 W D)) (hne : is.all (fun i => !Nat.beq i j) = true) {va : Option Addr} {n vc : Nat} {ls : List α} (hv : ListAt enc sz W (.slice va n vc) ls) (hf : 0 < ls.length → ∀ ad, va = some ad → ¬ D ad.block) : 0 < ls.length → ∀ a, va = some a → ¬ (ZH B).fp a.block := by
 intro h1 a ha hfp
 obtain ⟨vb, vo, vc', hva, hvs⟩ := hv.cells hs h0 h1
 have h2 : va = some ⟨vb, vo, none⟩ := by simp only [Value.slice.injEq] at hva; exact hva.1
 have h3 := h2
 rw [ha] at h3
 obtain rfl := (Option.some.inj h3)
 have hl : 0 < (ls.flatMap enc).length := by rw [Z1i enc sz hs]; exact Nat.mul_pos h1 h0
 have hc := hvs 0 _ (List.getElem?_eq_getElem hl)
 rw [Addr.add_lit] at hc
 have hlt := World.block_lt_of_cell? W _ hc
 subst hB
 obtain ⟨A, hA, hAf⟩ := hfp
 obtain ⟨i, hi, he⟩ := List.mem_filterMap.1 hA
 have hij : Nat.beq i j = false := by simpa using List.all_eq_true.1 hne i hi
 exact H.apart i j he hj hij _ hAf ⟨hlt, hf h1 _ ha⟩
theorem CeB.keepD {w w0 w' : World} {G : List Ck} {D : Nat → Prop} {c : CeR} (h : CeB w c) (H : Sat w0 G w') (j : Nat) (hj : G[j]? = some (Z6 w D)) (hf : 0 < c.S.length → ∀ ad, c.sa = some ad → ¬ D ad.block) : CeB w' c := ⟨h.x, ListAt.nowD H j hj h.at_ hf, h.S, h.len⟩
theorem Z5P (w : World) (r : Nat) (a0 : Option Addr) (c0 : Nat) (B : List UInt8) (hB : (ZH (wrL r a0 c0 B)).ok w) (hl : B.length ≤ 900000) (a b : Int) (hs : a ≤ 9223372036854775807 ∧ b ≤ 9223372036854775807) :
  Calls Tryz.prog 126 #[(.pointer (some ⟨r, 0, none⟩)), (.agg ⟨([(.int .i64 (a)), (.int .i64 (b))] : List Value)⟩)] w fun e w' => ∃ a' c', e = .returned (.tuple #[]) ∧ Sat w [Z3 r 174 [.slice a' (B ++ Z2X a b).length c'], Zb 5 1 (.slice a' (B ++ Z2X a b).length c') (B ++ Z2X a b).length ((B ++ Z2X a b).flatMap Zr), Z6 w (ZH (wrL r a0 c0 B)).fp] w' := by
 have H : Sat w [Z3 r 174 ([(.slice a0 B.length c0)] : List Value), Zb 5 1 (.slice a0 B.length c0) B.length (B.flatMap Zr), Z6 w (ZH (wrL r a0 c0 B)).fp] w := Sat.start (wrL r a0 c0 B) hB
 refine ZE Tryz.func126 rfl 11 rfl (Nat.le_of_ble_eq_true rfl) ?_
 refine Zc ?_
 refine Zp ?_
 refine ZA (Z1 rfl) (fun K1 hK1 => ?_)
 refine Z0H (vs := ([(.int .i64 (a)), (.int .i64 (b))] : List Value)) rfl H rfl rfl ?_
 intro b2 w3 (H4 : Sat w [Z3 r 174 ([(.slice a0 B.length c0)] : List Value), Zb 5 1 (.slice a0 B.length c0) B.length (B.flatMap Zr), Z6 w (ZH (wrL r a0 c0 B)).fp, Z3 b2 29 ([(.int .i64 (a)), (.int .i64 (b))] : List Value)] w3)
 refine hK1 _ _ ?_
 clear hK1 K1
 refine Zm ?_
 refine Z4 ?_
 refine Z0k H4 [Z6 w (ZH (wrL r a0 c0 B)).fp, Z3 b2 29 ([(.int .i64 (a)), (.int .i64 (b))] : List Value)] 7 rfl (by kernel_rfl) (fun Hx => (Hx.pick [2, 3] (by decide))) ?_
 intro w5 H6 S7
 refine Ze 0 rfl (by kernel_rfl) (by kernel_rfl) (by kernel_rfl) (fun _ _ _ h => h) S7 (Z1 rfl) (d := 4) (v := (.pointer (some ⟨r, 0, none⟩))) rfl (fun _ H' => (by kernel_rfl)) ?_
 refine Ze 1 rfl (by kernel_rfl) (by kernel_rfl) (by kernel_rfl) (fun _ _ _ h => h) S7 (Z1 rfl) (d := 5) (v := (.pointer (some ⟨b2, 0, none⟩))) rfl (fun _ H' => (by kernel_rfl)) ?_
 refine Ze 2 rfl (by kernel_rfl) (by kernel_rfl) (by kernel_rfl) (fun _ _ _ h => h) S7 (Z1 rfl) (d := 6) (v := (.int .i64 (a))) rfl (fun _ H' => (Zi rfl (by kernel_rfl) (H'.cell 1 rfl rfl))) ?_
 refine Ze 4 rfl (by kernel_rfl) (by kernel_rfl) (by kernel_rfl) (fun _ _ _ h => h) S7 (Z1 rfl) (d := 8) (v := (.pointer (some ⟨b2, 1, none⟩))) rfl (fun _ H' => (by kernel_rfl)) ?_
 refine Ze 5 rfl (by kernel_rfl) (by kernel_rfl) (by kernel_rfl) (fun _ _ _ h => h) S7 (Z1 rfl) (d := 9) (v := (.int .i64 (b))) rfl (fun _ H' => (Zi rfl (by kernel_rfl) (H'.cell 1 rfl rfl))) ?_
 refine Z0r 3 rfl (by kernel_rfl) (Z1 rfl) (fun K8 hK8 => ?_)
 have l14 := ZN a
 refine Zv (d := 7) rfl (by kernel_rfl) (Z0z w5 r a0 c0 B (H6.fin [0, 1] (by decide) rfl) (by omega) a (by omega)) ?_
 rintro _ w9 ⟨a11, c12, rfl, T10⟩
 have H15 : Sat w [Z3 r 174 ([(.slice a11 ((B ++ Z9 a).length) c12)] : List Value), Zb 5 1 (.slice a11 ((B ++ Z9 a).length) c12) ((B ++ Z9 a).length) ((B ++ Z9 a).flatMap Zr), Z6 w (ZH (wrL r a0 c0 B)).fp, Z3 b2 29 ([(.int .i64 (a)), (.int .i64 (b))] : List Value)] w9 := (Sat.turnL (L' := [Z3 r 174 ([(.slice a11 ((B ++ Z9 a).length) c12)] : List Value), Zb 5 1 (.slice a11 ((B ++ Z9 a).length) c12) ((B ++ Z9 a).length) ((B ++ Z9 a).flatMap Zr)]) (R := [Z6 w (ZH (wrL r a0 c0 B)).fp, Z3 b2 29 ([(.int .i64 (a)), (.int .i64 (b))] : List Value)]) H6 [0, 1] [2, 3] (by decide) (by kernel_rfl) rfl T10).pick [0, 1, 2, 3] (by decide)
 refine ⟨_, rfl, ?_⟩
 have S16 := H15.pick [2, 3] (by decide)
 refine hK8 _ _ S16 ?_
 clear hK8 K8
 refine Z0r 6 rfl (by kernel_rfl) (Z1 rfl) (fun K17 hK17 => ?_)
 have l23 := ZN b
 refine Zv (d := 10) rfl (by kernel_rfl) (Z0z w9 r a11 c12 (B ++ Z9 a) (H15.fin [0, 1] (by decide) rfl) (by simp only [List.length_append, List.length_nil]; omega) b (by omega)) ?_
 rintro _ w18 ⟨a20, c21, rfl, T19⟩
 have H24 : Sat w [Z3 r 174 ([(.slice a20 (((B ++ Z9 a) ++ Z9 b).length) c21)] : List Value), Zb 5 1 (.slice a20 (((B ++ Z9 a) ++ Z9 b).length) c21) (((B ++ Z9 a) ++ Z9 b).length) (((B ++ Z9 a) ++ Z9 b).flatMap Zr), Z6 w (ZH (wrL r a0 c0 B)).fp, Z3 b2 29 ([(.int .i64 (a)), (.int .i64 (b))] : List Value)] w18 := (Sat.turnL (L' := [Z3 r 174 ([(.slice a20 (((B ++ Z9 a) ++ Z9 b).length) c21)] : List Value), Zb 5 1 (.slice a20 (((B ++ Z9 a) ++ Z9 b).length) c21) (((B ++ Z9 a) ++ Z9 b).length) (((B ++ Z9 a) ++ Z9 b).flatMap Zr)]) (R := [Z6 w (ZH (wrL r a0 c0 B)).fp, Z3 b2 29 ([(.int .i64 (a)), (.int .i64 (b))] : List Value)]) H15 [0, 1] [2, 3] (by decide) (by kernel_rfl) rfl T19).pick [0, 1, 2, 3] (by decide)
 refine ⟨_, rfl, ?_⟩
 have S25 := H24.pick [2, 3] (by decide)
 refine hK17 _ _ S25 ?_
 clear hK17 K17
 refine Z0C (by kernel_rfl) ?_
 refine Z0Y ?_
 refine Z7H rfl  ?_
 have hX : ((B ++ Z9 a) ++ Z9 b) = (B ++ Z2X a b) := by simp only [Z2X, List.flatten_cons, List.flatten_nil, List.append_nil, List.append_assoc, List.nil_append]
 exact ⟨a20, c21, rfl, (H24.pick [0, 1, 2] (by decide)).cast (by show [_, _, _] = _; rw [hX])⟩
theorem Z4m (w : World) (r : Nat) (a0 : Option Addr) (c0 : Nat) (B : List UInt8) (hB : (ZH (wrL r a0 c0 B)).ok w) (hl : B.length ≤ 800000) (s : Zd) (hs : StB s) :
  Calls Tryz.prog 116 #[(.pointer (some ⟨r, 0, none⟩)), (.agg ⟨(([(.int .i64 (s.r)), (.int .i64 (s.cl)), (.int .i64 (s.seq))] : List Value) ++ hc s.h ++ ([(.int .u64 (s.t)), (.int .i64 (s.sb)), (.int .i64 (s.sm))] : List Value))⟩)] w fun e w' => ∃ a' c', e = .returned (.tuple #[]) ∧ Sat w [Z3 r 174 [.slice a' (B ++ ZQ s).length c'], Zb 5 1 (.slice a' (B ++ ZQ s).length c') (B ++ ZQ s).length ((B ++ ZQ s).flatMap Zr), Z6 w (ZH (wrL r a0 c0 B)).fp] w' := by
 have H : Sat w [Z3 r 174 ([(.slice a0 B.length c0)] : List Value), Zb 5 1 (.slice a0 B.length c0) B.length (B.flatMap Zr), Z6 w (ZH (wrL r a0 c0 B)).fp] w := Sat.start (wrL r a0 c0 B) hB
 unfold StB at hs
 refine ZE Tryz.func116 rfl 23 rfl (Nat.le_of_ble_eq_true rfl) ?_
 refine Zc ?_
 refine Zp ?_
 refine ZA (Z1 rfl) (fun K1 hK1 => ?_)
 refine Z0H (vs := (([(.int .i64 (s.r)), (.int .i64 (s.cl)), (.int .i64 (s.seq))] : List Value) ++ hc s.h ++ ([(.int .u64 (s.t)), (.int .i64 (s.sb)), (.int .i64 (s.sm))] : List Value))) rfl H rfl rfl ?_
 intro b2 w3 (H4 : Sat w [Z3 r 174 ([(.slice a0 B.length c0)] : List Value), Zb 5 1 (.slice a0 B.length c0) B.length (B.flatMap Zr), Z6 w (ZH (wrL r a0 c0 B)).fp, Z3 b2 101 (([(.int .i64 (s.r)), (.int .i64 (s.cl)), (.int .i64 (s.seq))] : List Value) ++ hc s.h ++ ([(.int .u64 (s.t)), (.int .i64 (s.sb)), (.int .i64 (s.sm))] : List Value))] w3)
 refine hK1 _ _ ?_
 clear hK1 K1
 refine Zm ?_
 refine Z4 ?_
 refine Zc ?_
 refine Zp ?_
 refine Z2 (Z1 rfl) (d := 4) (v := (.pointer (some ⟨r, 0, none⟩))) rfl (by kernel_rfl) ?_
 refine Z2 (Z1 rfl) (d := 5) (v := (.pointer (some ⟨b2, 0, none⟩))) rfl (by kernel_rfl) ?_
 refine Z2 (Z1 rfl) (d := 6) (v := (.int .i64 (s.r))) rfl (Zi rfl (by kernel_rfl) (H4.cell 3 rfl (by kernel_rfl))) ?_
 refine ZA (Z1 rfl) (fun K5 hK5 => ?_)
 have l11 := ZN s.r
 refine Zv (d := 7) rfl (by kernel_rfl) (Z0z w3 r a0 c0 B (H4.fin [0, 1] (by decide) rfl) (by omega) s.r (by omega)) ?_
 rintro _ w6 ⟨a8, c9, rfl, T7⟩
 have H12 : Sat w [Z3 r 174 ([(.slice a8 ((B ++ Z9 s.r).length) c9)] : List Value), Zb 5 1 (.slice a8 ((B ++ Z9 s.r).length) c9) ((B ++ Z9 s.r).length) ((B ++ Z9 s.r).flatMap Zr), Z6 w (ZH (wrL r a0 c0 B)).fp, Z3 b2 101 (([(.int .i64 (s.r)), (.int .i64 (s.cl)), (.int .i64 (s.seq))] : List Value) ++ hc s.h ++ ([(.int .u64 (s.t)), (.int .i64 (s.sb)), (.int .i64 (s.sm))] : List Value))] w6 := (Sat.turnL (L' := [Z3 r 174 ([(.slice a8 ((B ++ Z9 s.r).length) c9)] : List Value), Zb 5 1 (.slice a8 ((B ++ Z9 s.r).length) c9) ((B ++ Z9 s.r).length) ((B ++ Z9 s.r).flatMap Zr)]) (R := [Z6 w (ZH (wrL r a0 c0 B)).fp, Z3 b2 101 (([(.int .i64 (s.r)), (.int .i64 (s.cl)), (.int .i64 (s.seq))] : List Value) ++ hc s.h ++ ([(.int .u64 (s.t)), (.int .i64 (s.sb)), (.int .i64 (s.sm))] : List Value))]) H4 [0, 1] [2, 3] (by decide) (by kernel_rfl) rfl T7).pick [0, 1, 2, 3] (by decide)
 refine ⟨_, rfl, ?_⟩
 refine hK5 _ _ ?_
 clear hK5 K5
 refine Zm ?_
 refine Z4 ?_
 refine Zc ?_
 refine Zp ?_
 refine Z2 (Z1 rfl) (d := 8) (v := (.pointer (some ⟨r, 0, none⟩))) rfl (by kernel_rfl) ?_
 refine Z2 (Z1 rfl) (d := 9) (v := (.pointer (some ⟨b2, 1, none⟩))) rfl (by kernel_rfl) ?_
 refine Z2 (Z1 rfl) (d := 10) (v := (.agg ⟨([(.int .i64 (s.cl)), (.int .i64 (s.seq))] : List Value)⟩)) rfl (ZB (vs := ([(.int .i64 (s.cl)), (.int .i64 (s.seq))] : List Value)) rfl (by kernel_rfl) (by kernel_rfl) (by exact Nat.le_of_ble_eq_true (by kernel_rfl)) (H12.at 3 rfl) (by kernel_rfl)) ?_
 refine ZA (Z1 rfl) (fun K13 hK13 => ?_)
 have l19 := Z1w s.cl s.seq
 refine Zv (d := 11) rfl (by kernel_rfl) (Z2H w6 r a8 c9 (B ++ Z9 s.r) (H12.fin [0, 1] (by decide) rfl) (by simp only [List.length_append, List.length_nil]; omega) s.cl s.seq (by omega)) ?_
 rintro _ w14 ⟨a16, c17, rfl, T15⟩
 have H20 : Sat w [Z3 r 174 ([(.slice a16 (((B ++ Z9 s.r) ++ ZD s.cl s.seq).length) c17)] : List Value), Zb 5 1 (.slice a16 (((B ++ Z9 s.r) ++ ZD s.cl s.seq).length) c17) (((B ++ Z9 s.r) ++ ZD s.cl s.seq).length) (((B ++ Z9 s.r) ++ ZD s.cl s.seq).flatMap Zr), Z6 w (ZH (wrL r a0 c0 B)).fp, Z3 b2 101 (([(.int .i64 (s.r)), (.int .i64 (s.cl)), (.int .i64 (s.seq))] : List Value) ++ hc s.h ++ ([(.int .u64 (s.t)), (.int .i64 (s.sb)), (.int .i64 (s.sm))] : List Value))] w14 := (Sat.turnL (L' := [Z3 r 174 ([(.slice a16 (((B ++ Z9 s.r) ++ ZD s.cl s.seq).length) c17)] : List Value), Zb 5 1 (.slice a16 (((B ++ Z9 s.r) ++ ZD s.cl s.seq).length) c17) (((B ++ Z9 s.r) ++ ZD s.cl s.seq).length) (((B ++ Z9 s.r) ++ ZD s.cl s.seq).flatMap Zr)]) (R := [Z6 w (ZH (wrL r a0 c0 B)).fp, Z3 b2 101 (([(.int .i64 (s.r)), (.int .i64 (s.cl)), (.int .i64 (s.seq))] : List Value) ++ hc s.h ++ ([(.int .u64 (s.t)), (.int .i64 (s.sb)), (.int .i64 (s.sm))] : List Value))]) H12 [0, 1] [2, 3] (by decide) (by kernel_rfl) rfl T15).pick [0, 1, 2, 3] (by decide)
 refine ⟨_, rfl, ?_⟩
 refine hK13 _ _ ?_
 clear hK13 K13
 refine Zm ?_
 refine Z4 ?_
 refine Zc ?_
 refine Z0k H20 [Z6 w (ZH (wrL r a0 c0 B)).fp, Z3 b2 101 (([(.int .i64 (s.r)), (.int .i64 (s.cl)), (.int .i64 (s.seq))] : List Value) ++ hc s.h ++ ([(.int .u64 (s.t)), (.int .i64 (s.sb)), (.int .i64 (s.sm))] : List Value))] 7 rfl (by kernel_rfl) (fun Hx => (Hx.pick [2, 3] (by decide))) ?_
 intro w21 H22 S23
 refine Ze 0 rfl (by kernel_rfl) (by kernel_rfl) (by kernel_rfl) (fun _ _ _ h => h) S23 (Z1 rfl) (d := 12) (v := (.pointer (some ⟨r, 0, none⟩))) rfl (fun _ H' => (by kernel_rfl)) ?_
 refine Ze 1 rfl (by kernel_rfl) (by kernel_rfl) (by kernel_rfl) (fun _ _ _ h => h) S23 (Z1 rfl) (d := 13) (v := (.pointer (some ⟨b2, 3, none⟩))) rfl (fun _ H' => (by kernel_rfl)) ?_
 refine Ze 2 rfl (by kernel_rfl) (by kernel_rfl) (by kernel_rfl) (fun _ _ _ h => h) S23 (Z1 rfl) (d := 14) (v := (.agg ⟨(hc s.h)⟩)) rfl (fun _ H' => (ZB (vs := (hc s.h)) rfl (by kernel_rfl) (by kernel_rfl) (by exact Nat.le_of_ble_eq_true (by kernel_rfl)) (H'.at 1 rfl) (by kernel_rfl))) ?_
 refine Ze 4 rfl (by kernel_rfl) (by kernel_rfl) (by kernel_rfl) (fun _ _ _ h => h) S23 (Z1 rfl) (d := 16) (v := (.pointer (some ⟨b2, 35, none⟩))) rfl (fun _ H' => (by kernel_rfl)) ?_
 refine Ze 5 rfl (by kernel_rfl) (by kernel_rfl) (by kernel_rfl) (fun _ _ _ h => h) S23 (Z1 rfl) (d := 17) (v := (.int .u64 (s.t))) rfl (fun _ H' => (Zi rfl (by kernel_rfl) (H'.cell 1 rfl (by kernel_rfl)))) ?_
 refine Z0r 3 rfl (by kernel_rfl) (Z1 rfl) (fun K24 hK24 => ?_)
 have l30 := s.h.len
 refine Zv (d := 15) rfl (by kernel_rfl) (Z1B w21 r a16 c17 ((B ++ Z9 s.r) ++ ZD s.cl s.seq) (H22.fin [0, 1] (by decide) rfl) (by simp only [List.length_append, List.length_nil]; omega) s.h) ?_
 rintro _ w25 ⟨a27, c28, rfl, T26⟩
 have H31 : Sat w [Z3 r 174 ([(.slice a27 ((((B ++ Z9 s.r) ++ ZD s.cl s.seq) ++ s.h.l).length) c28)] : List Value), Zb 5 1 (.slice a27 ((((B ++ Z9 s.r) ++ ZD s.cl s.seq) ++ s.h.l).length) c28) ((((B ++ Z9 s.r) ++ ZD s.cl s.seq) ++ s.h.l).length) ((((B ++ Z9 s.r) ++ ZD s.cl s.seq) ++ s.h.l).flatMap Zr), Z6 w (ZH (wrL r a0 c0 B)).fp, Z3 b2 101 (([(.int .i64 (s.r)), (.int .i64 (s.cl)), (.int .i64 (s.seq))] : List Value) ++ hc s.h ++ ([(.int .u64 (s.t)), (.int .i64 (s.sb)), (.int .i64 (s.sm))] : List Value))] w25 := (Sat.turnL (L' := [Z3 r 174 ([(.slice a27 ((((B ++ Z9 s.r) ++ ZD s.cl s.seq) ++ s.h.l).length) c28)] : List Value), Zb 5 1 (.slice a27 ((((B ++ Z9 s.r) ++ ZD s.cl s.seq) ++ s.h.l).length) c28) ((((B ++ Z9 s.r) ++ ZD s.cl s.seq) ++ s.h.l).length) ((((B ++ Z9 s.r) ++ ZD s.cl s.seq) ++ s.h.l).flatMap Zr)]) (R := [Z6 w (ZH (wrL r a0 c0 B)).fp, Z3 b2 101 (([(.int .i64 (s.r)), (.int .i64 (s.cl)), (.int .i64 (s.seq))] : List Value) ++ hc s.h ++ ([(.int .u64 (s.t)), (.int .i64 (s.sb)), (.int .i64 (s.sm))] : List Value))]) H22 [0, 1] [2, 3] (by decide) (by kernel_rfl) rfl T26).pick [0, 1, 2, 3] (by decide)
 refine ⟨_, rfl, ?_⟩
 have S32 := H31.pick [2, 3] (by decide)
 refine hK24 _ _ S32 ?_
 clear hK24 K24
 refine Z0r 6 rfl (by kernel_rfl) (Z1 rfl) (fun K33 hK33 => ?_)
 have l39 := Z1G s.t.toNat
 refine Zv (d := 18) rfl (by rw [show s.t = ((s.t.toNat : Nat) : Int) by omega]; kernel_rfl) (Z2F w25 r a27 c28 (((B ++ Z9 s.r) ++ ZD s.cl s.seq) ++ s.h.l) (H31.fin [0, 1] (by decide) rfl) (by simp only [List.length_append, List.length_nil]; omega) s.t.toNat (by omega)) ?_
 rintro _ w34 ⟨a36, c37, rfl, T35⟩
 have H40 : Sat w [Z3 r 174 ([(.slice a36 (((((B ++ Z9 s.r) ++ ZD s.cl s.seq) ++ s.h.l) ++ Z0g s.t.toNat).length) c37)] : List Value), Zb 5 1 (.slice a36 (((((B ++ Z9 s.r) ++ ZD s.cl s.seq) ++ s.h.l) ++ Z0g s.t.toNat).length) c37) (((((B ++ Z9 s.r) ++ ZD s.cl s.seq) ++ s.h.l) ++ Z0g s.t.toNat).length) (((((B ++ Z9 s.r) ++ ZD s.cl s.seq) ++ s.h.l) ++ Z0g s.t.toNat).flatMap Zr), Z6 w (ZH (wrL r a0 c0 B)).fp, Z3 b2 101 (([(.int .i64 (s.r)), (.int .i64 (s.cl)), (.int .i64 (s.seq))] : List Value) ++ hc s.h ++ ([(.int .u64 (s.t)), (.int .i64 (s.sb)), (.int .i64 (s.sm))] : List Value))] w34 := (Sat.turnL (L' := [Z3 r 174 ([(.slice a36 (((((B ++ Z9 s.r) ++ ZD s.cl s.seq) ++ s.h.l) ++ Z0g s.t.toNat).length) c37)] : List Value), Zb 5 1 (.slice a36 (((((B ++ Z9 s.r) ++ ZD s.cl s.seq) ++ s.h.l) ++ Z0g s.t.toNat).length) c37) (((((B ++ Z9 s.r) ++ ZD s.cl s.seq) ++ s.h.l) ++ Z0g s.t.toNat).length) (((((B ++ Z9 s.r) ++ ZD s.cl s.seq) ++ s.h.l) ++ Z0g s.t.toNat).flatMap Zr)]) (R := [Z6 w (ZH (wrL r a0 c0 B)).fp, Z3 b2 101 (([(.int .i64 (s.r)), (.int .i64 (s.cl)), (.int .i64 (s.seq))] : List Value) ++ hc s.h ++ ([(.int .u64 (s.t)), (.int .i64 (s.sb)), (.int .i64 (s.sm))] : List Value))]) H31 [0, 1] [2, 3] (by decide) (by kernel_rfl) rfl T35).pick [0, 1, 2, 3] (by decide)
 refine ⟨_, rfl, ?_⟩
 have S41 := H40.pick [2, 3] (by decide)
 refine hK33 _ _ S41 ?_
 clear hK33 K33
 refine Z0C (by kernel_rfl) ?_
 refine Z4 ?_
 refine Zp ?_
 refine Z2 (Z1 rfl) (d := 19) (v := (.pointer (some ⟨r, 0, none⟩))) rfl (by kernel_rfl) ?_
 refine Z2 (Z1 rfl) (d := 20) (v := (.pointer (some ⟨b2, 36, none⟩))) rfl (by kernel_rfl) ?_
 refine Z2 (Z1 rfl) (d := 21) (v := (.agg ⟨([(.int .i64 (s.sb)), (.int .i64 (s.sm))] : List Value)⟩)) rfl (ZB (vs := ([(.int .i64 (s.sb)), (.int .i64 (s.sm))] : List Value)) rfl (by kernel_rfl) (by kernel_rfl) (by exact Nat.le_of_ble_eq_true (by kernel_rfl)) (H40.at 3 rfl) (by kernel_rfl)) ?_
 refine ZA (Z1 rfl) (fun K42 hK42 => ?_)
 have l48 := Z3u s.sb s.sm
 refine Zv (d := 22) rfl (by kernel_rfl) (Z5P w34 r a36 c37 ((((B ++ Z9 s.r) ++ ZD s.cl s.seq) ++ s.h.l) ++ Z0g s.t.toNat) (H40.fin [0, 1] (by decide) rfl) (by simp only [List.length_append, List.length_nil]; omega) s.sb s.sm (by omega)) ?_
 rintro _ w43 ⟨a45, c46, rfl, T44⟩
 have H49 : Sat w [Z3 r 174 ([(.slice a45 ((((((B ++ Z9 s.r) ++ ZD s.cl s.seq) ++ s.h.l) ++ Z0g s.t.toNat) ++ Z2X s.sb s.sm).length) c46)] : List Value), Zb 5 1 (.slice a45 ((((((B ++ Z9 s.r) ++ ZD s.cl s.seq) ++ s.h.l) ++ Z0g s.t.toNat) ++ Z2X s.sb s.sm).length) c46) ((((((B ++ Z9 s.r) ++ ZD s.cl s.seq) ++ s.h.l) ++ Z0g s.t.toNat) ++ Z2X s.sb s.sm).length) ((((((B ++ Z9 s.r) ++ ZD s.cl s.seq) ++ s.h.l) ++ Z0g s.t.toNat) ++ Z2X s.sb s.sm).flatMap Zr), Z6 w (ZH (wrL r a0 c0 B)).fp, Z3 b2 101 (([(.int .i64 (s.r)), (.int .i64 (s.cl)), (.int .i64 (s.seq))] : List Value) ++ hc s.h ++ ([(.int .u64 (s.t)), (.int .i64 (s.sb)), (.int .i64 (s.sm))] : List Value))] w43 := (Sat.turnL (L' := [Z3 r 174 ([(.slice a45 ((((((B ++ Z9 s.r) ++ ZD s.cl s.seq) ++ s.h.l) ++ Z0g s.t.toNat) ++ Z2X s.sb s.sm).length) c46)] : List Value), Zb 5 1 (.slice a45 ((((((B ++ Z9 s.r) ++ ZD s.cl s.seq) ++ s.h.l) ++ Z0g s.t.toNat) ++ Z2X s.sb s.sm).length) c46) ((((((B ++ Z9 s.r) ++ ZD s.cl s.seq) ++ s.h.l) ++ Z0g s.t.toNat) ++ Z2X s.sb s.sm).length) ((((((B ++ Z9 s.r) ++ ZD s.cl s.seq) ++ s.h.l) ++ Z0g s.t.toNat) ++ Z2X s.sb s.sm).flatMap Zr)]) (R := [Z6 w (ZH (wrL r a0 c0 B)).fp, Z3 b2 101 (([(.int .i64 (s.r)), (.int .i64 (s.cl)), (.int .i64 (s.seq))] : List Value) ++ hc s.h ++ ([(.int .u64 (s.t)), (.int .i64 (s.sb)), (.int .i64 (s.sm))] : List Value))]) H40 [0, 1] [2, 3] (by decide) (by kernel_rfl) rfl T44).pick [0, 1, 2, 3] (by decide)
 refine ⟨_, rfl, ?_⟩
 refine hK42 _ _ ?_
 clear hK42 K42
 refine Zm ?_
 refine Z0Y ?_
 refine Z7H rfl  ?_
 have hX : (((((B ++ Z9 s.r) ++ ZD s.cl s.seq) ++ s.h.l) ++ Z0g s.t.toNat) ++ Z2X s.sb s.sm) = (B ++ ZQ s) := by simp only [ZQ, Z0U, List.flatten_cons, List.flatten_nil, List.append_nil, List.append_assoc, List.nil_append]
 exact ⟨a45, c46, rfl, (H49.pick [0, 1, 2] (by decide)).cast (by show [_, _, _] = _; rw [hX])⟩
theorem Z3X (w : World) (r : Nat) (a0 : Option Addr) (c0 : Nat) (B : List UInt8) (hB : (ZH (wrL r a0 c0 B)).ok w) (hl : B.length ≤ 800000) (s : Zn) (hs : CoB s) :
  Calls Tryz.prog 114 #[(.pointer (some ⟨r, 0, none⟩)), (.agg ⟨(([(.int .i64 (s.cl)), (.int .i64 (s.seq))] : List Value) ++ hc s.h ++ ([(.int .i64 (s.len)), (.int .i64 (s.sb)), (.int .i64 (s.sm))] : List Value))⟩)] w fun e w' => ∃ a' c', e = .returned (.tuple #[]) ∧ Sat w [Z3 r 174 [.slice a' (B ++ Z01 s).length c'], Zb 5 1 (.slice a' (B ++ Z01 s).length c') (B ++ Z01 s).length ((B ++ Z01 s).flatMap Zr), Z6 w (ZH (wrL r a0 c0 B)).fp] w' := by
 have H : Sat w [Z3 r 174 ([(.slice a0 B.length c0)] : List Value), Zb 5 1 (.slice a0 B.length c0) B.length (B.flatMap Zr), Z6 w (ZH (wrL r a0 c0 B)).fp] w := Sat.start (wrL r a0 c0 B) hB
 unfold CoB at hs
 refine ZE Tryz.func114 rfl 19 rfl (Nat.le_of_ble_eq_true rfl) ?_
 refine Zc ?_
 refine Zp ?_
 refine ZA (Z1 rfl) (fun K1 hK1 => ?_)
 refine Z0H (vs := (([(.int .i64 (s.cl)), (.int .i64 (s.seq))] : List Value) ++ hc s.h ++ ([(.int .i64 (s.len)), (.int .i64 (s.sb)), (.int .i64 (s.sm))] : List Value))) rfl H rfl rfl ?_
 intro b2 w3 (H4 : Sat w [Z3 r 174 ([(.slice a0 B.length c0)] : List Value), Zb 5 1 (.slice a0 B.length c0) B.length (B.flatMap Zr), Z6 w (ZH (wrL r a0 c0 B)).fp, Z3 b2 50 (([(.int .i64 (s.cl)), (.int .i64 (s.seq))] : List Value) ++ hc s.h ++ ([(.int .i64 (s.len)), (.int .i64 (s.sb)), (.int .i64 (s.sm))] : List Value))] w3)
 refine hK1 _ _ ?_
 clear hK1 K1
 refine Zm ?_
 refine Z4 ?_
 refine Zc ?_
 refine Zp ?_
 refine Z2 (Z1 rfl) (d := 4) (v := (.pointer (some ⟨r, 0, none⟩))) rfl (by kernel_rfl) ?_
 refine Z2 (Z1 rfl) (d := 5) (v := (.pointer (some ⟨b2, 0, none⟩))) rfl (by kernel_rfl) ?_
 refine Z2 (Z1 rfl) (d := 6) (v := (.agg ⟨([(.int .i64 (s.cl)), (.int .i64 (s.seq))] : List Value)⟩)) rfl (ZB (vs := ([(.int .i64 (s.cl)), (.int .i64 (s.seq))] : List Value)) rfl (by kernel_rfl) (by kernel_rfl) (by exact Nat.le_of_ble_eq_true (by kernel_rfl)) (H4.at 3 rfl) (by kernel_rfl)) ?_
 refine ZA (Z1 rfl) (fun K5 hK5 => ?_)
 have l11 := Z1w s.cl s.seq
 refine Zv (d := 7) rfl (by kernel_rfl) (Z2H w3 r a0 c0 B (H4.fin [0, 1] (by decide) rfl) (by omega) s.cl s.seq (by omega)) ?_
 rintro _ w6 ⟨a8, c9, rfl, T7⟩
 have H12 : Sat w [Z3 r 174 ([(.slice a8 ((B ++ ZD s.cl s.seq).length) c9)] : List Value), Zb 5 1 (.slice a8 ((B ++ ZD s.cl s.seq).length) c9) ((B ++ ZD s.cl s.seq).length) ((B ++ ZD s.cl s.seq).flatMap Zr), Z6 w (ZH (wrL r a0 c0 B)).fp, Z3 b2 50 (([(.int .i64 (s.cl)), (.int .i64 (s.seq))] : List Value) ++ hc s.h ++ ([(.int .i64 (s.len)), (.int .i64 (s.sb)), (.int .i64 (s.sm))] : List Value))] w6 := (Sat.turnL (L' := [Z3 r 174 ([(.slice a8 ((B ++ ZD s.cl s.seq).length) c9)] : List Value), Zb 5 1 (.slice a8 ((B ++ ZD s.cl s.seq).length) c9) ((B ++ ZD s.cl s.seq).length) ((B ++ ZD s.cl s.seq).flatMap Zr)]) (R := [Z6 w (ZH (wrL r a0 c0 B)).fp, Z3 b2 50 (([(.int .i64 (s.cl)), (.int .i64 (s.seq))] : List Value) ++ hc s.h ++ ([(.int .i64 (s.len)), (.int .i64 (s.sb)), (.int .i64 (s.sm))] : List Value))]) H4 [0, 1] [2, 3] (by decide) (by kernel_rfl) rfl T7).pick [0, 1, 2, 3] (by decide)
 refine ⟨_, rfl, ?_⟩
 refine hK5 _ _ ?_
 clear hK5 K5
 refine Zm ?_
 refine Z4 ?_
 refine Zc ?_
 refine Z0k H12 [Z6 w (ZH (wrL r a0 c0 B)).fp, Z3 b2 50 (([(.int .i64 (s.cl)), (.int .i64 (s.seq))] : List Value) ++ hc s.h ++ ([(.int .i64 (s.len)), (.int .i64 (s.sb)), (.int .i64 (s.sm))] : List Value))] 7 rfl (by kernel_rfl) (fun Hx => (Hx.pick [2, 3] (by decide))) ?_
 intro w13 H14 S15
 refine Ze 0 rfl (by kernel_rfl) (by kernel_rfl) (by kernel_rfl) (fun _ _ _ h => h) S15 (Z1 rfl) (d := 8) (v := (.pointer (some ⟨r, 0, none⟩))) rfl (fun _ H' => (by kernel_rfl)) ?_
 refine Ze 1 rfl (by kernel_rfl) (by kernel_rfl) (by kernel_rfl) (fun _ _ _ h => h) S15 (Z1 rfl) (d := 9) (v := (.pointer (some ⟨b2, 2, none⟩))) rfl (fun _ H' => (by kernel_rfl)) ?_
 refine Ze 2 rfl (by kernel_rfl) (by kernel_rfl) (by kernel_rfl) (fun _ _ _ h => h) S15 (Z1 rfl) (d := 10) (v := (.agg ⟨(hc s.h)⟩)) rfl (fun _ H' => (ZB (vs := (hc s.h)) rfl (by kernel_rfl) (by kernel_rfl) (by exact Nat.le_of_ble_eq_true (by kernel_rfl)) (H'.at 1 rfl) (by kernel_rfl))) ?_
 refine Ze 4 rfl (by kernel_rfl) (by kernel_rfl) (by kernel_rfl) (fun _ _ _ h => h) S15 (Z1 rfl) (d := 12) (v := (.pointer (some ⟨b2, 34, none⟩))) rfl (fun _ H' => (by kernel_rfl)) ?_
 refine Ze 5 rfl (by kernel_rfl) (by kernel_rfl) (by kernel_rfl) (fun _ _ _ h => h) S15 (Z1 rfl) (d := 13) (v := (.int .i64 (s.len))) rfl (fun _ H' => (Zi rfl (by kernel_rfl) (H'.cell 1 rfl (by kernel_rfl)))) ?_
 refine Z0r 3 rfl (by kernel_rfl) (Z1 rfl) (fun K16 hK16 => ?_)
 have l22 := s.h.len
 refine Zv (d := 11) rfl (by kernel_rfl) (Z1B w13 r a8 c9 (B ++ ZD s.cl s.seq) (H14.fin [0, 1] (by decide) rfl) (by simp only [List.length_append, List.length_nil]; omega) s.h) ?_
 rintro _ w17 ⟨a19, c20, rfl, T18⟩
 have H23 : Sat w [Z3 r 174 ([(.slice a19 (((B ++ ZD s.cl s.seq) ++ s.h.l).length) c20)] : List Value), Zb 5 1 (.slice a19 (((B ++ ZD s.cl s.seq) ++ s.h.l).length) c20) (((B ++ ZD s.cl s.seq) ++ s.h.l).length) (((B ++ ZD s.cl s.seq) ++ s.h.l).flatMap Zr), Z6 w (ZH (wrL r a0 c0 B)).fp, Z3 b2 50 (([(.int .i64 (s.cl)), (.int .i64 (s.seq))] : List Value) ++ hc s.h ++ ([(.int .i64 (s.len)), (.int .i64 (s.sb)), (.int .i64 (s.sm))] : List Value))] w17 := (Sat.turnL (L' := [Z3 r 174 ([(.slice a19 (((B ++ ZD s.cl s.seq) ++ s.h.l).length) c20)] : List Value), Zb 5 1 (.slice a19 (((B ++ ZD s.cl s.seq) ++ s.h.l).length) c20) (((B ++ ZD s.cl s.seq) ++ s.h.l).length) (((B ++ ZD s.cl s.seq) ++ s.h.l).flatMap Zr)]) (R := [Z6 w (ZH (wrL r a0 c0 B)).fp, Z3 b2 50 (([(.int .i64 (s.cl)), (.int .i64 (s.seq))] : List Value) ++ hc s.h ++ ([(.int .i64 (s.len)), (.int .i64 (s.sb)), (.int .i64 (s.sm))] : List Value))]) H14 [0, 1] [2, 3] (by decide) (by kernel_rfl) rfl T18).pick [0, 1, 2, 3] (by decide)
 refine ⟨_, rfl, ?_⟩
 have S24 := H23.pick [2, 3] (by decide)
 refine hK16 _ _ S24 ?_
 clear hK16 K16
 refine Z0r 6 rfl (by kernel_rfl) (Z1 rfl) (fun K25 hK25 => ?_)
 have l31 := ZN s.len
 refine Zv (d := 14) rfl (by kernel_rfl) (Z0z w17 r a19 c20 ((B ++ ZD s.cl s.seq) ++ s.h.l) (H23.fin [0, 1] (by decide) rfl) (by simp only [List.length_append, List.length_nil]; omega) s.len (by omega)) ?_
 rintro _ w26 ⟨a28, c29, rfl, T27⟩
 have H32 : Sat w [Z3 r 174 ([(.slice a28 ((((B ++ ZD s.cl s.seq) ++ s.h.l) ++ Z9 s.len).length) c29)] : List Value), Zb 5 1 (.slice a28 ((((B ++ ZD s.cl s.seq) ++ s.h.l) ++ Z9 s.len).length) c29) ((((B ++ ZD s.cl s.seq) ++ s.h.l) ++ Z9 s.len).length) ((((B ++ ZD s.cl s.seq) ++ s.h.l) ++ Z9 s.len).flatMap Zr), Z6 w (ZH (wrL r a0 c0 B)).fp, Z3 b2 50 (([(.int .i64 (s.cl)), (.int .i64 (s.seq))] : List Value) ++ hc s.h ++ ([(.int .i64 (s.len)), (.int .i64 (s.sb)), (.int .i64 (s.sm))] : List Value))] w26 := (Sat.turnL (L' := [Z3 r 174 ([(.slice a28 ((((B ++ ZD s.cl s.seq) ++ s.h.l) ++ Z9 s.len).length) c29)] : List Value), Zb 5 1 (.slice a28 ((((B ++ ZD s.cl s.seq) ++ s.h.l) ++ Z9 s.len).length) c29) ((((B ++ ZD s.cl s.seq) ++ s.h.l) ++ Z9 s.len).length) ((((B ++ ZD s.cl s.seq) ++ s.h.l) ++ Z9 s.len).flatMap Zr)]) (R := [Z6 w (ZH (wrL r a0 c0 B)).fp, Z3 b2 50 (([(.int .i64 (s.cl)), (.int .i64 (s.seq))] : List Value) ++ hc s.h ++ ([(.int .i64 (s.len)), (.int .i64 (s.sb)), (.int .i64 (s.sm))] : List Value))]) H23 [0, 1] [2, 3] (by decide) (by kernel_rfl) rfl T27).pick [0, 1, 2, 3] (by decide)
 refine ⟨_, rfl, ?_⟩
 have S33 := H32.pick [2, 3] (by decide)
 refine hK25 _ _ S33 ?_
 clear hK25 K25
 refine Z0C (by kernel_rfl) ?_
 refine Z4 ?_
 refine Zp ?_
 refine Z2 (Z1 rfl) (d := 15) (v := (.pointer (some ⟨r, 0, none⟩))) rfl (by kernel_rfl) ?_
 refine Z2 (Z1 rfl) (d := 16) (v := (.pointer (some ⟨b2, 35, none⟩))) rfl (by kernel_rfl) ?_
 refine Z2 (Z1 rfl) (d := 17) (v := (.agg ⟨([(.int .i64 (s.sb)), (.int .i64 (s.sm))] : List Value)⟩)) rfl (ZB (vs := ([(.int .i64 (s.sb)), (.int .i64 (s.sm))] : List Value)) rfl (by kernel_rfl) (by kernel_rfl) (by exact Nat.le_of_ble_eq_true (by kernel_rfl)) (H32.at 3 rfl) (by kernel_rfl)) ?_
 refine ZA (Z1 rfl) (fun K34 hK34 => ?_)
 have l40 := Z3u s.sb s.sm
 refine Zv (d := 18) rfl (by kernel_rfl) (Z5P w26 r a28 c29 (((B ++ ZD s.cl s.seq) ++ s.h.l) ++ Z9 s.len) (H32.fin [0, 1] (by decide) rfl) (by simp only [List.length_append, List.length_nil]; omega) s.sb s.sm (by omega)) ?_
 rintro _ w35 ⟨a37, c38, rfl, T36⟩
 have H41 : Sat w [Z3 r 174 ([(.slice a37 (((((B ++ ZD s.cl s.seq) ++ s.h.l) ++ Z9 s.len) ++ Z2X s.sb s.sm).length) c38)] : List Value), Zb 5 1 (.slice a37 (((((B ++ ZD s.cl s.seq) ++ s.h.l) ++ Z9 s.len) ++ Z2X s.sb s.sm).length) c38) (((((B ++ ZD s.cl s.seq) ++ s.h.l) ++ Z9 s.len) ++ Z2X s.sb s.sm).length) (((((B ++ ZD s.cl s.seq) ++ s.h.l) ++ Z9 s.len) ++ Z2X s.sb s.sm).flatMap Zr), Z6 w (ZH (wrL r a0 c0 B)).fp, Z3 b2 50 (([(.int .i64 (s.cl)), (.int .i64 (s.seq))] : List Value) ++ hc s.h ++ ([(.int .i64 (s.len)), (.int .i64 (s.sb)), (.int .i64 (s.sm))] : List Value))] w35 := (Sat.turnL (L' := [Z3 r 174 ([(.slice a37 (((((B ++ ZD s.cl s.seq) ++ s.h.l) ++ Z9 s.len) ++ Z2X s.sb s.sm).length) c38)] : List Value), Zb 5 1 (.slice a37 (((((B ++ ZD s.cl s.seq) ++ s.h.l) ++ Z9 s.len) ++ Z2X s.sb s.sm).length) c38) (((((B ++ ZD s.cl s.seq) ++ s.h.l) ++ Z9 s.len) ++ Z2X s.sb s.sm).length) (((((B ++ ZD s.cl s.seq) ++ s.h.l) ++ Z9 s.len) ++ Z2X s.sb s.sm).flatMap Zr)]) (R := [Z6 w (ZH (wrL r a0 c0 B)).fp, Z3 b2 50 (([(.int .i64 (s.cl)), (.int .i64 (s.seq))] : List Value) ++ hc s.h ++ ([(.int .i64 (s.len)), (.int .i64 (s.sb)), (.int .i64 (s.sm))] : List Value))]) H32 [0, 1] [2, 3] (by decide) (by kernel_rfl) rfl T36).pick [0, 1, 2, 3] (by decide)
 refine ⟨_, rfl, ?_⟩
 refine hK34 _ _ ?_
 clear hK34 K34
 refine Zm ?_
 refine Z0Y ?_
 refine Z7H rfl  ?_
 have hX : ((((B ++ ZD s.cl s.seq) ++ s.h.l) ++ Z9 s.len) ++ Z2X s.sb s.sm) = (B ++ Z01 s) := by simp only [Z01, List.flatten_cons, List.flatten_nil, List.append_nil, List.append_assoc, List.nil_append]
 exact ⟨a37, c38, rfl, (H41.pick [0, 1, 2] (by decide)).cast (by show [_, _, _] = _; rw [hX])⟩
theorem Z3c (w : World) (r : Nat) (a0 : Option Addr) (c0 : Nat) (B : List UInt8) (hB : (ZH (wrL r a0 c0 B)).ok w) (hl : B.length ≤ 780000) (la : Option Addr) (lc : Nat) (L : List Zd) (hL : ListAt Z0l 38 w (.slice la L.length lc) L) (hoff : 0 < L.length → ∀ ad, la = some ad → ¬ (ZH (wrL r a0 c0 B)).fp ad.block) (hS : ∀ i, i < L.length → StB (L.getD i Z8)) (hl2 : L.length ≤ 100) :
  Calls Tryz.prog 115 #[(.pointer (some ⟨r, 0, none⟩)), (.slice la L.length lc), (.func (.func 116) #[] #[])] w fun e w' => ∃ a' c', e = .returned (.tuple #[]) ∧ Sat w [Z3 r 174 [.slice a' (B ++ (Z9 (L.length : Int) ++ L.flatMap ZQ)).length c'], Zb 5 1 (.slice a' (B ++ (Z9 (L.length : Int) ++ L.flatMap ZQ)).length c') (B ++ (Z9 (L.length : Int) ++ L.flatMap ZQ)).length ((B ++ (Z9 (L.length : Int) ++ L.flatMap ZQ)).flatMap Zr), Z6 w (ZH (wrL r a0 c0 B)).fp] w' := by
 have H : Sat w [Z3 r 174 ([(.slice a0 B.length c0)] : List Value), Zb 5 1 (.slice a0 B.length c0) B.length (B.flatMap Zr), Z6 w (ZH (wrL r a0 c0 B)).fp] w := Sat.start (wrL r a0 c0 B) hB
 have hvl := ZN (L.length : Int)
 refine ZE Tryz.func115 rfl 23 rfl (Nat.le_of_ble_eq_true rfl) ?_
 refine Zc ?_
 refine Zp ?_
 refine Z2 (Z1 rfl) (d := 8) (v := (.pointer (some ⟨r, 0, none⟩))) rfl (by kernel_rfl) ?_
 refine Z2 (Z1 rfl) (d := 9) (v := (.slice la L.length lc)) rfl (by kernel_rfl) ?_
 refine Z2 (Z1 rfl) (d := 10) (v := (.int .i64 ((L.length : Int)))) rfl (by kernel_rfl) ?_
 refine ZA (Z1 rfl) (fun K1 hK1 => ?_)
 have l7 := ZN (L.length : Int)
 refine Zv (d := 11) rfl (by kernel_rfl) (Z0z w r a0 c0 B (H.fin [0, 1] (by decide) rfl) (by omega) (L.length : Int) (by omega)) ?_
 rintro _ w2 ⟨a4, c5, rfl, T3⟩
 have H8 : Sat w [Z3 r 174 ([(.slice a4 ((B ++ Z9 (L.length : Int)).length) c5)] : List Value), Zb 5 1 (.slice a4 ((B ++ Z9 (L.length : Int)).length) c5) ((B ++ Z9 (L.length : Int)).length) ((B ++ Z9 (L.length : Int)).flatMap Zr), Z6 w (ZH (wrL r a0 c0 B)).fp] w2 := (Sat.turnL (L' := [Z3 r 174 ([(.slice a4 ((B ++ Z9 (L.length : Int)).length) c5)] : List Value), Zb 5 1 (.slice a4 ((B ++ Z9 (L.length : Int)).length) c5) ((B ++ Z9 (L.length : Int)).length) ((B ++ Z9 (L.length : Int)).flatMap Zr)]) (R := [Z6 w (ZH (wrL r a0 c0 B)).fp]) H [0, 1] [2] (by decide) (by kernel_rfl) rfl T3).pick [0, 1, 2] (by decide)
 refine ⟨_, rfl, ?_⟩
 refine hK1 _ _ ?_
 clear hK1 K1
 refine Zm ?_
 refine Z4 ?_
 refine Zc ?_
 refine Zp ?_
 refine Z2 (Z1 rfl) (d := 12) (v := (.slice la L.length lc)) rfl (by kernel_rfl) ?_
 refine Z2 (Z1 rfl) (d := 13) (v := (.int .i64 ((L.length : Int)))) rfl (by kernel_rfl) ?_
 refine Z2 (Z1 rfl) (d := 14) (v := (.int .i64 (0))) rfl (by kernel_rfl) ?_
 refine Zm ?_
 refine Z4 ?_
 refine ZR ?_
 obtain ⟨hd, hhd⟩ : ∃ hd, hd = (B ++ Z9 (L.length : Int)) := ⟨_, rfl⟩
 have hdl : hd.length ≤ 780010 := by rw [hhd]; simp only [List.length_append]; omega
 refine Z0m [7, 14, 15, 16, 17, 18, 19, 20, 21, 22] (fun F_ W_ m_ => ∃ (i : Nat) (a : Option Addr) (c_ : Nat) (D : List UInt8), F_ 14 = (.int .i64 ((i : Int))) ∧ (i ≤ L.length) ∧ (D = hd ++ (L.take i).flatMap ZQ) ∧ Sat w [Z3 r 174 ([(.slice a D.length c_)] : List Value), Zb 5 1 (.slice a D.length c_) D.length (D.flatMap Zr), Z6 w (ZH (wrL r a0 c0 B)).fp] W_ ∧ m_ = L.length - i) _ ⟨0, a4, c5, (B ++ Z9 (L.length : Int)), (show ((.int .i64 (0)) : Value) = _ by first | rfl | go_num), (Nat.zero_le _), (by rw [hhd]; simp), H8, rfl⟩ ?_
 rintro g9 w10 _ ⟨i, a, c_, D, v12, hi, hD, H11, rfl⟩
 refine Zs 14 _ v12 ?_
 have hDl : D.length ≤ 799000 := by rw [hD, List.length_append]; have q1 := Z3q Z1b (L.take i); rw [List.length_take] at q1; omega
 have q2 := Z1b (L.getD i Z8)
 refine Zc ?_
 refine Zp ?_
 refine Z2 (Z1 rfl) (d := 15) (v := (.bool (decide ((i : Int) < (L.length : Int))))) rfl (by kernel_rfl) ?_
 refine Zm ?_
 refine Z4 ?_
 refine Zc ?_
 refine (ZS (decide ((i : Int) < (L.length : Int)))).elim (fun b14 => ?_) (fun b14 => ?_)
 ·have g15 := of_decide_eq_true b14
  refine Zs 15 (.bool true) (congrArg Value.bool b14) ?_
  have g16 := of_decide_eq_true b14
  refine Z0h rfl ?_
  refine Z0b ?_
  refine Z4 ?_
  refine Zc ?_
  refine ZR ?_
  refine Zc ?_
  refine Zp ?_
  obtain ⟨g17, o18, c19, e20, R21⟩ := SliceOf.atD hL Z8 (show i < L.length by omega)
  refine Z2 (Z1 rfl) (d := 16) (v := (.pointer (some ⟨g17, o18 + ((i : Int)).toNat * 38, none⟩))) rfl (ZZ (E := 101) (by kernel_rfl) (by kernel_rfl) (Nat.le_of_ble_eq_true rfl) rfl e20 rfl (by omega) (by omega)) ?_
  refine Z2 (Z1 rfl) (d := 17) (v := (.agg ⟨(([(.int .i64 ((L.getD i Z8).r)), (.int .i64 ((L.getD i Z8).cl)), (.int .i64 ((L.getD i Z8).seq))] : List Value) ++ hc (L.getD i Z8).h ++ ([(.int .u64 ((L.getD i Z8).t)), (.int .i64 ((L.getD i Z8).sb)), (.int .i64 ((L.getD i Z8).sm))] : List Value))⟩)) rfl (Z0F (vs := (([(.int .i64 ((L.getD i Z8).r)), (.int .i64 ((L.getD i Z8).cl)), (.int .i64 ((L.getD i Z8).seq))] : List Value) ++ hc (L.getD i Z8).h ++ ([(.int .u64 ((L.getD i Z8).t)), (.int .i64 ((L.getD i Z8).sb)), (.int .i64 ((L.getD i Z8).sm))] : List Value))) rfl (by kernel_rfl) (by kernel_rfl) (Nat.le_of_ble_eq_true (by kernel_rfl)) (H11.runR 2 rfl (Z1T R21 0 (by kernel_rfl) (show o18 + ((i : Int)).toNat * 38 = o18 + i * 38 + 0 by omega)) (hoff (by omega) _ (Z3B e20)))) ?_
  refine ZA (Z1 rfl) (fun K22 hK22 => ?_)
  refine Z0e (zs := (([(.int .i64 (0)), (.int .i64 (0)), (.int .i64 (0))] : List Value) ++ hc Zo ++ ([(.int .u64 (0)), (.int .i64 (0)), (.int .i64 (0))] : List Value))) (z := (.agg ⟨(([(.int .i64 (0)), (.int .i64 (0)), (.int .i64 (0))] : List Value) ++ hc Zo ++ ([(.int .u64 (0)), (.int .i64 (0)), (.int .i64 (0))] : List Value))⟩)) rfl H11 (by kernel_rfl) (by kernel_rfl) ?_
  intro b23 w24 (H25 : Sat w [Z3 r 174 ([(.slice a D.length c_)] : List Value), Zb 5 1 (.slice a D.length c_) D.length (D.flatMap Zr), Z6 w (ZH (wrL r a0 c0 B)).fp, Z3 b23 101 (([(.int .i64 (0)), (.int .i64 (0)), (.int .i64 (0))] : List Value) ++ hc Zo ++ ([(.int .u64 (0)), (.int .i64 (0)), (.int .i64 (0))] : List Value))] w24)
  refine hK22 _ _ ?_
  clear hK22 K22
  refine ZA (Z1 rfl) (fun K26 hK26 => ?_)
  refine ZU (vs := (([(.int .i64 ((L.getD i Z8).r)), (.int .i64 ((L.getD i Z8).cl)), (.int .i64 ((L.getD i Z8).seq))] : List Value) ++ hc (L.getD i Z8).h ++ ([(.int .u64 ((L.getD i Z8).t)), (.int .i64 ((L.getD i Z8).sb)), (.int .i64 ((L.getD i Z8).sm))] : List Value))) (cs' := (([(.int .i64 ((L.getD i Z8).r)), (.int .i64 ((L.getD i Z8).cl)), (.int .i64 ((L.getD i Z8).seq))] : List Value) ++ hc (L.getD i Z8).h ++ ([(.int .u64 ((L.getD i Z8).t)), (.int .i64 ((L.getD i Z8).sb)), (.int .i64 ((L.getD i Z8).sm))] : List Value))) rfl H25 3 rfl rfl rfl rfl (by kernel_rfl) (Nat.le_of_ble_eq_true (by kernel_rfl)) (Nat.le_of_ble_eq_true (by kernel_rfl)) (by kernel_rfl) (by kernel_rfl) ?_
  intro w27 (H28 : Sat w [Z3 r 174 ([(.slice a D.length c_)] : List Value), Zb 5 1 (.slice a D.length c_) D.length (D.flatMap Zr), Z6 w (ZH (wrL r a0 c0 B)).fp, Z3 b23 101 (([(.int .i64 ((L.getD i Z8).r)), (.int .i64 ((L.getD i Z8).cl)), (.int .i64 ((L.getD i Z8).seq))] : List Value) ++ hc (L.getD i Z8).h ++ ([(.int .u64 ((L.getD i Z8).t)), (.int .i64 ((L.getD i Z8).sb)), (.int .i64 ((L.getD i Z8).sm))] : List Value))] w27)
  refine hK26 _ _ ?_
  clear hK26 K26
  refine Zm ?_
  refine Z4 ?_
  refine Zp ?_
  refine Z2 (Z1 rfl) (d := 18) (v := (.func (.func 116) #[] #[])) rfl (by kernel_rfl) ?_
  refine Z2 (Z1 rfl) (d := 19) (v := (.pointer (some ⟨r, 0, none⟩))) rfl (by kernel_rfl) ?_
  refine Z2 (Z1 rfl) (d := 20) (v := (.agg ⟨(([(.int .i64 ((L.getD i Z8).r)), (.int .i64 ((L.getD i Z8).cl)), (.int .i64 ((L.getD i Z8).seq))] : List Value) ++ hc (L.getD i Z8).h ++ ([(.int .u64 ((L.getD i Z8).t)), (.int .i64 ((L.getD i Z8).sb)), (.int .i64 ((L.getD i Z8).sm))] : List Value))⟩)) rfl (ZB (vs := (([(.int .i64 ((L.getD i Z8).r)), (.int .i64 ((L.getD i Z8).cl)), (.int .i64 ((L.getD i Z8).seq))] : List Value) ++ hc (L.getD i Z8).h ++ ([(.int .u64 ((L.getD i Z8).t)), (.int .i64 ((L.getD i Z8).sb)), (.int .i64 ((L.getD i Z8).sm))] : List Value))) rfl (by kernel_rfl) (by kernel_rfl) (by exact Nat.le_of_ble_eq_true (by kernel_rfl)) (H28.at 3 rfl) (by kernel_rfl)) ?_
  refine ZA (Z1 rfl) (fun K30 hK30 => ?_)
  have l36 := Z1b (L.getD i Z8)
  refine Zv (d := 21) rfl (by kernel_rfl) (Z4m w27 r a c_ D (H28.fin [0, 1] (by decide) rfl) (by omega) (L.getD i Z8) (hS i (by omega))) ?_
  rintro _ w31 ⟨a33, c34, rfl, T32⟩
  have H37 : Sat w [Z3 r 174 ([(.slice a33 ((D ++ ZQ (L.getD i Z8)).length) c34)] : List Value), Zb 5 1 (.slice a33 ((D ++ ZQ (L.getD i Z8)).length) c34) ((D ++ ZQ (L.getD i Z8)).length) ((D ++ ZQ (L.getD i Z8)).flatMap Zr), Z6 w (ZH (wrL r a0 c0 B)).fp, Z3 b23 101 (([(.int .i64 ((L.getD i Z8).r)), (.int .i64 ((L.getD i Z8).cl)), (.int .i64 ((L.getD i Z8).seq))] : List Value) ++ hc (L.getD i Z8).h ++ ([(.int .u64 ((L.getD i Z8).t)), (.int .i64 ((L.getD i Z8).sb)), (.int .i64 ((L.getD i Z8).sm))] : List Value))] w31 := (Sat.turnL (L' := [Z3 r 174 ([(.slice a33 ((D ++ ZQ (L.getD i Z8)).length) c34)] : List Value), Zb 5 1 (.slice a33 ((D ++ ZQ (L.getD i Z8)).length) c34) ((D ++ ZQ (L.getD i Z8)).length) ((D ++ ZQ (L.getD i Z8)).flatMap Zr)]) (R := [Z6 w (ZH (wrL r a0 c0 B)).fp, Z3 b23 101 (([(.int .i64 ((L.getD i Z8).r)), (.int .i64 ((L.getD i Z8).cl)), (.int .i64 ((L.getD i Z8).seq))] : List Value) ++ hc (L.getD i Z8).h ++ ([(.int .u64 ((L.getD i Z8).t)), (.int .i64 ((L.getD i Z8).sb)), (.int .i64 ((L.getD i Z8).sm))] : List Value))]) H28 [0, 1] [2, 3] (by decide) (by kernel_rfl) rfl T32).pick [0, 1, 2, 3] (by decide)
  refine ⟨_, rfl, ?_⟩
  refine hK30 _ _ ?_
  clear hK30 K30
  refine Zm ?_
  refine ZL ?_
  refine Z4 ?_
  refine Zp ?_
  refine Z2 (Z1 rfl) (d := 22) (v := (.int .i64 ((i : Int) + 1))) rfl (Z04 (z := (i : Int) + 1) (by kernel_rfl) (IntWalk.i64_in _ (by omega))) ?_
  refine Z2 (Z1 rfl) (d := 14) (v := (.int .i64 ((i : Int) + 1))) rfl (by kernel_rfl) ?_
  refine Zm ?_
  have H38 : Sat w [Z3 r 174 ([(.slice a33 ((D ++ ZQ (L.getD i Z8)).length) c34)] : List Value), Zb 5 1 (.slice a33 ((D ++ ZQ (L.getD i Z8)).length) c34) ((D ++ ZQ (L.getD i Z8)).length) ((D ++ ZQ (L.getD i Z8)).flatMap Zr), Z6 w (ZH (wrL r a0 c0 B)).fp] w31 := H37.pick [0, 1, 2] (by decide)
  refine ZM ?_ _ ⟨(i + 1), a33, c34, (D ++ ZQ (L.getD i Z8)), (show ((.int .i64 ((i : Int) + 1)) : Value) = _ by first | rfl | go_num), (by omega), (by rw [hD, Z4l L Z8 (by omega), List.append_assoc]), H38, rfl⟩ (by omega)
  exact (Z0 rfl (Z0 rfl (Z0 rfl (Z0 rfl (Z0 rfl (Z0 rfl (Z0 rfl (Z0 rfl (Z0 rfl (Z0 rfl (Z0 rfl (Z0 rfl (Z06)))))))))))))
 ·have g39 := of_decide_eq_false b14
  refine Zs 15 (.bool false) (congrArg Value.bool b14) ?_
  have g40 := of_decide_eq_false b14
  refine Z09 rfl ?_
  refine Z0M ?_
  refine Z0a ?_
  refine Z0c ?_
  refine Z0B ?_
  refine Z0Y ?_
  refine Z7H rfl  ?_
  have hX : D = (B ++ (Z9 (L.length : Int) ++ L.flatMap ZQ)) := by rw [hD, hhd, List.take_of_length_le (by omega), List.append_assoc]
  exact ⟨a, c_, rfl, (H11.pick [0, 1, 2] (by decide)).cast (by show [_, _, _] = _; rw [hX])⟩
theorem Z50 (w : World) (r : Nat) (a0 : Option Addr) (c0 : Nat) (B : List UInt8) (hB : (ZH (wrL r a0 c0 B)).ok w) (hl : B.length ≤ 700000) (c : CeR) (hE : CeB w c) (hoff : 0 < c.S.length → ∀ ad, c.sa = some ad → ¬ (ZH (wrL r a0 c0 B)).fp ad.block) :
  Calls Tryz.prog 93 #[(.pointer (some ⟨r, 0, none⟩)), (.agg ⟨(([(.int .i64 (c.x.cl)), (.int .i64 (c.x.seq))] : List Value) ++ hc c.x.h ++ ([(.int .i64 (c.x.len)), (.int .i64 (c.x.sb)), (.int .i64 (c.x.sm)), (.slice c.sa c.S.length c.sc)] : List Value))⟩)] w fun e w' => ∃ a' c', e = .returned (.tuple #[]) ∧ Sat w [Z3 r 174 [.slice a' (B ++ ZJ c).length c'], Zb 5 1 (.slice a' (B ++ ZJ c).length c') (B ++ ZJ c).length ((B ++ ZJ c).flatMap Zr), Z6 w (ZH (wrL r a0 c0 B)).fp] w' := by
 have hS := hE.at_
 have hlS := hE.len
 have H : Sat w [Z3 r 174 ([(.slice a0 B.length c0)] : List Value), Zb 5 1 (.slice a0 B.length c0) B.length (B.flatMap Zr), Z6 w (ZH (wrL r a0 c0 B)).fp] w := Sat.start (wrL r a0 c0 B) hB
 refine ZE Tryz.func93 rfl 12 rfl (Nat.le_of_ble_eq_true rfl) ?_
 refine Zc ?_
 refine Zp ?_
 refine ZA (Z1 rfl) (fun K1 hK1 => ?_)
 refine Z0H (vs := (([(.int .i64 (c.x.cl)), (.int .i64 (c.x.seq))] : List Value) ++ hc c.x.h ++ ([(.int .i64 (c.x.len)), (.int .i64 (c.x.sb)), (.int .i64 (c.x.sm)), (.slice c.sa c.S.length c.sc)] : List Value))) rfl H rfl rfl ?_
 intro b2 w3 (H4 : Sat w [Z3 r 174 ([(.slice a0 B.length c0)] : List Value), Zb 5 1 (.slice a0 B.length c0) B.length (B.flatMap Zr), Z6 w (ZH (wrL r a0 c0 B)).fp, Z3 b2 53 (([(.int .i64 (c.x.cl)), (.int .i64 (c.x.seq))] : List Value) ++ hc c.x.h ++ ([(.int .i64 (c.x.len)), (.int .i64 (c.x.sb)), (.int .i64 (c.x.sm)), (.slice c.sa c.S.length c.sc)] : List Value))] w3)
 refine hK1 _ _ ?_
 clear hK1 K1
 refine Zm ?_
 refine Z4 ?_
 refine Zc ?_
 refine Zp ?_
 refine Z2 (Z1 rfl) (d := 4) (v := (.pointer (some ⟨r, 0, none⟩))) rfl (by kernel_rfl) ?_
 refine Z2 (Z1 rfl) (d := 5) (v := (.pointer (some ⟨b2, 0, none⟩))) rfl (by kernel_rfl) ?_
 refine Z2 (Z1 rfl) (d := 6) (v := (.agg ⟨(([(.int .i64 (c.x.cl)), (.int .i64 (c.x.seq))] : List Value) ++ hc c.x.h ++ ([(.int .i64 (c.x.len)), (.int .i64 (c.x.sb)), (.int .i64 (c.x.sm))] : List Value))⟩)) rfl (ZB (vs := (([(.int .i64 (c.x.cl)), (.int .i64 (c.x.seq))] : List Value) ++ hc c.x.h ++ ([(.int .i64 (c.x.len)), (.int .i64 (c.x.sb)), (.int .i64 (c.x.sm))] : List Value))) rfl (by kernel_rfl) (by kernel_rfl) (by exact Nat.le_of_ble_eq_true (by kernel_rfl)) (H4.at 3 rfl) (by kernel_rfl)) ?_
 refine ZA (Z1 rfl) (fun K5 hK5 => ?_)
 have l11 := Z2v c.x
 refine Zv (d := 7) rfl (by kernel_rfl) (Z3X w3 r a0 c0 B (H4.fin [0, 1] (by decide) rfl) (by omega) c.x hE.x) ?_
 rintro _ w6 ⟨a8, c9, rfl, T7⟩
 have H12 : Sat w [Z3 r 174 ([(.slice a8 ((B ++ Z01 c.x).length) c9)] : List Value), Zb 5 1 (.slice a8 ((B ++ Z01 c.x).length) c9) ((B ++ Z01 c.x).length) ((B ++ Z01 c.x).flatMap Zr), Z6 w (ZH (wrL r a0 c0 B)).fp, Z3 b2 53 (([(.int .i64 (c.x.cl)), (.int .i64 (c.x.seq))] : List Value) ++ hc c.x.h ++ ([(.int .i64 (c.x.len)), (.int .i64 (c.x.sb)), (.int .i64 (c.x.sm)), (.slice c.sa c.S.length c.sc)] : List Value))] w6 := (Sat.turnL (L' := [Z3 r 174 ([(.slice a8 ((B ++ Z01 c.x).length) c9)] : List Value), Zb 5 1 (.slice a8 ((B ++ Z01 c.x).length) c9) ((B ++ Z01 c.x).length) ((B ++ Z01 c.x).flatMap Zr)]) (R := [Z6 w (ZH (wrL r a0 c0 B)).fp, Z3 b2 53 (([(.int .i64 (c.x.cl)), (.int .i64 (c.x.seq))] : List Value) ++ hc c.x.h ++ ([(.int .i64 (c.x.len)), (.int .i64 (c.x.sb)), (.int .i64 (c.x.sm)), (.slice c.sa c.S.length c.sc)] : List Value))]) H4 [0, 1] [2, 3] (by decide) (by kernel_rfl) rfl T7).pick [0, 1, 2, 3] (by decide)
 refine ⟨_, rfl, ?_⟩
 refine hK5 _ _ ?_
 clear hK5 K5
 refine Zm ?_
 refine Z4 ?_
 refine Zp ?_
 refine Z2 (Z1 rfl) (d := 8) (v := (.pointer (some ⟨r, 0, none⟩))) rfl (by kernel_rfl) ?_
 refine Z2 (Z1 rfl) (d := 9) (v := (.pointer (some ⟨b2, 37, none⟩))) rfl (by kernel_rfl) ?_
 refine Z2 (Z1 rfl) (d := 10) (v := (.slice c.sa c.S.length c.sc)) rfl (Zi rfl (by kernel_rfl) (H12.cell 3 rfl (by kernel_rfl))) ?_
 refine ZA (Z1 rfl) (fun K13 hK13 => ?_)
 have l19 := ZN (c.S.length : Int)
 have l20 := Z3q Z1b c.S
 refine Zv (d := 11) rfl (by kernel_rfl) (Z3c w6 r a8 c9 (B ++ Z01 c.x) (H12.fin [0, 1] (by decide) rfl) (by simp only [List.length_append, List.length_nil]; omega) c.sa c.sc c.S (ListAt.nowD H12 2 rfl hE.at_ hoff) (Z2W (sz := 38) Z1x (by decide) H12 [0, 1] 2 rfl rfl (by decide) hE.at_ hoff) hE.S hE.len) ?_
 rintro _ w14 ⟨a16, c17, rfl, T15⟩
 have H21 : Sat w [Z3 r 174 ([(.slice a16 (((B ++ Z01 c.x) ++ (Z9 (c.S.length : Int) ++ c.S.flatMap ZQ)).length) c17)] : List Value), Zb 5 1 (.slice a16 (((B ++ Z01 c.x) ++ (Z9 (c.S.length : Int) ++ c.S.flatMap ZQ)).length) c17) (((B ++ Z01 c.x) ++ (Z9 (c.S.length : Int) ++ c.S.flatMap ZQ)).length) (((B ++ Z01 c.x) ++ (Z9 (c.S.length : Int) ++ c.S.flatMap ZQ)).flatMap Zr), Z6 w (ZH (wrL r a0 c0 B)).fp, Z3 b2 53 (([(.int .i64 (c.x.cl)), (.int .i64 (c.x.seq))] : List Value) ++ hc c.x.h ++ ([(.int .i64 (c.x.len)), (.int .i64 (c.x.sb)), (.int .i64 (c.x.sm)), (.slice c.sa c.S.length c.sc)] : List Value))] w14 := (Sat.turnL (L' := [Z3 r 174 ([(.slice a16 (((B ++ Z01 c.x) ++ (Z9 (c.S.length : Int) ++ c.S.flatMap ZQ)).length) c17)] : List Value), Zb 5 1 (.slice a16 (((B ++ Z01 c.x) ++ (Z9 (c.S.length : Int) ++ c.S.flatMap ZQ)).length) c17) (((B ++ Z01 c.x) ++ (Z9 (c.S.length : Int) ++ c.S.flatMap ZQ)).length) (((B ++ Z01 c.x) ++ (Z9 (c.S.length : Int) ++ c.S.flatMap ZQ)).flatMap Zr)]) (R := [Z6 w (ZH (wrL r a0 c0 B)).fp, Z3 b2 53 (([(.int .i64 (c.x.cl)), (.int .i64 (c.x.seq))] : List Value) ++ hc c.x.h ++ ([(.int .i64 (c.x.len)), (.int .i64 (c.x.sb)), (.int .i64 (c.x.sm)), (.slice c.sa c.S.length c.sc)] : List Value))]) H12 [0, 1] [2, 3] (by decide) (by kernel_rfl) rfl T15).pick [0, 1, 2, 3] (by decide)
 refine ⟨_, rfl, ?_⟩
 refine hK13 _ _ ?_
 clear hK13 K13
 refine Zm ?_
 refine Z0Y ?_
 refine Z7H rfl  ?_
 have hX : ((B ++ Z01 c.x) ++ (Z9 (c.S.length : Int) ++ c.S.flatMap ZQ)) = (B ++ ZJ c) := by simp only [ZJ, Z5F, List.flatten_cons, List.flatten_nil, List.append_nil, List.append_assoc, List.nil_append]
 exact ⟨a16, c17, rfl, (H21.pick [0, 1, 2] (by decide)).cast (by show [_, _, _] = _; rw [hX])⟩
theorem Z3n (w : World) (r : Nat) (a0 : Option Addr) (c0 : Nat) (B : List UInt8) (hB : (ZH (wrL r a0 c0 B)).ok w) (hl : B.length ≤ 60000) (la : Option Addr) (lc : Nat) (L : List CeR) (hL : ListAt ZK 38 w (.slice la L.length lc) L) (hoff : 0 < L.length → ∀ ad, la = some ad → ¬ (ZH (wrL r a0 c0 B)).fp ad.block) (hE : ∀ i, i < L.length → CeB w (L.getD i ce0)) (hoS : ∀ i, i < L.length → 0 < (L.getD i ce0).S.length → ∀ ad, (L.getD i ce0).sa = some ad → ¬ (ZH (wrL r a0 c0 B)).fp ad.block) (hl2 : L.length ≤ 64) :
  Calls Tryz.prog 92 #[(.pointer (some ⟨r, 0, none⟩)), (.slice la L.length lc), (.func (.func 93) #[] #[])] w fun e w' => ∃ a' c', e = .returned (.tuple #[]) ∧ Sat w [Z3 r 174 [.slice a' (B ++ (Z9 (L.length : Int) ++ L.flatMap ZJ)).length c'], Zb 5 1 (.slice a' (B ++ (Z9 (L.length : Int) ++ L.flatMap ZJ)).length c') (B ++ (Z9 (L.length : Int) ++ L.flatMap ZJ)).length ((B ++ (Z9 (L.length : Int) ++ L.flatMap ZJ)).flatMap Zr), Z6 w (ZH (wrL r a0 c0 B)).fp] w' := by
 have H : Sat w [Z3 r 174 ([(.slice a0 B.length c0)] : List Value), Zb 5 1 (.slice a0 B.length c0) B.length (B.flatMap Zr), Z6 w (ZH (wrL r a0 c0 B)).fp] w := Sat.start (wrL r a0 c0 B) hB
 have hvl := ZN (L.length : Int)
 refine ZE Tryz.func92 rfl 23 rfl (Nat.le_of_ble_eq_true rfl) ?_
 refine Zc ?_
 refine Zp ?_
 refine Z2 (Z1 rfl) (d := 8) (v := (.pointer (some ⟨r, 0, none⟩))) rfl (by kernel_rfl) ?_
 refine Z2 (Z1 rfl) (d := 9) (v := (.slice la L.length lc)) rfl (by kernel_rfl) ?_
 refine Z2 (Z1 rfl) (d := 10) (v := (.int .i64 ((L.length : Int)))) rfl (by kernel_rfl) ?_
 refine ZA (Z1 rfl) (fun K1 hK1 => ?_)
 have l7 := ZN (L.length : Int)
 refine Zv (d := 11) rfl (by kernel_rfl) (Z0z w r a0 c0 B (H.fin [0, 1] (by decide) rfl) (by omega) (L.length : Int) (by omega)) ?_
 rintro _ w2 ⟨a4, c5, rfl, T3⟩
 have H8 : Sat w [Z3 r 174 ([(.slice a4 ((B ++ Z9 (L.length : Int)).length) c5)] : List Value), Zb 5 1 (.slice a4 ((B ++ Z9 (L.length : Int)).length) c5) ((B ++ Z9 (L.length : Int)).length) ((B ++ Z9 (L.length : Int)).flatMap Zr), Z6 w (ZH (wrL r a0 c0 B)).fp] w2 := (Sat.turnL (L' := [Z3 r 174 ([(.slice a4 ((B ++ Z9 (L.length : Int)).length) c5)] : List Value), Zb 5 1 (.slice a4 ((B ++ Z9 (L.length : Int)).length) c5) ((B ++ Z9 (L.length : Int)).length) ((B ++ Z9 (L.length : Int)).flatMap Zr)]) (R := [Z6 w (ZH (wrL r a0 c0 B)).fp]) H [0, 1] [2] (by decide) (by kernel_rfl) rfl T3).pick [0, 1, 2] (by decide)
 refine ⟨_, rfl, ?_⟩
 refine hK1 _ _ ?_
 clear hK1 K1
 refine Zm ?_
 refine Z4 ?_
 refine Zc ?_
 refine Zp ?_
 refine Z2 (Z1 rfl) (d := 12) (v := (.slice la L.length lc)) rfl (by kernel_rfl) ?_
 refine Z2 (Z1 rfl) (d := 13) (v := (.int .i64 ((L.length : Int)))) rfl (by kernel_rfl) ?_
 refine Z2 (Z1 rfl) (d := 14) (v := (.int .i64 (0))) rfl (by kernel_rfl) ?_
 refine Zm ?_
 refine Z4 ?_
 refine ZR ?_
 obtain ⟨hd, hhd⟩ : ∃ hd, hd = (B ++ Z9 (L.length : Int)) := ⟨_, rfl⟩
 have hdl : hd.length ≤ 60010 := by rw [hhd]; simp only [List.length_append]; omega
 refine Z0m [7, 14, 15, 16, 17, 18, 19, 20, 21, 22] (fun F_ W_ m_ => ∃ (i : Nat) (a : Option Addr) (c_ : Nat) (D : List UInt8), F_ 14 = (.int .i64 ((i : Int))) ∧ (i ≤ L.length) ∧ (D = hd ++ (L.take i).flatMap ZJ) ∧ Sat w [Z3 r 174 ([(.slice a D.length c_)] : List Value), Zb 5 1 (.slice a D.length c_) D.length (D.flatMap Zr), Z6 w (ZH (wrL r a0 c0 B)).fp] W_ ∧ m_ = L.length - i) _ ⟨0, a4, c5, (B ++ Z9 (L.length : Int)), (show ((.int .i64 (0)) : Value) = _ by first | rfl | go_num), (Nat.zero_le _), (by rw [hhd]; simp), H8, rfl⟩ ?_
 rintro g9 w10 _ ⟨i, a, c_, D, v12, hi, hD, H11, rfl⟩
 refine Zs 14 _ v12 ?_
 have hDl : D.length ≤ 690000 := by rw [hD, List.length_append]; have q1 := Z2M (g := ZJ) (L.take i) (fun c hc => Z1l (Z5C hE c (List.mem_of_mem_take hc))); rw [List.length_take] at q1; omega
 have q2 := fun h : i < L.length => Z1l (hE i h).len
 refine Zc ?_
 refine Zp ?_
 refine Z2 (Z1 rfl) (d := 15) (v := (.bool (decide ((i : Int) < (L.length : Int))))) rfl (by kernel_rfl) ?_
 refine Zm ?_
 refine Z4 ?_
 refine Zc ?_
 refine (ZS (decide ((i : Int) < (L.length : Int)))).elim (fun b14 => ?_) (fun b14 => ?_)
 ·have g15 := of_decide_eq_true b14
  refine Zs 15 (.bool true) (congrArg Value.bool b14) ?_
  have g16 := of_decide_eq_true b14
  refine Z0h rfl ?_
  refine Z0b ?_
  refine Z4 ?_
  refine Zc ?_
  refine ZR ?_
  refine Zc ?_
  refine Zp ?_
  obtain ⟨g17, o18, c19, e20, R21⟩ := SliceOf.atD hL ce0 (show i < L.length by omega)
  refine Z2 (Z1 rfl) (d := 16) (v := (.pointer (some ⟨g17, o18 + ((i : Int)).toNat * 38, none⟩))) rfl (ZZ (E := 53) (by kernel_rfl) (by kernel_rfl) (Nat.le_of_ble_eq_true rfl) rfl e20 rfl (by omega) (by omega)) ?_
  refine Z2 (Z1 rfl) (d := 17) (v := (.agg ⟨(([(.int .i64 ((L.getD i ce0).x.cl)), (.int .i64 ((L.getD i ce0).x.seq))] : List Value) ++ hc (L.getD i ce0).x.h ++ ([(.int .i64 ((L.getD i ce0).x.len)), (.int .i64 ((L.getD i ce0).x.sb)), (.int .i64 ((L.getD i ce0).x.sm)), (.slice (L.getD i ce0).sa ((L.getD i ce0).S).length (L.getD i ce0).sc)] : List Value))⟩)) rfl (Z0F (vs := (([(.int .i64 ((L.getD i ce0).x.cl)), (.int .i64 ((L.getD i ce0).x.seq))] : List Value) ++ hc (L.getD i ce0).x.h ++ ([(.int .i64 ((L.getD i ce0).x.len)), (.int .i64 ((L.getD i ce0).x.sb)), (.int .i64 ((L.getD i ce0).x.sm)), (.slice (L.getD i ce0).sa ((L.getD i ce0).S).length (L.getD i ce0).sc)] : List Value))) rfl (by kernel_rfl) (by kernel_rfl) (Nat.le_of_ble_eq_true (by kernel_rfl)) (H11.runR 2 rfl (Z1T R21 0 (by kernel_rfl) (show o18 + ((i : Int)).toNat * 38 = o18 + i * 38 + 0 by omega)) (hoff (by omega) _ (Z3B e20)))) ?_
  refine ZA (Z1 rfl) (fun K22 hK22 => ?_)
  refine Z0e (zs := (([(.int .i64 (0)), (.int .i64 (0))] : List Value) ++ hc Zo ++ ([(.int .i64 (0)), (.int .i64 (0)), (.int .i64 (0)), (.slice none 0 0)] : List Value))) (z := (.agg ⟨(([(.int .i64 (0)), (.int .i64 (0))] : List Value) ++ hc Zo ++ ([(.int .i64 (0)), (.int .i64 (0)), (.int .i64 (0)), (.slice none 0 0)] : List Value))⟩)) rfl H11 (by kernel_rfl) (by kernel_rfl) ?_
  intro b23 w24 (H25 : Sat w [Z3 r 174 ([(.slice a D.length c_)] : List Value), Zb 5 1 (.slice a D.length c_) D.length (D.flatMap Zr), Z6 w (ZH (wrL r a0 c0 B)).fp, Z3 b23 53 (([(.int .i64 (0)), (.int .i64 (0))] : List Value) ++ hc Zo ++ ([(.int .i64 (0)), (.int .i64 (0)), (.int .i64 (0)), (.slice none 0 0)] : List Value))] w24)
  refine hK22 _ _ ?_
  clear hK22 K22
  refine ZA (Z1 rfl) (fun K26 hK26 => ?_)
  refine ZU (vs := (([(.int .i64 ((L.getD i ce0).x.cl)), (.int .i64 ((L.getD i ce0).x.seq))] : List Value) ++ hc (L.getD i ce0).x.h ++ ([(.int .i64 ((L.getD i ce0).x.len)), (.int .i64 ((L.getD i ce0).x.sb)), (.int .i64 ((L.getD i ce0).x.sm)), (.slice (L.getD i ce0).sa ((L.getD i ce0).S).length (L.getD i ce0).sc)] : List Value))) (cs' := (([(.int .i64 ((L.getD i ce0).x.cl)), (.int .i64 ((L.getD i ce0).x.seq))] : List Value) ++ hc (L.getD i ce0).x.h ++ ([(.int .i64 ((L.getD i ce0).x.len)), (.int .i64 ((L.getD i ce0).x.sb)), (.int .i64 ((L.getD i ce0).x.sm)), (.slice (L.getD i ce0).sa ((L.getD i ce0).S).length (L.getD i ce0).sc)] : List Value))) rfl H25 3 rfl rfl rfl rfl (by kernel_rfl) (Nat.le_of_ble_eq_true (by kernel_rfl)) (Nat.le_of_ble_eq_true (by kernel_rfl)) (by kernel_rfl) (by kernel_rfl) ?_
  intro w27 (H28 : Sat w [Z3 r 174 ([(.slice a D.length c_)] : List Value), Zb 5 1 (.slice a D.length c_) D.length (D.flatMap Zr), Z6 w (ZH (wrL r a0 c0 B)).fp, Z3 b23 53 (([(.int .i64 ((L.getD i ce0).x.cl)), (.int .i64 ((L.getD i ce0).x.seq))] : List Value) ++ hc (L.getD i ce0).x.h ++ ([(.int .i64 ((L.getD i ce0).x.len)), (.int .i64 ((L.getD i ce0).x.sb)), (.int .i64 ((L.getD i ce0).x.sm)), (.slice (L.getD i ce0).sa ((L.getD i ce0).S).length (L.getD i ce0).sc)] : List Value))] w27)
  refine hK26 _ _ ?_
  clear hK26 K26
  refine Zm ?_
  refine Z4 ?_
  refine Zp ?_
  refine Z2 (Z1 rfl) (d := 18) (v := (.func (.func 93) #[] #[])) rfl (by kernel_rfl) ?_
  refine Z2 (Z1 rfl) (d := 19) (v := (.pointer (some ⟨r, 0, none⟩))) rfl (by kernel_rfl) ?_
  refine Z2 (Z1 rfl) (d := 20) (v := (.agg ⟨(([(.int .i64 ((L.getD i ce0).x.cl)), (.int .i64 ((L.getD i ce0).x.seq))] : List Value) ++ hc (L.getD i ce0).x.h ++ ([(.int .i64 ((L.getD i ce0).x.len)), (.int .i64 ((L.getD i ce0).x.sb)), (.int .i64 ((L.getD i ce0).x.sm)), (.slice (L.getD i ce0).sa ((L.getD i ce0).S).length (L.getD i ce0).sc)] : List Value))⟩)) rfl (ZB (vs := (([(.int .i64 ((L.getD i ce0).x.cl)), (.int .i64 ((L.getD i ce0).x.seq))] : List Value) ++ hc (L.getD i ce0).x.h ++ ([(.int .i64 ((L.getD i ce0).x.len)), (.int .i64 ((L.getD i ce0).x.sb)), (.int .i64 ((L.getD i ce0).x.sm)), (.slice (L.getD i ce0).sa ((L.getD i ce0).S).length (L.getD i ce0).sc)] : List Value))) rfl (by kernel_rfl) (by kernel_rfl) (by exact Nat.le_of_ble_eq_true (by kernel_rfl)) (H28.at 3 rfl) (by kernel_rfl)) ?_
  refine ZA (Z1 rfl) (fun K30 hK30 => ?_)
  have l36 := Z1l (show (L.getD i ce0).S.length ≤ 100 from (hE i (by omega)).len)
  refine Zv (d := 21) rfl (by kernel_rfl) (Z50 w27 r a c_ D (H28.fin [0, 1] (by decide) rfl) (by omega) (L.getD i ce0) ((hE i (by omega)).keepD H28 2 rfl (hoS i (by omega))) (Z2W (sz := 38) Z1x (by decide) H28 [0, 1] 2 rfl rfl (by decide) (hE i (by omega)).at_ (hoS i (by omega)))) ?_
  rintro _ w31 ⟨a33, c34, rfl, T32⟩
  have H37 : Sat w [Z3 r 174 ([(.slice a33 ((D ++ ZJ (L.getD i ce0)).length) c34)] : List Value), Zb 5 1 (.slice a33 ((D ++ ZJ (L.getD i ce0)).length) c34) ((D ++ ZJ (L.getD i ce0)).length) ((D ++ ZJ (L.getD i ce0)).flatMap Zr), Z6 w (ZH (wrL r a0 c0 B)).fp, Z3 b23 53 (([(.int .i64 ((L.getD i ce0).x.cl)), (.int .i64 ((L.getD i ce0).x.seq))] : List Value) ++ hc (L.getD i ce0).x.h ++ ([(.int .i64 ((L.getD i ce0).x.len)), (.int .i64 ((L.getD i ce0).x.sb)), (.int .i64 ((L.getD i ce0).x.sm)), (.slice (L.getD i ce0).sa ((L.getD i ce0).S).length (L.getD i ce0).sc)] : List Value))] w31 := (Sat.turnL (L' := [Z3 r 174 ([(.slice a33 ((D ++ ZJ (L.getD i ce0)).length) c34)] : List Value), Zb 5 1 (.slice a33 ((D ++ ZJ (L.getD i ce0)).length) c34) ((D ++ ZJ (L.getD i ce0)).length) ((D ++ ZJ (L.getD i ce0)).flatMap Zr)]) (R := [Z6 w (ZH (wrL r a0 c0 B)).fp, Z3 b23 53 (([(.int .i64 ((L.getD i ce0).x.cl)), (.int .i64 ((L.getD i ce0).x.seq))] : List Value) ++ hc (L.getD i ce0).x.h ++ ([(.int .i64 ((L.getD i ce0).x.len)), (.int .i64 ((L.getD i ce0).x.sb)), (.int .i64 ((L.getD i ce0).x.sm)), (.slice (L.getD i ce0).sa ((L.getD i ce0).S).length (L.getD i ce0).sc)] : List Value))]) H28 [0, 1] [2, 3] (by decide) (by kernel_rfl) rfl T32).pick [0, 1, 2, 3] (by decide)
  refine ⟨_, rfl, ?_⟩
  refine hK30 _ _ ?_
  clear hK30 K30
  refine Zm ?_
  refine ZL ?_
  refine Z4 ?_
  refine Zp ?_
  refine Z2 (Z1 rfl) (d := 22) (v := (.int .i64 ((i : Int) + 1))) rfl (Z04 (z := (i : Int) + 1) (by kernel_rfl) (IntWalk.i64_in _ (by omega))) ?_
  refine Z2 (Z1 rfl) (d := 14) (v := (.int .i64 ((i : Int) + 1))) rfl (by kernel_rfl) ?_
  refine Zm ?_
  have H38 : Sat w [Z3 r 174 ([(.slice a33 ((D ++ ZJ (L.getD i ce0)).length) c34)] : List Value), Zb 5 1 (.slice a33 ((D ++ ZJ (L.getD i ce0)).length) c34) ((D ++ ZJ (L.getD i ce0)).length) ((D ++ ZJ (L.getD i ce0)).flatMap Zr), Z6 w (ZH (wrL r a0 c0 B)).fp] w31 := H37.pick [0, 1, 2] (by decide)
  refine ZM ?_ _ ⟨(i + 1), a33, c34, (D ++ ZJ (L.getD i ce0)), (show ((.int .i64 ((i : Int) + 1)) : Value) = _ by first | rfl | go_num), (by omega), (by rw [hD, Z4l L ce0 (by omega), List.append_assoc]), H38, rfl⟩ (by omega)
  exact (Z0 rfl (Z0 rfl (Z0 rfl (Z0 rfl (Z0 rfl (Z0 rfl (Z0 rfl (Z0 rfl (Z0 rfl (Z0 rfl (Z0 rfl (Z0 rfl (Z06)))))))))))))
 ·have g39 := of_decide_eq_false b14
  refine Zs 15 (.bool false) (congrArg Value.bool b14) ?_
  have g40 := of_decide_eq_false b14
  refine Z09 rfl ?_
  refine Z0M ?_
  refine Z0a ?_
  refine Z0c ?_
  refine Z0B ?_
  refine Z0Y ?_
  refine Z7H rfl  ?_
  have hX : D = (B ++ (Z9 (L.length : Int) ++ L.flatMap ZJ)) := by rw [hD, hhd, List.take_of_length_le (by omega), List.append_assoc]
  exact ⟨a, c_, rfl, (H11.pick [0, 1, 2] (by decide)).cast (by show [_, _, _] = _; rw [hX])⟩
theorem Z3o (w : World) (p : PrR) (hC : ListAt ZK 38 w (.slice p.ca p.C.length p.cc) p.C) (hB : ∀ i, i < p.C.length → CeB w (p.C.getD i ce0)) (hl : p.C.length ≤ 64) (hn : p.r ≤ 9223372036854775807 ∧ p.e ≤ 9223372036854775807 ∧ 0 ≤ p.f ∧ p.f < 18446744073709551616) :
  Calls Tryz.prog 55 #[(.agg ⟨([(.int .i64 (p.r)), (.int .i64 (p.e)), (.int .u64 (p.f)), (.slice p.ca p.C.length p.cc), (.int .i64 (p.sb)), (.int .i64 (p.sm))] : List Value)⟩)] w fun e w' => ∃ u, e = .returned u ∧ (Zb 5 1 u (Zy p).length ((Zy p).flatMap Zr)).ok w' ∧ Upd [] w w' ∧ ∀ q_, (Zb 5 1 u (Zy p).length ((Zy p).flatMap Zr)).fp q_ → w.heap.size ≤ q_ := by
 have hp := Z3Q (Z5C hB) hl
 obtain ⟨hn1, hn2, hn3, hn4⟩ := hn
 have H := Sat.start0 w
 refine ZE Tryz.func55 rfl 20 rfl (Nat.le_of_ble_eq_true rfl) ?_
 refine Zc ?_
 refine Zp ?_
 refine ZA (Z1 rfl) (fun K1 hK1 => ?_)
 refine Z0H (vs := ([(.int .i64 (p.r)), (.int .i64 (p.e)), (.int .u64 (p.f)), (.slice p.ca p.C.length p.cc), (.int .i64 (p.sb)), (.int .i64 (p.sm))] : List Value)) rfl H rfl rfl ?_
 intro b2 w3 (H4 : Sat w [Z6 w (fun _ => False), Z3 b2 34 ([(.int .i64 (p.r)), (.int .i64 (p.e)), (.int .u64 (p.f)), (.slice p.ca p.C.length p.cc), (.int .i64 (p.sb)), (.int .i64 (p.sm))] : List Value)] w3)
 refine hK1 _ _ ?_
 clear hK1 K1
 refine Z2 (Z1 rfl) (d := 2) (v := (.slice none 0 0)) rfl (by kernel_rfl) ?_
 refine Zm ?_
 refine Z4 ?_
 refine Zc ?_
 refine Z0k H4 [Z6 w (fun _ => False), Z3 b2 34 ([(.int .i64 (p.r)), (.int .i64 (p.e)), (.int .u64 (p.f)), (.slice p.ca p.C.length p.cc), (.int .i64 (p.sb)), (.int .i64 (p.sm))] : List Value)] 11 rfl (by kernel_rfl) (fun Hx => (Hx.pick [0, 1] (by decide))) ?_
 intro w5 H6 S7
 refine Ze 1 rfl (by kernel_rfl) (by kernel_rfl) (by kernel_rfl) (fun _ _ _ h => h) S7 (Z1 rfl) (d := 5) (v := (.pointer (some ⟨b2, 0, none⟩))) rfl (fun _ H' => (by kernel_rfl)) ?_
 refine Ze 2 rfl (by kernel_rfl) (by kernel_rfl) (by kernel_rfl) (fun _ _ _ h => h) S7 (Z1 rfl) (d := 6) (v := (.int .i64 (p.r))) rfl (fun _ H' => (Zi rfl (by kernel_rfl) (H'.cell 1 rfl rfl))) ?_
 refine Ze 4 rfl (by kernel_rfl) (by kernel_rfl) (by kernel_rfl) (fun _ _ _ h => h) S7 (Z1 rfl) (d := 8) (v := (.pointer (some ⟨b2, 1, none⟩))) rfl (fun _ H' => (by kernel_rfl)) ?_
 refine Ze 5 rfl (by kernel_rfl) (by kernel_rfl) (by kernel_rfl) (fun _ _ _ h => h) S7 (Z1 rfl) (d := 9) (v := (.int .i64 (p.e))) rfl (fun _ H' => (Zi rfl (by kernel_rfl) (H'.cell 1 rfl rfl))) ?_
 refine Ze 7 rfl (by kernel_rfl) (by kernel_rfl) (by kernel_rfl) (fun _ _ _ h => h) S7 (Z1 rfl) (d := 11) (v := (.pointer (some ⟨b2, 2, none⟩))) rfl (fun _ H' => (by kernel_rfl)) ?_
 refine Ze 8 rfl (by kernel_rfl) (by kernel_rfl) (by kernel_rfl) (fun _ _ _ h => h) S7 (Z1 rfl) (d := 12) (v := (.int .u64 (p.f))) rfl (fun _ H' => (Zi rfl (by kernel_rfl) (H'.cell 1 rfl rfl))) ?_
 refine Z0r 0 rfl (by kernel_rfl) (Z1 rfl) (fun K8 hK8 => ?_)
 refine Zv (d := 4) rfl (by kernel_rfl) (Z3K w5 ([112, 114, 111, 109, 105, 115, 101]) (by decide)) ?_
 rintro _ w9 ⟨r10, a11, c12, rfl, k13, p14, q15⟩
 have H16 : Sat w [Z6 w (fun _ => False), Z3 b2 34 ([(.int .i64 (p.r)), (.int .i64 (p.e)), (.int .u64 (p.f)), (.slice p.ca p.C.length p.cc), (.int .i64 (p.sb)), (.int .i64 (p.sm))] : List Value), ZH (wrL r10 a11 c12 (Zu ([112, 114, 111, 109, 105, 115, 101])))] w9 := H6.addU p14 k13 q15
 have H17 : Sat w [Z6 w (fun _ => False), Z3 b2 34 ([(.int .i64 (p.r)), (.int .i64 (p.e)), (.int .u64 (p.f)), (.slice p.ca p.C.length p.cc), (.int .i64 (p.sb)), (.int .i64 (p.sm))] : List Value), Z3 r10 174 ([(.slice a11 ((Zu ([112, 114, 111, 109, 105, 115, 101])).length) c12)] : List Value), Zb 5 1 (.slice a11 ((Zu ([112, 114, 111, 109, 105, 115, 101])).length) c12) ((Zu ([112, 114, 111, 109, 105, 115, 101])).length) ((Zu ([112, 114, 111, 109, 105, 115, 101])).flatMap Zr)] w9 := H16.open 2 rfl
 refine ⟨_, rfl, ?_⟩
 have l18 := (show (Zu [112, 114, 111, 109, 105, 115, 101]).length ≤ 17 from Z0P _)
 have S19 := H17.pick [0, 1] (by decide)
 refine hK8 _ _ S19 ?_
 clear hK8 K8
 refine Z0r 3 rfl (by kernel_rfl) (Z1 rfl) (fun K20 hK20 => ?_)
 have l26 := ZN p.r
 refine Zv (d := 7) rfl (by kernel_rfl) (Z0z w9 r10 a11 c12 (Zu ([112, 114, 111, 109, 105, 115, 101])) (H17.fin [2, 3] (by decide) rfl) (by omega) p.r (by omega)) ?_
 rintro _ w21 ⟨a23, c24, rfl, T22⟩
 have H27 : Sat w [Z6 w (fun _ => False), Z3 b2 34 ([(.int .i64 (p.r)), (.int .i64 (p.e)), (.int .u64 (p.f)), (.slice p.ca p.C.length p.cc), (.int .i64 (p.sb)), (.int .i64 (p.sm))] : List Value), Z3 r10 174 ([(.slice a23 (((Zu ([112, 114, 111, 109, 105, 115, 101])) ++ Z9 p.r).length) c24)] : List Value), Zb 5 1 (.slice a23 (((Zu ([112, 114, 111, 109, 105, 115, 101])) ++ Z9 p.r).length) c24) (((Zu ([112, 114, 111, 109, 105, 115, 101])) ++ Z9 p.r).length) (((Zu ([112, 114, 111, 109, 105, 115, 101])) ++ Z9 p.r).flatMap Zr)] w21 := (Sat.turnL (L' := [Z3 r10 174 ([(.slice a23 (((Zu ([112, 114, 111, 109, 105, 115, 101])) ++ Z9 p.r).length) c24)] : List Value), Zb 5 1 (.slice a23 (((Zu ([112, 114, 111, 109, 105, 115, 101])) ++ Z9 p.r).length) c24) (((Zu ([112, 114, 111, 109, 105, 115, 101])) ++ Z9 p.r).length) (((Zu ([112, 114, 111, 109, 105, 115, 101])) ++ Z9 p.r).flatMap Zr)]) (R := [Z6 w (fun _ => False), Z3 b2 34 ([(.int .i64 (p.r)), (.int .i64 (p.e)), (.int .u64 (p.f)), (.slice p.ca p.C.length p.cc), (.int .i64 (p.sb)), (.int .i64 (p.sm))] : List Value)]) H17 [2, 3] [0, 1] (by decide) (by kernel_rfl) rfl T22).pick [2, 3, 0, 1] (by decide)
 refine ⟨_, rfl, ?_⟩
 have S28 := H27.pick [0, 1] (by decide)
 refine hK20 _ _ S28 ?_
 clear hK20 K20
 refine Z0r 6 rfl (by kernel_rfl) (Z1 rfl) (fun K29 hK29 => ?_)
 have l35 := ZN p.e
 refine Zv (d := 10) rfl (by kernel_rfl) (Z0z w21 r10 a23 c24 ((Zu ([112, 114, 111, 109, 105, 115, 101])) ++ Z9 p.r) (H27.fin [2, 3] (by decide) rfl) (by simp only [List.length_append, List.length_nil]; omega) p.e (by omega)) ?_
 rintro _ w30 ⟨a32, c33, rfl, T31⟩
 have H36 : Sat w [Z6 w (fun _ => False), Z3 b2 34 ([(.int .i64 (p.r)), (.int .i64 (p.e)), (.int .u64 (p.f)), (.slice p.ca p.C.length p.cc), (.int .i64 (p.sb)), (.int .i64 (p.sm))] : List Value), Z3 r10 174 ([(.slice a32 ((((Zu ([112, 114, 111, 109, 105, 115, 101])) ++ Z9 p.r) ++ Z9 p.e).length) c33)] : List Value), Zb 5 1 (.slice a32 ((((Zu ([112, 114, 111, 109, 105, 115, 101])) ++ Z9 p.r) ++ Z9 p.e).length) c33) ((((Zu ([112, 114, 111, 109, 105, 115, 101])) ++ Z9 p.r) ++ Z9 p.e).length) ((((Zu ([112, 114, 111, 109, 105, 115, 101])) ++ Z9 p.r) ++ Z9 p.e).flatMap Zr)] w30 := (Sat.turnL (L' := [Z3 r10 174 ([(.slice a32 ((((Zu ([112, 114, 111, 109, 105, 115, 101])) ++ Z9 p.r) ++ Z9 p.e).length) c33)] : List Value), Zb 5 1 (.slice a32 ((((Zu ([112, 114, 111, 109, 105, 115, 101])) ++ Z9 p.r) ++ Z9 p.e).length) c33) ((((Zu ([112, 114, 111, 109, 105, 115, 101])) ++ Z9 p.r) ++ Z9 p.e).length) ((((Zu ([112, 114, 111, 109, 105, 115, 101])) ++ Z9 p.r) ++ Z9 p.e).flatMap Zr)]) (R := [Z6 w (fun _ => False), Z3 b2 34 ([(.int .i64 (p.r)), (.int .i64 (p.e)), (.int .u64 (p.f)), (.slice p.ca p.C.length p.cc), (.int .i64 (p.sb)), (.int .i64 (p.sm))] : List Value)]) H27 [2, 3] [0, 1] (by decide) (by kernel_rfl) rfl T31).pick [2, 3, 0, 1] (by decide)
 refine ⟨_, rfl, ?_⟩
 have S37 := H36.pick [0, 1] (by decide)
 refine hK29 _ _ S37 ?_
 clear hK29 K29
 refine Z0r 9 rfl (by kernel_rfl) (Z1 rfl) (fun K38 hK38 => ?_)
 have l44 := Z1G p.f.toNat
 refine Zv (d := 13) rfl (by rw [show p.f = ((p.f.toNat : Nat) : Int) by omega]; kernel_rfl) (Z2F w30 r10 a32 c33 (((Zu ([112, 114, 111, 109, 105, 115, 101])) ++ Z9 p.r) ++ Z9 p.e) (H36.fin [2, 3] (by decide) rfl) (by simp only [List.length_append, List.length_nil]; omega) p.f.toNat (by omega)) ?_
 rintro _ w39 ⟨a41, c42, rfl, T40⟩
 have H45 : Sat w [Z6 w (fun _ => False), Z3 b2 34 ([(.int .i64 (p.r)), (.int .i64 (p.e)), (.int .u64 (p.f)), (.slice p.ca p.C.length p.cc), (.int .i64 (p.sb)), (.int .i64 (p.sm))] : List Value), Z3 r10 174 ([(.slice a41 (((((Zu ([112, 114, 111, 109, 105, 115, 101])) ++ Z9 p.r) ++ Z9 p.e) ++ Z0g p.f.toNat).length) c42)] : List Value), Zb 5 1 (.slice a41 (((((Zu ([112, 114, 111, 109, 105, 115, 101])) ++ Z9 p.r) ++ Z9 p.e) ++ Z0g p.f.toNat).length) c42) (((((Zu ([112, 114, 111, 109, 105, 115, 101])) ++ Z9 p.r) ++ Z9 p.e) ++ Z0g p.f.toNat).length) (((((Zu ([112, 114, 111, 109, 105, 115, 101])) ++ Z9 p.r) ++ Z9 p.e) ++ Z0g p.f.toNat).flatMap Zr)] w39 := (Sat.turnL (L' := [Z3 r10 174 ([(.slice a41 (((((Zu ([112, 114, 111, 109, 105, 115, 101])) ++ Z9 p.r) ++ Z9 p.e) ++ Z0g p.f.toNat).length) c42)] : List Value), Zb 5 1 (.slice a41 (((((Zu ([112, 114, 111, 109, 105, 115, 101])) ++ Z9 p.r) ++ Z9 p.e) ++ Z0g p.f.toNat).length) c42) (((((Zu ([112, 114, 111, 109, 105, 115, 101])) ++ Z9 p.r) ++ Z9 p.e) ++ Z0g p.f.toNat).length) (((((Zu ([112, 114, 111, 109, 105, 115, 101])) ++ Z9 p.r) ++ Z9 p.e) ++ Z0g p.f.toNat).flatMap Zr)]) (R := [Z6 w (fun _ => False), Z3 b2 34 ([(.int .i64 (p.r)), (.int .i64 (p.e)), (.int .u64 (p.f)), (.slice p.ca p.C.length p.cc), (.int .i64 (p.sb)), (.int .i64 (p.sm))] : List Value)]) H36 [2, 3] [0, 1] (by decide) (by kernel_rfl) rfl T40).pick [2, 3, 0, 1] (by decide)
 refine ⟨_, rfl, ?_⟩
 have S46 := H45.pick [0, 1] (by decide)
 refine hK38 _ _ S46 ?_
 clear hK38 K38
 refine Ze 10 rfl (by kernel_rfl) (by kernel_rfl) (by kernel_rfl) (fun _ _ _ h => h) S46 (Z1 rfl) (d := 3) (v := (.pointer (some ⟨r10, 0, none⟩))) rfl (fun _ H' => (by kernel_rfl)) ?_
 refine Z0C (by kernel_rfl) ?_
 refine Z4 ?_
 refine Zc ?_
 refine Zp ?_
 refine Z2 (Z1 rfl) (d := 14) (v := (.pointer (some ⟨r10, 0, none⟩))) rfl (by kernel_rfl) ?_
 refine Z2 (Z1 rfl) (d := 15) (v := (.pointer (some ⟨b2, 3, none⟩))) rfl (by kernel_rfl) ?_
 refine Z2 (Z1 rfl) (d := 16) (v := (.slice p.ca p.C.length p.cc)) rfl (Zi rfl (by kernel_rfl) (H45.cell 1 rfl rfl)) ?_
 refine ZA (Z1 rfl) (fun K47 hK47 => ?_)
 have l53 := ZN (p.C.length : Int)
 have l54 := Z2M (g := ZJ) p.C (fun c hc => Z1l (Z5C hB c hc))
 refine Zv (d := 17) rfl (by kernel_rfl) (Z3n w39 r10 a41 c42 ((((Zu ([112, 114, 111, 109, 105, 115, 101])) ++ Z9 p.r) ++ Z9 p.e) ++ Z0g p.f.toNat) (H45.fin [2, 3] (by decide) rfl) (by simp only [List.length_append, List.length_nil]; omega) p.ca p.cc p.C (ListAt.now H45 0 rfl hC) (Z2W (sz := 38) Z14 (by decide) H45 [2, 3] 0 rfl rfl (by decide) hC (fun _ _ _ h => h)) (fun i_ hi_ => (hB i_ hi_).keep H45 0 rfl) (fun i_ hi_ => (Z2W (sz := 38) Z1x (by decide) H45 [2, 3] 0 rfl rfl (by decide) (hB i_ hi_).at_ (fun _ _ _ h => h))) (by omega)) ?_
 rintro _ w48 ⟨a50, c51, rfl, T49⟩
 have H55 : Sat w [Z6 w (fun _ => False), Z3 b2 34 ([(.int .i64 (p.r)), (.int .i64 (p.e)), (.int .u64 (p.f)), (.slice p.ca p.C.length p.cc), (.int .i64 (p.sb)), (.int .i64 (p.sm))] : List Value), Z3 r10 174 ([(.slice a50 ((((((Zu ([112, 114, 111, 109, 105, 115, 101])) ++ Z9 p.r) ++ Z9 p.e) ++ Z0g p.f.toNat) ++ (Z9 (p.C.length : Int) ++ p.C.flatMap ZJ)).length) c51)] : List Value), Zb 5 1 (.slice a50 ((((((Zu ([112, 114, 111, 109, 105, 115, 101])) ++ Z9 p.r) ++ Z9 p.e) ++ Z0g p.f.toNat) ++ (Z9 (p.C.length : Int) ++ p.C.flatMap ZJ)).length) c51) ((((((Zu ([112, 114, 111, 109, 105, 115, 101])) ++ Z9 p.r) ++ Z9 p.e) ++ Z0g p.f.toNat) ++ (Z9 (p.C.length : Int) ++ p.C.flatMap ZJ)).length) ((((((Zu ([112, 114, 111, 109, 105, 115, 101])) ++ Z9 p.r) ++ Z9 p.e) ++ Z0g p.f.toNat) ++ (Z9 (p.C.length : Int) ++ p.C.flatMap ZJ)).flatMap Zr)] w48 := (Sat.turnL (L' := [Z3 r10 174 ([(.slice a50 ((((((Zu ([112, 114, 111, 109, 105, 115, 101])) ++ Z9 p.r) ++ Z9 p.e) ++ Z0g p.f.toNat) ++ (Z9 (p.C.length : Int) ++ p.C.flatMap ZJ)).length) c51)] : List Value), Zb 5 1 (.slice a50 ((((((Zu ([112, 114, 111, 109, 105, 115, 101])) ++ Z9 p.r) ++ Z9 p.e) ++ Z0g p.f.toNat) ++ (Z9 (p.C.length : Int) ++ p.C.flatMap ZJ)).length) c51) ((((((Zu ([112, 114, 111, 109, 105, 115, 101])) ++ Z9 p.r) ++ Z9 p.e) ++ Z0g p.f.toNat) ++ (Z9 (p.C.length : Int) ++ p.C.flatMap ZJ)).length) ((((((Zu ([112, 114, 111, 109, 105, 115, 101])) ++ Z9 p.r) ++ Z9 p.e) ++ Z0g p.f.toNat) ++ (Z9 (p.C.length : Int) ++ p.C.flatMap ZJ)).flatMap Zr)]) (R := [Z6 w (fun _ => False), Z3 b2 34 ([(.int .i64 (p.r)), (.int .i64 (p.e)), (.int .u64 (p.f)), (.slice p.ca p.C.length p.cc), (.int .i64 (p.sb)), (.int .i64 (p.sm))] : List Value)]) H45 [2, 3] [0, 1] (by decide) (by kernel_rfl) rfl T49).pick [2, 3, 0, 1] (by decide)
 refine ⟨_, rfl, ?_⟩
 refine hK47 _ _ ?_
 clear hK47 K47
 refine Zm ?_
 refine Z4 ?_
 refine Zc ?_
 refine Zp ?_
 refine Z2 (Z1 rfl) (d := 18) (v := (.pointer (some ⟨r10, 0, none⟩))) rfl (by kernel_rfl) ?_
 refine ZA (Z1 rfl) (fun K56 hK56 => ?_)
 refine Zv (d := 19) rfl (by kernel_rfl) (Z1r w48 r10 a50 c51 (((((Zu ([112, 114, 111, 109, 105, 115, 101])) ++ Z9 p.r) ++ Z9 p.e) ++ Z0g p.f.toNat) ++ (Z9 (p.C.length : Int) ++ p.C.flatMap ZJ)) (H55.fin [2, 3] (by decide) rfl) (by simp only [List.length_append, List.length_nil]; omega)) ?_
 rintro _ w57 ⟨u58, rfl, T59⟩
 have H60 : Sat w [Z6 w (fun _ => False), Z3 b2 34 ([(.int .i64 (p.r)), (.int .i64 (p.e)), (.int .u64 (p.f)), (.slice p.ca p.C.length p.cc), (.int .i64 (p.sb)), (.int .i64 (p.sm))] : List Value), Z3 r10 174 ([(.slice a50 ((((((Zu ([112, 114, 111, 109, 105, 115, 101])) ++ Z9 p.r) ++ Z9 p.e) ++ Z0g p.f.toNat) ++ (Z9 (p.C.length : Int) ++ p.C.flatMap ZJ)).length) c51)] : List Value), Zb 5 1 (.slice a50 ((((((Zu ([112, 114, 111, 109, 105, 115, 101])) ++ Z9 p.r) ++ Z9 p.e) ++ Z0g p.f.toNat) ++ (Z9 (p.C.length : Int) ++ p.C.flatMap ZJ)).length) c51) ((((((Zu ([112, 114, 111, 109, 105, 115, 101])) ++ Z9 p.r) ++ Z9 p.e) ++ Z0g p.f.toNat) ++ (Z9 (p.C.length : Int) ++ p.C.flatMap ZJ)).length) ((((((Zu ([112, 114, 111, 109, 105, 115, 101])) ++ Z9 p.r) ++ Z9 p.e) ++ Z0g p.f.toNat) ++ (Z9 (p.C.length : Int) ++ p.C.flatMap ZJ)).flatMap Zr), Zb 5 1 u58 ((((((Zu ([112, 114, 111, 109, 105, 115, 101])) ++ Z9 p.r) ++ Z9 p.e) ++ Z0g p.f.toNat) ++ (Z9 (p.C.length : Int) ++ p.C.flatMap ZJ)).length) ((((((Zu ([112, 114, 111, 109, 105, 115, 101])) ++ Z9 p.r) ++ Z9 p.e) ++ Z0g p.f.toNat) ++ (Z9 (p.C.length : Int) ++ p.C.flatMap ZJ)).flatMap Zr)] w57 := (Sat.turnL (L' := [Z3 r10 174 ([(.slice a50 ((((((Zu ([112, 114, 111, 109, 105, 115, 101])) ++ Z9 p.r) ++ Z9 p.e) ++ Z0g p.f.toNat) ++ (Z9 (p.C.length : Int) ++ p.C.flatMap ZJ)).length) c51)] : List Value), Zb 5 1 (.slice a50 ((((((Zu ([112, 114, 111, 109, 105, 115, 101])) ++ Z9 p.r) ++ Z9 p.e) ++ Z0g p.f.toNat) ++ (Z9 (p.C.length : Int) ++ p.C.flatMap ZJ)).length) c51) ((((((Zu ([112, 114, 111, 109, 105, 115, 101])) ++ Z9 p.r) ++ Z9 p.e) ++ Z0g p.f.toNat) ++ (Z9 (p.C.length : Int) ++ p.C.flatMap ZJ)).length) ((((((Zu ([112, 114, 111, 109, 105, 115, 101])) ++ Z9 p.r) ++ Z9 p.e) ++ Z0g p.f.toNat) ++ (Z9 (p.C.length : Int) ++ p.C.flatMap ZJ)).flatMap Zr), Zb 5 1 u58 ((((((Zu ([112, 114, 111, 109, 105, 115, 101])) ++ Z9 p.r) ++ Z9 p.e) ++ Z0g p.f.toNat) ++ (Z9 (p.C.length : Int) ++ p.C.flatMap ZJ)).length) ((((((Zu ([112, 114, 111, 109, 105, 115, 101])) ++ Z9 p.r) ++ Z9 p.e) ++ Z0g p.f.toNat) ++ (Z9 (p.C.length : Int) ++ p.C.flatMap ZJ)).flatMap Zr)]) (R := [Z6 w (fun _ => False), Z3 b2 34 ([(.int .i64 (p.r)), (.int .i64 (p.e)), (.int .u64 (p.f)), (.slice p.ca p.C.length p.cc), (.int .i64 (p.sb)), (.int .i64 (p.sm))] : List Value)]) H55 [2, 3] [0, 1] (by decide) (by kernel_rfl) rfl T59).pick [3, 4, 0, 1, 2] (by decide)
 obtain ⟨a61, c62, rfl⟩ := Zl (H60.at 4 rfl)
 refine ⟨_, rfl, ?_⟩
 refine hK56 _ _ ?_
 clear hK56 K56
 refine Z2 (Z1 rfl) (d := 2) (v := (.slice a61 (((((Zu ([112, 114, 111, 109, 105, 115, 101])) ++ Z9 p.r) ++ Z9 p.e) ++ Z0g p.f.toNat) ++ (Z9 (p.C.length : Int) ++ p.C.flatMap ZJ)).length c62)) rfl (by kernel_rfl) ?_
 refine Zm ?_
 refine Z4 ?_
 refine ZY ?_
 refine Z0O rfl (ZF (v := (.slice a61 (((((Zu ([112, 114, 111, 109, 105, 115, 101])) ++ Z9 p.r) ++ Z9 p.e) ++ Z0g p.f.toNat) ++ (Z9 (p.C.length : Int) ++ p.C.flatMap ZJ)).length c62)) rfl) ?_
 have hX : (((((Zu ([112, 114, 111, 109, 105, 115, 101])) ++ Z9 p.r) ++ Z9 p.e) ++ Z0g p.f.toNat) ++ (Z9 (p.C.length : Int) ++ p.C.flatMap ZJ)) = Zy p := by simp only [Zy, Z4u, Z7w, List.flatten_cons, List.flatten_nil, List.append_nil, List.append_assoc, List.nil_append]
 exact ⟨_, rfl, (by rw [← hX]; exact H60.at 4 rfl), H60.upd 0 rfl [] (fun _ h => h.elim), (by rw [← hX]; exact H60.fresh 0 rfl (fun _ h => h) 4 rfl rfl)⟩
end Go.Proofs.YtoaifondpohniaaGreat
