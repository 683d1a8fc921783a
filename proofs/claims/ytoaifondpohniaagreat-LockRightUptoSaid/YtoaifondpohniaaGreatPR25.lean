/- WHAT IS PROVED: contracts and plain laws of Put12. Conditions: stated with each. -/
import Derived.Test.YtoaifondpohniaaGreatPR04
import Derived.Test.YtoaifondpohniaaGreatPR07
import Derived.Test.YtoaifondpohniaaGreatPR17
set_option maxHeartbeats 4000000
set_option maxRecDepth 100000
namespace Go.Proofs.YtoaifondpohniaaGreat
open Go.RowKit
abbrev Z0u (p0 : Option Addr) (p1 : Nat) (p2 : Nat) : List Value := ([(.slice p0 p1 p2)] : List Value)
abbrev Z0v (p0 : Option Addr) (p1 : List UInt8) (p2 : Nat) : Ck := ZH 5 1 (.slice p0 p1.length p2) p1.length (p1.flatMap ZN)
abbrev Z3G (p0 : Int) (p1 : Int) : List Value := ([(.int .i64 p0), (.int .i64 p1)] : List Value)
abbrev Z3H (p0 : Z5) : List Value := ([(.int .i64 p0.r), (.int .i64 p0.cl), (.int .i64 p0.seq)] : List Value) ++ hc p0.h ++ ([(.int .u64 p0.t), (.int .i64 p0.sb), (.int .i64 p0.sm)] : List Value)
abbrev Z6M (p0 : Zg) : List Value := ([(.int .i64 p0.cl), (.int .i64 p0.seq)] : List Value) ++ hc p0.h ++ ([(.int .i64 p0.len), (.int .i64 p0.sb), (.int .i64 p0.sm)] : List Value)
abbrev Zbg : List Value := ([(.int .i64 (0)), (.int .i64 (0)), (.int .i64 (0))] : List Value) ++ hc Z0d ++ ([(.int .u64 (0)), (.int .i64 (0)), (.int .i64 (0))] : List Value)
abbrev Zbh (p0 : CeR) : List Value := ([(.int .i64 p0.x.cl), (.int .i64 p0.x.seq)] : List Value) ++ hc p0.x.h ++ ([(.int .i64 p0.x.len), (.int .i64 p0.x.sb), (.int .i64 p0.x.sm), (.slice p0.sa p0.S.length p0.sc)] : List Value)
abbrev Z5h (p0 : Zg) (p1 : CeR) (p2 : Nat) : List Value := ([(.int .i64 p0.cl), (.int .i64 p0.seq)] : List Value) ++ hc p0.h ++ ([(.int .i64 p0.len), (.int .i64 p0.sb), (.int .i64 p0.sm), (.slice p1.sa p2 p1.sc)] : List Value)
abbrev Zbi : List Value := ([(.int .i64 (0)), (.int .i64 (0))] : List Value) ++ hc Z0d ++ ([(.int .i64 (0)), (.int .i64 (0)), (.int .i64 (0)), (.slice none 0 0)] : List Value)
abbrev Z8R (p0 : PrR) : List Value := ([(.int .i64 p0.r), (.int .i64 p0.e), (.int .u64 p0.f), (.slice p0.ca p0.C.length p0.cc), (.int .i64 p0.sb), (.int .i64 p0.sm)] : List Value)
theorem Z5O {va : Option Addr} {n c n' c' : Nat} {ad : Addr} (h : Value.slice va n c = .slice (some ad) n' c') : va = some ad := by simp only [Value.slice.injEq] at h; exact h.1
theorem Z4s {α : Type} {enc : α → List Value} {sz : Nat} (hs : ∀ x, (enc x).length = sz) (h0 : 0 < sz) {W w : World} {D : Nat → Prop} {G : List Ck} (H : Sat W G w) (is : List Nat) (j : Nat) {B : List Ck} (hB : (is.filterMap fun i => G[i]?) = B) (hj : G[j]? = some (Z6 W D)) (hne : is.all (fun i => !Nat.beq i j) = true) {va : Option Addr} {n vc : Nat} {ls : List α} (hv : ListAt enc sz W (.slice va n vc) ls) (hf : 0 < ls.length → ∀ ad, va = some ad → ¬ D ad.block) : 0 < ls.length → ∀ a, va = some a → ¬ (Z0c B).fp a.block := by
 intro h1 a ha hfp
 obtain ⟨vb, vo, vc', hva, hvs⟩ := hv.cells hs h0 h1
 have h2 : va = some ⟨vb, vo, none⟩ := by simp only [Value.slice.injEq] at hva; exact hva.1
 have h3 := h2
 rw [ha] at h3
 obtain rfl := (Option.some.inj h3)
 have hl : 0 < (ls.flatMap enc).length := by rw [Z1u enc sz hs]; exact Nat.mul_pos h1 h0
 have hc := hvs 0 _ (List.getElem?_eq_getElem hl)
 rw [Addr.add_lit] at hc
 have hlt := World.block_lt_of_cell? W _ hc
 subst hB
 obtain ⟨A, hA, hAf⟩ := hfp
 obtain ⟨i, hi, he⟩ := List.mem_filterMap.1 hA
 have hij : Nat.beq i j = false := by simpa using List.all_eq_true.1 hne i hi
 exact H.apart i j he hj hij _ hAf ⟨hlt, hf h1 _ ha⟩
theorem CeB.keepD {w w0 w' : World} {G : List Ck} {D : Nat → Prop} {c : CeR} (h : CeB w c) (H : Sat w0 G w') (j : Nat) (hj : G[j]? = some (Z6 w D)) (hf : 0 < c.S.length → ∀ ad, c.sa = some ad → ¬ D ad.block) : CeB w' c := ⟨h.x, ListAt.nowD H j hj h.at_ hf, h.S, h.len⟩
theorem Z99 (w : World) (r : Nat) (a0 : Option Addr) (c0 : Nat) (B : List UInt8) (hB : (Z0c (wrL r a0 c0 B)).ok w) (hl : B.length ≤ 900000) (a b : Int) (hs : a ≤ 9223372036854775807 ∧ b ≤ 9223372036854775807) :
  Calls Tryz.prog 126 #[(.pointer (some ⟨r, 0, none⟩)), (.agg ⟨([(.int .i64 (a)), (.int .i64 (b))] : List Value)⟩)] w fun e w' => ∃ a' c', e = .returned (.tuple #[]) ∧ Sat w [Z0 r 174 [.slice a' (B ++ Z3n a b).length c'], ZH 5 1 (.slice a' (B ++ Z3n a b).length c') (B ++ Z3n a b).length ((B ++ Z3n a b).flatMap ZN), Z6 w (Z0c (wrL r a0 c0 B)).fp] w' := by
 have H := Sat.start (wrL r a0 c0 B) hB
 refine Zp Tryz.func126 rfl 11 rfl (Nat.le_of_ble_eq_true rfl) ?_
 apply zsl
 refine zwd fun Kq kq => ?_
 refine zdb (Z3G a b) H ?_
 intro b2 w3 H4
 refine kq _ _ ?_
 clear kq Kq
 apply znt
 refine Z00 H4 [Z6 w (Z0c (wrL r a0 c0 B)).fp, Z0 b2 29 (Z3G a b)] 7 rfl (by kernel_rfl) (fun Hx => (Hx.pk [2, 3])) ?_
 intro w5 H6 S7
 refine hv0 0 S7 4 (pt r 0) ?_
 refine hv0 1 S7 5 (pt b2 0) ?_
 refine hv0 2 S7 6 (.int .i64 (a)) ?_ (he := fun _ H' => (Z2 rfl (by kernel_rfl) (H'.cell 1 rfl rfl)))
 refine hv0 4 S7 8 (pt b2 1) ?_
 refine hv0 5 S7 9 (.int .i64 (b)) ?_ (he := fun _ H' => (Z2 rfl (by kernel_rfl) (H'.cell 1 rfl rfl)))
 refine Z09 3 fun Kq kq => ?_
 have l14 := ZD a
 refine zdc 7 (Z0H w5 r a0 c0 B (H6.fn [0, 1]) (by omega) a (by omega)) ?_
 rintro _ w9 ⟨a11, c12, rfl, T10⟩
 have H15 := H6.tl [Z0 r 174 (Z0u a11 ((B ++ Zh a).length) c12), (Z0v a11 (B ++ Zh a) c12)] [0, 1] [2, 3] T10 [0, 1, 2, 3]
 refine ⟨_, rfl, ?_⟩
 have S16 := H15.pk [2, 3]
 refine kq _ _ S16 ?_
 clear kq Kq
 refine Z09 6 fun Kq kq => ?_
 have l23 := ZD b
 refine zdc 10 (Z0H w9 r a11 c12 (B ++ Zh a) (H15.fn [0, 1]) (by simp only [List.length_append, List.length_nil]; omega) b (by omega)) ?_
 rintro _ w18 ⟨a20, c21, rfl, T19⟩
 have H24 := H15.tl [Z0 r 174 (Z0u a20 (((B ++ Zh a) ++ Zh b).length) c21), (Z0v a20 ((B ++ Zh a) ++ Zh b) c21)] [0, 1] [2, 3] T19 [0, 1, 2, 3]
 refine ⟨_, rfl, ?_⟩
 have S25 := H24.pk [2, 3]
 refine kq _ _ S25 ?_
 clear kq Kq
 refine zhf ?_
 refine Z1C ?_
 refine ZaX rfl  ?_
 have hX : ((B ++ Zh a) ++ Zh b) = (B ++ Z3n a b) := by simp only [Z3n, List.flatten_cons, List.flatten_nil, List.append_nil, List.append_assoc, List.nil_append]
 exact ⟨a20, c21, rfl, (H24.pk [0, 1, 2]).cast (by show [_, _, _] = _; rw [hX])⟩
theorem Z75 (w : World) (r : Nat) (a0 : Option Addr) (c0 : Nat) (B : List UInt8) (hB : (Z0c (wrL r a0 c0 B)).ok w) (hl : B.length ≤ 800000) (s : Z5) (hs : StB s) :
  Calls Tryz.prog 116 #[(.pointer (some ⟨r, 0, none⟩)), (.agg ⟨(([(.int .i64 (s.r)), (.int .i64 (s.cl)), (.int .i64 (s.seq))] : List Value) ++ hc s.h ++ ([(.int .u64 (s.t)), (.int .i64 (s.sb)), (.int .i64 (s.sm))] : List Value))⟩)] w fun e w' => ∃ a' c', e = .returned (.tuple #[]) ∧ Sat w [Z0 r 174 [.slice a' (B ++ ZW s).length c'], ZH 5 1 (.slice a' (B ++ ZW s).length c') (B ++ ZW s).length ((B ++ ZW s).flatMap ZN), Z6 w (Z0c (wrL r a0 c0 B)).fp] w' := by
 have H := Sat.start (wrL r a0 c0 B) hB
 unfold StB at hs
 refine Zp Tryz.func116 rfl 23 rfl (Nat.le_of_ble_eq_true rfl) ?_
 apply zsl
 refine zwd fun Kq kq => ?_
 refine zdb (Z3H s) H ?_
 intro b2 w3 H4
 refine kq _ _ ?_
 clear kq Kq
 apply Z1y
 refine wv 4 (pt r 0) ?_
 refine wv 5 (pt b2 0) ?_
 refine zw1 6 (.int .i64 (s.r)) (H4.cell 3 rfl (by kernel_rfl)) ?_
 refine zwd fun Kq kq => ?_
 have l11 := ZD s.r
 refine zdc 7 (Z0H w3 r a0 c0 B (H4.fn [0, 1]) (by omega) s.r (by omega)) ?_
 rintro _ w6 ⟨a8, c9, rfl, T7⟩
 have H12 := H4.tl [Z0 r 174 (Z0u a8 ((B ++ Zh s.r).length) c9), (Z0v a8 (B ++ Zh s.r) c9)] [0, 1] [2, 3] T7 [0, 1, 2, 3]
 refine ⟨_, rfl, ?_⟩
 refine kq _ _ ?_
 clear kq Kq
 apply Z1y
 refine wv 8 (pt r 0) ?_
 refine wv 9 (pt b2 1) ?_
 refine zwN 10 (Z3G s.cl s.seq) (H12.at 3 rfl) ?_
 refine zwd fun Kq kq => ?_
 have l19 := Z1X s.cl s.seq
 refine zdc 11 (Z4F w6 r a8 c9 (B ++ Zh s.r) (H12.fn [0, 1]) (by simp only [List.length_append, List.length_nil]; omega) s.cl s.seq (by omega)) ?_
 rintro _ w14 ⟨a16, c17, rfl, T15⟩
 have H20 := H12.tl [Z0 r 174 (Z0u a16 (((B ++ Zh s.r) ++ ZT s.cl s.seq).length) c17), (Z0v a16 ((B ++ Zh s.r) ++ ZT s.cl s.seq) c17)] [0, 1] [2, 3] T15 [0, 1, 2, 3]
 refine ⟨_, rfl, ?_⟩
 refine kq _ _ ?_
 clear kq Kq
 apply znt
 apply Zt
 refine Z00 H20 [Z6 w (Z0c (wrL r a0 c0 B)).fp, Z0 b2 101 (Z3H s)] 7 rfl (by kernel_rfl) (fun Hx => (Hx.pk [2, 3])) ?_
 intro w21 H22 S23
 refine hv0 0 S23 12 (pt r 0) ?_
 refine hv0 1 S23 13 (pt b2 3) ?_
 refine hv0 2 S23 14 (.agg ⟨(hc s.h)⟩) ?_ (he := fun _ H' => (Zc (vs := (hc s.h)) rfl (by kernel_rfl) (by kernel_rfl) (by exact Nat.le_of_ble_eq_true (by kernel_rfl)) (H'.at 1 rfl) (by kernel_rfl)))
 refine hv0 4 S23 16 (pt b2 35) ?_
 refine hv0 5 S23 17 (.int .u64 (s.t)) ?_ (he := fun _ H' => (Z2 rfl (by kernel_rfl) (H'.cell 1 rfl (by kernel_rfl))))
 refine Z09 3 fun Kq kq => ?_
 have l30 := s.h.len
 refine zdc 15 (Z2x w21 r a16 c17 ((B ++ Zh s.r) ++ ZT s.cl s.seq) (H22.fn [0, 1]) (by simp only [List.length_append, List.length_nil]; omega) s.h) ?_
 rintro _ w25 ⟨a27, c28, rfl, T26⟩
 have H31 := H22.tl [Z0 r 174 (Z0u a27 ((((B ++ Zh s.r) ++ ZT s.cl s.seq) ++ s.h.l).length) c28), (Z0v a27 (((B ++ Zh s.r) ++ ZT s.cl s.seq) ++ s.h.l) c28)] [0, 1] [2, 3] T26 [0, 1, 2, 3]
 refine ⟨_, rfl, ?_⟩
 have S32 := H31.pk [2, 3]
 refine kq _ _ S32 ?_
 clear kq Kq
 refine Z09 6 fun Kq kq => ?_
 have l39 := Z1M s.t.toNat
 refine Z2p (d := 18) rfl (by rw [show s.t = ((s.t.toNat : Nat) : Int) by omega]; kernel_rfl) (Z4G w25 r a27 c28 (((B ++ Zh s.r) ++ ZT s.cl s.seq) ++ s.h.l) (H31.fn [0, 1]) (by simp only [List.length_append, List.length_nil]; omega) s.t.toNat (by omega)) ?_
 rintro _ w34 ⟨a36, c37, rfl, T35⟩
 have H40 := H31.tl [Z0 r 174 (Z0u a36 (((((B ++ Zh s.r) ++ ZT s.cl s.seq) ++ s.h.l) ++ Z0W s.t.toNat).length) c37), (Z0v a36 ((((B ++ Zh s.r) ++ ZT s.cl s.seq) ++ s.h.l) ++ Z0W s.t.toNat) c37)] [0, 1] [2, 3] T35 [0, 1, 2, 3]
 refine ⟨_, rfl, ?_⟩
 have S41 := H40.pk [2, 3]
 refine kq _ _ S41 ?_
 clear kq Kq
 refine zhf ?_
 apply ztn
 apply ZU
 refine wv 19 (pt r 0) ?_
 refine wv 20 (pt b2 36) ?_
 refine zwN 21 (Z3G s.sb s.sm) (H40.at 3 rfl) ?_
 refine zwd fun Kq kq => ?_
 have l48 := Z3P s.sb s.sm
 refine zdc 22 (Z99 w34 r a36 c37 ((((B ++ Zh s.r) ++ ZT s.cl s.seq) ++ s.h.l) ++ Z0W s.t.toNat) (H40.fn [0, 1]) (by simp only [List.length_append, List.length_nil]; omega) s.sb s.sm (by omega)) ?_
 rintro _ w43 ⟨a45, c46, rfl, T44⟩
 have H49 := H40.tl [Z0 r 174 (Z0u a45 ((((((B ++ Zh s.r) ++ ZT s.cl s.seq) ++ s.h.l) ++ Z0W s.t.toNat) ++ Z3n s.sb s.sm).length) c46), (Z0v a45 (((((B ++ Zh s.r) ++ ZT s.cl s.seq) ++ s.h.l) ++ Z0W s.t.toNat) ++ Z3n s.sb s.sm) c46)] [0, 1] [2, 3] T44 [0, 1, 2, 3]
 refine ⟨_, rfl, ?_⟩
 refine kq _ _ ?_
 clear kq Kq
 apply ZQ
 refine Z1C ?_
 refine ZaX rfl  ?_
 have hX : (((((B ++ Zh s.r) ++ ZT s.cl s.seq) ++ s.h.l) ++ Z0W s.t.toNat) ++ Z3n s.sb s.sm) = (B ++ ZW s) := by simp only [ZW, Z15, List.flatten_cons, List.flatten_nil, List.append_nil, List.append_assoc, List.nil_append]
 exact ⟨a45, c46, rfl, (H49.pk [0, 1, 2]).cast (by show [_, _, _] = _; rw [hX])⟩
theorem Z67 (w : World) (r : Nat) (a0 : Option Addr) (c0 : Nat) (B : List UInt8) (hB : (Z0c (wrL r a0 c0 B)).ok w) (hl : B.length ≤ 800000) (s : Zg) (hs : CoB s) :
  Calls Tryz.prog 114 #[(.pointer (some ⟨r, 0, none⟩)), (.agg ⟨(([(.int .i64 (s.cl)), (.int .i64 (s.seq))] : List Value) ++ hc s.h ++ ([(.int .i64 (s.len)), (.int .i64 (s.sb)), (.int .i64 (s.sm))] : List Value))⟩)] w fun e w' => ∃ a' c', e = .returned (.tuple #[]) ∧ Sat w [Z0 r 174 [.slice a' (B ++ ZS s).length c'], ZH 5 1 (.slice a' (B ++ ZS s).length c') (B ++ ZS s).length ((B ++ ZS s).flatMap ZN), Z6 w (Z0c (wrL r a0 c0 B)).fp] w' := by
 have H := Sat.start (wrL r a0 c0 B) hB
 unfold CoB at hs
 refine Zp Tryz.func114 rfl 19 rfl (Nat.le_of_ble_eq_true rfl) ?_
 apply zsl
 refine zwd fun Kq kq => ?_
 refine zdb (Z6M s) H ?_
 intro b2 w3 H4
 refine kq _ _ ?_
 clear kq Kq
 apply Z1y
 refine wv 4 (pt r 0) ?_
 refine wv 5 (pt b2 0) ?_
 refine zwN 6 (Z3G s.cl s.seq) (H4.at 3 rfl) ?_
 refine zwd fun Kq kq => ?_
 have l11 := Z1X s.cl s.seq
 refine zdc 7 (Z4F w3 r a0 c0 B (H4.fn [0, 1]) (by omega) s.cl s.seq (by omega)) ?_
 rintro _ w6 ⟨a8, c9, rfl, T7⟩
 have H12 := H4.tl [Z0 r 174 (Z0u a8 ((B ++ ZT s.cl s.seq).length) c9), (Z0v a8 (B ++ ZT s.cl s.seq) c9)] [0, 1] [2, 3] T7 [0, 1, 2, 3]
 refine ⟨_, rfl, ?_⟩
 refine kq _ _ ?_
 clear kq Kq
 apply znt
 apply Zt
 refine Z00 H12 [Z6 w (Z0c (wrL r a0 c0 B)).fp, Z0 b2 50 (Z6M s)] 7 rfl (by kernel_rfl) (fun Hx => (Hx.pk [2, 3])) ?_
 intro w13 H14 S15
 refine hv0 0 S15 8 (pt r 0) ?_
 refine hv0 1 S15 9 (pt b2 2) ?_
 refine hv0 2 S15 10 (.agg ⟨(hc s.h)⟩) ?_ (he := fun _ H' => (Zc (vs := (hc s.h)) rfl (by kernel_rfl) (by kernel_rfl) (by exact Nat.le_of_ble_eq_true (by kernel_rfl)) (H'.at 1 rfl) (by kernel_rfl)))
 refine hv0 4 S15 12 (pt b2 34) ?_
 refine hv0 5 S15 13 (.int .i64 (s.len)) ?_ (he := fun _ H' => (Z2 rfl (by kernel_rfl) (H'.cell 1 rfl (by kernel_rfl))))
 refine Z09 3 fun Kq kq => ?_
 have l22 := s.h.len
 refine zdc 11 (Z2x w13 r a8 c9 (B ++ ZT s.cl s.seq) (H14.fn [0, 1]) (by simp only [List.length_append, List.length_nil]; omega) s.h) ?_
 rintro _ w17 ⟨a19, c20, rfl, T18⟩
 have H23 := H14.tl [Z0 r 174 (Z0u a19 (((B ++ ZT s.cl s.seq) ++ s.h.l).length) c20), (Z0v a19 ((B ++ ZT s.cl s.seq) ++ s.h.l) c20)] [0, 1] [2, 3] T18 [0, 1, 2, 3]
 refine ⟨_, rfl, ?_⟩
 have S24 := H23.pk [2, 3]
 refine kq _ _ S24 ?_
 clear kq Kq
 refine Z09 6 fun Kq kq => ?_
 have l31 := ZD s.len
 refine zdc 14 (Z0H w17 r a19 c20 ((B ++ ZT s.cl s.seq) ++ s.h.l) (H23.fn [0, 1]) (by simp only [List.length_append, List.length_nil]; omega) s.len (by omega)) ?_
 rintro _ w26 ⟨a28, c29, rfl, T27⟩
 have H32 := H23.tl [Z0 r 174 (Z0u a28 ((((B ++ ZT s.cl s.seq) ++ s.h.l) ++ Zh s.len).length) c29), (Z0v a28 (((B ++ ZT s.cl s.seq) ++ s.h.l) ++ Zh s.len) c29)] [0, 1] [2, 3] T27 [0, 1, 2, 3]
 refine ⟨_, rfl, ?_⟩
 have S33 := H32.pk [2, 3]
 refine kq _ _ S33 ?_
 clear kq Kq
 refine zhf ?_
 apply ztn
 apply ZU
 refine wv 15 (pt r 0) ?_
 refine wv 16 (pt b2 35) ?_
 refine zwN 17 (Z3G s.sb s.sm) (H32.at 3 rfl) ?_
 refine zwd fun Kq kq => ?_
 have l40 := Z3P s.sb s.sm
 refine zdc 18 (Z99 w26 r a28 c29 (((B ++ ZT s.cl s.seq) ++ s.h.l) ++ Zh s.len) (H32.fn [0, 1]) (by simp only [List.length_append, List.length_nil]; omega) s.sb s.sm (by omega)) ?_
 rintro _ w35 ⟨a37, c38, rfl, T36⟩
 have H41 := H32.tl [Z0 r 174 (Z0u a37 (((((B ++ ZT s.cl s.seq) ++ s.h.l) ++ Zh s.len) ++ Z3n s.sb s.sm).length) c38), (Z0v a37 ((((B ++ ZT s.cl s.seq) ++ s.h.l) ++ Zh s.len) ++ Z3n s.sb s.sm) c38)] [0, 1] [2, 3] T36 [0, 1, 2, 3]
 refine ⟨_, rfl, ?_⟩
 refine kq _ _ ?_
 clear kq Kq
 apply ZQ
 refine Z1C ?_
 refine ZaX rfl  ?_
 have hX : ((((B ++ ZT s.cl s.seq) ++ s.h.l) ++ Zh s.len) ++ Z3n s.sb s.sm) = (B ++ ZS s) := by simp only [ZS, List.flatten_cons, List.flatten_nil, List.append_nil, List.append_assoc, List.nil_append]
 exact ⟨a37, c38, rfl, (H41.pk [0, 1, 2]).cast (by show [_, _, _] = _; rw [hX])⟩
theorem Z4Z (w : World) (r : Nat) (a0 : Option Addr) (c0 : Nat) (B : List UInt8) (hB : (Z0c (wrL r a0 c0 B)).ok w) (hl : B.length ≤ 780000) (la : Option Addr) (lc : Nat) (L : List Z5) (hL : ListAt Z0J 38 w (.slice la L.length lc) L) (hoff : 0 < L.length → ∀ ad, la = some ad → ¬ (Z0c (wrL r a0 c0 B)).fp ad.block) (hS : ∀ i, i < L.length → StB (L.getD i Z9)) (hl2 : L.length ≤ 100) :
  Calls Tryz.prog 115 #[(.pointer (some ⟨r, 0, none⟩)), (.slice la L.length lc), (.func (.func 116) #[] #[])] w fun e w' => ∃ a' c', e = .returned (.tuple #[]) ∧ Sat w [Z0 r 174 [.slice a' (B ++ (Zh (L.length : Int) ++ L.flatMap ZW)).length c'], ZH 5 1 (.slice a' (B ++ (Zh (L.length : Int) ++ L.flatMap ZW)).length c') (B ++ (Zh (L.length : Int) ++ L.flatMap ZW)).length ((B ++ (Zh (L.length : Int) ++ L.flatMap ZW)).flatMap ZN), Z6 w (Z0c (wrL r a0 c0 B)).fp] w' := by
 have H := Sat.start (wrL r a0 c0 B) hB
 have hvl := ZD (L.length : Int)
 refine Zp Tryz.func115 rfl 23 rfl (Nat.le_of_ble_eq_true rfl) ?_
 apply zsl
 refine wv 8 (pt r 0) ?_
 refine wv 9 (.slice la L.length lc) ?_
 refine wv 10 (.int .i64 ((L.length : Int))) ?_
 refine zwd fun Kq kq => ?_
 have l7 := ZD (L.length : Int)
 refine zdc 11 (Z0H w r a0 c0 B (H.fn [0, 1]) (by omega) (L.length : Int) (by omega)) ?_
 rintro _ w2 ⟨a4, c5, rfl, T3⟩
 have H8 := H.tl [Z0 r 174 (Z0u a4 ((B ++ Zh (L.length : Int)).length) c5), (Z0v a4 (B ++ Zh (L.length : Int)) c5)] [0, 1] [2] T3 [0, 1, 2]
 refine ⟨_, rfl, ?_⟩
 refine kq _ _ ?_
 clear kq Kq
 apply Z1y
 refine wv 12 (.slice la L.length lc) ?_
 refine wv 13 (.int .i64 ((L.length : Int))) ?_
 refine wv 14 (.int .i64 (0)) ?_
 apply znt
 apply ZG
 obtain ⟨hd, hhd⟩ : ∃ hd, hd = (B ++ Zh (L.length : Int)) := ⟨_, rfl⟩
 have hdl : hd.length ≤ 780010 := by rw [hhd]; simp only [List.length_append]; omega
 refine Z02 [7, 14, 15, 16, 17, 18, 19, 20, 21, 22] (fun F_ W_ m_ => ∃ (i : Nat) (a : Option Addr) (c_ : Nat) (D : List UInt8), F_ 14 = (.int .i64 ((i : Int))) ∧ (i ≤ L.length) ∧ (D = hd ++ (L.take i).flatMap ZW) ∧ Sat w [Z0 r 174 (Z0u a D.length c_), (Z0v a D c_), Z6 w (Z0c (wrL r a0 c0 B)).fp] W_ ∧ m_ = L.length - i) _ ⟨0, a4, c5, (B ++ Zh (L.length : Int)), (show ((.int .i64 (0)) : Value) = _ by first | rfl | go_num), (Nat.zero_le _), (by rw [hhd]; simp), H8, rfl⟩ ?_
 rintro g9 w10 _ ⟨i, a, c_, D, v12, hi, hD, H11, rfl⟩
 refine ZF 14 _ v12 ?_
 have hDl : D.length ≤ 799000 := by rw [hD, List.length_append]; have q1 := Z4n Z1q (L.take i); rw [List.length_take] at q1; omega
 have q2 := Z1q (L.getD i Z9)
 apply zsl
 refine wv 15 (.bool (decide ((i : Int) < (L.length : Int)))) ?_
 apply znt
 apply Zt
 refine (Zl (decide ((i : Int) < (L.length : Int)))).elim (fun b14 => ?_) (fun b14 => ?_)
 ·have g15 := of_decide_eq_true b14
  refine Z1o _ b14 ?_
  apply ZL
  apply ztn
  apply Zt
  apply ZG
  apply zsl
  obtain ⟨g17, o18, c19, e20, R21⟩ := SliceOf.atD hL Z9 (show i < L.length by omega)
  refine wv 16 (.pointer (some ⟨g17, o18 + ((i : Int)).toNat * 38, none⟩)) ?_ (hr := ZC (E := 101) (by kernel_rfl) (by kernel_rfl) (Nat.le_of_ble_eq_true rfl) rfl e20 rfl (by omega) (by omega))
  refine wv 17 (.agg ⟨(Z3H (L.getD i Z9))⟩) ?_ (hr := Z0f (vs := (Z3H (L.getD i Z9))) rfl (by kernel_rfl) (by kernel_rfl) (Nat.le_of_ble_eq_true (by kernel_rfl)) (H11.runR 2 rfl (Z10 R21 0 (by kernel_rfl) (show o18 + ((i : Int)).toNat * 38 = o18 + i * 38 + 0 by omega)) (hoff (by omega) _ (Z5O e20))))
  refine zwd fun Kq kq => ?_
  refine zda (Zbg) H11 ?_
  intro b23 w24 H25
  refine kq _ _ ?_
  clear kq Kq
  refine zwd fun Kq kq => ?_
  refine Z2k (Z3H (L.getD i Z9)) H25 3 ?_
  intro w27 H28
  refine kq _ _ ?_
  clear kq Kq
  apply znt
  apply ZU
  refine wv 18 (.func (.func 116) #[] #[]) ?_
  refine wv 19 (pt r 0) ?_
  refine zwN 20 (Z3H (L.getD i Z9)) (H28.at 3 rfl) ?_
  refine zwd fun Kq kq => ?_
  have l36 := Z1q (L.getD i Z9)
  refine zdc 21 (Z75 w27 r a c_ D (H28.fn [0, 1]) (by omega) (L.getD i Z9) (hS i (by omega))) ?_
  rintro _ w31 ⟨a33, c34, rfl, T32⟩
  have H37 := H28.tl [Z0 r 174 (Z0u a33 ((D ++ ZW (L.getD i Z9)).length) c34), (Z0v a33 (D ++ ZW (L.getD i Z9)) c34)] [0, 1] [2, 3] T32 [0, 1, 2, 3]
  refine ⟨_, rfl, ?_⟩
  refine kq _ _ ?_
  clear kq Kq
  apply ZQ
  apply Zq
  apply ztn
  apply ZU
  refine zwi 22 ((i : Int) + 1) ?_
  refine wv 14 (.int .i64 ((i : Int) + 1)) ?_
  apply ZQ
  have H38 := H37.pk [0, 1, 2]
  refine Zw ?_ _ ⟨(i + 1), a33, c34, (D ++ ZW (L.getD i Z9)), rfl, (by omega), (by rw [hD, Z3C L Z9 (by omega), List.append_assoc]), H38, rfl⟩ (by omega)
  exact zs
 have g39 := of_decide_eq_false b14
 refine Z18 _ b14 ?_
 apply zxb
 refine Z1C ?_
 refine ZaX rfl  ?_
 have hX : D = (B ++ (Zh (L.length : Int) ++ L.flatMap ZW)) := by rw [hD, hhd, List.take_of_length_le (by omega), List.append_assoc]
 exact ⟨a, c_, rfl, (H11.pk [0, 1, 2]).cast (by show [_, _, _] = _; rw [hX])⟩
theorem Z7Q (w : World) (r : Nat) (a0 : Option Addr) (c0 : Nat) (B : List UInt8) (hB : (Z0c (wrL r a0 c0 B)).ok w) (hl : B.length ≤ 700000) (c : CeR) (hE : CeB w c) (hoff : 0 < c.S.length → ∀ ad, c.sa = some ad → ¬ (Z0c (wrL r a0 c0 B)).fp ad.block) :
  Calls Tryz.prog 93 #[(.pointer (some ⟨r, 0, none⟩)), (.agg ⟨(([(.int .i64 (c.x.cl)), (.int .i64 (c.x.seq))] : List Value) ++ hc c.x.h ++ ([(.int .i64 (c.x.len)), (.int .i64 (c.x.sb)), (.int .i64 (c.x.sm)), (.slice c.sa c.S.length c.sc)] : List Value))⟩)] w fun e w' => ∃ a' c', e = .returned (.tuple #[]) ∧ Sat w [Z0 r 174 [.slice a' (B ++ ZO c).length c'], ZH 5 1 (.slice a' (B ++ ZO c).length c') (B ++ ZO c).length ((B ++ ZO c).flatMap ZN), Z6 w (Z0c (wrL r a0 c0 B)).fp] w' := by
 have hS := hE.at_
 have hlS := hE.len
 have H := Sat.start (wrL r a0 c0 B) hB
 refine Zp Tryz.func93 rfl 12 rfl (Nat.le_of_ble_eq_true rfl) ?_
 apply zsl
 refine zwd fun Kq kq => ?_
 refine zdb (Zbh c) H ?_
 intro b2 w3 H4
 refine kq _ _ ?_
 clear kq Kq
 apply Z1y
 refine wv 4 (pt r 0) ?_
 refine wv 5 (pt b2 0) ?_
 refine zwN 6 (Z6M c.x) (H4.at 3 rfl) ?_
 refine zwd fun Kq kq => ?_
 have l11 := Z1J c.x
 refine zdc 7 (Z67 w3 r a0 c0 B (H4.fn [0, 1]) (by omega) c.x hE.x) ?_
 rintro _ w6 ⟨a8, c9, rfl, T7⟩
 have H12 := H4.tl [Z0 r 174 (Z0u a8 ((B ++ ZS c.x).length) c9), (Z0v a8 (B ++ ZS c.x) c9)] [0, 1] [2, 3] T7 [0, 1, 2, 3]
 refine ⟨_, rfl, ?_⟩
 refine kq _ _ ?_
 clear kq Kq
 apply znt
 apply ZU
 refine wv 8 (pt r 0) ?_
 refine wv 9 (pt b2 37) ?_
 refine zw1 10 (.slice c.sa c.S.length c.sc) (H12.cell 3 rfl (by kernel_rfl)) ?_
 refine zwd fun Kq kq => ?_
 have l19 := ZD (c.S.length : Int)
 have l20 := Z4n Z1q c.S
 refine zdc 11 (Z4Z w6 r a8 c9 (B ++ ZS c.x) (H12.fn [0, 1]) (by simp only [List.length_append, List.length_nil]; omega) c.sa c.sc c.S (ListAt.nowD H12 2 rfl hE.at_ hoff) (Z4s (sz := 38) Z2r (by decide) H12 [0, 1] 2 rfl rfl (by decide) hE.at_ hoff) hE.S hE.len) ?_
 rintro _ w14 ⟨a16, c17, rfl, T15⟩
 have H21 := H12.tl [Z0 r 174 (Z0u a16 (((B ++ ZS c.x) ++ (Zh (c.S.length : Int) ++ c.S.flatMap ZW)).length) c17), (Z0v a16 ((B ++ ZS c.x) ++ (Zh (c.S.length : Int) ++ c.S.flatMap ZW)) c17)] [0, 1] [2, 3] T15 [0, 1, 2, 3]
 refine ⟨_, rfl, ?_⟩
 refine kq _ _ ?_
 clear kq Kq
 apply ZQ
 refine Z1C ?_
 refine ZaX rfl  ?_
 have hX : ((B ++ ZS c.x) ++ (Zh (c.S.length : Int) ++ c.S.flatMap ZW)) = (B ++ ZO c) := by simp only [ZO, Z73, List.flatten_cons, List.flatten_nil, List.append_nil, List.append_assoc, List.nil_append]
 exact ⟨a16, c17, rfl, (H21.pk [0, 1, 2]).cast (by show [_, _, _] = _; rw [hX])⟩
theorem Z5c (w : World) (r : Nat) (a0 : Option Addr) (c0 : Nat) (B : List UInt8) (hB : (Z0c (wrL r a0 c0 B)).ok w) (hl : B.length ≤ 60000) (la : Option Addr) (lc : Nat) (L : List CeR) (hL : ListAt Z0h 38 w (.slice la L.length lc) L) (hoff : 0 < L.length → ∀ ad, la = some ad → ¬ (Z0c (wrL r a0 c0 B)).fp ad.block) (hE : ∀ i, i < L.length → CeB w (L.getD i ce0)) (hoS : ∀ i, i < L.length → 0 < (L.getD i ce0).S.length → ∀ ad, (L.getD i ce0).sa = some ad → ¬ (Z0c (wrL r a0 c0 B)).fp ad.block) (hl2 : L.length ≤ 64) :
  Calls Tryz.prog 92 #[(.pointer (some ⟨r, 0, none⟩)), (.slice la L.length lc), (.func (.func 93) #[] #[])] w fun e w' => ∃ a' c', e = .returned (.tuple #[]) ∧ Sat w [Z0 r 174 [.slice a' (B ++ (Zh (L.length : Int) ++ L.flatMap ZO)).length c'], ZH 5 1 (.slice a' (B ++ (Zh (L.length : Int) ++ L.flatMap ZO)).length c') (B ++ (Zh (L.length : Int) ++ L.flatMap ZO)).length ((B ++ (Zh (L.length : Int) ++ L.flatMap ZO)).flatMap ZN), Z6 w (Z0c (wrL r a0 c0 B)).fp] w' := by
 have H := Sat.start (wrL r a0 c0 B) hB
 have hvl := ZD (L.length : Int)
 refine Zp Tryz.func92 rfl 23 rfl (Nat.le_of_ble_eq_true rfl) ?_
 apply zsl
 refine wv 8 (pt r 0) ?_
 refine wv 9 (.slice la L.length lc) ?_
 refine wv 10 (.int .i64 ((L.length : Int))) ?_
 refine zwd fun Kq kq => ?_
 have l7 := ZD (L.length : Int)
 refine zdc 11 (Z0H w r a0 c0 B (H.fn [0, 1]) (by omega) (L.length : Int) (by omega)) ?_
 rintro _ w2 ⟨a4, c5, rfl, T3⟩
 have H8 := H.tl [Z0 r 174 (Z0u a4 ((B ++ Zh (L.length : Int)).length) c5), (Z0v a4 (B ++ Zh (L.length : Int)) c5)] [0, 1] [2] T3 [0, 1, 2]
 refine ⟨_, rfl, ?_⟩
 refine kq _ _ ?_
 clear kq Kq
 apply Z1y
 refine wv 12 (.slice la L.length lc) ?_
 refine wv 13 (.int .i64 ((L.length : Int))) ?_
 refine wv 14 (.int .i64 (0)) ?_
 apply znt
 apply ZG
 obtain ⟨hd, hhd⟩ : ∃ hd, hd = (B ++ Zh (L.length : Int)) := ⟨_, rfl⟩
 have hdl : hd.length ≤ 60010 := by rw [hhd]; simp only [List.length_append]; omega
 refine Z02 [7, 14, 15, 16, 17, 18, 19, 20, 21, 22] (fun F_ W_ m_ => ∃ (i : Nat) (a : Option Addr) (c_ : Nat) (D : List UInt8), F_ 14 = (.int .i64 ((i : Int))) ∧ (i ≤ L.length) ∧ (D = hd ++ (L.take i).flatMap ZO) ∧ Sat w [Z0 r 174 (Z0u a D.length c_), (Z0v a D c_), Z6 w (Z0c (wrL r a0 c0 B)).fp] W_ ∧ m_ = L.length - i) _ ⟨0, a4, c5, (B ++ Zh (L.length : Int)), (show ((.int .i64 (0)) : Value) = _ by first | rfl | go_num), (Nat.zero_le _), (by rw [hhd]; simp), H8, rfl⟩ ?_
 rintro g9 w10 _ ⟨i, a, c_, D, v12, hi, hD, H11, rfl⟩
 refine ZF 14 _ v12 ?_
 have hDl : D.length ≤ 690000 := by rw [hD, List.length_append]; have q1 := Z2W (g := ZO) (L.take i) (fun c hc => Z2c (Z81 hE c (List.mem_of_mem_take hc))); rw [List.length_take] at q1; omega
 have q2 := fun h : i < L.length => Z2c (hE i h).len
 apply zsl
 refine wv 15 (.bool (decide ((i : Int) < (L.length : Int)))) ?_
 apply znt
 apply Zt
 refine (Zl (decide ((i : Int) < (L.length : Int)))).elim (fun b14 => ?_) (fun b14 => ?_)
 ·have g15 := of_decide_eq_true b14
  refine Z1o _ b14 ?_
  apply ZL
  apply ztn
  apply Zt
  apply ZG
  apply zsl
  obtain ⟨g17, o18, c19, e20, R21⟩ := SliceOf.atD hL ce0 (show i < L.length by omega)
  refine wv 16 (.pointer (some ⟨g17, o18 + ((i : Int)).toNat * 38, none⟩)) ?_ (hr := ZC (E := 53) (by kernel_rfl) (by kernel_rfl) (Nat.le_of_ble_eq_true rfl) rfl e20 rfl (by omega) (by omega))
  refine wv 17 (.agg ⟨(Z5h ((L.getD i ce0).x) (L.getD i ce0) (((L.getD i ce0).S).length))⟩) ?_ (hr := Z0f (vs := (Z5h ((L.getD i ce0).x) (L.getD i ce0) (((L.getD i ce0).S).length))) rfl (by kernel_rfl) (by kernel_rfl) (Nat.le_of_ble_eq_true (by kernel_rfl)) (H11.runR 2 rfl (Z10 R21 0 (by kernel_rfl) (show o18 + ((i : Int)).toNat * 38 = o18 + i * 38 + 0 by omega)) (hoff (by omega) _ (Z5O e20))))
  refine zwd fun Kq kq => ?_
  refine zda (Zbi) H11 ?_
  intro b23 w24 H25
  refine kq _ _ ?_
  clear kq Kq
  refine zwd fun Kq kq => ?_
  refine Z2k (Z5h ((L.getD i ce0).x) (L.getD i ce0) (((L.getD i ce0).S).length)) H25 3 ?_
  intro w27 H28
  refine kq _ _ ?_
  clear kq Kq
  apply znt
  apply ZU
  refine wv 18 (.func (.func 93) #[] #[]) ?_
  refine wv 19 (pt r 0) ?_
  refine zwN 20 (Z5h ((L.getD i ce0).x) (L.getD i ce0) (((L.getD i ce0).S).length)) (H28.at 3 rfl) ?_
  refine zwd fun Kq kq => ?_
  have l36 := Z2c (show (L.getD i ce0).S.length ≤ 100 from (hE i (by omega)).len)
  refine zdc 21 (Z7Q w27 r a c_ D (H28.fn [0, 1]) (by omega) (L.getD i ce0) ((hE i (by omega)).keepD H28 2 rfl (hoS i (by omega))) (Z4s (sz := 38) Z2r (by decide) H28 [0, 1] 2 rfl rfl (by decide) (hE i (by omega)).at_ (hoS i (by omega)))) ?_
  rintro _ w31 ⟨a33, c34, rfl, T32⟩
  have H37 := H28.tl [Z0 r 174 (Z0u a33 ((D ++ ZO (L.getD i ce0)).length) c34), (Z0v a33 (D ++ ZO (L.getD i ce0)) c34)] [0, 1] [2, 3] T32 [0, 1, 2, 3]
  refine ⟨_, rfl, ?_⟩
  refine kq _ _ ?_
  clear kq Kq
  apply ZQ
  apply Zq
  apply ztn
  apply ZU
  refine zwi 22 ((i : Int) + 1) ?_
  refine wv 14 (.int .i64 ((i : Int) + 1)) ?_
  apply ZQ
  have H38 := H37.pk [0, 1, 2]
  refine Zw ?_ _ ⟨(i + 1), a33, c34, (D ++ ZO (L.getD i ce0)), rfl, (by omega), (by rw [hD, Z3C L ce0 (by omega), List.append_assoc]), H38, rfl⟩ (by omega)
  exact zs
 have g39 := of_decide_eq_false b14
 refine Z18 _ b14 ?_
 apply zxb
 refine Z1C ?_
 refine ZaX rfl  ?_
 have hX : D = (B ++ (Zh (L.length : Int) ++ L.flatMap ZO)) := by rw [hD, hhd, List.take_of_length_le (by omega), List.append_assoc]
 exact ⟨a, c_, rfl, (H11.pk [0, 1, 2]).cast (by show [_, _, _] = _; rw [hX])⟩
theorem Z3l (w : World) (p : PrR) (hC : ListAt Z0h 38 w (.slice p.ca p.C.length p.cc) p.C) (hB : ∀ i, i < p.C.length → CeB w (p.C.getD i ce0)) (hl : p.C.length ≤ 64) (hn : p.r ≤ 9223372036854775807 ∧ p.e ≤ 9223372036854775807 ∧ 0 ≤ p.f ∧ p.f < 18446744073709551616) :
  Calls Tryz.prog 55 #[(.agg ⟨([(.int .i64 (p.r)), (.int .i64 (p.e)), (.int .u64 (p.f)), (.slice p.ca p.C.length p.cc), (.int .i64 (p.sb)), (.int .i64 (p.sm))] : List Value)⟩)] w fun e w' => ∃ u, e = .returned u ∧ (ZH 5 1 u (ZB p).length ((ZB p).flatMap ZN)).ok w' ∧ Upd [] w w' ∧ ∀ q_, (ZH 5 1 u (ZB p).length ((ZB p).flatMap ZN)).fp q_ → w.heap.size ≤ q_ := by
 have hp := Z5o (Z81 hB) hl
 obtain ⟨hn1, hn2, hn3, hn4⟩ := hn
 have H := Sat.start0 w
 refine Zp Tryz.func55 rfl 20 rfl (Nat.le_of_ble_eq_true rfl) ?_
 apply zsl
 refine zwd fun Kq kq => ?_
 refine zdb (Z8R p) H ?_
 intro b2 w3 H4
 refine kq _ _ ?_
 clear kq Kq
 refine wv 2 (.slice none 0 0) ?_
 apply znt
 apply Zt
 refine Z00 H4 [Z6 w (fun _ => False), Z0 b2 34 (Z8R p)] 11 rfl (by kernel_rfl) (fun Hx => (Hx.pk [0, 1])) ?_
 intro w5 H6 S7
 refine hv0 1 S7 5 (pt b2 0) ?_
 refine hv0 2 S7 6 (.int .i64 (p.r)) ?_ (he := fun _ H' => (Z2 rfl (by kernel_rfl) (H'.cell 1 rfl rfl)))
 refine hv0 4 S7 8 (pt b2 1) ?_
 refine hv0 5 S7 9 (.int .i64 (p.e)) ?_ (he := fun _ H' => (Z2 rfl (by kernel_rfl) (H'.cell 1 rfl rfl)))
 refine hv0 7 S7 11 (pt b2 2) ?_
 refine hv0 8 S7 12 (.int .u64 (p.f)) ?_ (he := fun _ H' => (Z2 rfl (by kernel_rfl) (H'.cell 1 rfl rfl)))
 refine Z09 0 fun Kq kq => ?_
 refine zdc 4 (Z5V w5 ([112, 114, 111, 109, 105, 115, 101]) (by decide)) ?_
 rintro _ w9 ⟨r10, a11, c12, rfl, k13, p14, q15⟩
 have H16 := H6.addU p14 k13 q15
 have H17 := H16.open 2 rfl
 refine ⟨_, rfl, ?_⟩
 have l18 := (show (ZM [112, 114, 111, 109, 105, 115, 101]).length ≤ 17 from Z1d _)
 have S19 := H17.pk [0, 1]
 refine kq _ _ S19 ?_
 clear kq Kq
 refine Z09 3 fun Kq kq => ?_
 have l26 := ZD p.r
 refine zdc 7 (Z0H w9 r10 a11 c12 (ZM ([112, 114, 111, 109, 105, 115, 101])) (H17.fn [2, 3]) (by omega) p.r (by omega)) ?_
 rintro _ w21 ⟨a23, c24, rfl, T22⟩
 have H27 := H17.tl [Z0 r10 174 (Z0u a23 (((ZM ([112, 114, 111, 109, 105, 115, 101])) ++ Zh p.r).length) c24), (Z0v a23 ((ZM ([112, 114, 111, 109, 105, 115, 101])) ++ Zh p.r) c24)] [2, 3] [0, 1] T22 [2, 3, 0, 1]
 refine ⟨_, rfl, ?_⟩
 have S28 := H27.pk [0, 1]
 refine kq _ _ S28 ?_
 clear kq Kq
 refine Z09 6 fun Kq kq => ?_
 have l35 := ZD p.e
 refine zdc 10 (Z0H w21 r10 a23 c24 ((ZM ([112, 114, 111, 109, 105, 115, 101])) ++ Zh p.r) (H27.fn [2, 3]) (by simp only [List.length_append, List.length_nil]; omega) p.e (by omega)) ?_
 rintro _ w30 ⟨a32, c33, rfl, T31⟩
 have H36 := H27.tl [Z0 r10 174 (Z0u a32 ((((ZM ([112, 114, 111, 109, 105, 115, 101])) ++ Zh p.r) ++ Zh p.e).length) c33), (Z0v a32 (((ZM ([112, 114, 111, 109, 105, 115, 101])) ++ Zh p.r) ++ Zh p.e) c33)] [2, 3] [0, 1] T31 [2, 3, 0, 1]
 refine ⟨_, rfl, ?_⟩
 have S37 := H36.pk [0, 1]
 refine kq _ _ S37 ?_
 clear kq Kq
 refine Z09 9 fun Kq kq => ?_
 have l44 := Z1M p.f.toNat
 refine Z2p (d := 13) rfl (by rw [show p.f = ((p.f.toNat : Nat) : Int) by omega]; kernel_rfl) (Z4G w30 r10 a32 c33 (((ZM ([112, 114, 111, 109, 105, 115, 101])) ++ Zh p.r) ++ Zh p.e) (H36.fn [2, 3]) (by simp only [List.length_append, List.length_nil]; omega) p.f.toNat (by omega)) ?_
 rintro _ w39 ⟨a41, c42, rfl, T40⟩
 have H45 := H36.tl [Z0 r10 174 (Z0u a41 (((((ZM ([112, 114, 111, 109, 105, 115, 101])) ++ Zh p.r) ++ Zh p.e) ++ Z0W p.f.toNat).length) c42), (Z0v a41 ((((ZM ([112, 114, 111, 109, 105, 115, 101])) ++ Zh p.r) ++ Zh p.e) ++ Z0W p.f.toNat) c42)] [2, 3] [0, 1] T40 [2, 3, 0, 1]
 refine ⟨_, rfl, ?_⟩
 have S46 := H45.pk [0, 1]
 refine kq _ _ S46 ?_
 clear kq Kq
 refine hv0 10 S46 3 (pt r10 0) ?_
 refine zhf ?_
 apply ztn
 apply zsl
 refine wv 14 (pt r10 0) ?_
 refine wv 15 (pt b2 3) ?_
 refine zw1 16 (.slice p.ca p.C.length p.cc) (H45.cell 1 rfl rfl) ?_
 refine zwd fun Kq kq => ?_
 have l53 := ZD (p.C.length : Int)
 have l54 := Z2W (g := ZO) p.C (fun c hc => Z2c (Z81 hB c hc))
 refine zdc 17 (Z5c w39 r10 a41 c42 ((((ZM ([112, 114, 111, 109, 105, 115, 101])) ++ Zh p.r) ++ Zh p.e) ++ Z0W p.f.toNat) (H45.fn [2, 3]) (by simp only [List.length_append, List.length_nil]; omega) p.ca p.cc p.C (ListAt.now H45 0 rfl hC) (Z4s (sz := 38) ZZ (by decide) H45 [2, 3] 0 rfl rfl (by decide) hC (fun _ _ _ h => h)) (fun i_ hi_ => (hB i_ hi_).keep H45 0 rfl) (fun i_ hi_ => (Z4s (sz := 38) Z2r (by decide) H45 [2, 3] 0 rfl rfl (by decide) (hB i_ hi_).at_ (fun _ _ _ h => h))) (by omega)) ?_
 rintro _ w48 ⟨a50, c51, rfl, T49⟩
 have H55 := H45.tl [Z0 r10 174 (Z0u a50 ((((((ZM ([112, 114, 111, 109, 105, 115, 101])) ++ Zh p.r) ++ Zh p.e) ++ Z0W p.f.toNat) ++ (Zh (p.C.length : Int) ++ p.C.flatMap ZO)).length) c51), (Z0v a50 (((((ZM ([112, 114, 111, 109, 105, 115, 101])) ++ Zh p.r) ++ Zh p.e) ++ Z0W p.f.toNat) ++ (Zh (p.C.length : Int) ++ p.C.flatMap ZO)) c51)] [2, 3] [0, 1] T49 [2, 3, 0, 1]
 refine ⟨_, rfl, ?_⟩
 refine kq _ _ ?_
 clear kq Kq
 apply Z1y
 refine wv 18 (pt r10 0) ?_
 refine zwd fun Kq kq => ?_
 refine zdc 19 (Z2o w48 r10 a50 c51 (((((ZM ([112, 114, 111, 109, 105, 115, 101])) ++ Zh p.r) ++ Zh p.e) ++ Z0W p.f.toNat) ++ (Zh (p.C.length : Int) ++ p.C.flatMap ZO)) (H55.fn [2, 3]) (by simp only [List.length_append, List.length_nil]; omega)) ?_
 rintro _ w57 ⟨u58, rfl, T59⟩
 have H60 := H55.tl [Z0 r10 174 (Z0u a50 ((((((ZM ([112, 114, 111, 109, 105, 115, 101])) ++ Zh p.r) ++ Zh p.e) ++ Z0W p.f.toNat) ++ (Zh (p.C.length : Int) ++ p.C.flatMap ZO)).length) c51), (Z0v a50 (((((ZM ([112, 114, 111, 109, 105, 115, 101])) ++ Zh p.r) ++ Zh p.e) ++ Z0W p.f.toNat) ++ (Zh (p.C.length : Int) ++ p.C.flatMap ZO)) c51), ZH 5 1 u58 ((((((ZM ([112, 114, 111, 109, 105, 115, 101])) ++ Zh p.r) ++ Zh p.e) ++ Z0W p.f.toNat) ++ (Zh (p.C.length : Int) ++ p.C.flatMap ZO)).length) ((((((ZM ([112, 114, 111, 109, 105, 115, 101])) ++ Zh p.r) ++ Zh p.e) ++ Z0W p.f.toNat) ++ (Zh (p.C.length : Int) ++ p.C.flatMap ZO)).flatMap ZN)] [2, 3] [0, 1] T59 [3, 4, 0, 1, 2]
 obtain ⟨a61, c62, rfl⟩ := Z1 (H60.at 4 rfl)
 refine ⟨_, rfl, ?_⟩
 refine kq _ _ ?_
 clear kq Kq
 refine wv 2 (.slice a61 (((((ZM ([112, 114, 111, 109, 105, 115, 101])) ++ Zh p.r) ++ Zh p.e) ++ Z0W p.f.toNat) ++ (Zh (p.C.length : Int) ++ p.C.flatMap ZO)).length c62) ?_
 apply znt
 apply ZA
 refine ze1 (.slice a61 (((((ZM ([112, 114, 111, 109, 105, 115, 101])) ++ Zh p.r) ++ Zh p.e) ++ Z0W p.f.toNat) ++ (Zh (p.C.length : Int) ++ p.C.flatMap ZO)).length c62) ?_
 have hX : (((((ZM ([112, 114, 111, 109, 105, 115, 101])) ++ Zh p.r) ++ Zh p.e) ++ Z0W p.f.toNat) ++ (Zh (p.C.length : Int) ++ p.C.flatMap ZO)) = ZB p := by simp only [ZB, Z1i, Z7c, List.flatten_cons, List.flatten_nil, List.append_nil, List.append_assoc, List.nil_append]
 exact ⟨_, rfl, (by rw [← hX]; exact H60.at 4 rfl), H60.upd 0 rfl [] (fun _ h => h.elim), (by rw [← hX]; exact H60.fresh 0 rfl (fun _ h => h) 4 rfl rfl)⟩
end Go.Proofs.YtoaifondpohniaaGreat
