/- WHAT IS PROVED: contracts and plain laws of Wt, Rt, DenyT. Conditions: stated with each. -/
import Derived.Test.YtoaifondpohniaaGreatPR04
import Derived.Test.YtoaifondpohniaaGreatPR06
set_option maxHeartbeats 4000000
set_option maxRecDepth 100000
namespace Go.Proofs.YtoaifondpohniaaGreat
open Go.RowKit
abbrev Z6T (p0 : Option Addr) (p1 : Nat) (p2 : Nat) : List Value := ([(.slice p0 p1 p2)] : List Value)
abbrev Z9k (p0 : Option Addr) (p1 : List UInt8) (p2 : Nat) : Ck := ZH 5 1 (.slice p0 p1.length p2) p1.length (p1.flatMap ZN)
abbrev kWt_2 (p0 : Int) (p1 : Int) : List Value := ([(.int .i64 p0), (.int .i64 p1)] : List Value)
theorem ListAt.nowD {α : Type} {enc : α → List Value} {sz : Nat} {w0 w W : World} {G : List Ck} {D : Nat → Prop} (H : Sat w0 G w) (j : Nat) (hj : G[j]? = Option.some (Z6 W D)) {a : Option Addr} {n c : Nat} {xs : List α} (hv : ListAt enc sz W (.slice a n c) xs) (hf : 0 < xs.length → ∀ ad, a = some ad → ¬ D ad.block) : ListAt enc sz w (.slice a n c) xs := by
 rcases hv with h | ⟨h0, b', o, c', e, hc, h⟩
 ·exact .inl h
 have ha : a = some ⟨b', o, none⟩ := by simp only [Value.slice.injEq] at e; exact e.1
 refine .inr ⟨h0, b', o, c', e, hc, fun i hi q u hq => ?_⟩
 have h1 := h i hi q u hq
 rw [Addr.add_lit] at h1 ⊢
 exact H.cellR j hj h1 (show ¬ D b' from hf h0 _ ha)
theorem Z2x (w : World) (r : Nat) (a0 : Option Addr) (c0 : Nat) (B : List UInt8) (hB : (Z0c (wrL r a0 c0 B)).ok w) (hl : B.length ≤ 1000000) (x : Hash) :
  Calls Tryz.prog 84 #[(.pointer (some ⟨r, 0, none⟩)), (.agg ⟨(hc x)⟩)] w fun e w' => ∃ a' c', e = .returned (.pointer (some ⟨r, 0, none⟩)) ∧ Sat w [Z0 r 174 [.slice a' (B ++ x.l).length c'], ZH 5 1 (.slice a' (B ++ x.l).length c') (B ++ x.l).length ((B ++ x.l).flatMap ZN), Z6 w (Z0c (wrL r a0 c0 B)).fp] w' := by
 have H := Sat.start (wrL r a0 c0 B) hB
 have hx := x.len
 refine Zp Tryz.func84 rfl 15 rfl (Nat.le_of_ble_eq_true rfl) ?_
 apply zsl
 refine zwd fun Kq kq => ?_
 refine zdb (hc x) H ?_
 intro b2 w3 H4
 refine kq _ _ ?_
 clear kq Kq
 refine wv 4 (.pointer none) ?_
 apply znt
 apply Zt
 refine Z1k H4 [Z0 r 174 (Z6T a0 B.length c0), Z6 w (Z0c (wrL r a0 c0 B)).fp, Z0 b2 26 (hc x)] [9] 10 rfl (by kernel_rfl) (fun Hx => (Hx.pk [0, 2, 3])) ?_
 intro w5 H6 S7
 refine zkp 0 S7 5 (pt r 0) ?_
 refine zkp 1 S7 6 (pt r 0) ?_
 refine zkp 2 S7 7 (pt r 0) ?_
 refine zkp 3 S7 8 (pt r 0) ?_
 refine zkv 4 S7 9 (.slice a0 B.length c0) ?_ (he := fun _ H' => (Z2 rfl (by kernel_rfl) (H'.cell 0 rfl rfl)))
 refine zkp 5 S7 10 (.slice (some ⟨b2, 0, none⟩) 32 32) ?_
 refine Z3p 6 fun Kq kq => ?_
 refine Z2T (T := 62) (e := 5) (size := 1) (bytes := 1) rfl H6 (by kernel_rfl) ZE Z1h 1 rfl (ListAt.ofHash (x := x) (Z2R (H6.at 3 rfl) (by kernel_rfl)) (by decide)) rfl rfl (by omega) (by omega) ?_
 intro v9 w10 H12
 have H11 := H12.ct 1 rfl (ZH 5 1 v9 ((B ++ x.l).length) ((B ++ x.l).flatMap ZN)) (by simp only [List.length_append, List.flatMap_append])
 obtain ⟨a13, c14, rfl⟩ := Z1 (H11.at 1 rfl)
 have S15 := H11.pk [0, 2, 3]
 refine kq _ _ S15 ?_
 clear kq Kq
 refine zkp 7 S15 12 (pt r 0) ?_
 refine zkp 8 S15 13 (pt r 0) ?_
 refine Z30 9 (Sat w [Z6 w (Z0c (wrL r a0 c0 B)).fp, Z0 b2 26 (hc x)]) rfl (by kernel_rfl) (Zs rfl) rfl (fun Kq kq => ?_)
 refine Z2k (Z6T a13 ((B ++ x.l).length) c14) H11 0 ?_
 intro w17 (H18 : Sat w [Z0 r 174 (Z6T a13 ((B ++ x.l).length) c14), (Z9k a13 (B ++ x.l) c14), Z6 w (Z0c (wrL r a0 c0 B)).fp, Z0 b2 26 (hc x)] w17)
 have S20 := H18.pk [2, 3]
 refine kq _ _ S20 ?_
 clear kq Kq
 refine zhf ?_
 apply ztn
 apply zsl
 refine wv 14 (pt r 0) ?_
 refine wv 4 (pt r 0) ?_
 apply znt
 apply ZA
 refine ze1 (pt r 0) ?_
 have hX : (B ++ x.l) = (B ++ x.l) := by rfl
 exact ⟨a13, c14, rfl, (H18.pk [0, 1, 2]).cast (by show [_, _, _] = _; rw [hX])⟩
theorem Z4H (w : World) (r : Nat) (a0 : Option Addr) (c0 : Nat) (B : List UInt8) (hB : (Z0c (wrL r a0 c0 B)).ok w) (hl : B.length ≤ 1000000) (ta : Option Addr) (tc : Nat) (tx : List UInt8) (ht : ListAt ZN 1 w (.slice ta tx.length tc) tx) (hoff : 0 < tx.length → ∀ ad, ta = some ad → ¬ (Z0c (wrL r a0 c0 B)).fp ad.block) (hl2 : tx.length ≤ 1000000) :
  Calls Tryz.prog 108 #[(.pointer (some ⟨r, 0, none⟩)), (.slice ta tx.length tc)] w fun e w' => ∃ a' c', e = .returned (.pointer (some ⟨r, 0, none⟩)) ∧ Sat w [Z0 r 174 [.slice a' (B ++ ZM tx).length c'], ZH 5 1 (.slice a' (B ++ ZM tx).length c') (B ++ ZM tx).length ((B ++ ZM tx).flatMap ZN), Z6 w (Z0c (wrL r a0 c0 B)).fp] w' := by
 have H := Sat.start (wrL r a0 c0 B) hB
 have hvl := ZD (tx.length : Int)
 refine Zp Tryz.func108 rfl 19 rfl (Nat.le_of_ble_eq_true rfl) ?_
 apply zsl
 refine wv 4 (.pointer none) ?_
 apply Z1y
 refine wv 5 (pt r 0) ?_
 refine wv 6 (.slice ta tx.length tc) ?_
 refine wv 7 (.int .i64 ((tx.length : Int))) ?_
 refine zwd fun Kq kq => ?_
 have l7 := ZD (tx.length : Int)
 refine zdc 8 (Z0H w r a0 c0 B (H.fn [0, 1]) (by omega) (tx.length : Int) (by omega)) ?_
 rintro _ w2 ⟨a4, c5, rfl, T3⟩
 have H8 := H.tl [Z0 r 174 (Z6T a4 ((B ++ Zh (tx.length : Int)).length) c5), (Z9k a4 (B ++ Zh (tx.length : Int)) c5)] [0, 1] [2] T3 [0, 1, 2]
 refine ⟨_, rfl, ?_⟩
 refine kq _ _ ?_
 clear kq Kq
 apply Z1y
 refine wv 9 (pt r 0) ?_
 refine wv 10 (pt r 0) ?_
 refine wv 11 (pt r 0) ?_
 refine wv 12 (pt r 0) ?_
 refine zw1 13 (.slice a4 ((B ++ Zh (tx.length : Int)).length) c5) (H8.cell 0 rfl rfl) ?_
 refine wv 14 (.slice ta tx.length tc) ?_
 refine zwd fun Kq kq => ?_
 refine Z2T (T := 62) (e := 5) (size := 1) (bytes := 1) rfl H8 (by kernel_rfl) ZE Z1h 1 rfl (ListAt.nowD H8 2 rfl ht hoff) rfl rfl (by simp only [List.length_append]; omega) (by simp only [List.length_append]; omega) ?_
 intro v10 w11 H13
 have H12 := H13.ct 1 rfl (ZH 5 1 v10 (((B ++ Zh (tx.length : Int)) ++ tx).length) (((B ++ Zh (tx.length : Int)) ++ tx).flatMap ZN)) (by simp only [List.length_append, List.flatMap_append])
 obtain ⟨a14, c15, rfl⟩ := Z1 (H12.at 1 rfl)
 refine kq _ _ ?_
 clear kq Kq
 refine wv 16 (pt r 0) ?_
 refine wv 17 (pt r 0) ?_
 refine zwd fun Kq kq => ?_
 refine Z2q (vs := (Z6T a14 (((B ++ Zh (tx.length : Int)) ++ tx).length) c15)) rfl H12 0 rfl rfl rfl rfl (by kernel_rfl) (Nat.le_of_ble_eq_true (by kernel_rfl)) (Nat.le_of_ble_eq_true (by kernel_rfl)) (by kernel_rfl) ?_
 intro w17 (H18 : Sat w [Z0 r 174 (Z6T a14 (((B ++ Zh (tx.length : Int)) ++ tx).length) c15), (Z9k a14 ((B ++ Zh (tx.length : Int)) ++ tx) c15), Z6 w (Z0c (wrL r a0 c0 B)).fp] w17)
 refine kq _ _ ?_
 clear kq Kq
 apply Z1y
 refine wv 18 (pt r 0) ?_
 refine wv 4 (pt r 0) ?_
 apply znt
 apply ZA
 refine ze1 (pt r 0) ?_
 have hX : ((B ++ Zh (tx.length : Int)) ++ tx) = (B ++ ZM tx) := by unfold ZM Zh; rw [show (max 0 (tx.length : Int)).toNat = tx.length by omega, List.append_assoc]
 exact ⟨a14, c15, rfl, (H18.pick [0, 1, 2] (by decide)).cast (by show [_, _, _] = _; rw [hX])⟩
theorem Z5l (w : World) :
  Calls Tryz.prog 107 #[] w fun e w' => ∃ r a c, e = .returned (.pointer (some ⟨r, 0, none⟩)) ∧ (Z0c (wrL r a c [])).ok w' ∧ Upd [] w w' ∧ ∀ q_, (Z0c (wrL r a c [])).fp q_ → w.heap.size ≤ q_ := by
 have H := Sat.start0 w
 refine Zp Tryz.func107 rfl 3 rfl (Nat.le_of_ble_eq_true rfl) ?_
 apply zsl
 refine wv 0 (.pointer none) ?_
 apply Z1y
 refine wv 1 (.agg ⟨([(.slice none 0 0)] : List Value)⟩) ?_
 refine zwd fun Kq kq => ?_
 refine zdb ([(.slice none 0 0)] : List Value) H ?_
 intro b2 w3 H4
 refine kq _ _ ?_
 clear kq Kq
 refine wv 0 (pt b2 0) ?_
 apply znt
 apply ZA
 refine ze1 (pt b2 0) ?_
 have H5 := H4.addNil 5 1
 exact ⟨b2, none, 0, rfl, H5.fn [1, 2], H5.upd 0 rfl [] (fun _ h => h.elim), H5.freshS 0 rfl (fun _ h => h) [1, 2] rfl rfl⟩
theorem Z5V (w : World) (s : List UInt8) (hs : 0 < s.length ∧ s.length ≤ 1000000) :
  Calls Tryz.prog 81 #[(Z2O s)] w fun e w' => ∃ r a c, e = .returned (.pointer (some ⟨r, 0, none⟩)) ∧ (Z0c (wrL r a c (ZM s))).ok w' ∧ Upd [] w w' ∧ ∀ q_, (Z0c (wrL r a c (ZM s))).fp q_ → w.heap.size ≤ q_ := by
 have H := Sat.start0 w
 refine Zp Tryz.func81 rfl 7 rfl (Nat.le_of_ble_eq_true rfl) ?_
 apply zsl
 refine wv 2 (.pointer none) ?_
 apply Z1y
 refine zwd fun Kq kq => ?_
 refine zdc 3 (Z5l w) ?_
 rintro _ w2 ⟨r3, a4, c5, rfl, k6, p7, q8⟩
 have H9 := H.addU p7 k6 q8
 have H10 := H9.open 1 rfl
 refine ⟨_, rfl, ?_⟩
 refine kq _ _ ?_
 clear kq Kq
 refine wv 4 (Z2O s) ?_
 refine zwd fun Kq kq => ?_
 refine Z9T (e := 5) (s := s) rfl H10 (by kernel_rfl) (by kernel_rfl) (by kernel_rfl) rfl (by omega) (by omega) ?_
 intro b14 c15 w12 H13
 refine kq _ _ ?_
 clear kq Kq
 refine zwd fun Kq kq => ?_
 have l22 := Z1d s
 refine zdc 6 (Z4H w12 r3 a4 c5 ([] : List UInt8) (H13.fn [1, 2]) (by simp) (some ⟨b14, 0, none⟩) c15 s (ListAt.ofTxt (H13.at 3 rfl)) (Z6W (fun b hb => H13.offP [1, 2] 3 rfl rfl (by decide) hb)) (by first | omega | simp)) ?_
 rintro _ w17 ⟨a19, c20, rfl, T18⟩
 have H23 := H13.tl [Z0 r3 174 (Z6T a19 ((([] : List UInt8) ++ ZM s).length) c20), (Z9k a19 (([] : List UInt8) ++ ZM s) c20)] [1, 2] [0, 3] T18 [2, 0, 1, 3]
 refine ⟨_, rfl, ?_⟩
 refine kq _ _ ?_
 clear kq Kq
 refine wv 2 (pt r3 0) ?_
 apply znt
 apply ZA
 refine ze1 (pt r3 0) ?_
 have hX : (([] : List UInt8) ++ ZM s) = ZM s := by exact List.nil_append _
 exact ⟨r3, a19, c20, rfl, (by rw [← hX]; exact H23.fn [1, 2]), H23.upd 0 rfl [] (fun _ h => h.elim), (by rw [← hX]; exact H23.freshS 0 rfl (fun _ h => h) [1, 2] rfl rfl)⟩
theorem Z4F (w : World) (r : Nat) (a0 : Option Addr) (c0 : Nat) (B : List UInt8) (hB : (Z0c (wrL r a0 c0 B)).ok w) (hl : B.length ≤ 900000) (a b : Int) (hs : a ≤ 9223372036854775807 ∧ b ≤ 9223372036854775807) :
  Calls Tryz.prog 83 #[(.pointer (some ⟨r, 0, none⟩)), (.agg ⟨([(.int .i64 (a)), (.int .i64 (b))] : List Value)⟩)] w fun e w' => ∃ a' c', e = .returned (.tuple #[]) ∧ Sat w [Z0 r 174 [.slice a' (B ++ ZT a b).length c'], ZH 5 1 (.slice a' (B ++ ZT a b).length c') (B ++ ZT a b).length ((B ++ ZT a b).flatMap ZN), Z6 w (Z0c (wrL r a0 c0 B)).fp] w' := by
 have H := Sat.start (wrL r a0 c0 B) hB
 refine Zp Tryz.func83 rfl 11 rfl (Nat.le_of_ble_eq_true rfl) ?_
 apply zsl
 refine zwd fun Kq kq => ?_
 refine zdb (kWt_2 a b) H ?_
 intro b2 w3 H4
 refine kq _ _ ?_
 clear kq Kq
 apply znt
 refine Z00 H4 [Z6 w (Z0c (wrL r a0 c0 B)).fp, Z0 b2 24 (kWt_2 a b)] 7 rfl (by kernel_rfl) (fun Hx => (Hx.pk [2, 3])) ?_
 intro w5 H6 S7
 refine hv0 0 S7 4 (pt r 0) ?_
 refine hv0 1 S7 5 (pt b2 0) ?_
 refine hv0 2 S7 6 (.int .i64 (a)) ?_ (he := fun _ H' => (Z2 rfl (by kernel_rfl) (H'.cell 1 rfl rfl)))
 refine hv0 4 S7 8 (pt b2 1) ?_
 refine hv0 5 S7 9 (.int .i64 (b)) ?_ (he := fun _ H' => (Z2 rfl (by kernel_rfl) (H'.cell 1 rfl rfl)))
 refine Z09 3 fun Kq kq => ?_
 have l14 := ZD a
 refine zdc 7 (Z0H w5 r a0 c0 B (H6.fn [0, 1]) (by omega) a (by omega)) ?_
 rintro _ w9 ⟨a11, c12, rfl, T10⟩
 have H15 := H6.tl [Z0 r 174 (Z6T a11 ((B ++ Zh a).length) c12), (Z9k a11 (B ++ Zh a) c12)] [0, 1] [2, 3] T10 [0, 1, 2, 3]
 refine ⟨_, rfl, ?_⟩
 have S16 := H15.pk [2, 3]
 refine kq _ _ S16 ?_
 clear kq Kq
 refine Z09 6 fun Kq kq => ?_
 have l23 := ZD b
 refine zdc 10 (Z0H w9 r a11 c12 (B ++ Zh a) (H15.fn [0, 1]) (by simp only [List.length_append, List.length_nil]; omega) b (by omega)) ?_
 rintro _ w18 ⟨a20, c21, rfl, T19⟩
 have H24 := H15.tl [Z0 r 174 (Z6T a20 (((B ++ Zh a) ++ Zh b).length) c21), (Z9k a20 ((B ++ Zh a) ++ Zh b) c21)] [0, 1] [2, 3] T19 [0, 1, 2, 3]
 refine ⟨_, rfl, ?_⟩
 have S25 := H24.pk [2, 3]
 refine kq _ _ S25 ?_
 clear kq Kq
 refine zhf ?_
 refine Z1C ?_
 refine ZaX rfl  ?_
 have hX : ((B ++ Zh a) ++ Zh b) = (B ++ ZT a b) := by simp only [ZT, List.flatten_cons, List.flatten_nil, List.append_nil, List.append_assoc]
 exact ⟨a20, c21, rfl, (H24.pk [0, 1, 2]).cast (by show [_, _, _] = _; rw [hX])⟩
abbrev kRt_0 (p0 : Option Addr) (p1 : List UInt8) (p2 : Nat) : Ck := ZH 5 1 (.slice p0 p1.length p2) p1.length (p1.flatMap ZN)
theorem Z9y {f m : Nat} (hm : m < 128 ^ f) (h : 128 ≤ m) : 0 < f - 1 ∧ m / 128 < 128 ^ (f - 1) ∧ Z97 f m = UInt8.ofNat ((m : Int) % 128 + 128).toNat :: Z97 (f - 1) (m / 128) := by
 have := Z7O hm h
 rw [Z8p (by omega)] at this
 exact this
theorem Z5j (w : World) (n : Nat) (hn : n < 18446744073709551616) :
  Calls Tryz.prog 78 #[(.int .u64 ((n : Int)))] w fun e w' => ∃ u, e = .returned u ∧ (ZH 5 1 u (Z0W n).length ((Z0W n).flatMap ZN)).ok w' ∧ Upd [] w w' ∧ ∀ q_, (ZH 5 1 u (Z0W n).length ((Z0W n).flatMap ZN)).fp q_ → w.heap.size ≤ q_ := by
 have H := Sat.start0 w
 refine Zp Tryz.func78 rfl 20 rfl (Nat.le_of_ble_eq_true rfl) ?_
 apply zsl
 refine wv 2 (.slice none 0 0) ?_
 apply Z1y
 refine wv 3 (.slice none 0 0) ?_
 apply znt
 apply Zt
 apply ZG
 have H1 := H.addNil 5 1
 refine Z02 ([0] ++ List.range' 3 12) (fun F_ W_ m_ => ∃ (m : Nat) (a : Option Addr) (c : Nat) (D : List UInt8) (f : Nat), F_ 0 = (.int .u64 ((m : Int))) ∧ F_ 3 = (.slice a D.length c) ∧ (0 < f ∧ m < 128 ^ f ∧ m < 18446744073709551616) ∧ (D ++ Z97 f m = Z0W n) ∧ (D.length + f ≤ 10) ∧ Sat w [Z6 w (fun _ => False), (kRt_0 a D c)] W_ ∧ m_ = m + 1) _ ⟨n, none, 0, [], 10, (show ((.int .u64 ((n : Int))) : Value) = _ by first | rfl | go_num), (by first | rfl | go_num), ⟨by omega, by omega, hn⟩, rfl, (by decide), H1, rfl⟩ ?_
 rintro g2 w3 _ ⟨m, a, c, D, f, v5, v6, hm, hD, hf, H4, rfl⟩
 refine ZF 0 _ v5 ?_
 refine ZF 3 _ v6 ?_
 apply Zt
 apply zsl
 refine wv 4 (.int .u64 ((m : Int))) ?_
 refine wv 5 (.bool (decide ((m : Int) ≥ 128))) ?_
 apply znt
 refine (Zl (decide ((m : Int) ≥ 128))).elim (fun b8 => ?_) (fun b8 => ?_)
 ·have g9 := of_decide_eq_true b8
  refine Z1o _ b8 ?_
  apply ZL
  apply ztn
  apply ZG
  apply zsl
  refine wv 6 (.slice a D.length c) ?_
  refine wv 7 (.int .u64 ((m : Int))) ?_
  refine wv 8 (.int .u64 ((m : Int) % 128)) ?_ (hr := Z9W (by kernel_rfl) (by omega) (by omega))
  refine wv 9 (.int .u8 ((m : Int) % 128)) ?_ (hr := Z0I (z := (m : Int) % 128) (by kernel_rfl) (ZaW (by omega)))
  refine wv 10 (.int .u8 (((m : Int) % 128) + 128)) ?_ (hr := Z0I (z := ((m : Int) % 128) + 128) (by kernel_rfl) (ZaW (by omega)))
  refine zwd fun Kq kq => ?_
  refine Z3o 5 1 1 (.int .u8 (0)) [(0, (.int .u8 (((m : Int) % 128) + 128)))] ([(.int .u8 (((m : Int) % 128) + 128))] : List Value) H4 ?_
  intro b12 w13 H14
  have H15 := H14.ct 2 rfl (ZH 5 1 (.slice (some ⟨b12, 0, none⟩) 1 1) 1 ([UInt8.ofNat (((m : Int) % 128) + 128).toNat].flatMap ZN)) (by rw [Z4f (by omega)])
  refine kq _ _ ?_
  clear kq Kq
  refine zwd fun Kq kq => ?_
  refine Z14 (T := 62) (e := 5) (size := 1) (bytes := 1) rfl H15 (by kernel_rfl) 1 2 rfl rfl rfl rfl (Z0U ZN Z1h [UInt8.ofNat (((m : Int) % 128) + 128).toNat]) (by omega) (by omega) ?_
  intro v17 w18 H19
  have H22 := H19.ct 1 rfl (ZH 5 1 v17 ((D ++ [UInt8.ofNat (((m : Int) % 128) + 128).toNat]).length) ((D ++ [UInt8.ofNat (((m : Int) % 128) + 128).toNat]).flatMap ZN)) ja
  obtain ⟨a20, c21, rfl⟩ := Z1 (H22.at 1 rfl)
  refine kq _ _ ?_
  clear kq Kq
  refine wv 3 (.slice a20 ((D ++ [UInt8.ofNat (((m : Int) % 128) + 128).toNat]).length) c21) ?_
  apply znt
  apply ZU
  refine wv 13 (.int .u64 ((m : Int))) ?_
  refine wv 14 (.int .u64 ((m : Int) / 128)) ?_ (hr := Zb6 (by kernel_rfl) (by omega) (by omega) (Z2m (by omega)))
  refine wv 0 (.int .u64 ((m : Int) / 128)) ?_
  apply ZQ
  apply Zq
  have hv := Z9y hm.2.1 (show 128 ≤ m by omega)
  have H23 := H22.pk [0, 1]
  refine Zw ?_ _ ⟨(m / 128), a20, c21, (D ++ [UInt8.ofNat (((m : Int) % 128) + 128).toNat]), (f - 1), rfl, (show ((.slice a20 ((D ++ [UInt8.ofNat (((m : Int) % 128) + 128).toNat]).length) c21) : Value) = _ by first | rfl | go_num), ⟨hv.1, hv.2.1, by omega⟩, (by rw [hv.2.2] at hD; simpa using hD), (by rw [List.length_append]; simp only [List.length_cons, List.length_nil]; omega), H23, rfl⟩ (by omega)
  exact zs
 have g24 := of_decide_eq_false b8
 refine Z18 _ b8 ?_
 apply zxb
 apply ztn
 apply zsl
 refine wv 15 (.slice a D.length c) ?_
 refine wv 16 (.int .u64 ((m : Int))) ?_
 refine wv 17 (.int .u8 ((m : Int) % 256)) ?_ (hr := Z0I (z := (m : Int)) (by kernel_rfl) (by rw [Z3h]))
 refine zwd fun Kq kq => ?_
 refine Z3o 5 1 1 (.int .u8 (0)) [(0, (.int .u8 ((m : Int) % 256)))] ([(.int .u8 ((m : Int) % 256))] : List Value) H4 ?_
 intro b27 w28 H29
 have H30 := H29.ct 2 rfl (ZH 5 1 (.slice (some ⟨b27, 0, none⟩) 1 1) 1 ([UInt8.ofNat ((m : Int) % 256).toNat].flatMap ZN)) (by rw [Z4f (by omega)])
 refine kq _ _ ?_
 clear kq Kq
 refine zwd fun Kq kq => ?_
 refine Z14 (T := 62) (e := 5) (size := 1) (bytes := 1) rfl H30 (by kernel_rfl) 1 2 rfl rfl rfl rfl (Z0U ZN Z1h [UInt8.ofNat ((m : Int) % 256).toNat]) (by omega) (by omega) ?_
 intro v32 w33 H34
 have H37 := H34.ct 1 rfl (ZH 5 1 v32 ((D ++ [UInt8.ofNat ((m : Int) % 256).toNat]).length) ((D ++ [UInt8.ofNat ((m : Int) % 256).toNat]).flatMap ZN)) ja
 obtain ⟨a35, c36, rfl⟩ := Z1 (H37.at 1 rfl)
 refine kq _ _ ?_
 clear kq Kq
 refine wv 2 (.slice a35 ((D ++ [UInt8.ofNat ((m : Int) % 256).toNat]).length) c36) ?_
 apply znt
 apply ZA
 refine ze1 (.slice a35 ((D ++ [UInt8.ofNat ((m : Int) % 256).toNat]).length) c36) ?_
 have hv := Z7N hm.1 (show m < 128 by omega)
 have hX : (D ++ [UInt8.ofNat ((m : Int) % 256).toNat]) = Z0W n := by rw [← hD, hv]
 exact ⟨_, rfl, (by rw [← hX]; exact H37.at 1 rfl), H37.upd 0 rfl [] (fun _ h => h.elim), (by rw [← hX]; exact H37.fresh 0 rfl (fun _ h => h) 1 rfl rfl)⟩
theorem Z1c (w : World) (n : Int) (hn : n ≤ 9223372036854775807) :
  Calls Tryz.prog 73 #[(.int .i64 (n))] w fun e w' => ∃ u, e = .returned u ∧ (ZH 5 1 u (Zh n).length ((Zh n).flatMap ZN)).ok w' ∧ Upd [] w w' ∧ ∀ q_, (ZH 5 1 u (Zh n).length ((Zh n).flatMap ZN)).fp q_ → w.heap.size ≤ q_ := by
 have H := Sat.start0 w
 obtain ⟨k, hk⟩ : ∃ k : Nat, (k : Int) = max n 0 := ⟨(max n 0).toNat, by omega⟩
 refine Zp Tryz.func73 rfl 7 rfl (Nat.le_of_ble_eq_true rfl) ?_
 apply zsl
 refine wv 2 (.slice none 0 0) ?_
 apply Z1y
 refine wv 3 (.int .i64 (n)) ?_
 refine wv 4 (.int .i64 (max n 0)) ?_ (hr := ZbO (k := .i64) (a := n) (b := 0) (z := max n 0) rfl rfl rfl)
 refine wv 5 (.int .u64 ((k : Int))) ?_ (hr := Z0I (z := max n 0) (by kernel_rfl) ((by rw [← hk]; exact Z2m (by omega))))
 refine zwd fun Kq kq => ?_
 refine zdc 6 (Z5j w k (by omega)) ?_
 rintro _ w2 ⟨u3, rfl, k4, p5, q6⟩
 have H7 := H.addU p5 k4 q6
 obtain ⟨a8, c9, rfl⟩ := Z1 (H7.at 1 rfl)
 refine ⟨_, rfl, ?_⟩
 refine kq _ _ ?_
 clear kq Kq
 refine wv 2 (.slice a8 ((Z0W k).length) c9) ?_
 apply znt
 apply ZA
 refine ze1 (.slice a8 ((Z0W k).length) c9) ?_
 have hX : (Z0W k) = Zh n := by unfold Zh; rw [show (max 0 n).toNat = k by omega]
 exact ⟨_, rfl, (by rw [← hX]; exact H7.at 1 rfl), H7.upd 0 rfl [] (fun _ h => h.elim), (by rw [← hX]; exact H7.fresh 0 rfl (fun _ h => h) 1 rfl rfl)⟩
theorem Z3M (w : World) (v : Value) (s : List UInt8) (hs : ListAt ZN 1 w v s) (hl : s.length ≤ 1000000) :
  Calls Tryz.prog 45 #[v] w fun e w' => ∃ u, e = .returned u ∧ (ZH 5 1 u (ZM s).length ((ZM s).flatMap ZN)).ok w' ∧ Upd [] w w' ∧ ∀ q_, (ZH 5 1 u (ZM s).length ((ZM s).flatMap ZN)).fp q_ → w.heap.size ≤ q_ := by
 have H := Sat.start0 w
 obtain ⟨a, c, rfl⟩ := ListAt.len hs
 have hi10 := ZD (s.length : Int)
 refine Zp Tryz.func45 rfl 8 rfl (Nat.le_of_ble_eq_true rfl) ?_
 apply zsl
 refine wv 2 (.slice none 0 0) ?_
 apply Z1y
 refine wv 3 (.slice a s.length c) ?_
 refine wv 4 (.int .i64 ((s.length : Int))) ?_
 refine zwd fun Kq kq => ?_
 refine zdc 5 (Z1c w (s.length : Int) (by omega)) ?_
 rintro _ w2 ⟨u3, rfl, k4, p5, q6⟩
 have H7 := H.addU p5 k4 q6
 obtain ⟨a8, c9, rfl⟩ := Z1 (H7.at 1 rfl)
 refine ⟨_, rfl, ?_⟩
 refine kq _ _ ?_
 clear kq Kq
 refine wv 6 (.slice a s.length c) ?_
 refine zwd fun Kq kq => ?_
 refine Z2T (T := 62) (e := 5) (size := 1) (bytes := 1) rfl H7 (by kernel_rfl) ZE Z1h 1 rfl (ListAt.now H7 0 rfl hs) rfl rfl (by omega) (by omega) ?_
 intro v11 w12 H14
 have H13 := H14.ct 1 rfl (ZH 5 1 v11 (((Zh (s.length : Int)) ++ s).length) (((Zh (s.length : Int)) ++ s).flatMap ZN)) (by simp only [List.length_append, List.flatMap_append])
 obtain ⟨a15, c16, rfl⟩ := Z1 (H13.at 1 rfl)
 refine kq _ _ ?_
 clear kq Kq
 refine wv 2 (.slice a15 (((Zh (s.length : Int)) ++ s).length) c16) ?_
 apply znt
 apply ZA
 refine ze1 (.slice a15 (((Zh (s.length : Int)) ++ s).length) c16) ?_
 have hX : ((Zh (s.length : Int)) ++ s) = ZM s := by unfold ZM Zh; rw [show (max 0 (s.length : Int)).toNat = s.length by omega]
 exact ⟨_, rfl, (by rw [← hX]; exact H13.at 1 rfl), H13.upd 0 rfl [] (fun _ h => h.elim), (by rw [← hX]; exact H13.fresh 0 rfl (fun _ h => h) 1 rfl rfl)⟩
theorem Z1K (w : World) (v : Value) (vs : List Value) (ss : List (List UInt8)) (hv : ListAt Z7T 1 w v vs) (hs : Parts w vs ss) (hl : ss.flatten.length ≤ 1000000) (hk : vs.length ≤ 1000) :
  Calls Tryz.prog 44 #[v] w fun e w' => ∃ u, e = .returned u ∧ (ZH 5 1 u ss.flatten.length (ss.flatten.flatMap ZN)).ok w' ∧ Upd [] w w' ∧ ∀ q_, (ZH 5 1 u ss.flatten.length (ss.flatten.flatMap ZN)).fp q_ → w.heap.size ≤ q_ := by
 have H := Sat.start0 w
 obtain ⟨a0, c0, rfl⟩ := ListAt.len hv
 have hsl := hs.len
 refine Zp Tryz.func44 rfl 18 rfl (Nat.le_of_ble_eq_true rfl) ?_
 apply zsl
 refine wv 2 (.slice none 0 0) ?_
 apply Z1y
 refine wv 3 (.slice none 0 0) ?_
 apply znt
 apply Zt
 apply zsl
 refine wv 5 (.slice a0 vs.length c0) ?_
 refine wv 6 (.int .i64 ((vs.length : Int))) ?_
 refine wv 7 (.int .i64 (0)) ?_
 apply znt
 apply ZG
 have H1 := H.addNil 5 1
 refine Z02 ([3, 4] ++ List.range' 7 10) (fun F_ W_ m_ => ∃ (i : Nat) (a : Option Addr) (c : Nat) (D : List UInt8), F_ 7 = (.int .i64 ((i : Int))) ∧ F_ 3 = (.slice a D.length c) ∧ (i ≤ vs.length) ∧ (D = (ss.take i).flatten) ∧ Sat w [Z6 w (fun _ => False), (kRt_0 a D c)] W_ ∧ m_ = vs.length - i) _ ⟨0, none, 0, [], (show ((.int .i64 (0)) : Value) = _ by first | rfl | go_num), (by first | rfl | go_num), (Nat.zero_le _), rfl, H1, rfl⟩ ?_
 rintro g2 w3 _ ⟨i, a, c, D, v5, v6, hi, hD, H4, rfl⟩
 refine ZF 7 _ v5 ?_
 refine ZF 3 _ v6 ?_
 apply zsl
 refine wv 8 (.bool (decide ((i : Int) < (vs.length : Int)))) ?_
 apply znt
 apply Zt
 refine (Zl (decide ((i : Int) < (vs.length : Int)))).elim (fun b8 => ?_) (fun b8 => ?_)
 ·have g9 := of_decide_eq_true b8
  refine Z1o _ b8 ?_
  apply ZL
  apply ztn
  apply Zt
  apply ZG
  apply zsl
  refine wv 9 (.int .i64 ((i : Int))) ?_
  refine wv 4 (.int .i64 ((i : Int))) ?_
  apply znt
  apply ZU
  refine wv 10 (.slice a D.length c) ?_
  refine wv 11 (.slice a0 vs.length c0) ?_
  refine wv 12 (.int .i64 ((i : Int))) ?_
  obtain ⟨g11, o12, c13, e14, R15⟩ := SliceOf.atD hv undef (show i < vs.length by omega)
  refine wv 13 (.pointer (some ⟨g11, o12 + ((i : Int)).toNat * 1, none⟩)) ?_ (hr := ZC (E := 62) (by kernel_rfl) (by kernel_rfl) (Nat.le_of_ble_eq_true rfl) rfl e14 rfl (by omega) (by omega))
  refine zw1 14 (vs.getD i undef) (H4.cellR 0 rfl (Z13 R15 0 (by kernel_rfl) (show o12 + ((i : Int)).toNat * 1 = o12 + i * 1 + 0 by omega)) (fun h => h)) ?_
  refine zwd fun Kq kq => ?_
  refine Z2T (T := 62) (e := 5) (size := 1) (bytes := 1) rfl H4 (by kernel_rfl) ZE Z1h 1 rfl (ListAt.now H4 0 rfl (hs.get i (by have := hs.len; omega))) rfl rfl (by have := Z6F ss (i := i) (by omega); rw [hD]; omega) (by have := Z6F ss (i := i) (by omega); rw [hD]; omega) ?_
  intro v17 w18 H20
  have H19 := H20.ct 1 rfl (ZH 5 1 v17 ((D ++ (ss.getD i [])).length) ((D ++ (ss.getD i [])).flatMap ZN)) (by simp only [List.length_append, List.flatMap_append])
  obtain ⟨a21, c22, rfl⟩ := Z1 (H19.at 1 rfl)
  refine kq _ _ ?_
  clear kq Kq
  refine wv 3 (.slice a21 ((D ++ (ss.getD i [])).length) c22) ?_
  apply ZQ
  apply Zq
  apply ztn
  apply ZU
  refine zwi 16 ((i : Int) + 1) ?_
  refine wv 7 (.int .i64 ((i : Int) + 1)) ?_
  apply ZQ
  refine Zw ?_ _ ⟨(i + 1), a21, c22, (D ++ (ss.getD i [])), rfl, (show ((.slice a21 ((D ++ (ss.getD i [])).length) c22) : Value) = _ by first | rfl | go_num), (by omega), (by rw [hD, Z5u ss (by omega)]), H19, rfl⟩ (by omega)
  exact zs
 have g23 := of_decide_eq_false b8
 refine Z18 _ b8 ?_
 apply zxb
 apply ztn
 apply zsl
 refine wv 17 (.slice a D.length c) ?_
 refine wv 2 (.slice a D.length c) ?_
 apply znt
 apply ZA
 refine ze1 (.slice a D.length c) ?_
 have hX : D = ss.flatten := by rw [hD, List.take_of_length_le (by omega)]
 exact ⟨_, rfl, (by rw [← hX]; exact H4.at 1 rfl), H4.upd 0 rfl [] (fun _ h => h.elim), (by rw [← hX]; exact H4.fresh 0 rfl (fun _ h => h) 1 rfl rfl)⟩
structure DenyD where
 r : Int
 i : Int
 sb : Int
 sm : Int
deriving DecidableEq
end Go.Proofs.YtoaifondpohniaaGreat
