/- WHAT IS PROVED: contracts and plain laws of Wr10, Wt. Conditions: stated with each. -/
import Derived.Test.YtenihpghfdcpkaaGreatPV02
import Derived.Test.YtenihpghfdcpkaaGreatPV05
import Derived.Test.YtenihpghfdcpkaaGreatPV06
import Derived.Test.YtenihpghfdcpkaaGreatPV07
set_option maxHeartbeats 4000000
set_option maxRecDepth 100000
namespace Go.Proofs.YtenihpghfdcpkaaGreat
open Go.RowKit
abbrev Z6j (p0 : Option Addr) (p1 : Nat) (p2 : Nat) : List Value := ([(.slice p0 p1 p2)] : LV)
abbrev Z9m (p0 : Option Addr) (p1 : List UInt8) (p2 : Nat) : Ck := Zo 5 1 (.slice p0 p1.length p2) p1.length (p1.flatMap Zx)
theorem Z9c {f m : Nat} (hm : m < 128 ^ f) (h : 128 ≤ m) : 0 < f - 1 ∧ m / 128 < 128 ^ (f - 1) ∧ Zav f m = UInt8.ofNat (bOr .u8 ((m : Int) % 256) 128).toNat :: Zav (f - 1) (m / 128) := by
 cases f with
 | zero => simp at hm; omega
 | succ f =>
  have h1 : m / 128 < 128 ^ f := Nat.div_lt_of_lt_mul (by rw [Nat.pow_succ] at hm; omega)
  refine ⟨?_, h1, ?_⟩
  ·cases f with
   | zero => simp at h1; omega
   | succ f => simp
  rw [Z9s om, show (((m : Int) % 128 + 128).toNat) = m % 128 + 128 by omega]
  conv => lhs; unfold Zav
  rw [if_neg om]; rfl
theorem Z8S {f m : Nat} (hf : 0 < f) (h : m < 128) : Zav f m = [UInt8.ofNat ((m : Int) % 256).toNat] := by
 cases f with
 | zero => omega
 | succ f => unfold Zav; rw [if_pos h, show ((m : Int) % 256).toNat = m by omega]
def wrL (r : Nat) (a : Option Addr) (c : Nat) (B : List UInt8) : List Ck := [Z0 r 266 [.slice a B.length c], Zo 5 1 (.slice a B.length c) B.length (B.flatMap Zx)]
theorem Z6a (w : World) (r : Nat) (a0 : Option Addr) (c0 : Nat) (B : List UInt8) (hB : (Z0h (wrL r a0 c0 B)).ok w) (hl : B.length ≤ 1000000) (n : Nat) (hn : n < 18446744073709551616) :
  Calls Tryz.prog 187 #[zp r, (u6 ((n : Int)))] w fun e w' => ∃ a' c', e = .returned (zp r) ∧ Sat w [Z0 r 266 [.slice a' (B ++ Z1I n).length c'], Zo 5 1 (.slice a' (B ++ Z1I n).length c') (B ++ Z1I n).length ((B ++ Z1I n).flatMap Zx), ZQ w (Z0h (wrL r a0 c0 B)).fp] w' := by
 have H := Sat.start (wrL r a0 c0 B) hB
 refine Zg Tryz.func187 rfl 33 rfl kn ?_
 refine zsl <| wv 4 (.pointer none) <| znt <| Z9 <| Zh <| ZB ([1] ++ List.range' 5 16) (fun F_ W_ m_ => ∃ (m : Nat) (a : Option Addr) (c : Nat) (D : List UInt8) (f : Nat), F_ 1 = (vu m) ∧ (0 < f ∧ m < 128 ^ f ∧ m < 18446744073709551616) ∧ (D ++ Zav f m = B ++ Z1I n) ∧ (D.length + f ≤ B.length + 10) ∧ Sat w [Z0 r 266 (Z6j a D.length c), (Z9m a D c), ZQ w (Z0h (wrL r a0 c0 B)).fp] W_ ∧ m_ = m + 1) _ ⟨n, a0, c0, B, 10, (show ((vu n) : Value) = _ by first | rfl | go_num), ⟨by omega, by omega, hn⟩, rfl, by omega, H, rfl⟩ ?_
 rintro g1 w2 _ ⟨m, a, c, D, f, v4, hm, hD, hf, H3, rfl⟩
 refine Zn 1 _ v4 ?_
 refine Z9 <| zsl <| wv 5 (vu m) <| wv 6 (.bool (decide ((m : Int) ≥ 128))) <| znt ?_
 let A1 : Value := .int .u8 ((m : Int) % 256)
 refine zid (fun b6 g7 => ?_) fun b6 g26 => ?_
 ·refine Zp <| ztn <| Zh <| zsl <| wv 7 (pt r 0) <| wv 8 (pt r 0) <| wv 9 (pt r 0) <| wv 10 (pt r 0) <| zw1 11 (.slice a D.length c) (H3.cell 0 rfl rfl) <| wv 12 (vu m) ?_
  refine wv 13 A1 ?_ (hr := Z0A (z := (m : Int)) kr (by rw [Z3X]))
  let A0 : Value := .int .u8 (bOr .u8 ((m : Int) % 256) 128)
  refine wv 14 A0 <| zy <| Z2z 5 1 1 (.int .u8 (0)) [(0, A0)] ([A0] : LV) H3 fun b10 w11 H12 => ?_
  have H13 := H12.ct 3 rfl (Zo 5 1 (.slice (some ⟨b10, 0, none⟩) 1 1) 1 ([UInt8.ofNat (bOr .u8 ((m : Int) % 256) 128).toNat].flatMap Zx)) (by rw [Z33 (by rw [Z9s om]; omega)])
  refine kk <| zy <| Z0t (T := 84) (e := 5) (size := 1) (bytes := 1) rfl H13 kr 1 3 rfl rfl rfl rfl (Z0q Zx Z1c [UInt8.ofNat (bOr .u8 ((m : Int) % 256) 128).toNat]) om om fun v15 w16 H17 => ?_
  have H20 := H17.ct 1 rfl (Zo 5 1 v15 ((D ++ [UInt8.ofNat (bOr .u8 ((m : Int) % 256) 128).toNat]).length) ((D ++ [UInt8.ofNat (bOr .u8 ((m : Int) % 256) 128).toNat]).flatMap Zx)) ja
  obtain ⟨a18, c19, rfl⟩ := Z3 (H20.at 1 rfl)
  refine kk <| wv 17 (pt r 0) <| wv 18 (pt r 0) <| zy <| Z3e (vs := (Z6j a18 ((D ++ [UInt8.ofNat (bOr .u8 ((m : Int) % 256) 128).toNat]).length) c19)) rfl H20 0 rfl rfl rfl rfl kr kn kn kr fun w22 H23 => ?_
  refine kk <| znt <| ZG <| wv 19 (vu m) <| wv 20 (vu ((m : Int) / 128)) ?_ (hr := Z5b rfl rfl (by decide) (by decide) (by decide))
  refine wv 1 (vu ((m : Int) / 128)) <| ZL <| Z6 ?_
  have hv := Z9c hm.2.1 (show 128 ≤ m by omega)
  have H25 := H23.pk [0, 1, 2]
  refine Za ?_ _ ⟨(m / 128), a18, c19, (D ++ [UInt8.ofNat (bOr .u8 ((m : Int) % 256) 128).toNat]), (f - 1), rfl, ⟨hv.1, hv.2.1, by omega⟩, (by rw [hv.2.2] at hD; simpa using hD), (by rw [List.length_append]; simp only [List.length_cons, List.length_nil]; omega), H25, rfl⟩ om
  exact zs
 refine zxb <| ztn <| zsl <| wv 21 (pt r 0) <| wv 22 (pt r 0) <| wv 23 (pt r 0) <| wv 24 (pt r 0) <| zw1 25 (.slice a D.length c) (H3.cell 0 rfl rfl) <| wv 26 (vu m) <| wv 27 A1 ?_ (hr := Z0A (z := (m : Int)) kr (by rw [Z3X]))
 refine zy <| Z2z 5 1 1 (.int .u8 (0)) [(0, A1)] ([A1] : LV) H3 fun b29 w30 H31 => ?_
 have H32 := H31.ct 3 rfl (Zo 5 1 (.slice (some ⟨b29, 0, none⟩) 1 1) 1 ([UInt8.ofNat ((m : Int) % 256).toNat].flatMap Zx)) (by rw [Z33 om])
 refine kk <| zy <| Z0t (T := 84) (e := 5) (size := 1) (bytes := 1) rfl H32 kr 1 3 rfl rfl rfl rfl (Z0q Zx Z1c [UInt8.ofNat ((m : Int) % 256).toNat]) om om fun v34 w35 H36 => ?_
 have H39 := H36.ct 1 rfl (Zo 5 1 v34 ((D ++ [UInt8.ofNat ((m : Int) % 256).toNat]).length) ((D ++ [UInt8.ofNat ((m : Int) % 256).toNat]).flatMap Zx)) ja
 obtain ⟨a37, c38, rfl⟩ := Z3 (H39.at 1 rfl)
 refine kk <| wv 30 (pt r 0) <| wv 31 (pt r 0) <| zy <| Z3e (vs := (Z6j a37 ((D ++ [UInt8.ofNat ((m : Int) % 256).toNat]).length) c38)) rfl H39 0 rfl rfl rfl rfl kr kn kn kr ?_
 intro w41 (H42 : Sat w [Z0 r 266 (Z6j a37 ((D ++ [UInt8.ofNat ((m : Int) % 256).toNat]).length) c38), (Z9m a37 (D ++ [UInt8.ofNat ((m : Int) % 256).toNat]) c38), ZQ w (Z0h (wrL r a0 c0 B)).fp, Zo 5 1 (.slice (some ⟨b29, 0, none⟩) 1 1) 1 ([UInt8.ofNat ((m : Int) % 256).toNat].flatMap Zx)] w41)
 refine kk <| Z1a <| wv 32 (pt r 0) <| wv 4 (pt r 0) <| znt <| Zk <| ze1 (pt r 0) ?_
 have hv := Z8S hm.1 (show m < 128 by omega)
 have hfin : (D ++ [UInt8.ofNat ((m : Int) % 256).toNat]) = B ++ Z1I n := by rw [← hD, hv]
 exact ⟨a37, c38, rfl, (H42.pick [0, 1, 2] (by decide)).cast (by show [_, _, _] = _; rw [hfin])⟩
theorem Z0C (w : World) (r : Nat) (a0 : Option Addr) (c0 : Nat) (B : List UInt8) (hB : (Z0h (wrL r a0 c0 B)).ok w) (hl : B.length ≤ 1000000) (n : Int) (hn : n ≤ 9223372036854775807) :
  Calls Tryz.prog 141 #[zp r, i6 n] w fun e w' => ∃ a' c', e = .returned (zp r) ∧ Sat w [Z0 r 266 [.slice a' (B ++ Z1I (max 0 n).toNat).length c'], Zo 5 1 (.slice a' (B ++ Z1I (max 0 n).toNat).length c') (B ++ Z1I (max 0 n).toNat).length ((B ++ Z1I (max 0 n).toNat).flatMap Zx), ZQ w (Z0h (wrL r a0 c0 B)).fp] w' := by
 have H := Sat.start (wrL r a0 c0 B) hB
 obtain ⟨k, hk⟩ : ∃ k : Nat, (k : Int) = max 0 n := ⟨(max 0 n).toNat, by omega⟩
 refine Zg Tryz.func141 rfl 10 rfl kn ?_
 refine zsl <| wv 4 (.pointer none) <| Z1a <| wv 5 (pt r 0) <| wv 6 (vi n) <| wv 7 (vi (max (0 : Int) n)) ?_ (hr := Zeh (k := .i64) (a := 0) (b := n) (z := max (0 : Int) n) rfl rfl rfl)
 refine wv 8 (vu k) ?_ (hr := Z0A (z := max (0 : Int) n) kr ((by rw [← hk]; exact Z1h om)))
 refine zy <| zdc 9 (Z6a w r a0 c0 B (H.fn [0, 1]) om k om) ?_
 rintro _ w2 ⟨a4, c5, rfl, T3⟩
 have H6 := H.tl [Z0 r 266 (Z6j a4 ((B ++ Z1I k).length) c5), (Z9m a4 (B ++ Z1I k) c5)] [0, 1] [2] T3 [0, 1, 2]
 refine ⟨_, rfl, ?_⟩
 refine kk <| wv 4 (pt r 0) <| znt <| Zk <| ze1 (pt r 0) ?_
 have hkn : (max 0 n).toNat = k := by omega
 exact ⟨a4, c5, rfl, by rw [hkn]; exact H6⟩
theorem Z26 (w : World) (r : Nat) (a0 : Option Addr) (c0 : Nat) (B : List UInt8) (hB : (Z0h (wrL r a0 c0 B)).ok w) (hl : B.length ≤ 1000000) :
  Calls Tryz.prog 142 #[zp r] w fun e w' => ∃ u, e = .returned u ∧ Sat w [Z0 r 266 [.slice a0 B.length c0], Zo 5 1 (.slice a0 B.length c0) B.length (B.flatMap Zx), Zo 5 1 u B.length (B.flatMap Zx), ZQ w (Z0h (wrL r a0 c0 B)).fp] w' := by
 have H := Sat.start (wrL r a0 c0 B) hB
 refine Zg Tryz.func142 rfl 8 rfl kn ?_
 refine zsl <| wv 2 (.slice none 0 0) <| Z1a <| wv 3 (pt r 0) <| wv 4 (pt r 0) <| wv 5 (pt r 0) <| zw1 6 (.slice a0 B.length c0) (H.cell 0 rfl rfl) <| zy <| Z9p (T := 84) (e := 5) (size := 1) (bytes := 1) rfl H kr (H.at 1 rfl) rfl rfl (Z0q Zx Z1c B) om om fun v2 w3 H4 => ?_
 obtain ⟨a5, c6, rfl⟩ := Z3 (H4.at 3 rfl)
 refine kk <| wv 2 (.slice a5 B.length c6) <| znt <| Zk <| ze1 (.slice a5 B.length c6) ?_
 exact ⟨_, rfl, H4.pk [0, 1, 3, 2]⟩
abbrev Z8p (p0 : Option Addr) (p1 : Nat) (p2 : Nat) : List Value := ([(.slice p0 p1 p2)] : LV)
abbrev ZaT (p0 : Option Addr) (p1 : List UInt8) (p2 : Nat) : Ck := Zo 5 1 (.slice p0 p1.length p2) p1.length (p1.flatMap Zx)
abbrev kWt_2 (p0 : Int) (p1 : Int) : List Value := ([i6 p0, i6 p1] : LV)
theorem ListAt.nowD {α : Type} {enc : α → List Value} {sz : Nat} {w0 w W : World} {G : List Ck} {D : Nat → Prop} (H : Sat w0 G w) (j : Nat) (hj : G[j]? = Option.some (ZQ W D)) {a : Option Addr} {n c : Nat} {xs : List α} (hv : ListAt enc sz W (.slice a n c) xs) (hf : 0 < xs.length → ∀ ad, a = some ad → ¬ D ad.block) : ListAt enc sz w (.slice a n c) xs := by
 rcases hv with h | ⟨h0, b', o, c', e, hc, h⟩
 ·exact .inl h
 have ha : a = some ⟨b', o, none⟩ := by simp only [Value.slice.injEq] at e; exact e.1
 refine .inr ⟨h0, b', o, c', e, hc, fun i hi q u hq => ?_⟩
 have h1 := h i hi q u hq
 rw [Addr.add_lit] at h1 ⊢
 exact H.cellR j hj h1 (show ¬ D b' from hf h0 _ ha)
theorem Z2t (w : World) (r : Nat) (a0 : Option Addr) (c0 : Nat) (B : List UInt8) (hB : (Z0h (wrL r a0 c0 B)).ok w) (hl : B.length ≤ 1000000) (x : Hash) :
  Calls Tryz.prog 160 #[zp r, (.agg ⟨(hc x)⟩)] w fun e w' => ∃ a' c', e = .returned (zp r) ∧ Sat w [Z0 r 266 [.slice a' (B ++ x.l).length c'], Zo 5 1 (.slice a' (B ++ x.l).length c') (B ++ x.l).length ((B ++ x.l).flatMap Zx), ZQ w (Z0h (wrL r a0 c0 B)).fp] w' := by
 have H := Sat.start (wrL r a0 c0 B) hB
 have hx := x.len
 refine Zg Tryz.func160 rfl 15 rfl kn ?_
 refine zsl <| zy <| zdb (hc x) H fun b2 w3 H4 => ?_
 let A0 := ZQ w (Z0h (wrL r a0 c0 B)).fp
 let A2 := Z0 b2 61 (hc x)
 refine kk <| wv 4 (.pointer none) <| znt <| Z9 <| Z0Z H4 [Z0 r 266 (Z8p a0 B.length c0), A0, A2] [9] 10 rfl kr (fun Hx => (Hx.pk [0, 2, 3])) fun w5 H6 S7 => ?_
 refine zkp 0 S7 5 (pt r 0) <| zkp 1 S7 6 (pt r 0) <| zkp 2 S7 7 (pt r 0) <| zkp 3 S7 8 (pt r 0) <| zkv 4 S7 9 (.slice a0 B.length c0) ?_ (he := fun _ H' => (zl1 (H'.cell 0 rfl rfl)))
 refine zkp 5 S7 10 (.slice (some ⟨b2, 0, none⟩) 32 32) <| zky 6 ?_
 refine Z4q (T := 84) (e := 5) (size := 1) (bytes := 1) rfl H6 kr Zw Z1c 1 rfl (ListAt.ofHash (x := x) (Z3F (H6.at 3 rfl) kr) (by decide)) rfl rfl om om ?_
 intro v9 w10 H12
 have H11 := H12.ct 1 rfl (Zo 5 1 v9 ((B ++ x.l).length) ((B ++ x.l).flatMap Zx)) (by simp only [List.length_append, List.flatMap_append])
 obtain ⟨a13, c14, rfl⟩ := Z3 (H11.at 1 rfl)
 have S15 := H11.pk [0, 2, 3]
 refine ke S15 <| zkp 7 S15 12 (pt r 0) <| zkp 8 S15 13 (pt r 0) <| Z2B 9 (Sat w [A0, A2]) rfl kr (Zc rfl) rfl (fun Kq kq => ?_)
 let A1 := Z8p a13 ((B ++ x.l).length) c14
 refine Z1S A1 H11 0 ?_
 intro w17 (H18 : Sat w [Z0 r 266 A1, (ZaT a13 (B ++ x.l) c14), A0, A2] w17)
 have S20 := H18.pk [2, 3]
 refine kq _ _ S20 <| zhf <| ztn <| zsl <| wv 14 (pt r 0) <| wv 4 (pt r 0) <| znt <| Zk <| ze1 (pt r 0) ?_
 have hX : (B ++ x.l) = (B ++ x.l) := by rfl
 exact ⟨a13, c14, rfl, (H18.pk [0, 1, 2]).cast (by show [_, _, _] = _; rw [hX])⟩
theorem Z2c (w : World) (r : Nat) (a0 : Option Addr) (c0 : Nat) (B : List UInt8) (hB : (Z0h (wrL r a0 c0 B)).ok w) (hl : B.length ≤ 1000000) (ta : Option Addr) (tc : Nat) (tx : List UInt8) (ht : ListAt Zx 1 w (.slice ta tx.length tc) tx) (hoff : 0 < tx.length → ∀ ad, ta = some ad → ¬ (Z0h (wrL r a0 c0 B)).fp ad.block) (hl2 : tx.length ≤ 1000000) :
  Calls Tryz.prog 158 #[zp r, (.slice ta tx.length tc)] w fun e w' => ∃ a' c', e = .returned (zp r) ∧ Sat w [Z0 r 266 [.slice a' (B ++ Zm tx).length c'], Zo 5 1 (.slice a' (B ++ Zm tx).length c') (B ++ Zm tx).length ((B ++ Zm tx).flatMap Zx), ZQ w (Z0h (wrL r a0 c0 B)).fp] w' := by
 have H := Sat.start (wrL r a0 c0 B) hB
 have hvl := ZA (tx.length : Int)
 refine Zg Tryz.func158 rfl 19 rfl kn ?_
 refine zsl <| wv 4 (.pointer none) <| Z1a <| wv 5 (pt r 0) <| wv 6 (.slice ta tx.length tc) <| wv 7 (vi tx.length) <| zy ?_
 have l7 := ZA (tx.length : Int)
 refine zdc 8 (Z0C w r a0 c0 B (H.fn [0, 1]) om (tx.length : Int) om) ?_
 rintro _ w2 ⟨a4, c5, rfl, T3⟩
 have H8 := H.tl [Z0 r 266 (Z8p a4 ((B ++ Z5 (tx.length : Int)).length) c5), (ZaT a4 (B ++ Z5 (tx.length : Int)) c5)] [0, 1] [2] T3 [0, 1, 2]
 refine ⟨_, rfl, ?_⟩
 refine kk <| Z1a <| wv 9 (pt r 0) <| wv 10 (pt r 0) <| wv 11 (pt r 0) <| wv 12 (pt r 0) <| zw1 13 (.slice a4 ((B ++ Z5 (tx.length : Int)).length) c5) (H8.cell 0 rfl rfl) <| wv 14 (.slice ta tx.length tc) <| zy <| Z4q (T := 84) (e := 5) (size := 1) (bytes := 1) rfl H8 kr Zw Z1c 1 rfl (ListAt.nowD H8 2 rfl ht hoff) rfl rfl (by simp only [List.length_append]; omega) (by simp only [List.length_append]; omega) ?_
 intro v10 w11 H13
 have H12 := H13.ct 1 rfl (Zo 5 1 v10 (((B ++ Z5 (tx.length : Int)) ++ tx).length) (((B ++ Z5 (tx.length : Int)) ++ tx).flatMap Zx)) (by simp only [List.length_append, List.flatMap_append])
 obtain ⟨a14, c15, rfl⟩ := Z3 (H12.at 1 rfl)
 refine kk <| wv 16 (pt r 0) <| wv 17 (pt r 0) <| zy <| Z3e (vs := (Z8p a14 (((B ++ Z5 (tx.length : Int)) ++ tx).length) c15)) rfl H12 0 rfl rfl rfl rfl kr kn kn kr ?_
 intro w17 (H18 : Sat w [Z0 r 266 (Z8p a14 (((B ++ Z5 (tx.length : Int)) ++ tx).length) c15), (ZaT a14 ((B ++ Z5 (tx.length : Int)) ++ tx) c15), ZQ w (Z0h (wrL r a0 c0 B)).fp] w17)
 refine kk <| Z1a <| wv 18 (pt r 0) <| wv 4 (pt r 0) <| znt <| Zk <| ze1 (pt r 0) ?_
 have hX : ((B ++ Z5 (tx.length : Int)) ++ tx) = (B ++ Zm tx) := by unfold Zm Z5; rw [show (max 0 (tx.length : Int)).toNat = tx.length by omega, List.append_assoc]
 exact ⟨a14, c15, rfl, (H18.pick [0, 1, 2] (by decide)).cast (by show [_, _, _] = _; rw [hX])⟩
theorem Z42 (w : World) :
  Calls Tryz.prog 157 #[] w fun e w' => ∃ r a c, e = .returned (zp r) ∧ (Z0h (wrL r a c [])).ok w' ∧ Upd [] w w' ∧ ∀ q_, (Z0h (wrL r a c [])).fp q_ → w.heap.size ≤ q_ := by
 have H := Sat.start0 w
 refine Zg Tryz.func157 rfl 3 rfl kn ?_
 let A0 := ([(.slice none 0 0)] : LV)
 refine zsl <| wv 0 (.pointer none) <| Z1a <| wv 1 (.agg ⟨A0⟩) <| zy <| zdb A0 H fun b2 w3 H4 => ?_
 refine kk <| wv 0 (pt b2 0) <| znt <| Zk <| ze1 (pt b2 0) ?_
 have H5 := H4.addNil 5 1
 exact ⟨b2, none, 0, rfl, H5.fn [1, 2], H5.upd 0 rfl [] ne, H5.freshS 0 rfl (fun _ h => h) [1, 2] rfl rfl⟩
theorem Z6M (w : World) (s : List UInt8) (hs : 0 < s.length ∧ s.length ≤ 1000000) :
  Calls Tryz.prog 140 #[(Z5l s)] w fun e w' => ∃ r a c, e = .returned (zp r) ∧ (Z0h (wrL r a c (Zm s))).ok w' ∧ Upd [] w w' ∧ ∀ q_, (Z0h (wrL r a c (Zm s))).fp q_ → w.heap.size ≤ q_ := by
 have H := Sat.start0 w
 refine Zg Tryz.func140 rfl 7 rfl kn ?_
 refine zsl <| wv 2 (.pointer none) <| Z1a <| zy <| zdc 3 (Z42 w) ?_
 rintro _ w2 ⟨r3, a4, c5, rfl, k6, p7, q8⟩
 have H9 := H.addU p7 k6 q8
 have H10 := H9.open 1 rfl
 refine ⟨_, rfl, ?_⟩
 refine kk <| wv 4 (Z5l s) <| zy <| Zcf (e := 5) (s := s) rfl H10 kr kr kr rfl om om fun b14 c15 w12 H13 => ?_
 refine kk <| zy ?_
 have l22 := Z0K s
 refine zdc 6 (Z2c w12 r3 a4 c5 z8 (H13.fn [1, 2]) (by simp) (some ⟨b14, 0, none⟩) c15 s (ListAt.ofTxt (H13.at 3 rfl)) (Z4Y (fun b hb => H13.offP [1, 2] 3 rfl rfl (by decide) hb)) (by first | omega | simp)) ?_
 rintro _ w17 ⟨a19, c20, rfl, T18⟩
 have H23 := H13.tl [Z0 r3 266 (Z8p a19 ((z8 ++ Zm s).length) c20), (ZaT a19 (z8 ++ Zm s) c20)] [1, 2] [0, 3] T18 [2, 0, 1, 3]
 refine ⟨_, rfl, ?_⟩
 refine kk <| wv 2 (pt r3 0) <| znt <| Zk <| ze1 (pt r3 0) ?_
 have hX : (z8 ++ Zm s) = Zm s := by exact List.nil_append _
 exact ⟨r3, a19, c20, rfl, (by rw [← hX]; exact H23.fn [1, 2]), H23.upd 0 rfl [] ne, (by rw [← hX]; exact H23.freshS 0 rfl (fun _ h => h) [1, 2] rfl rfl)⟩
theorem Z6L (w : World) (r : Nat) (a0 : Option Addr) (c0 : Nat) (B : List UInt8) (hB : (Z0h (wrL r a0 c0 B)).ok w) (hl : B.length ≤ 900000) (a b : Int) (hs : a ≤ 9223372036854775807 ∧ b ≤ 9223372036854775807) :
  Calls Tryz.prog 228 #[zp r, (.agg ⟨([i6 a, i6 b] : LV)⟩)] w fun e w' => ∃ a' c', e = .returned (.tuple #[]) ∧ Sat w [Z0 r 266 [.slice a' (B ++ Z0y a b).length c'], Zo 5 1 (.slice a' (B ++ Z0y a b).length c') (B ++ Z0y a b).length ((B ++ Z0y a b).flatMap Zx), ZQ w (Z0h (wrL r a0 c0 B)).fp] w' := by
 have H := Sat.start (wrL r a0 c0 B) hB
 refine Zg Tryz.func228 rfl 11 rfl kn ?_
 refine zsl <| zy <| zdb (kWt_2 a b) H fun b2 w3 H4 => ?_
 refine kk <| znt <| Z0a H4 [ZQ w (Z0h (wrL r a0 c0 B)).fp, Z0 b2 59 (kWt_2 a b)] 7 rfl kr (fun Hx => (Hx.pk [2, 3])) fun w5 H6 S7 => ?_
 refine hv0 0 S7 4 (pt r 0) <| hv0 1 S7 5 (pt b2 0) <| hv0 2 S7 6 (vi a) ?_ (he := fun _ H' => (zl1 (H'.cell 1 rfl rfl)))
 refine hv0 4 S7 8 (pt b2 1) <| hv0 5 S7 9 (vi b) ?_ (he := fun _ H' => (zl1 (H'.cell 1 rfl rfl)))
 refine zhy 3 ?_
 have l14 := ZA a
 refine zdc 7 (Z0C w5 r a0 c0 B (H6.fn [0, 1]) om a om) ?_
 rintro _ w9 ⟨a11, c12, rfl, T10⟩
 have H15 := H6.tl [Z0 r 266 (Z8p a11 ((B ++ Z5 a).length) c12), (ZaT a11 (B ++ Z5 a) c12)] [0, 1] [2, 3] T10 [0, 1, 2, 3]
 refine ⟨_, rfl, ?_⟩
 have S16 := H15.pk [2, 3]
 refine kh S16 <| zhy 6 ?_
 have l23 := ZA b
 refine zdc 10 (Z0C w9 r a11 c12 (B ++ Z5 a) (H15.fn [0, 1]) (by simp only [List.length_append, List.length_nil]; omega) b om) ?_
 rintro _ w18 ⟨a20, c21, rfl, T19⟩
 have H24 := H15.tl [Z0 r 266 (Z8p a20 (((B ++ Z5 a) ++ Z5 b).length) c21), (ZaT a20 ((B ++ Z5 a) ++ Z5 b) c21)] [0, 1] [2, 3] T19 [0, 1, 2, 3]
 refine ⟨_, rfl, ?_⟩
 have S25 := H24.pk [2, 3]
 refine kh S25 <| zhf <| Z24 ?_
 refine ZcS rfl  ?_
 have hX : ((B ++ Z5 a) ++ Z5 b) = (B ++ Z0y a b) := by simp only [Z0y, List.flatten_cons, List.flatten_nil, List.append_nil, List.append_assoc]
 exact ⟨a20, c21, rfl, (H24.pk [0, 1, 2]).cast (by show [_, _, _] = _; rw [hX])⟩
end Go.Proofs.YtenihpghfdcpkaaGreat
