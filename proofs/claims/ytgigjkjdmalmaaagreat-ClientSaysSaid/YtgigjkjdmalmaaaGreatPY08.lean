/- WHAT IS PROVED: contracts and plain laws of Wt, Rt, DenyT. Conditions: stated with each. -/
import Derived.Test.YtgigjkjdmalmaaaGreatPY06
import Derived.Test.YtgigjkjdmalmaaaGreatPY07
set_option maxHeartbeats 4000000
set_option maxRecDepth 100000
namespace Go.Proofs.YtgigjkjdmalmaaaGreat
open Go.RowKit
theorem ListAt.nowD {α : Type} {enc : α → List Value} {sz : Nat} {w0 w W : World} {G : List Ck} {D : Nat → Prop} (H : Sat w0 G w) (j : Nat) (hj : G[j]? = Option.some (Z7 W D)) {a : Option Addr} {n c : Nat} {xs : List α} (hv : ListAt enc sz W (.slice a n c) xs) (hf : 0 < xs.length → ∀ ad, a = some ad → ¬ D ad.block) : ListAt enc sz w (.slice a n c) xs := by
 rcases hv with h | ⟨h0, b', o, c', e, hc, h⟩
 ·exact .inl h
 ·have ha : a = some ⟨b', o, none⟩ := by simp only [Value.slice.injEq] at e; exact e.1
  refine .inr ⟨h0, b', o, c', e, hc, fun i hi q u hq => ?_⟩
  have h1 := h i hi q u hq
  rw [Addr.add_lit] at h1 ⊢
  exact H.cellR j hj h1 (show ¬ D b' from hf h0 _ ha)
theorem Z1u (w : World) (r : Nat) (a0 : Option Addr) (c0 : Nat) (B : List UInt8) (hB : (ZL (wrL r a0 c0 B)).ok w) (hl : B.length ≤ 1000000) (x : Z1e) :
  Calls Tryz.prog 73 #[(.pointer (some ⟨r, 0, none⟩)), (.agg ⟨(hc x)⟩)] w fun e w' => ∃ a' c', e = .returned (.pointer (some ⟨r, 0, none⟩)) ∧ Sat w [Z3 r 187 [.slice a' (B ++ x.l).length c'], Zc 5 1 (.slice a' (B ++ x.l).length c') (B ++ x.l).length ((B ++ x.l).flatMap ZH), Z7 w (ZL (wrL r a0 c0 B)).fp] w' := by
 have H : Sat w [Z3 r 187 ([(.slice a0 B.length c0)] : List Value), Zc 5 1 (.slice a0 B.length c0) B.length (B.flatMap ZH), Z7 w (ZL (wrL r a0 c0 B)).fp] w := Sat.start (wrL r a0 c0 B) hB
 have hx := x.len
 refine Zg Tryz.func73 rfl 15 rfl (Nat.le_of_ble_eq_true rfl) ?_
 refine Zf ?_
 refine Zt ?_
 refine Z0B (Z5 rfl) (fun K1 hK1 => ?_)
 refine Z2R (vs := (hc x)) rfl H rfl rfl ?_
 intro b2 w3 (H4 : Sat w [Z3 r 187 ([(.slice a0 B.length c0)] : List Value), Zc 5 1 (.slice a0 B.length c0) B.length (B.flatMap ZH), Z7 w (ZL (wrL r a0 c0 B)).fp, Z3 b2 40 (hc x)] w3)
 refine hK1 _ _ ?_
 clear hK1 K1
 refine Z6 (Z5 rfl) (d := 4) (v := (.pointer none)) rfl (by kernel_rfl) ?_
 refine Zu ?_
 refine Zb ?_
 refine Zf ?_
 refine Z1o H4 [Z3 r 187 ([(.slice a0 B.length c0)] : List Value), Z7 w (ZL (wrL r a0 c0 B)).fp, Z3 b2 40 (hc x)] [9] 10 rfl (by kernel_rfl) (fun Hx => (Hx.pick [0, 2, 3] (by decide))) ?_
 intro w5 H6 S7
 refine Z0Y 0 rfl (by kernel_rfl) (by kernel_rfl) (by kernel_rfl) (fun _ _ _ h => h) S7 (Z5 rfl) rfl (d := 5) (v := (.pointer (some ⟨r, 0, none⟩))) rfl (fun _ => (by kernel_rfl)) ?_
 refine Z0Y 1 rfl (by kernel_rfl) (by kernel_rfl) (by kernel_rfl) (fun _ _ _ h => h) S7 (Z5 rfl) rfl (d := 6) (v := (.pointer (some ⟨r, 0, none⟩))) rfl (fun _ => (by kernel_rfl)) ?_
 refine Z0Y 2 rfl (by kernel_rfl) (by kernel_rfl) (by kernel_rfl) (fun _ _ _ h => h) S7 (Z5 rfl) rfl (d := 7) (v := (.pointer (some ⟨r, 0, none⟩))) rfl (fun _ => (by kernel_rfl)) ?_
 refine Z0Y 3 rfl (by kernel_rfl) (by kernel_rfl) (by kernel_rfl) (fun _ _ _ h => h) S7 (Z5 rfl) rfl (d := 8) (v := (.pointer (some ⟨r, 0, none⟩))) rfl (fun _ => (by kernel_rfl)) ?_
 refine ZaI 4 rfl (by kernel_rfl) (by kernel_rfl) (by kernel_rfl) (fun _ _ _ h => h) S7 (Z5 rfl) rfl (by kernel_rfl) (d := 9) (v := (.slice a0 B.length c0)) rfl (fun _ H' => (Zi rfl (by kernel_rfl) (H'.cell 0 rfl rfl))) ?_
 refine Z0Y 5 rfl (by kernel_rfl) (by kernel_rfl) (by kernel_rfl) (fun _ _ _ h => h) S7 (Z5 rfl) rfl (d := 10) (v := (.slice (some ⟨b2, 0, none⟩) 32 32)) rfl (fun _ => (by kernel_rfl)) ?_
 refine k_do 6 rfl (by kernel_rfl) (Z5 rfl) rfl (fun K8 hK8 => ?_)
 refine Z6B (T := 38) (e := 5) (size := 1) (bytes := 1) rfl H6 (by kernel_rfl) Z0u Z1b 1 rfl (ListAt.ofHash (x := x) (Z8X (H6.at 3 rfl) (by kernel_rfl)) (by decide)) rfl rfl (by omega) (by omega) ?_
 intro v9 w10 (H12 : Sat w [Z3 r 187 ([(.slice a0 B.length c0)] : List Value), Zc 5 1 v9 (B.length + x.l.length) (B.flatMap ZH ++ x.l.flatMap ZH), Z7 w (ZL (wrL r a0 c0 B)).fp, Z3 b2 40 (hc x)] w10)
 have H11 : Sat w [Z3 r 187 ([(.slice a0 B.length c0)] : List Value), Zc 5 1 v9 ((B ++ x.l).length) ((B ++ x.l).flatMap ZH), Z7 w (ZL (wrL r a0 c0 B)).fp, Z3 b2 40 (hc x)] w10 := H12.cast (by simp only [List.length_append, List.flatMap_append])
 obtain ⟨a13, c14, rfl⟩ := Ze (H11.at 1 rfl)
 have S15 := H11.pick [0, 2, 3] (by decide)
 refine hK8 _ _ S15 ?_
 clear hK8 K8
 refine Z0Y 7 rfl (by kernel_rfl) (by kernel_rfl) (by kernel_rfl) (fun _ _ _ h => h) S15 (Z5 rfl) rfl (d := 12) (v := (.pointer (some ⟨r, 0, none⟩))) rfl (fun _ => (by kernel_rfl)) ?_
 refine Z0Y 8 rfl (by kernel_rfl) (by kernel_rfl) (by kernel_rfl) (fun _ _ _ h => h) S15 (Z5 rfl) rfl (d := 13) (v := (.pointer (some ⟨r, 0, none⟩))) rfl (fun _ => (by kernel_rfl)) ?_
 refine Z3u 9 (Sat w [Z7 w (ZL (wrL r a0 c0 B)).fp, Z3 b2 40 (hc x)]) rfl (by kernel_rfl) (Z5 rfl) rfl (fun K16 hK16 => ?_)
 refine Z5L (vs := ([(.slice a13 ((B ++ x.l).length) c14)] : List Value)) (cs' := ([(.slice a13 ((B ++ x.l).length) c14)] : List Value)) rfl H11 0 rfl rfl rfl rfl (by kernel_rfl) (Nat.le_of_ble_eq_true (by kernel_rfl)) (Nat.le_of_ble_eq_true (by kernel_rfl)) (by kernel_rfl) (by kernel_rfl) ?_
 intro w17 (H18 : Sat w [Z3 r 187 ([(.slice a13 ((B ++ x.l).length) c14)] : List Value), Zc 5 1 (.slice a13 ((B ++ x.l).length) c14) ((B ++ x.l).length) ((B ++ x.l).flatMap ZH), Z7 w (ZL (wrL r a0 c0 B)).fp, Z3 b2 40 (hc x)] w17)
 have S20 := H18.pick [2, 3] (by decide)
 refine hK16 _ _ S20 ?_
 clear hK16 K16
 refine Z5N (by kernel_rfl) ?_
 refine Zb ?_
 refine Zf ?_
 refine Zt ?_
 refine Z6 (Z5 rfl) (d := 14) (v := (.pointer (some ⟨r, 0, none⟩))) rfl (by kernel_rfl) ?_
 refine Z6 (Z5 rfl) (d := 4) (v := (.pointer (some ⟨r, 0, none⟩))) rfl (by kernel_rfl) ?_
 refine Zu ?_
 refine Zb ?_
 refine Zz ?_
 refine Z1x rfl (Z0c (v := (.pointer (some ⟨r, 0, none⟩))) rfl) ?_
 have hX : (B ++ x.l) = (B ++ x.l) := by rfl
 exact ⟨a13, c14, rfl, (H18.pick [0, 1, 2] (by decide)).cast (by show [_, _, _] = _; rw [hX])⟩
theorem Z19 (w : World) (r : Nat) (a0 : Option Addr) (c0 : Nat) (B : List UInt8) (hB : (ZL (wrL r a0 c0 B)).ok w) (hl : B.length ≤ 1000000) (ta : Option Addr) (tc : Nat) (tx : List UInt8) (ht : ListAt ZH 1 w (.slice ta tx.length tc) tx) (hoff : 0 < tx.length → ∀ ad, ta = some ad → ¬ (ZL (wrL r a0 c0 B)).fp ad.block) (hl2 : tx.length ≤ 1000000) :
  Calls Tryz.prog 70 #[(.pointer (some ⟨r, 0, none⟩)), (.slice ta tx.length tc)] w fun e w' => ∃ a' c', e = .returned (.pointer (some ⟨r, 0, none⟩)) ∧ Sat w [Z3 r 187 [.slice a' (B ++ Zs tx).length c'], Zc 5 1 (.slice a' (B ++ Zs tx).length c') (B ++ Zs tx).length ((B ++ Zs tx).flatMap ZH), Z7 w (ZL (wrL r a0 c0 B)).fp] w' := by
 have H : Sat w [Z3 r 187 ([(.slice a0 B.length c0)] : List Value), Zc 5 1 (.slice a0 B.length c0) B.length (B.flatMap ZH), Z7 w (ZL (wrL r a0 c0 B)).fp] w := Sat.start (wrL r a0 c0 B) hB
 have hvl := Z0g (tx.length : Int)
 refine Zg Tryz.func70 rfl 19 rfl (Nat.le_of_ble_eq_true rfl) ?_
 refine Zf ?_
 refine Zt ?_
 refine Z6 (Z5 rfl) (d := 4) (v := (.pointer none)) rfl (by kernel_rfl) ?_
 refine Zu ?_
 refine Zb ?_
 refine Zf ?_
 refine Zt ?_
 refine Z6 (Z5 rfl) (d := 5) (v := (.pointer (some ⟨r, 0, none⟩))) rfl (by kernel_rfl) ?_
 refine Z6 (Z5 rfl) (d := 6) (v := (.slice ta tx.length tc)) rfl (by kernel_rfl) ?_
 refine Z6 (Z5 rfl) (d := 7) (v := (.int .i64 ((tx.length : Int)))) rfl (by kernel_rfl) ?_
 refine Z0B (Z5 rfl) (fun K1 hK1 => ?_)
 have l7 := Z0g (tx.length : Int)
 refine Z0L (d := 8) rfl (by kernel_rfl) (Z0z w r a0 c0 B (H.fin [0, 1] (by decide) rfl) (by omega) (tx.length : Int) (by omega)) ?_
 rintro _ w2 ⟨a4, c5, rfl, T3⟩
 have H8 : Sat w [Z3 r 187 ([(.slice a4 ((B ++ Zl (tx.length : Int)).length) c5)] : List Value), Zc 5 1 (.slice a4 ((B ++ Zl (tx.length : Int)).length) c5) ((B ++ Zl (tx.length : Int)).length) ((B ++ Zl (tx.length : Int)).flatMap ZH), Z7 w (ZL (wrL r a0 c0 B)).fp] w2 := (Sat.turnL (L' := [Z3 r 187 ([(.slice a4 ((B ++ Zl (tx.length : Int)).length) c5)] : List Value), Zc 5 1 (.slice a4 ((B ++ Zl (tx.length : Int)).length) c5) ((B ++ Zl (tx.length : Int)).length) ((B ++ Zl (tx.length : Int)).flatMap ZH)]) (R := [Z7 w (ZL (wrL r a0 c0 B)).fp]) H [0, 1] [2] (by decide) (by kernel_rfl) rfl T3).pick [0, 1, 2] (by decide)
 refine ⟨_, rfl, ?_⟩
 refine hK1 _ _ ?_
 clear hK1 K1
 refine Zu ?_
 refine Zb ?_
 refine Zf ?_
 refine Zt ?_
 refine Z6 (Z5 rfl) (d := 9) (v := (.pointer (some ⟨r, 0, none⟩))) rfl (by kernel_rfl) ?_
 refine Z6 (Z5 rfl) (d := 10) (v := (.pointer (some ⟨r, 0, none⟩))) rfl (by kernel_rfl) ?_
 refine Z6 (Z5 rfl) (d := 11) (v := (.pointer (some ⟨r, 0, none⟩))) rfl (by kernel_rfl) ?_
 refine Z6 (Z5 rfl) (d := 12) (v := (.pointer (some ⟨r, 0, none⟩))) rfl (by kernel_rfl) ?_
 refine Z6 (Z5 rfl) (d := 13) (v := (.slice a4 ((B ++ Zl (tx.length : Int)).length) c5)) rfl (Zi rfl (by kernel_rfl) (H8.cell 0 rfl rfl)) ?_
 refine Z6 (Z5 rfl) (d := 14) (v := (.slice ta tx.length tc)) rfl (by kernel_rfl) ?_
 refine Z0B (Z5 rfl) (fun K9 hK9 => ?_)
 refine Z6B (T := 38) (e := 5) (size := 1) (bytes := 1) rfl H8 (by kernel_rfl) Z0u Z1b 1 rfl (ListAt.nowD H8 2 rfl ht hoff) rfl rfl (by simp only [List.length_append]; omega) (by simp only [List.length_append]; omega) ?_
 intro v10 w11 (H13 : Sat w [Z3 r 187 ([(.slice a4 ((B ++ Zl (tx.length : Int)).length) c5)] : List Value), Zc 5 1 v10 ((B ++ Zl (tx.length : Int)).length + tx.length) ((B ++ Zl (tx.length : Int)).flatMap ZH ++ tx.flatMap ZH), Z7 w (ZL (wrL r a0 c0 B)).fp] w11)
 have H12 : Sat w [Z3 r 187 ([(.slice a4 ((B ++ Zl (tx.length : Int)).length) c5)] : List Value), Zc 5 1 v10 (((B ++ Zl (tx.length : Int)) ++ tx).length) (((B ++ Zl (tx.length : Int)) ++ tx).flatMap ZH), Z7 w (ZL (wrL r a0 c0 B)).fp] w11 := H13.cast (by simp only [List.length_append, List.flatMap_append])
 obtain ⟨a14, c15, rfl⟩ := Ze (H12.at 1 rfl)
 refine hK9 _ _ ?_
 clear hK9 K9
 refine Z6 (Z5 rfl) (d := 16) (v := (.pointer (some ⟨r, 0, none⟩))) rfl (by kernel_rfl) ?_
 refine Z6 (Z5 rfl) (d := 17) (v := (.pointer (some ⟨r, 0, none⟩))) rfl (by kernel_rfl) ?_
 refine Z0B (Z5 rfl) (fun K16 hK16 => ?_)
 refine Z2S (vs := ([(.slice a14 (((B ++ Zl (tx.length : Int)) ++ tx).length) c15)] : List Value)) rfl H12 0 rfl rfl rfl rfl (by kernel_rfl) (Nat.le_of_ble_eq_true (by kernel_rfl)) (Nat.le_of_ble_eq_true (by kernel_rfl)) (by kernel_rfl) ?_
 intro w17 (H18 : Sat w [Z3 r 187 ([(.slice a14 (((B ++ Zl (tx.length : Int)) ++ tx).length) c15)] : List Value), Zc 5 1 (.slice a14 (((B ++ Zl (tx.length : Int)) ++ tx).length) c15) (((B ++ Zl (tx.length : Int)) ++ tx).length) (((B ++ Zl (tx.length : Int)) ++ tx).flatMap ZH), Z7 w (ZL (wrL r a0 c0 B)).fp] w17)
 refine hK16 _ _ ?_
 clear hK16 K16
 refine Zu ?_
 refine Zb ?_
 refine Zf ?_
 refine Zt ?_
 refine Z6 (Z5 rfl) (d := 18) (v := (.pointer (some ⟨r, 0, none⟩))) rfl (by kernel_rfl) ?_
 refine Z6 (Z5 rfl) (d := 4) (v := (.pointer (some ⟨r, 0, none⟩))) rfl (by kernel_rfl) ?_
 refine Zu ?_
 refine Zb ?_
 refine Zz ?_
 refine Z1x rfl (Z0c (v := (.pointer (some ⟨r, 0, none⟩))) rfl) ?_
 have hX : ((B ++ Zl (tx.length : Int)) ++ tx) = (B ++ Zs tx) := by unfold Zs Zl; rw [show (max 0 (tx.length : Int)).toNat = tx.length by omega, List.append_assoc]
 exact ⟨a14, c15, rfl, (H18.pick [0, 1, 2] (by decide)).cast (by show [_, _, _] = _; rw [hX])⟩
theorem Z2b (w : World) :
  Calls Tryz.prog 69 #[] w fun e w' => ∃ r a c, e = .returned (.pointer (some ⟨r, 0, none⟩)) ∧ (ZL (wrL r a c [])).ok w' ∧ Upd [] w w' ∧ ∀ q_, (ZL (wrL r a c [])).fp q_ → w.heap.size ≤ q_ := by
 have H := Sat.start0 w
 refine Zg Tryz.func69 rfl 3 rfl (Nat.le_of_ble_eq_true rfl) ?_
 refine Zf ?_
 refine Zt ?_
 refine Z6 (Z5 rfl) (d := 0) (v := (.pointer none)) rfl (by kernel_rfl) ?_
 refine Zu ?_
 refine Zb ?_
 refine Zf ?_
 refine Zt ?_
 refine Z6 (Z5 rfl) (d := 1) (v := (.agg ⟨([(.slice none 0 0)] : List Value)⟩)) rfl (by kernel_rfl) ?_
 refine Z0B (Z5 rfl) (fun K1 hK1 => ?_)
 refine Z2R (vs := ([(.slice none 0 0)] : List Value)) rfl H rfl rfl ?_
 intro b2 w3 (H4 : Sat w [Z7 w (fun _ => False), Z3 b2 187 ([(.slice none 0 0)] : List Value)] w3)
 refine hK1 _ _ ?_
 clear hK1 K1
 refine Z6 (Z5 rfl) (d := 0) (v := (.pointer (some ⟨b2, 0, none⟩))) rfl (by kernel_rfl) ?_
 refine Zu ?_
 refine Zb ?_
 refine Zz ?_
 refine Z1x rfl (Z0c (v := (.pointer (some ⟨b2, 0, none⟩))) rfl) ?_
 have H5 := H4.addNil 5 1
 exact ⟨b2, none, 0, rfl, H5.fin [1, 2] (by decide) rfl, H5.upd 0 rfl [] (fun _ h => h.elim), H5.freshS 0 rfl (fun _ h => h) [1, 2] rfl rfl⟩
theorem Z78 (w : World) (s : List UInt8) (hs : 0 < s.length ∧ s.length ≤ 1000000) :
  Calls Tryz.prog 98 #[(ZD s)] w fun e w' => ∃ r a c, e = .returned (.pointer (some ⟨r, 0, none⟩)) ∧ (ZL (wrL r a c (Zs s))).ok w' ∧ Upd [] w w' ∧ ∀ q_, (ZL (wrL r a c (Zs s))).fp q_ → w.heap.size ≤ q_ := by
 have H := Sat.start0 w
 refine Zg Tryz.func98 rfl 7 rfl (Nat.le_of_ble_eq_true rfl) ?_
 refine Zf ?_
 refine Zt ?_
 refine Z6 (Z5 rfl) (d := 2) (v := (.pointer none)) rfl (by kernel_rfl) ?_
 refine Zu ?_
 refine Zb ?_
 refine Zf ?_
 refine Zt ?_
 refine Z0B (Z5 rfl) (fun K1 hK1 => ?_)
 refine Z0L (d := 3) rfl (by kernel_rfl) (Z2b w) ?_
 rintro _ w2 ⟨r3, a4, c5, rfl, k6, p7, q8⟩
 have H9 : Sat w [Z7 w (fun _ => False), ZL (wrL r3 a4 c5 ([] : List UInt8))] w2 := H.addU p7 k6 q8
 have H10 : Sat w [Z7 w (fun _ => False), Z3 r3 187 ([(.slice a4 (([] : List UInt8).length) c5)] : List Value), Zc 5 1 (.slice a4 (([] : List UInt8).length) c5) (([] : List UInt8).length) (([] : List UInt8).flatMap ZH)] w2 := H9.open 1 rfl
 refine ⟨_, rfl, ?_⟩
 refine hK1 _ _ ?_
 clear hK1 K1
 refine Z6 (Z5 rfl) (d := 4) (v := (ZD s)) rfl (by kernel_rfl) ?_
 refine Z0B (Z5 rfl) (fun K11 hK11 => ?_)
 refine Z94 (e := 5) (s := s) rfl H10 (by kernel_rfl) (by kernel_rfl) (by kernel_rfl) rfl (by omega) (by omega) ?_
 intro b14 c15 w12 (H13 : Sat w [Z7 w (fun _ => False), Z3 r3 187 ([(.slice a4 (([] : List UInt8).length) c5)] : List Value), Zc 5 1 (.slice a4 (([] : List UInt8).length) c5) (([] : List UInt8).length) (([] : List UInt8).flatMap ZH), ZX (.slice (some ⟨b14, 0, none⟩) s.length c15) s] w12)
 refine hK11 _ _ ?_
 clear hK11 K11
 refine Z0B (Z5 rfl) (fun K16 hK16 => ?_)
 have l22 := Z10 s
 refine Z0L (d := 6) rfl (by kernel_rfl) (Z19 w12 r3 a4 c5 ([] : List UInt8) (H13.fin [1, 2] (by decide) rfl) (by simp) (some ⟨b14, 0, none⟩) c15 s (ListAt.ofTxt (H13.at 3 rfl)) (Z2W (fun b hb => H13.offP [1, 2] 3 rfl rfl (by decide) hb)) (by first | omega | simp)) ?_
 rintro _ w17 ⟨a19, c20, rfl, T18⟩
 have H23 : Sat w [Z7 w (fun _ => False), Z3 r3 187 ([(.slice a19 ((([] : List UInt8) ++ Zs s).length) c20)] : List Value), Zc 5 1 (.slice a19 ((([] : List UInt8) ++ Zs s).length) c20) ((([] : List UInt8) ++ Zs s).length) ((([] : List UInt8) ++ Zs s).flatMap ZH), ZX (.slice (some ⟨b14, 0, none⟩) s.length c15) s] w17 := (Sat.turnL (L' := [Z3 r3 187 ([(.slice a19 ((([] : List UInt8) ++ Zs s).length) c20)] : List Value), Zc 5 1 (.slice a19 ((([] : List UInt8) ++ Zs s).length) c20) ((([] : List UInt8) ++ Zs s).length) ((([] : List UInt8) ++ Zs s).flatMap ZH)]) (R := [Z7 w (fun _ => False), ZX (.slice (some ⟨b14, 0, none⟩) s.length c15) s]) H13 [1, 2] [0, 3] (by decide) (by kernel_rfl) rfl T18).pick [2, 0, 1, 3] (by decide)
 refine ⟨_, rfl, ?_⟩
 refine hK16 _ _ ?_
 clear hK16 K16
 refine Z6 (Z5 rfl) (d := 2) (v := (.pointer (some ⟨r3, 0, none⟩))) rfl (by kernel_rfl) ?_
 refine Zu ?_
 refine Zb ?_
 refine Zz ?_
 refine Z1x rfl (Z0c (v := (.pointer (some ⟨r3, 0, none⟩))) rfl) ?_
 have hX : (([] : List UInt8) ++ Zs s) = Zs s := by exact List.nil_append _
 exact ⟨r3, a19, c20, rfl, (by rw [← hX]; exact H23.fin [1, 2] (by decide) rfl), H23.upd 0 rfl [] (fun _ h => h.elim), (by rw [← hX]; exact H23.freshS 0 rfl (fun _ h => h) [1, 2] rfl rfl)⟩
theorem Z77 (w : World) (r : Nat) (a0 : Option Addr) (c0 : Nat) (B : List UInt8) (hB : (ZL (wrL r a0 c0 B)).ok w) (hl : B.length ≤ 900000) (a b : Int) (hs : a ≤ 9223372036854775807 ∧ b ≤ 9223372036854775807) :
  Calls Tryz.prog 99 #[(.pointer (some ⟨r, 0, none⟩)), (.agg ⟨([(.int .i64 (a)), (.int .i64 (b))] : List Value)⟩)] w fun e w' => ∃ a' c', e = .returned (.tuple #[]) ∧ Sat w [Z3 r 187 [.slice a' (B ++ Z07 a b).length c'], Zc 5 1 (.slice a' (B ++ Z07 a b).length c') (B ++ Z07 a b).length ((B ++ Z07 a b).flatMap ZH), Z7 w (ZL (wrL r a0 c0 B)).fp] w' := by
 have H : Sat w [Z3 r 187 ([(.slice a0 B.length c0)] : List Value), Zc 5 1 (.slice a0 B.length c0) B.length (B.flatMap ZH), Z7 w (ZL (wrL r a0 c0 B)).fp] w := Sat.start (wrL r a0 c0 B) hB
 refine Zg Tryz.func99 rfl 11 rfl (Nat.le_of_ble_eq_true rfl) ?_
 refine Zf ?_
 refine Zt ?_
 refine Z0B (Z5 rfl) (fun K1 hK1 => ?_)
 refine Z2R (vs := ([(.int .i64 (a)), (.int .i64 (b))] : List Value)) rfl H rfl rfl ?_
 intro b2 w3 (H4 : Sat w [Z3 r 187 ([(.slice a0 B.length c0)] : List Value), Zc 5 1 (.slice a0 B.length c0) B.length (B.flatMap ZH), Z7 w (ZL (wrL r a0 c0 B)).fp, Z3 b2 43 ([(.int .i64 (a)), (.int .i64 (b))] : List Value)] w3)
 refine hK1 _ _ ?_
 clear hK1 K1
 refine Zu ?_
 refine Zb ?_
 refine Z0b H4 [Z7 w (ZL (wrL r a0 c0 B)).fp, Z3 b2 43 ([(.int .i64 (a)), (.int .i64 (b))] : List Value)] 7 rfl (by kernel_rfl) (fun Hx => (Hx.pick [2, 3] (by decide))) ?_
 intro w5 H6 S7
 refine Z0s 0 rfl (by kernel_rfl) (by kernel_rfl) (by kernel_rfl) (fun _ _ _ h => h) S7 (Z5 rfl) (d := 4) (v := (.pointer (some ⟨r, 0, none⟩))) rfl (fun _ H' => (by kernel_rfl)) ?_
 refine Z0s 1 rfl (by kernel_rfl) (by kernel_rfl) (by kernel_rfl) (fun _ _ _ h => h) S7 (Z5 rfl) (d := 5) (v := (.pointer (some ⟨b2, 0, none⟩))) rfl (fun _ H' => (by kernel_rfl)) ?_
 refine Z0s 2 rfl (by kernel_rfl) (by kernel_rfl) (by kernel_rfl) (fun _ _ _ h => h) S7 (Z5 rfl) (d := 6) (v := (.int .i64 (a))) rfl (fun _ H' => (Zi rfl (by kernel_rfl) (H'.cell 1 rfl rfl))) ?_
 refine Z0s 4 rfl (by kernel_rfl) (by kernel_rfl) (by kernel_rfl) (fun _ _ _ h => h) S7 (Z5 rfl) (d := 8) (v := (.pointer (some ⟨b2, 1, none⟩))) rfl (fun _ H' => (by kernel_rfl)) ?_
 refine Z0s 5 rfl (by kernel_rfl) (by kernel_rfl) (by kernel_rfl) (fun _ _ _ h => h) S7 (Z5 rfl) (d := 9) (v := (.int .i64 (b))) rfl (fun _ H' => (Zi rfl (by kernel_rfl) (H'.cell 1 rfl rfl))) ?_
 refine Z6J 3 rfl (by kernel_rfl) (Z5 rfl) (fun K8 hK8 => ?_)
 have l14 := Z0g a
 refine Z0L (d := 7) rfl (by kernel_rfl) (Z0z w5 r a0 c0 B (H6.fin [0, 1] (by decide) rfl) (by omega) a (by omega)) ?_
 rintro _ w9 ⟨a11, c12, rfl, T10⟩
 have H15 : Sat w [Z3 r 187 ([(.slice a11 ((B ++ Zl a).length) c12)] : List Value), Zc 5 1 (.slice a11 ((B ++ Zl a).length) c12) ((B ++ Zl a).length) ((B ++ Zl a).flatMap ZH), Z7 w (ZL (wrL r a0 c0 B)).fp, Z3 b2 43 ([(.int .i64 (a)), (.int .i64 (b))] : List Value)] w9 := (Sat.turnL (L' := [Z3 r 187 ([(.slice a11 ((B ++ Zl a).length) c12)] : List Value), Zc 5 1 (.slice a11 ((B ++ Zl a).length) c12) ((B ++ Zl a).length) ((B ++ Zl a).flatMap ZH)]) (R := [Z7 w (ZL (wrL r a0 c0 B)).fp, Z3 b2 43 ([(.int .i64 (a)), (.int .i64 (b))] : List Value)]) H6 [0, 1] [2, 3] (by decide) (by kernel_rfl) rfl T10).pick [0, 1, 2, 3] (by decide)
 refine ⟨_, rfl, ?_⟩
 have S16 := H15.pick [2, 3] (by decide)
 refine hK8 _ _ S16 ?_
 clear hK8 K8
 refine Z6J 6 rfl (by kernel_rfl) (Z5 rfl) (fun K17 hK17 => ?_)
 have l23 := Z0g b
 refine Z0L (d := 10) rfl (by kernel_rfl) (Z0z w9 r a11 c12 (B ++ Zl a) (H15.fin [0, 1] (by decide) rfl) (by simp only [List.length_append, List.length_nil]; omega) b (by omega)) ?_
 rintro _ w18 ⟨a20, c21, rfl, T19⟩
 have H24 : Sat w [Z3 r 187 ([(.slice a20 (((B ++ Zl a) ++ Zl b).length) c21)] : List Value), Zc 5 1 (.slice a20 (((B ++ Zl a) ++ Zl b).length) c21) (((B ++ Zl a) ++ Zl b).length) (((B ++ Zl a) ++ Zl b).flatMap ZH), Z7 w (ZL (wrL r a0 c0 B)).fp, Z3 b2 43 ([(.int .i64 (a)), (.int .i64 (b))] : List Value)] w18 := (Sat.turnL (L' := [Z3 r 187 ([(.slice a20 (((B ++ Zl a) ++ Zl b).length) c21)] : List Value), Zc 5 1 (.slice a20 (((B ++ Zl a) ++ Zl b).length) c21) (((B ++ Zl a) ++ Zl b).length) (((B ++ Zl a) ++ Zl b).flatMap ZH)]) (R := [Z7 w (ZL (wrL r a0 c0 B)).fp, Z3 b2 43 ([(.int .i64 (a)), (.int .i64 (b))] : List Value)]) H15 [0, 1] [2, 3] (by decide) (by kernel_rfl) rfl T19).pick [0, 1, 2, 3] (by decide)
 refine ⟨_, rfl, ?_⟩
 have S25 := H24.pick [2, 3] (by decide)
 refine hK17 _ _ S25 ?_
 clear hK17 K17
 refine Z5N (by kernel_rfl) ?_
 refine Z0D ?_
 refine Z7a rfl  ?_
 have hX : ((B ++ Zl a) ++ Zl b) = (B ++ Z07 a b) := by simp only [Z07, List.flatten_cons, List.flatten_nil, List.append_nil, List.append_assoc]
 exact ⟨a20, c21, rfl, (H24.pick [0, 1, 2] (by decide)).cast (by show [_, _, _] = _; rw [hX])⟩
structure Z2H where
 r : Int
 i : Int
 sb : Int
 sm : Int
deriving DecidableEq
def Z2T (d : Z2H) : List Value := [.int .i64 d.r, .int .i64 d.i, .int .i64 d.sb, .int .i64 d.sm]
theorem Z9a (d : Z2H) : (Z2T d).length = 4 := rfl
theorem Z9b (d : Z2H) : (Z2T d).all (·.oneCell') = true := by simp [Z2T, Value.oneCell']
def deny0 : Z2H := ⟨0, 0, 0, 0⟩
end Go.Proofs.YtgigjkjdmalmaaaGreat
