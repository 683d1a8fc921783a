/- WHAT IS PROVED: contracts and plain laws of Wt. Conditions: stated with each. -/
import Derived.Test.YtgigjkjdmalmaaaGreatPR05
import Derived.Test.YtgigjkjdmalmaaaGreatPR06
set_option maxHeartbeats 4000000
set_option maxRecDepth 100000
namespace Go.Proofs.YtgigjkjdmalmaaaGreat
open Go.RowKit
theorem ListAt.nowD {α : Type} {enc : α → List Value} {sz : Nat} {w0 w W : World} {G : List Ck} {D : Nat → Prop} (H : Sat w0 G w) (j : Nat) (hj : G[j]? = Option.some (Zb W D)) {a : Option Addr} {n c : Nat} {xs : List α} (hv : ListAt enc sz W (.slice a n c) xs) (hf : 0 < xs.length → ∀ ad, a = some ad → ¬ D ad.block) : ListAt enc sz w (.slice a n c) xs := by
 rcases hv with h | ⟨h0, b', o, c', e, hc, h⟩
 ·exact .inl h
 ·have ha : a = some ⟨b', o, none⟩ := by simp only [Value.slice.injEq] at e; exact e.1
  refine .inr ⟨h0, b', o, c', e, hc, fun i hi q u hq => ?_⟩
  have h1 := h i hi q u hq
  rw [Addr.add_lit] at h1 ⊢
  exact H.cellR j hj h1 (show ¬ D b' from hf h0 _ ha)
theorem Z1j (w : World) (r : Nat) (a0 : Option Addr) (c0 : Nat) (B : List UInt8) (hB : (ZF (wrL r a0 c0 B)).ok w) (hl : B.length ≤ 1000000) (x : Z1Q) :
  Calls Tryz.prog 73 #[(.pointer (some ⟨r, 0, none⟩)), (.agg ⟨(hc x)⟩)] w fun e w' => ∃ a' c', e = .returned (.pointer (some ⟨r, 0, none⟩)) ∧ Sat w [Z6 r 187 [.slice a' (B ++ x.l).length c'], Ze 5 1 (.slice a' (B ++ x.l).length c') (B ++ x.l).length ((B ++ x.l).flatMap Zo), Zb w (ZF (wrL r a0 c0 B)).fp] w' := by
 have H : Sat w [Z6 r 187 ([(.slice a0 B.length c0)] : List Value), Ze 5 1 (.slice a0 B.length c0) B.length (B.flatMap Zo), Zb w (ZF (wrL r a0 c0 B)).fp] w := Sat.start (wrL r a0 c0 B) hB
 have hx := x.len
 refine Zu Tryz.func73 rfl 15 rfl (Nat.le_of_ble_eq_true rfl) ?_
 refine Zf ?_
 refine Zm ?_
 refine ZC (Z1 rfl) (fun K1 hK1 => ?_)
 refine Z0L (vs := (hc x)) rfl H rfl rfl ?_
 intro b2 w3 (H4 : Sat w [Z6 r 187 ([(.slice a0 B.length c0)] : List Value), Ze 5 1 (.slice a0 B.length c0) B.length (B.flatMap Zo), Zb w (ZF (wrL r a0 c0 B)).fp, Z6 b2 40 (hc x)] w3)
 refine hK1 _ _ ?_
 clear hK1 K1
 refine Z3 (Z1 rfl) (d := 4) (v := (.pointer none)) rfl (by kernel_rfl) ?_
 refine Zj ?_
 refine Z7 ?_
 refine Zf ?_
 refine Z0P H4 [Z6 r 187 ([(.slice a0 B.length c0)] : List Value), Zb w (ZF (wrL r a0 c0 B)).fp, Z6 b2 40 (hc x)] [9] 10 rfl (by kernel_rfl) (fun Hx => (Hx.pick [0, 2, 3] (by decide))) ?_
 intro w5 H6 S7
 refine ZU 0 rfl (by kernel_rfl) (by kernel_rfl) (by kernel_rfl) (fun _ _ _ h => h) S7 (Z1 rfl) rfl (d := 5) (v := (.pointer (some ⟨r, 0, none⟩))) rfl (fun _ => (by kernel_rfl)) ?_
 refine ZU 1 rfl (by kernel_rfl) (by kernel_rfl) (by kernel_rfl) (fun _ _ _ h => h) S7 (Z1 rfl) rfl (d := 6) (v := (.pointer (some ⟨r, 0, none⟩))) rfl (fun _ => (by kernel_rfl)) ?_
 refine ZU 2 rfl (by kernel_rfl) (by kernel_rfl) (by kernel_rfl) (fun _ _ _ h => h) S7 (Z1 rfl) rfl (d := 7) (v := (.pointer (some ⟨r, 0, none⟩))) rfl (fun _ => (by kernel_rfl)) ?_
 refine ZU 3 rfl (by kernel_rfl) (by kernel_rfl) (by kernel_rfl) (fun _ _ _ h => h) S7 (Z1 rfl) rfl (d := 8) (v := (.pointer (some ⟨r, 0, none⟩))) rfl (fun _ => (by kernel_rfl)) ?_
 refine Z18 4 rfl (by kernel_rfl) (by kernel_rfl) (by kernel_rfl) (fun _ _ _ h => h) S7 (Z1 rfl) rfl (by kernel_rfl) (d := 9) (v := (.slice a0 B.length c0)) rfl (fun _ H' => (Zh rfl (by kernel_rfl) (H'.cell 0 rfl rfl))) ?_
 refine ZU 5 rfl (by kernel_rfl) (by kernel_rfl) (by kernel_rfl) (fun _ _ _ h => h) S7 (Z1 rfl) rfl (d := 10) (v := (.slice (some ⟨b2, 0, none⟩) 32 32)) rfl (fun _ => (by kernel_rfl)) ?_
 refine Z2L 6 rfl (by kernel_rfl) (Z1 rfl) rfl (fun K8 hK8 => ?_)
 refine Z1S (T := 38) (e := 5) (size := 1) (bytes := 1) rfl H6 (by kernel_rfl) ZR Z0f 1 rfl (ListAt.ofHash (x := x) (Z3y (H6.at 3 rfl) (by kernel_rfl)) (by decide)) rfl rfl (by omega) (by omega) ?_
 intro v9 w10 (H12 : Sat w [Z6 r 187 ([(.slice a0 B.length c0)] : List Value), Ze 5 1 v9 (B.length + x.l.length) (B.flatMap Zo ++ x.l.flatMap Zo), Zb w (ZF (wrL r a0 c0 B)).fp, Z6 b2 40 (hc x)] w10)
 have H11 : Sat w [Z6 r 187 ([(.slice a0 B.length c0)] : List Value), Ze 5 1 v9 ((B ++ x.l).length) ((B ++ x.l).flatMap Zo), Zb w (ZF (wrL r a0 c0 B)).fp, Z6 b2 40 (hc x)] w10 := H12.cast (by simp only [List.length_append, List.flatMap_append])
 obtain ⟨a13, c14, rfl⟩ := Zn (H11.at 1 rfl)
 have S15 := H11.pick [0, 2, 3] (by decide)
 refine hK8 _ _ S15 ?_
 clear hK8 K8
 refine ZU 7 rfl (by kernel_rfl) (by kernel_rfl) (by kernel_rfl) (fun _ _ _ h => h) S15 (Z1 rfl) rfl (d := 12) (v := (.pointer (some ⟨r, 0, none⟩))) rfl (fun _ => (by kernel_rfl)) ?_
 refine ZU 8 rfl (by kernel_rfl) (by kernel_rfl) (by kernel_rfl) (fun _ _ _ h => h) S15 (Z1 rfl) rfl (d := 13) (v := (.pointer (some ⟨r, 0, none⟩))) rfl (fun _ => (by kernel_rfl)) ?_
 refine Z1W 9 (Sat w [Zb w (ZF (wrL r a0 c0 B)).fp, Z6 b2 40 (hc x)]) rfl (by kernel_rfl) (Z1 rfl) rfl (fun K16 hK16 => ?_)
 refine ZV (vs := ([(.slice a13 ((B ++ x.l).length) c14)] : List Value)) (cs' := ([(.slice a13 ((B ++ x.l).length) c14)] : List Value)) rfl H11 0 rfl rfl rfl rfl (by kernel_rfl) (Nat.le_of_ble_eq_true (by kernel_rfl)) (Nat.le_of_ble_eq_true (by kernel_rfl)) (by kernel_rfl) (by kernel_rfl) ?_
 intro w17 (H18 : Sat w [Z6 r 187 ([(.slice a13 ((B ++ x.l).length) c14)] : List Value), Ze 5 1 (.slice a13 ((B ++ x.l).length) c14) ((B ++ x.l).length) ((B ++ x.l).flatMap Zo), Zb w (ZF (wrL r a0 c0 B)).fp, Z6 b2 40 (hc x)] w17)
 have S20 := H18.pick [2, 3] (by decide)
 refine hK16 _ _ S20 ?_
 clear hK16 K16
 refine Z0S (by kernel_rfl) ?_
 refine Z7 ?_
 refine Zf ?_
 refine Zm ?_
 refine Z3 (Z1 rfl) (d := 14) (v := (.pointer (some ⟨r, 0, none⟩))) rfl (by kernel_rfl) ?_
 refine Z3 (Z1 rfl) (d := 4) (v := (.pointer (some ⟨r, 0, none⟩))) rfl (by kernel_rfl) ?_
 refine Zj ?_
 refine Z7 ?_
 refine ZY ?_
 refine Z0I rfl (ZI (v := (.pointer (some ⟨r, 0, none⟩))) rfl) ?_
 have hX : (B ++ x.l) = (B ++ x.l) := by rfl
 exact ⟨a13, c14, rfl, (H18.pick [0, 1, 2] (by decide)).cast (by show [_, _, _] = _; rw [hX])⟩
theorem Z0Q (w : World) (r : Nat) (a0 : Option Addr) (c0 : Nat) (B : List UInt8) (hB : (ZF (wrL r a0 c0 B)).ok w) (hl : B.length ≤ 1000000) (ta : Option Addr) (tc : Nat) (tx : List UInt8) (ht : ListAt Zo 1 w (.slice ta tx.length tc) tx) (hoff : 0 < tx.length → ∀ ad, ta = some ad → ¬ (ZF (wrL r a0 c0 B)).fp ad.block) (hl2 : tx.length ≤ 1000000) :
  Calls Tryz.prog 70 #[(.pointer (some ⟨r, 0, none⟩)), (.slice ta tx.length tc)] w fun e w' => ∃ a' c', e = .returned (.pointer (some ⟨r, 0, none⟩)) ∧ Sat w [Z6 r 187 [.slice a' (B ++ Zw tx).length c'], Ze 5 1 (.slice a' (B ++ Zw tx).length c') (B ++ Zw tx).length ((B ++ Zw tx).flatMap Zo), Zb w (ZF (wrL r a0 c0 B)).fp] w' := by
 have H : Sat w [Z6 r 187 ([(.slice a0 B.length c0)] : List Value), Ze 5 1 (.slice a0 B.length c0) B.length (B.flatMap Zo), Zb w (ZF (wrL r a0 c0 B)).fp] w := Sat.start (wrL r a0 c0 B) hB
 have hvl := Z0a (tx.length : Int)
 refine Zu Tryz.func70 rfl 19 rfl (Nat.le_of_ble_eq_true rfl) ?_
 refine Zf ?_
 refine Zm ?_
 refine Z3 (Z1 rfl) (d := 4) (v := (.pointer none)) rfl (by kernel_rfl) ?_
 refine Zj ?_
 refine Z7 ?_
 refine Zf ?_
 refine Zm ?_
 refine Z3 (Z1 rfl) (d := 5) (v := (.pointer (some ⟨r, 0, none⟩))) rfl (by kernel_rfl) ?_
 refine Z3 (Z1 rfl) (d := 6) (v := (.slice ta tx.length tc)) rfl (by kernel_rfl) ?_
 refine Z3 (Z1 rfl) (d := 7) (v := (.int .i64 ((tx.length : Int)))) rfl (by kernel_rfl) ?_
 refine ZC (Z1 rfl) (fun K1 hK1 => ?_)
 have l7 := Z0a (tx.length : Int)
 refine ZD (d := 8) rfl (by kernel_rfl) (Z0r w r a0 c0 B (H.fin [0, 1] (by decide) rfl) (by omega) (tx.length : Int) (by omega)) ?_
 rintro _ w2 ⟨a4, c5, rfl, T3⟩
 have H8 : Sat w [Z6 r 187 ([(.slice a4 ((B ++ Zp (tx.length : Int)).length) c5)] : List Value), Ze 5 1 (.slice a4 ((B ++ Zp (tx.length : Int)).length) c5) ((B ++ Zp (tx.length : Int)).length) ((B ++ Zp (tx.length : Int)).flatMap Zo), Zb w (ZF (wrL r a0 c0 B)).fp] w2 := (Sat.turnL (L' := [Z6 r 187 ([(.slice a4 ((B ++ Zp (tx.length : Int)).length) c5)] : List Value), Ze 5 1 (.slice a4 ((B ++ Zp (tx.length : Int)).length) c5) ((B ++ Zp (tx.length : Int)).length) ((B ++ Zp (tx.length : Int)).flatMap Zo)]) (R := [Zb w (ZF (wrL r a0 c0 B)).fp]) H [0, 1] [2] (by decide) (by kernel_rfl) rfl T3).pick [0, 1, 2] (by decide)
 refine ⟨_, rfl, ?_⟩
 refine hK1 _ _ ?_
 clear hK1 K1
 refine Zj ?_
 refine Z7 ?_
 refine Zf ?_
 refine Zm ?_
 refine Z3 (Z1 rfl) (d := 9) (v := (.pointer (some ⟨r, 0, none⟩))) rfl (by kernel_rfl) ?_
 refine Z3 (Z1 rfl) (d := 10) (v := (.pointer (some ⟨r, 0, none⟩))) rfl (by kernel_rfl) ?_
 refine Z3 (Z1 rfl) (d := 11) (v := (.pointer (some ⟨r, 0, none⟩))) rfl (by kernel_rfl) ?_
 refine Z3 (Z1 rfl) (d := 12) (v := (.pointer (some ⟨r, 0, none⟩))) rfl (by kernel_rfl) ?_
 refine Z3 (Z1 rfl) (d := 13) (v := (.slice a4 ((B ++ Zp (tx.length : Int)).length) c5)) rfl (Zh rfl (by kernel_rfl) (H8.cell 0 rfl rfl)) ?_
 refine Z3 (Z1 rfl) (d := 14) (v := (.slice ta tx.length tc)) rfl (by kernel_rfl) ?_
 refine ZC (Z1 rfl) (fun K9 hK9 => ?_)
 refine Z1S (T := 38) (e := 5) (size := 1) (bytes := 1) rfl H8 (by kernel_rfl) ZR Z0f 1 rfl (ListAt.nowD H8 2 rfl ht hoff) rfl rfl (by simp only [List.length_append]; omega) (by simp only [List.length_append]; omega) ?_
 intro v10 w11 (H13 : Sat w [Z6 r 187 ([(.slice a4 ((B ++ Zp (tx.length : Int)).length) c5)] : List Value), Ze 5 1 v10 ((B ++ Zp (tx.length : Int)).length + tx.length) ((B ++ Zp (tx.length : Int)).flatMap Zo ++ tx.flatMap Zo), Zb w (ZF (wrL r a0 c0 B)).fp] w11)
 have H12 : Sat w [Z6 r 187 ([(.slice a4 ((B ++ Zp (tx.length : Int)).length) c5)] : List Value), Ze 5 1 v10 (((B ++ Zp (tx.length : Int)) ++ tx).length) (((B ++ Zp (tx.length : Int)) ++ tx).flatMap Zo), Zb w (ZF (wrL r a0 c0 B)).fp] w11 := H13.cast (by simp only [List.length_append, List.flatMap_append])
 obtain ⟨a14, c15, rfl⟩ := Zn (H12.at 1 rfl)
 refine hK9 _ _ ?_
 clear hK9 K9
 refine Z3 (Z1 rfl) (d := 16) (v := (.pointer (some ⟨r, 0, none⟩))) rfl (by kernel_rfl) ?_
 refine Z3 (Z1 rfl) (d := 17) (v := (.pointer (some ⟨r, 0, none⟩))) rfl (by kernel_rfl) ?_
 refine ZC (Z1 rfl) (fun K16 hK16 => ?_)
 refine Z1P (vs := ([(.slice a14 (((B ++ Zp (tx.length : Int)) ++ tx).length) c15)] : List Value)) rfl H12 0 rfl rfl rfl rfl (by kernel_rfl) (Nat.le_of_ble_eq_true (by kernel_rfl)) (Nat.le_of_ble_eq_true (by kernel_rfl)) (by kernel_rfl) ?_
 intro w17 (H18 : Sat w [Z6 r 187 ([(.slice a14 (((B ++ Zp (tx.length : Int)) ++ tx).length) c15)] : List Value), Ze 5 1 (.slice a14 (((B ++ Zp (tx.length : Int)) ++ tx).length) c15) (((B ++ Zp (tx.length : Int)) ++ tx).length) (((B ++ Zp (tx.length : Int)) ++ tx).flatMap Zo), Zb w (ZF (wrL r a0 c0 B)).fp] w17)
 refine hK16 _ _ ?_
 clear hK16 K16
 refine Zj ?_
 refine Z7 ?_
 refine Zf ?_
 refine Zm ?_
 refine Z3 (Z1 rfl) (d := 18) (v := (.pointer (some ⟨r, 0, none⟩))) rfl (by kernel_rfl) ?_
 refine Z3 (Z1 rfl) (d := 4) (v := (.pointer (some ⟨r, 0, none⟩))) rfl (by kernel_rfl) ?_
 refine Zj ?_
 refine Z7 ?_
 refine ZY ?_
 refine Z0I rfl (ZI (v := (.pointer (some ⟨r, 0, none⟩))) rfl) ?_
 have hX : ((B ++ Zp (tx.length : Int)) ++ tx) = (B ++ Zw tx) := by unfold Zw Zp; rw [show (max 0 (tx.length : Int)).toNat = tx.length by omega, List.append_assoc]
 exact ⟨a14, c15, rfl, (H18.pick [0, 1, 2] (by decide)).cast (by show [_, _, _] = _; rw [hX])⟩
theorem Z1H (w : World) :
  Calls Tryz.prog 69 #[] w fun e w' => ∃ r a c, e = .returned (.pointer (some ⟨r, 0, none⟩)) ∧ (ZF (wrL r a c [])).ok w' ∧ Upd [] w w' ∧ ∀ q_, (ZF (wrL r a c [])).fp q_ → w.heap.size ≤ q_ := by
 have H := Sat.start0 w
 refine Zu Tryz.func69 rfl 3 rfl (Nat.le_of_ble_eq_true rfl) ?_
 refine Zf ?_
 refine Zm ?_
 refine Z3 (Z1 rfl) (d := 0) (v := (.pointer none)) rfl (by kernel_rfl) ?_
 refine Zj ?_
 refine Z7 ?_
 refine Zf ?_
 refine Zm ?_
 refine Z3 (Z1 rfl) (d := 1) (v := (.agg ⟨([(.slice none 0 0)] : List Value)⟩)) rfl (by kernel_rfl) ?_
 refine ZC (Z1 rfl) (fun K1 hK1 => ?_)
 refine Z0L (vs := ([(.slice none 0 0)] : List Value)) rfl H rfl rfl ?_
 intro b2 w3 (H4 : Sat w [Zb w (fun _ => False), Z6 b2 187 ([(.slice none 0 0)] : List Value)] w3)
 refine hK1 _ _ ?_
 clear hK1 K1
 refine Z3 (Z1 rfl) (d := 0) (v := (.pointer (some ⟨b2, 0, none⟩))) rfl (by kernel_rfl) ?_
 refine Zj ?_
 refine Z7 ?_
 refine ZY ?_
 refine Z0I rfl (ZI (v := (.pointer (some ⟨b2, 0, none⟩))) rfl) ?_
 have H5 := H4.addNil 5 1
 exact ⟨b2, none, 0, rfl, H5.fin [1, 2] (by decide) rfl, H5.upd 0 rfl [] (fun _ h => h.elim), H5.freshS 0 rfl (fun _ h => h) [1, 2] rfl rfl⟩
end Go.Proofs.YtgigjkjdmalmaaaGreat
