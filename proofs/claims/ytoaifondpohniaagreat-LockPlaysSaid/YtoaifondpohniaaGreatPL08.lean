/- WHAT IS PROVED: contracts and plain laws of Wt. Conditions: stated with each. -/
import Derived.Test.YtoaifondpohniaaGreatPL06
import Derived.Test.YtoaifondpohniaaGreatPL07
set_option maxHeartbeats 4000000
set_option maxRecDepth 100000
namespace Go.Proofs.YtoaifondpohniaaGreat
open Go.RowKit
theorem ListAt.nowD {α : Type} {enc : α → List Value} {sz : Nat} {w0 w W : World} {G : List Ck} {D : Nat → Prop} (H : Sat w0 G w) (j : Nat) (hj : G[j]? = Option.some (Z7 W D)) {a : Option Addr} {n c : Nat} {xs : List α} (hv : ListAt enc sz W (.slice a n c) xs) (hf : 0 < xs.length → ∀ ad, a = some ad → ¬ D ad.block) : ListAt enc sz w (.slice a n c) xs := by
 rcases hv with h | ⟨h0, b', o, c', e, hc, h⟩
 ·exact .inl h
 ·have ha : a = some ⟨b', o, none⟩ := by simp only [Value.slice.injEq] at e; exact e.1
  refine .inr ⟨h0, b', o, c', e, hc, fun i hi q u hq => ?_⟩
  have h1 := h i hi q u hq
  rw [Addr.add_lit] at h1 ⊢
  exact H.cellR j hj h1 (show ¬ D b' from hf h0 _ ha)
theorem Z2O (w : World) (r : Nat) (a0 : Option Addr) (c0 : Nat) (B : List UInt8) (hB : (ZL (wrL r a0 c0 B)).ok w) (hl : B.length ≤ 1000000) (x : Hash) :
  Calls Tryz.prog 84 #[(.pointer (some ⟨r, 0, none⟩)), (.agg ⟨(hc x)⟩)] w fun e w' => ∃ a' c', e = .returned (.pointer (some ⟨r, 0, none⟩)) ∧ Sat w [Z0 r 174 [.slice a' (B ++ x.l).length c'], Zk 5 1 (.slice a' (B ++ x.l).length c') (B ++ x.l).length ((B ++ x.l).flatMap ZE), Z7 w (ZL (wrL r a0 c0 B)).fp] w' := by
 have H : Sat w [Z0 r 174 ([(.slice a0 B.length c0)] : List Value), Zk 5 1 (.slice a0 B.length c0) B.length (B.flatMap ZE), Z7 w (ZL (wrL r a0 c0 B)).fp] w := Sat.start (wrL r a0 c0 B) hB
 have hx := x.len
 refine Zh Tryz.func84 rfl 15 rfl (Nat.le_of_ble_eq_true rfl) ?_
 refine Zd ?_
 refine Zq ?_
 refine Z07 (Z1 rfl) (fun K1 hK1 => ?_)
 refine Z34 (vs := (hc x)) rfl H rfl rfl ?_
 intro b2 w3 (H4 : Sat w [Z0 r 174 ([(.slice a0 B.length c0)] : List Value), Zk 5 1 (.slice a0 B.length c0) B.length (B.flatMap ZE), Z7 w (ZL (wrL r a0 c0 B)).fp, Z0 b2 26 (hc x)] w3)
 refine hK1 _ _ ?_
 clear hK1 K1
 refine Z2 (Z1 rfl) (d := 4) (v := (.pointer none)) rfl (by kernel_rfl) ?_
 refine Zn ?_
 refine Z4 ?_
 refine Zd ?_
 refine Z1o H4 [Z0 r 174 ([(.slice a0 B.length c0)] : List Value), Z7 w (ZL (wrL r a0 c0 B)).fp, Z0 b2 26 (hc x)] [9] 10 rfl (by kernel_rfl) (fun Hx => (Hx.pick [0, 2, 3] (by decide))) ?_
 intro w5 H6 S7
 refine Z0Y 0 rfl (by kernel_rfl) (by kernel_rfl) (by kernel_rfl) (fun _ _ _ h => h) S7 (Z1 rfl) rfl (d := 5) (v := (.pointer (some ⟨r, 0, none⟩))) rfl (fun _ => (by kernel_rfl)) ?_
 refine Z0Y 1 rfl (by kernel_rfl) (by kernel_rfl) (by kernel_rfl) (fun _ _ _ h => h) S7 (Z1 rfl) rfl (d := 6) (v := (.pointer (some ⟨r, 0, none⟩))) rfl (fun _ => (by kernel_rfl)) ?_
 refine Z0Y 2 rfl (by kernel_rfl) (by kernel_rfl) (by kernel_rfl) (fun _ _ _ h => h) S7 (Z1 rfl) rfl (d := 7) (v := (.pointer (some ⟨r, 0, none⟩))) rfl (fun _ => (by kernel_rfl)) ?_
 refine Z0Y 3 rfl (by kernel_rfl) (by kernel_rfl) (by kernel_rfl) (fun _ _ _ h => h) S7 (Z1 rfl) rfl (d := 8) (v := (.pointer (some ⟨r, 0, none⟩))) rfl (fun _ => (by kernel_rfl)) ?_
 refine Z9z 4 rfl (by kernel_rfl) (by kernel_rfl) (by kernel_rfl) (fun _ _ _ h => h) S7 (Z1 rfl) rfl (by kernel_rfl) (d := 9) (v := (.slice a0 B.length c0)) rfl (fun _ H' => (Z8 rfl (by kernel_rfl) (H'.cell 0 rfl rfl))) ?_
 refine Z0Y 5 rfl (by kernel_rfl) (by kernel_rfl) (by kernel_rfl) (fun _ _ _ h => h) S7 (Z1 rfl) rfl (d := 10) (v := (.slice (some ⟨b2, 0, none⟩) 32 32)) rfl (fun _ => (by kernel_rfl)) ?_
 refine k_do 6 rfl (by kernel_rfl) (Z1 rfl) rfl (fun K8 hK8 => ?_)
 refine Z3x (T := 62) (e := 5) (size := 1) (bytes := 1) rfl H6 (by kernel_rfl) ZR Z1m 1 rfl (ListAt.ofHash (x := x) (Z33 (H6.at 3 rfl) (by kernel_rfl)) (by decide)) rfl rfl (by omega) (by omega) ?_
 intro v9 w10 (H12 : Sat w [Z0 r 174 ([(.slice a0 B.length c0)] : List Value), Zk 5 1 v9 (B.length + x.l.length) (B.flatMap ZE ++ x.l.flatMap ZE), Z7 w (ZL (wrL r a0 c0 B)).fp, Z0 b2 26 (hc x)] w10)
 have H11 : Sat w [Z0 r 174 ([(.slice a0 B.length c0)] : List Value), Zk 5 1 v9 ((B ++ x.l).length) ((B ++ x.l).flatMap ZE), Z7 w (ZL (wrL r a0 c0 B)).fp, Z0 b2 26 (hc x)] w10 := H12.cast (by simp only [List.length_append, List.flatMap_append])
 obtain ⟨a13, c14, rfl⟩ := Z6 (H11.at 1 rfl)
 have S15 := H11.pick [0, 2, 3] (by decide)
 refine hK8 _ _ S15 ?_
 clear hK8 K8
 refine Z0Y 7 rfl (by kernel_rfl) (by kernel_rfl) (by kernel_rfl) (fun _ _ _ h => h) S15 (Z1 rfl) rfl (d := 12) (v := (.pointer (some ⟨r, 0, none⟩))) rfl (fun _ => (by kernel_rfl)) ?_
 refine Z0Y 8 rfl (by kernel_rfl) (by kernel_rfl) (by kernel_rfl) (fun _ _ _ h => h) S15 (Z1 rfl) rfl (d := 13) (v := (.pointer (some ⟨r, 0, none⟩))) rfl (fun _ => (by kernel_rfl)) ?_
 refine Z3j 9 (Sat w [Z7 w (ZL (wrL r a0 c0 B)).fp, Z0 b2 26 (hc x)]) rfl (by kernel_rfl) (Z1 rfl) rfl (fun K16 hK16 => ?_)
 refine Z1U (vs := ([(.slice a13 ((B ++ x.l).length) c14)] : List Value)) (cs' := ([(.slice a13 ((B ++ x.l).length) c14)] : List Value)) rfl H11 0 rfl rfl rfl rfl (by kernel_rfl) (Nat.le_of_ble_eq_true (by kernel_rfl)) (Nat.le_of_ble_eq_true (by kernel_rfl)) (by kernel_rfl) (by kernel_rfl) ?_
 intro w17 (H18 : Sat w [Z0 r 174 ([(.slice a13 ((B ++ x.l).length) c14)] : List Value), Zk 5 1 (.slice a13 ((B ++ x.l).length) c14) ((B ++ x.l).length) ((B ++ x.l).flatMap ZE), Z7 w (ZL (wrL r a0 c0 B)).fp, Z0 b2 26 (hc x)] w17)
 have S20 := H18.pick [2, 3] (by decide)
 refine hK16 _ _ S20 ?_
 clear hK16 K16
 refine Z4t (by kernel_rfl) ?_
 refine Z4 ?_
 refine Zd ?_
 refine Zq ?_
 refine Z2 (Z1 rfl) (d := 14) (v := (.pointer (some ⟨r, 0, none⟩))) rfl (by kernel_rfl) ?_
 refine Z2 (Z1 rfl) (d := 4) (v := (.pointer (some ⟨r, 0, none⟩))) rfl (by kernel_rfl) ?_
 refine Zn ?_
 refine Z4 ?_
 refine ZI ?_
 refine Z2e rfl (ZT (v := (.pointer (some ⟨r, 0, none⟩))) rfl) ?_
 have hX : (B ++ x.l) = (B ++ x.l) := by rfl
 exact ⟨a13, c14, rfl, (H18.pick [0, 1, 2] (by decide)).cast (by show [_, _, _] = _; rw [hX])⟩
theorem Z4K (w : World) (r : Nat) (a0 : Option Addr) (c0 : Nat) (B : List UInt8) (hB : (ZL (wrL r a0 c0 B)).ok w) (hl : B.length ≤ 1000000) (ta : Option Addr) (tc : Nat) (tx : List UInt8) (ht : ListAt ZE 1 w (.slice ta tx.length tc) tx) (hoff : 0 < tx.length → ∀ ad, ta = some ad → ¬ (ZL (wrL r a0 c0 B)).fp ad.block) (hl2 : tx.length ≤ 1000000) :
  Calls Tryz.prog 108 #[(.pointer (some ⟨r, 0, none⟩)), (.slice ta tx.length tc)] w fun e w' => ∃ a' c', e = .returned (.pointer (some ⟨r, 0, none⟩)) ∧ Sat w [Z0 r 174 [.slice a' (B ++ ZK tx).length c'], Zk 5 1 (.slice a' (B ++ ZK tx).length c') (B ++ ZK tx).length ((B ++ ZK tx).flatMap ZE), Z7 w (ZL (wrL r a0 c0 B)).fp] w' := by
 have H : Sat w [Z0 r 174 ([(.slice a0 B.length c0)] : List Value), Zk 5 1 (.slice a0 B.length c0) B.length (B.flatMap ZE), Z7 w (ZL (wrL r a0 c0 B)).fp] w := Sat.start (wrL r a0 c0 B) hB
 have hvl := ZO (tx.length : Int)
 refine Zh Tryz.func108 rfl 19 rfl (Nat.le_of_ble_eq_true rfl) ?_
 refine Zd ?_
 refine Zq ?_
 refine Z2 (Z1 rfl) (d := 4) (v := (.pointer none)) rfl (by kernel_rfl) ?_
 refine Zn ?_
 refine Z4 ?_
 refine Zd ?_
 refine Zq ?_
 refine Z2 (Z1 rfl) (d := 5) (v := (.pointer (some ⟨r, 0, none⟩))) rfl (by kernel_rfl) ?_
 refine Z2 (Z1 rfl) (d := 6) (v := (.slice ta tx.length tc)) rfl (by kernel_rfl) ?_
 refine Z2 (Z1 rfl) (d := 7) (v := (.int .i64 ((tx.length : Int)))) rfl (by kernel_rfl) ?_
 refine Z07 (Z1 rfl) (fun K1 hK1 => ?_)
 have l7 := ZO (tx.length : Int)
 refine Z0g (d := 8) rfl (by kernel_rfl) (Z0N w r a0 c0 B (H.fin [0, 1] (by decide) rfl) (by omega) (tx.length : Int) (by omega)) ?_
 rintro _ w2 ⟨a4, c5, rfl, T3⟩
 have H8 : Sat w [Z0 r 174 ([(.slice a4 ((B ++ Zf (tx.length : Int)).length) c5)] : List Value), Zk 5 1 (.slice a4 ((B ++ Zf (tx.length : Int)).length) c5) ((B ++ Zf (tx.length : Int)).length) ((B ++ Zf (tx.length : Int)).flatMap ZE), Z7 w (ZL (wrL r a0 c0 B)).fp] w2 := (Sat.turnL (L' := [Z0 r 174 ([(.slice a4 ((B ++ Zf (tx.length : Int)).length) c5)] : List Value), Zk 5 1 (.slice a4 ((B ++ Zf (tx.length : Int)).length) c5) ((B ++ Zf (tx.length : Int)).length) ((B ++ Zf (tx.length : Int)).flatMap ZE)]) (R := [Z7 w (ZL (wrL r a0 c0 B)).fp]) H [0, 1] [2] (by decide) (by kernel_rfl) rfl T3).pick [0, 1, 2] (by decide)
 refine ⟨_, rfl, ?_⟩
 refine hK1 _ _ ?_
 clear hK1 K1
 refine Zn ?_
 refine Z4 ?_
 refine Zd ?_
 refine Zq ?_
 refine Z2 (Z1 rfl) (d := 9) (v := (.pointer (some ⟨r, 0, none⟩))) rfl (by kernel_rfl) ?_
 refine Z2 (Z1 rfl) (d := 10) (v := (.pointer (some ⟨r, 0, none⟩))) rfl (by kernel_rfl) ?_
 refine Z2 (Z1 rfl) (d := 11) (v := (.pointer (some ⟨r, 0, none⟩))) rfl (by kernel_rfl) ?_
 refine Z2 (Z1 rfl) (d := 12) (v := (.pointer (some ⟨r, 0, none⟩))) rfl (by kernel_rfl) ?_
 refine Z2 (Z1 rfl) (d := 13) (v := (.slice a4 ((B ++ Zf (tx.length : Int)).length) c5)) rfl (Z8 rfl (by kernel_rfl) (H8.cell 0 rfl rfl)) ?_
 refine Z2 (Z1 rfl) (d := 14) (v := (.slice ta tx.length tc)) rfl (by kernel_rfl) ?_
 refine Z07 (Z1 rfl) (fun K9 hK9 => ?_)
 refine Z3x (T := 62) (e := 5) (size := 1) (bytes := 1) rfl H8 (by kernel_rfl) ZR Z1m 1 rfl (ListAt.nowD H8 2 rfl ht hoff) rfl rfl (by simp only [List.length_append]; omega) (by simp only [List.length_append]; omega) ?_
 intro v10 w11 (H13 : Sat w [Z0 r 174 ([(.slice a4 ((B ++ Zf (tx.length : Int)).length) c5)] : List Value), Zk 5 1 v10 ((B ++ Zf (tx.length : Int)).length + tx.length) ((B ++ Zf (tx.length : Int)).flatMap ZE ++ tx.flatMap ZE), Z7 w (ZL (wrL r a0 c0 B)).fp] w11)
 have H12 : Sat w [Z0 r 174 ([(.slice a4 ((B ++ Zf (tx.length : Int)).length) c5)] : List Value), Zk 5 1 v10 (((B ++ Zf (tx.length : Int)) ++ tx).length) (((B ++ Zf (tx.length : Int)) ++ tx).flatMap ZE), Z7 w (ZL (wrL r a0 c0 B)).fp] w11 := H13.cast (by simp only [List.length_append, List.flatMap_append])
 obtain ⟨a14, c15, rfl⟩ := Z6 (H12.at 1 rfl)
 refine hK9 _ _ ?_
 clear hK9 K9
 refine Z2 (Z1 rfl) (d := 16) (v := (.pointer (some ⟨r, 0, none⟩))) rfl (by kernel_rfl) ?_
 refine Z2 (Z1 rfl) (d := 17) (v := (.pointer (some ⟨r, 0, none⟩))) rfl (by kernel_rfl) ?_
 refine Z07 (Z1 rfl) (fun K16 hK16 => ?_)
 refine Z2C (vs := ([(.slice a14 (((B ++ Zf (tx.length : Int)) ++ tx).length) c15)] : List Value)) rfl H12 0 rfl rfl rfl rfl (by kernel_rfl) (Nat.le_of_ble_eq_true (by kernel_rfl)) (Nat.le_of_ble_eq_true (by kernel_rfl)) (by kernel_rfl) ?_
 intro w17 (H18 : Sat w [Z0 r 174 ([(.slice a14 (((B ++ Zf (tx.length : Int)) ++ tx).length) c15)] : List Value), Zk 5 1 (.slice a14 (((B ++ Zf (tx.length : Int)) ++ tx).length) c15) (((B ++ Zf (tx.length : Int)) ++ tx).length) (((B ++ Zf (tx.length : Int)) ++ tx).flatMap ZE), Z7 w (ZL (wrL r a0 c0 B)).fp] w17)
 refine hK16 _ _ ?_
 clear hK16 K16
 refine Zn ?_
 refine Z4 ?_
 refine Zd ?_
 refine Zq ?_
 refine Z2 (Z1 rfl) (d := 18) (v := (.pointer (some ⟨r, 0, none⟩))) rfl (by kernel_rfl) ?_
 refine Z2 (Z1 rfl) (d := 4) (v := (.pointer (some ⟨r, 0, none⟩))) rfl (by kernel_rfl) ?_
 refine Zn ?_
 refine Z4 ?_
 refine ZI ?_
 refine Z2e rfl (ZT (v := (.pointer (some ⟨r, 0, none⟩))) rfl) ?_
 have hX : ((B ++ Zf (tx.length : Int)) ++ tx) = (B ++ ZK tx) := by unfold ZK Zf; rw [show (max 0 (tx.length : Int)).toNat = tx.length by omega, List.append_assoc]
 exact ⟨a14, c15, rfl, (H18.pick [0, 1, 2] (by decide)).cast (by show [_, _, _] = _; rw [hX])⟩
theorem Z5r (w : World) :
  Calls Tryz.prog 107 #[] w fun e w' => ∃ r a c, e = .returned (.pointer (some ⟨r, 0, none⟩)) ∧ (ZL (wrL r a c [])).ok w' ∧ Upd [] w w' ∧ ∀ q_, (ZL (wrL r a c [])).fp q_ → w.heap.size ≤ q_ := by
 have H := Sat.start0 w
 refine Zh Tryz.func107 rfl 3 rfl (Nat.le_of_ble_eq_true rfl) ?_
 refine Zd ?_
 refine Zq ?_
 refine Z2 (Z1 rfl) (d := 0) (v := (.pointer none)) rfl (by kernel_rfl) ?_
 refine Zn ?_
 refine Z4 ?_
 refine Zd ?_
 refine Zq ?_
 refine Z2 (Z1 rfl) (d := 1) (v := (.agg ⟨([(.slice none 0 0)] : List Value)⟩)) rfl (by kernel_rfl) ?_
 refine Z07 (Z1 rfl) (fun K1 hK1 => ?_)
 refine Z34 (vs := ([(.slice none 0 0)] : List Value)) rfl H rfl rfl ?_
 intro b2 w3 (H4 : Sat w [Z7 w (fun _ => False), Z0 b2 174 ([(.slice none 0 0)] : List Value)] w3)
 refine hK1 _ _ ?_
 clear hK1 K1
 refine Z2 (Z1 rfl) (d := 0) (v := (.pointer (some ⟨b2, 0, none⟩))) rfl (by kernel_rfl) ?_
 refine Zn ?_
 refine Z4 ?_
 refine ZI ?_
 refine Z2e rfl (ZT (v := (.pointer (some ⟨b2, 0, none⟩))) rfl) ?_
 have H5 := H4.addNil 5 1
 exact ⟨b2, none, 0, rfl, H5.fin [1, 2] (by decide) rfl, H5.upd 0 rfl [] (fun _ h => h.elim), H5.freshS 0 rfl (fun _ h => h) [1, 2] rfl rfl⟩
theorem Z61 (w : World) (s : List UInt8) (hs : 0 < s.length ∧ s.length ≤ 1000000) :
  Calls Tryz.prog 81 #[(Z2p s)] w fun e w' => ∃ r a c, e = .returned (.pointer (some ⟨r, 0, none⟩)) ∧ (ZL (wrL r a c (ZK s))).ok w' ∧ Upd [] w w' ∧ ∀ q_, (ZL (wrL r a c (ZK s))).fp q_ → w.heap.size ≤ q_ := by
 have H := Sat.start0 w
 refine Zh Tryz.func81 rfl 7 rfl (Nat.le_of_ble_eq_true rfl) ?_
 refine Zd ?_
 refine Zq ?_
 refine Z2 (Z1 rfl) (d := 2) (v := (.pointer none)) rfl (by kernel_rfl) ?_
 refine Zn ?_
 refine Z4 ?_
 refine Zd ?_
 refine Zq ?_
 refine Z07 (Z1 rfl) (fun K1 hK1 => ?_)
 refine Z0g (d := 3) rfl (by kernel_rfl) (Z5r w) ?_
 rintro _ w2 ⟨r3, a4, c5, rfl, k6, p7, q8⟩
 have H9 : Sat w [Z7 w (fun _ => False), ZL (wrL r3 a4 c5 ([] : List UInt8))] w2 := H.addU p7 k6 q8
 have H10 : Sat w [Z7 w (fun _ => False), Z0 r3 174 ([(.slice a4 (([] : List UInt8).length) c5)] : List Value), Zk 5 1 (.slice a4 (([] : List UInt8).length) c5) (([] : List UInt8).length) (([] : List UInt8).flatMap ZE)] w2 := H9.open 1 rfl
 refine ⟨_, rfl, ?_⟩
 refine hK1 _ _ ?_
 clear hK1 K1
 refine Z2 (Z1 rfl) (d := 4) (v := (Z2p s)) rfl (by kernel_rfl) ?_
 refine Z07 (Z1 rfl) (fun K11 hK11 => ?_)
 refine Za9 (e := 5) (s := s) rfl H10 (by kernel_rfl) (by kernel_rfl) (by kernel_rfl) rfl (by omega) (by omega) ?_
 intro b14 c15 w12 (H13 : Sat w [Z7 w (fun _ => False), Z0 r3 174 ([(.slice a4 (([] : List UInt8).length) c5)] : List Value), Zk 5 1 (.slice a4 (([] : List UInt8).length) c5) (([] : List UInt8).length) (([] : List UInt8).flatMap ZE), Z3e (.slice (some ⟨b14, 0, none⟩) s.length c15) s] w12)
 refine hK11 _ _ ?_
 clear hK11 K11
 refine Z07 (Z1 rfl) (fun K16 hK16 => ?_)
 have l22 := Z18 s
 refine Z0g (d := 6) rfl (by kernel_rfl) (Z4K w12 r3 a4 c5 ([] : List UInt8) (H13.fin [1, 2] (by decide) rfl) (by simp) (some ⟨b14, 0, none⟩) c15 s (ListAt.ofTxt (H13.at 3 rfl)) (Z76 (fun b hb => H13.offP [1, 2] 3 rfl rfl (by decide) hb)) (by first | omega | simp)) ?_
 rintro _ w17 ⟨a19, c20, rfl, T18⟩
 have H23 : Sat w [Z7 w (fun _ => False), Z0 r3 174 ([(.slice a19 ((([] : List UInt8) ++ ZK s).length) c20)] : List Value), Zk 5 1 (.slice a19 ((([] : List UInt8) ++ ZK s).length) c20) ((([] : List UInt8) ++ ZK s).length) ((([] : List UInt8) ++ ZK s).flatMap ZE), Z3e (.slice (some ⟨b14, 0, none⟩) s.length c15) s] w17 := (Sat.turnL (L' := [Z0 r3 174 ([(.slice a19 ((([] : List UInt8) ++ ZK s).length) c20)] : List Value), Zk 5 1 (.slice a19 ((([] : List UInt8) ++ ZK s).length) c20) ((([] : List UInt8) ++ ZK s).length) ((([] : List UInt8) ++ ZK s).flatMap ZE)]) (R := [Z7 w (fun _ => False), Z3e (.slice (some ⟨b14, 0, none⟩) s.length c15) s]) H13 [1, 2] [0, 3] (by decide) (by kernel_rfl) rfl T18).pick [2, 0, 1, 3] (by decide)
 refine ⟨_, rfl, ?_⟩
 refine hK16 _ _ ?_
 clear hK16 K16
 refine Z2 (Z1 rfl) (d := 2) (v := (.pointer (some ⟨r3, 0, none⟩))) rfl (by kernel_rfl) ?_
 refine Zn ?_
 refine Z4 ?_
 refine ZI ?_
 refine Z2e rfl (ZT (v := (.pointer (some ⟨r3, 0, none⟩))) rfl) ?_
 have hX : (([] : List UInt8) ++ ZK s) = ZK s := by exact List.nil_append _
 exact ⟨r3, a19, c20, rfl, (by rw [← hX]; exact H23.fin [1, 2] (by decide) rfl), H23.upd 0 rfl [] (fun _ h => h.elim), (by rw [← hX]; exact H23.freshS 0 rfl (fun _ h => h) [1, 2] rfl rfl)⟩
theorem Z4I (w : World) (r : Nat) (a0 : Option Addr) (c0 : Nat) (B : List UInt8) (hB : (ZL (wrL r a0 c0 B)).ok w) (hl : B.length ≤ 900000) (a b : Int) (hs : a ≤ 9223372036854775807 ∧ b ≤ 9223372036854775807) :
  Calls Tryz.prog 83 #[(.pointer (some ⟨r, 0, none⟩)), (.agg ⟨([(.int .i64 (a)), (.int .i64 (b))] : List Value)⟩)] w fun e w' => ∃ a' c', e = .returned (.tuple #[]) ∧ Sat w [Z0 r 174 [.slice a' (B ++ Z00 a b).length c'], Zk 5 1 (.slice a' (B ++ Z00 a b).length c') (B ++ Z00 a b).length ((B ++ Z00 a b).flatMap ZE), Z7 w (ZL (wrL r a0 c0 B)).fp] w' := by
 have H : Sat w [Z0 r 174 ([(.slice a0 B.length c0)] : List Value), Zk 5 1 (.slice a0 B.length c0) B.length (B.flatMap ZE), Z7 w (ZL (wrL r a0 c0 B)).fp] w := Sat.start (wrL r a0 c0 B) hB
 refine Zh Tryz.func83 rfl 11 rfl (Nat.le_of_ble_eq_true rfl) ?_
 refine Zd ?_
 refine Zq ?_
 refine Z07 (Z1 rfl) (fun K1 hK1 => ?_)
 refine Z34 (vs := ([(.int .i64 (a)), (.int .i64 (b))] : List Value)) rfl H rfl rfl ?_
 intro b2 w3 (H4 : Sat w [Z0 r 174 ([(.slice a0 B.length c0)] : List Value), Zk 5 1 (.slice a0 B.length c0) B.length (B.flatMap ZE), Z7 w (ZL (wrL r a0 c0 B)).fp, Z0 b2 24 ([(.int .i64 (a)), (.int .i64 (b))] : List Value)] w3)
 refine hK1 _ _ ?_
 clear hK1 K1
 refine Zn ?_
 refine Z4 ?_
 refine Z08 H4 [Z7 w (ZL (wrL r a0 c0 B)).fp, Z0 b2 24 ([(.int .i64 (a)), (.int .i64 (b))] : List Value)] 7 rfl (by kernel_rfl) (fun Hx => (Hx.pick [2, 3] (by decide))) ?_
 intro w5 H6 S7
 refine Z09 0 rfl (by kernel_rfl) (by kernel_rfl) (by kernel_rfl) (fun _ _ _ h => h) S7 (Z1 rfl) (d := 4) (v := (.pointer (some ⟨r, 0, none⟩))) rfl (fun _ H' => (by kernel_rfl)) ?_
 refine Z09 1 rfl (by kernel_rfl) (by kernel_rfl) (by kernel_rfl) (fun _ _ _ h => h) S7 (Z1 rfl) (d := 5) (v := (.pointer (some ⟨b2, 0, none⟩))) rfl (fun _ H' => (by kernel_rfl)) ?_
 refine Z09 2 rfl (by kernel_rfl) (by kernel_rfl) (by kernel_rfl) (fun _ _ _ h => h) S7 (Z1 rfl) (d := 6) (v := (.int .i64 (a))) rfl (fun _ H' => (Z8 rfl (by kernel_rfl) (H'.cell 1 rfl rfl))) ?_
 refine Z09 4 rfl (by kernel_rfl) (by kernel_rfl) (by kernel_rfl) (fun _ _ _ h => h) S7 (Z1 rfl) (d := 8) (v := (.pointer (some ⟨b2, 1, none⟩))) rfl (fun _ H' => (by kernel_rfl)) ?_
 refine Z09 5 rfl (by kernel_rfl) (by kernel_rfl) (by kernel_rfl) (fun _ _ _ h => h) S7 (Z1 rfl) (d := 9) (v := (.int .i64 (b))) rfl (fun _ H' => (Z8 rfl (by kernel_rfl) (H'.cell 1 rfl rfl))) ?_
 refine Z2R 3 rfl (by kernel_rfl) (Z1 rfl) (fun K8 hK8 => ?_)
 have l14 := ZO a
 refine Z0g (d := 7) rfl (by kernel_rfl) (Z0N w5 r a0 c0 B (H6.fin [0, 1] (by decide) rfl) (by omega) a (by omega)) ?_
 rintro _ w9 ⟨a11, c12, rfl, T10⟩
 have H15 : Sat w [Z0 r 174 ([(.slice a11 ((B ++ Zf a).length) c12)] : List Value), Zk 5 1 (.slice a11 ((B ++ Zf a).length) c12) ((B ++ Zf a).length) ((B ++ Zf a).flatMap ZE), Z7 w (ZL (wrL r a0 c0 B)).fp, Z0 b2 24 ([(.int .i64 (a)), (.int .i64 (b))] : List Value)] w9 := (Sat.turnL (L' := [Z0 r 174 ([(.slice a11 ((B ++ Zf a).length) c12)] : List Value), Zk 5 1 (.slice a11 ((B ++ Zf a).length) c12) ((B ++ Zf a).length) ((B ++ Zf a).flatMap ZE)]) (R := [Z7 w (ZL (wrL r a0 c0 B)).fp, Z0 b2 24 ([(.int .i64 (a)), (.int .i64 (b))] : List Value)]) H6 [0, 1] [2, 3] (by decide) (by kernel_rfl) rfl T10).pick [0, 1, 2, 3] (by decide)
 refine ⟨_, rfl, ?_⟩
 have S16 := H15.pick [2, 3] (by decide)
 refine hK8 _ _ S16 ?_
 clear hK8 K8
 refine Z2R 6 rfl (by kernel_rfl) (Z1 rfl) (fun K17 hK17 => ?_)
 have l23 := ZO b
 refine Z0g (d := 10) rfl (by kernel_rfl) (Z0N w9 r a11 c12 (B ++ Zf a) (H15.fin [0, 1] (by decide) rfl) (by simp only [List.length_append, List.length_nil]; omega) b (by omega)) ?_
 rintro _ w18 ⟨a20, c21, rfl, T19⟩
 have H24 : Sat w [Z0 r 174 ([(.slice a20 (((B ++ Zf a) ++ Zf b).length) c21)] : List Value), Zk 5 1 (.slice a20 (((B ++ Zf a) ++ Zf b).length) c21) (((B ++ Zf a) ++ Zf b).length) (((B ++ Zf a) ++ Zf b).flatMap ZE), Z7 w (ZL (wrL r a0 c0 B)).fp, Z0 b2 24 ([(.int .i64 (a)), (.int .i64 (b))] : List Value)] w18 := (Sat.turnL (L' := [Z0 r 174 ([(.slice a20 (((B ++ Zf a) ++ Zf b).length) c21)] : List Value), Zk 5 1 (.slice a20 (((B ++ Zf a) ++ Zf b).length) c21) (((B ++ Zf a) ++ Zf b).length) (((B ++ Zf a) ++ Zf b).flatMap ZE)]) (R := [Z7 w (ZL (wrL r a0 c0 B)).fp, Z0 b2 24 ([(.int .i64 (a)), (.int .i64 (b))] : List Value)]) H15 [0, 1] [2, 3] (by decide) (by kernel_rfl) rfl T19).pick [0, 1, 2, 3] (by decide)
 refine ⟨_, rfl, ?_⟩
 have S25 := H24.pick [2, 3] (by decide)
 refine hK17 _ _ S25 ?_
 clear hK17 K17
 refine Z4t (by kernel_rfl) ?_
 refine Z1J ?_
 refine Zbh rfl  ?_
 have hX : ((B ++ Zf a) ++ Zf b) = (B ++ Z00 a b) := by simp only [Z00, List.flatten_cons, List.flatten_nil, List.append_nil, List.append_assoc]
 exact ⟨a20, c21, rfl, (H24.pick [0, 1, 2] (by decide)).cast (by show [_, _, _] = _; rw [hX])⟩
end Go.Proofs.YtoaifondpohniaaGreat
