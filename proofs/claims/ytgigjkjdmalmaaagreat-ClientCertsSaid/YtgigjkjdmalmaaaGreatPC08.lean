/- WHAT IS PROVED: contracts and plain laws of Rt, DenyT. Conditions: stated with each. -/
import Derived.Test.YtgigjkjdmalmaaaGreatPC06
import Derived.Test.YtgigjkjdmalmaaaGreatPC07
set_option maxHeartbeats 4000000
set_option maxRecDepth 100000
namespace Go.Proofs.YtgigjkjdmalmaaaGreat
open Go.RowKit
theorem Z5T {f m : Nat} (hm : m < 128 ^ f) (h : 128 ≤ m) : 0 < f - 1 ∧ m / 128 < 128 ^ (f - 1) ∧ Z5c f m = UInt8.ofNat ((m : Int) % 128 + 128).toNat :: Z5c (f - 1) (m / 128) := by
 have := Z4N hm h
 rw [Z55 (by omega)] at this
 exact this
theorem Z5r (w : World) (n : Nat) (hn : n < 18446744073709551616) :
  Calls Tryz.prog 53 #[(.int .u64 ((n : Int)))] w fun e w' => ∃ u, e = .returned u ∧ (Ze 5 1 u (Z0S n).length ((Z0S n).flatMap Zo)).ok w' ∧ Upd [] w w' ∧ ∀ q_, (Ze 5 1 u (Z0S n).length ((Z0S n).flatMap Zo)).fp q_ → w.heap.size ≤ q_ := by
 have H := Sat.start0 w
 refine Zv Tryz.func53 rfl 20 rfl (Nat.le_of_ble_eq_true rfl) ?_
 refine Zh ?_
 refine Zs ?_
 refine Z5 (Z2 rfl) (d := 2) (v := (.slice none 0 0)) rfl (by kernel_rfl) ?_
 refine Zr ?_
 refine Z7 ?_
 refine Zh ?_
 refine Zs ?_
 refine Z5 (Z2 rfl) (d := 3) (v := (.slice none 0 0)) rfl (by kernel_rfl) ?_
 refine Zr ?_
 refine Z7 ?_
 refine Zh ?_
 refine ZM ?_
 have H1 := H.addNil 5 1
 refine Z07 [0, 3, 4, 5, 6, 7, 8, 9, 10, 11, 12, 13, 14] (fun F_ W_ m_ => ∃ (m : Nat) (a : Option Addr) (c : Nat) (D : List UInt8) (f : Nat), F_ 0 = (.int .u64 ((m : Int))) ∧ F_ 3 = (.slice a D.length c) ∧ (0 < f ∧ m < 128 ^ f ∧ m < 18446744073709551616) ∧ (D ++ Z5c f m = Z0S n) ∧ (D.length + f ≤ 10) ∧ Sat w [Za w (fun _ => False), Ze 5 1 (.slice a D.length c) D.length (D.flatMap Zo)] W_ ∧ m_ = m + 1) _ ⟨n, none, 0, [], 10, (show ((.int .u64 ((n : Int))) : Value) = _ by first | rfl | go_num), (by first | rfl | go_num), ⟨by omega, by omega, hn⟩, rfl, (by decide), H1, rfl⟩ ?_
 rintro g2 w3 _ ⟨m, a, c, D, f, v5, v6, hm, hD, hf, H4, rfl⟩
 refine Zy 0 _ v5 ?_
 refine Zy 3 _ v6 ?_
 refine Zh ?_
 refine Zh ?_
 refine Zs ?_
 refine Z5 (Z2 rfl) (d := 4) (v := (.int .u64 ((m : Int)))) rfl (by kernel_rfl) ?_
 refine Z5 (Z2 rfl) (d := 5) (v := (.bool (decide ((m : Int) ≥ 128)))) rfl (by kernel_rfl) ?_
 refine Zr ?_
 refine Z7 ?_
 refine (Z00 (decide ((m : Int) ≥ 128))).elim (fun b8 => ?_) (fun b8 => ?_)
 ·have g9 := of_decide_eq_true b8
  refine Zy 5 (.bool true) (congrArg Value.bool b8) ?_
  have g10 := of_decide_eq_true b8
  refine Z1j rfl ?_
  refine ZW ?_
  refine Z7 ?_
  refine ZM ?_
  refine Zh ?_
  refine Zs ?_
  refine Z5 (Z2 rfl) (d := 6) (v := (.slice a D.length c)) rfl (by kernel_rfl) ?_
  refine Z5 (Z2 rfl) (d := 7) (v := (.int .u64 ((m : Int)))) rfl (by kernel_rfl) ?_
  refine Z5 (Z2 rfl) (d := 8) (v := (.int .u64 ((m : Int) % 128))) rfl (Z78 (by kernel_rfl) (by omega) (by omega)) ?_
  refine Z5 (Z2 rfl) (d := 9) (v := (.int .u8 ((m : Int) % 128))) rfl (Z0h (z := (m : Int) % 128) (by kernel_rfl) (Z6X (by omega))) ?_
  refine Z5 (Z2 rfl) (d := 10) (v := (.int .u8 (((m : Int) % 128) + 128))) rfl (Z0h (z := ((m : Int) % 128) + 128) (by kernel_rfl) (Z6X (by omega))) ?_
  refine ZQ (Z2 rfl) (fun K11 hK11 => ?_)
  refine ZY (e := 5) (size := 1) (bytes := 1) (z := (.int .u8 (0))) (pvs := [(0, (.int .u8 (((m : Int) % 128) + 128)))]) (vs := ([(.int .u8 (((m : Int) % 128) + 128))] : List Value)) rfl H4 (by kernel_rfl) (by kernel_rfl) (by kernel_rfl) (by kernel_rfl) (by kernel_rfl) rfl rfl ?_
  intro b12 w13 (H14 : Sat w [Za w (fun _ => False), Ze 5 1 (.slice a D.length c) D.length (D.flatMap Zo), Ze 5 1 (.slice (some ⟨b12, 0, none⟩) 1 1) 1 ([(.int .u8 (((m : Int) % 128) + 128))] : List Value)] w13)
  have H15 : Sat w [Za w (fun _ => False), Ze 5 1 (.slice a D.length c) D.length (D.flatMap Zo), Ze 5 1 (.slice (some ⟨b12, 0, none⟩) 1 1) 1 ([UInt8.ofNat (((m : Int) % 128) + 128).toNat].flatMap Zo)] w13 := H14.cast (by rw [Z1W (by omega)])
  refine hK11 _ _ ?_
  clear hK11 K11
  refine ZQ (Z2 rfl) (fun K16 hK16 => ?_)
  refine Z0z (T := 38) (e := 5) (size := 1) (bytes := 1) rfl H15 (by kernel_rfl) 1 2 rfl rfl rfl rfl (Z0m Zo Z0s [UInt8.ofNat (((m : Int) % 128) + 128).toNat]) (by omega) (by omega) ?_
  intro v17 w18 (H19 : Sat w [Za w (fun _ => False), Ze 5 1 v17 (D.length + 1) ((D.flatMap Zo) ++ ([UInt8.ofNat (((m : Int) % 128) + 128).toNat].flatMap Zo)), Ze 5 1 (.slice (some ⟨b12, 0, none⟩) 1 1) 1 ([UInt8.ofNat (((m : Int) % 128) + 128).toNat].flatMap Zo)] w18)
  have H22 : Sat w [Za w (fun _ => False), Ze 5 1 v17 ((D ++ [UInt8.ofNat (((m : Int) % 128) + 128).toNat]).length) ((D ++ [UInt8.ofNat (((m : Int) % 128) + 128).toNat]).flatMap Zo), Ze 5 1 (.slice (some ⟨b12, 0, none⟩) 1 1) 1 ([UInt8.ofNat (((m : Int) % 128) + 128).toNat].flatMap Zo)] w18 := H19.cast (by simp only [List.length_append, List.flatMap_append] <;> rfl)
  obtain ⟨a20, c21, rfl⟩ := Zg (H22.at 1 rfl)
  refine hK16 _ _ ?_
  clear hK16 K16
  refine Z5 (Z2 rfl) (d := 3) (v := (.slice a20 ((D ++ [UInt8.ofNat (((m : Int) % 128) + 128).toNat]).length) c21)) rfl (by kernel_rfl) ?_
  refine Zr ?_
  refine Z7 ?_
  refine Zs ?_
  refine Z5 (Z2 rfl) (d := 13) (v := (.int .u64 ((m : Int)))) rfl (by kernel_rfl) ?_
  refine Z5 (Z2 rfl) (d := 14) (v := (.int .u64 ((m : Int) / 128))) rfl (e_quo (by kernel_rfl) (by omega) (by omega) (Z0Z (by omega))) ?_
  refine Z5 (Z2 rfl) (d := 0) (v := (.int .u64 ((m : Int) / 128))) rfl (by kernel_rfl) ?_
  refine Zr ?_
  refine ZR ?_
  have hv := Z5T hm.2.1 (show 128 ≤ m by omega)
  have H23 : Sat w [Za w (fun _ => False), Ze 5 1 (.slice a20 ((D ++ [UInt8.ofNat (((m : Int) % 128) + 128).toNat]).length) c21) ((D ++ [UInt8.ofNat (((m : Int) % 128) + 128).toNat]).length) ((D ++ [UInt8.ofNat (((m : Int) % 128) + 128).toNat]).flatMap Zo)] w18 := H22.pick [0, 1] (by decide)
  refine ZS ?_ _ ⟨(m / 128), a20, c21, (D ++ [UInt8.ofNat (((m : Int) % 128) + 128).toNat]), (f - 1), (show ((.int .u64 ((m : Int) / 128)) : Value) = _ by first | rfl | go_num), (show ((.slice a20 ((D ++ [UInt8.ofNat (((m : Int) % 128) + 128).toNat]).length) c21) : Value) = _ by first | rfl | go_num), ⟨hv.1, hv.2.1, by omega⟩, (by rw [hv.2.2] at hD; simpa using hD), (by rw [List.length_append]; simp only [List.length_cons, List.length_nil]; omega), H23, rfl⟩ (by omega)
  exact (Z6 rfl (Z6 rfl (Z6 rfl (Z6 rfl (Z6 rfl (Z6 rfl (Z6 rfl (Z6 rfl (Z6 rfl (Z6 rfl (Z6 rfl (Z6 rfl (Z6 rfl (Z6 rfl (Z6 rfl (Z6 rfl (Z1D)))))))))))))))))
 ·have g24 := of_decide_eq_false b8
  refine Zy 5 (.bool false) (congrArg Value.bool b8) ?_
  have g25 := of_decide_eq_false b8
  refine Z0o rfl ?_
  refine Z3T ?_
  refine Z1z ?_
  refine Z1x ?_
  refine Z2w ?_
  refine Z7 ?_
  refine Zh ?_
  refine Zs ?_
  refine Z5 (Z2 rfl) (d := 15) (v := (.slice a D.length c)) rfl (by kernel_rfl) ?_
  refine Z5 (Z2 rfl) (d := 16) (v := (.int .u64 ((m : Int)))) rfl (by kernel_rfl) ?_
  refine Z5 (Z2 rfl) (d := 17) (v := (.int .u8 ((m : Int) % 256))) rfl (Z0h (z := (m : Int)) (by kernel_rfl) (by rw [Z1G])) ?_
  refine ZQ (Z2 rfl) (fun K26 hK26 => ?_)
  refine ZY (e := 5) (size := 1) (bytes := 1) (z := (.int .u8 (0))) (pvs := [(0, (.int .u8 ((m : Int) % 256)))]) (vs := ([(.int .u8 ((m : Int) % 256))] : List Value)) rfl H4 (by kernel_rfl) (by kernel_rfl) (by kernel_rfl) (by kernel_rfl) (by kernel_rfl) rfl rfl ?_
  intro b27 w28 (H29 : Sat w [Za w (fun _ => False), Ze 5 1 (.slice a D.length c) D.length (D.flatMap Zo), Ze 5 1 (.slice (some ⟨b27, 0, none⟩) 1 1) 1 ([(.int .u8 ((m : Int) % 256))] : List Value)] w28)
  have H30 : Sat w [Za w (fun _ => False), Ze 5 1 (.slice a D.length c) D.length (D.flatMap Zo), Ze 5 1 (.slice (some ⟨b27, 0, none⟩) 1 1) 1 ([UInt8.ofNat ((m : Int) % 256).toNat].flatMap Zo)] w28 := H29.cast (by rw [Z1W (by omega)])
  refine hK26 _ _ ?_
  clear hK26 K26
  refine ZQ (Z2 rfl) (fun K31 hK31 => ?_)
  refine Z0z (T := 38) (e := 5) (size := 1) (bytes := 1) rfl H30 (by kernel_rfl) 1 2 rfl rfl rfl rfl (Z0m Zo Z0s [UInt8.ofNat ((m : Int) % 256).toNat]) (by omega) (by omega) ?_
  intro v32 w33 (H34 : Sat w [Za w (fun _ => False), Ze 5 1 v32 (D.length + 1) ((D.flatMap Zo) ++ ([UInt8.ofNat ((m : Int) % 256).toNat].flatMap Zo)), Ze 5 1 (.slice (some ⟨b27, 0, none⟩) 1 1) 1 ([UInt8.ofNat ((m : Int) % 256).toNat].flatMap Zo)] w33)
  have H37 : Sat w [Za w (fun _ => False), Ze 5 1 v32 ((D ++ [UInt8.ofNat ((m : Int) % 256).toNat]).length) ((D ++ [UInt8.ofNat ((m : Int) % 256).toNat]).flatMap Zo), Ze 5 1 (.slice (some ⟨b27, 0, none⟩) 1 1) 1 ([UInt8.ofNat ((m : Int) % 256).toNat].flatMap Zo)] w33 := H34.cast (by simp only [List.length_append, List.flatMap_append] <;> rfl)
  obtain ⟨a35, c36, rfl⟩ := Zg (H37.at 1 rfl)
  refine hK31 _ _ ?_
  clear hK31 K31
  refine Z5 (Z2 rfl) (d := 2) (v := (.slice a35 ((D ++ [UInt8.ofNat ((m : Int) % 256).toNat]).length) c36)) rfl (by kernel_rfl) ?_
  refine Zr ?_
  refine Z7 ?_
  refine ZU ?_
  refine Z0T rfl (ZK (v := (.slice a35 ((D ++ [UInt8.ofNat ((m : Int) % 256).toNat]).length) c36)) rfl) ?_
  have hv := Z4M hm.1 (show m < 128 by omega)
  have hX : (D ++ [UInt8.ofNat ((m : Int) % 256).toNat]) = Z0S n := by rw [← hD, hv]
  exact ⟨_, rfl, (by rw [← hX]; exact H37.at 1 rfl), H37.upd 0 rfl [] (fun _ h => h.elim), (by rw [← hX]; exact H37.fresh 0 rfl (fun _ h => h) 1 rfl rfl)⟩
theorem Z20 (w : World) (n : Int) (hn : n ≤ 9223372036854775807) :
  Calls Tryz.prog 34 #[(.int .i64 (n))] w fun e w' => ∃ u, e = .returned u ∧ (Ze 5 1 u (Zj n).length ((Zj n).flatMap Zo)).ok w' ∧ Upd [] w w' ∧ ∀ q_, (Ze 5 1 u (Zj n).length ((Zj n).flatMap Zo)).fp q_ → w.heap.size ≤ q_ := by
 have H := Sat.start0 w
 obtain ⟨k, hk⟩ : ∃ k : Nat, (k : Int) = max n 0 := ⟨(max n 0).toNat, by omega⟩
 refine Zv Tryz.func34 rfl 7 rfl (Nat.le_of_ble_eq_true rfl) ?_
 refine Zh ?_
 refine Zs ?_
 refine Z5 (Z2 rfl) (d := 2) (v := (.slice none 0 0)) rfl (by kernel_rfl) ?_
 refine Zr ?_
 refine Z7 ?_
 refine Zh ?_
 refine Zs ?_
 refine Z5 (Z2 rfl) (d := 3) (v := (.int .i64 (n))) rfl (by kernel_rfl) ?_
 refine Z5 (Z2 rfl) (d := 4) (v := (.int .i64 (max n 0))) rfl (Z7C (k := .i64) (a := n) (b := 0) (z := max n 0) rfl rfl rfl) ?_
 refine Z5 (Z2 rfl) (d := 5) (v := (.int .u64 ((k : Int)))) rfl (Z0h (z := max n 0) (by kernel_rfl) ((by rw [← hk]; exact Z0Z (by omega)))) ?_
 refine ZQ (Z2 rfl) (fun K1 hK1 => ?_)
 refine ZJ (d := 6) rfl (by kernel_rfl) (Z5r w k (by omega)) ?_
 rintro _ w2 ⟨u3, rfl, k4, p5, q6⟩
 have H7 : Sat w [Za w (fun _ => False), Ze 5 1 u3 ((Z0S k).length) ((Z0S k).flatMap Zo)] w2 := H.addU p5 k4 q6
 obtain ⟨a8, c9, rfl⟩ := Zg (H7.at 1 rfl)
 refine ⟨_, rfl, ?_⟩
 refine hK1 _ _ ?_
 clear hK1 K1
 refine Z5 (Z2 rfl) (d := 2) (v := (.slice a8 ((Z0S k).length) c9)) rfl (by kernel_rfl) ?_
 refine Zr ?_
 refine Z7 ?_
 refine ZU ?_
 refine Z0T rfl (ZK (v := (.slice a8 ((Z0S k).length) c9)) rfl) ?_
 have hX : (Z0S k) = Zj n := by unfold Zj; rw [show (max 0 n).toNat = k by omega]
 exact ⟨_, rfl, (by rw [← hX]; exact H7.at 1 rfl), H7.upd 0 rfl [] (fun _ h => h.elim), (by rw [← hX]; exact H7.fresh 0 rfl (fun _ h => h) 1 rfl rfl)⟩
theorem Z4a (w : World) (v : Value) (s : List UInt8) (hs : ListAt Zo 1 w v s) (hl : s.length ≤ 1000000) :
  Calls Tryz.prog 33 #[v] w fun e w' => ∃ u, e = .returned u ∧ (Ze 5 1 u (Zu s).length ((Zu s).flatMap Zo)).ok w' ∧ Upd [] w w' ∧ ∀ q_, (Ze 5 1 u (Zu s).length ((Zu s).flatMap Zo)).fp q_ → w.heap.size ≤ q_ := by
 have H := Sat.start0 w
 obtain ⟨a, c, rfl⟩ := ListAt.len hs
 have hi10 := Z04 (s.length : Int)
 refine Zv Tryz.func33 rfl 8 rfl (Nat.le_of_ble_eq_true rfl) ?_
 refine Zh ?_
 refine Zs ?_
 refine Z5 (Z2 rfl) (d := 2) (v := (.slice none 0 0)) rfl (by kernel_rfl) ?_
 refine Zr ?_
 refine Z7 ?_
 refine Zh ?_
 refine Zs ?_
 refine Z5 (Z2 rfl) (d := 3) (v := (.slice a s.length c)) rfl (by kernel_rfl) ?_
 refine Z5 (Z2 rfl) (d := 4) (v := (.int .i64 ((s.length : Int)))) rfl (by kernel_rfl) ?_
 refine ZQ (Z2 rfl) (fun K1 hK1 => ?_)
 refine ZJ (d := 5) rfl (by kernel_rfl) (Z20 w (s.length : Int) (by omega)) ?_
 rintro _ w2 ⟨u3, rfl, k4, p5, q6⟩
 have H7 : Sat w [Za w (fun _ => False), Ze 5 1 u3 ((Zj (s.length : Int)).length) ((Zj (s.length : Int)).flatMap Zo)] w2 := H.addU p5 k4 q6
 obtain ⟨a8, c9, rfl⟩ := Zg (H7.at 1 rfl)
 refine ⟨_, rfl, ?_⟩
 refine hK1 _ _ ?_
 clear hK1 K1
 refine Z5 (Z2 rfl) (d := 6) (v := (.slice a s.length c)) rfl (by kernel_rfl) ?_
 refine ZQ (Z2 rfl) (fun K10 hK10 => ?_)
 refine Z2e (T := 38) (e := 5) (size := 1) (bytes := 1) rfl H7 (by kernel_rfl) ZV Z0s 1 rfl (ListAt.now H7 0 rfl hs) rfl rfl (by omega) (by omega) ?_
 intro v11 w12 (H14 : Sat w [Za w (fun _ => False), Ze 5 1 v11 ((Zj (s.length : Int)).length + s.length) ((Zj (s.length : Int)).flatMap Zo ++ s.flatMap Zo)] w12)
 have H13 : Sat w [Za w (fun _ => False), Ze 5 1 v11 (((Zj (s.length : Int)) ++ s).length) (((Zj (s.length : Int)) ++ s).flatMap Zo)] w12 := H14.cast (by simp only [List.length_append, List.flatMap_append])
 obtain ⟨a15, c16, rfl⟩ := Zg (H13.at 1 rfl)
 refine hK10 _ _ ?_
 clear hK10 K10
 refine Z5 (Z2 rfl) (d := 2) (v := (.slice a15 (((Zj (s.length : Int)) ++ s).length) c16)) rfl (by kernel_rfl) ?_
 refine Zr ?_
 refine Z7 ?_
 refine ZU ?_
 refine Z0T rfl (ZK (v := (.slice a15 (((Zj (s.length : Int)) ++ s).length) c16)) rfl) ?_
 have hX : ((Zj (s.length : Int)) ++ s) = Zu s := by unfold Zu Zj; rw [show (max 0 (s.length : Int)).toNat = s.length by omega]
 exact ⟨_, rfl, (by rw [← hX]; exact H13.at 1 rfl), H13.upd 0 rfl [] (fun _ h => h.elim), (by rw [← hX]; exact H13.fresh 0 rfl (fun _ h => h) 1 rfl rfl)⟩
theorem Z2r (w : World) (v : Value) (vs : List Value) (ss : List (List UInt8)) (hv : ListAt Z8d 1 w v vs) (hs : Parts w vs ss) (hl : ss.flatten.length ≤ 1000000) (hk : vs.length ≤ 1000) :
  Calls Tryz.prog 32 #[v] w fun e w' => ∃ u, e = .returned u ∧ (Ze 5 1 u ss.flatten.length (ss.flatten.flatMap Zo)).ok w' ∧ Upd [] w w' ∧ ∀ q_, (Ze 5 1 u ss.flatten.length (ss.flatten.flatMap Zo)).fp q_ → w.heap.size ≤ q_ := by
 have H := Sat.start0 w
 obtain ⟨a0, c0, rfl⟩ := ListAt.len hv
 have hsl := hs.len
 refine Zv Tryz.func32 rfl 18 rfl (Nat.le_of_ble_eq_true rfl) ?_
 refine Zh ?_
 refine Zs ?_
 refine Z5 (Z2 rfl) (d := 2) (v := (.slice none 0 0)) rfl (by kernel_rfl) ?_
 refine Zr ?_
 refine Z7 ?_
 refine Zh ?_
 refine Zs ?_
 refine Z5 (Z2 rfl) (d := 3) (v := (.slice none 0 0)) rfl (by kernel_rfl) ?_
 refine Zr ?_
 refine Z7 ?_
 refine Zh ?_
 refine Zh ?_
 refine Zs ?_
 refine Z5 (Z2 rfl) (d := 5) (v := (.slice a0 vs.length c0)) rfl (by kernel_rfl) ?_
 refine Z5 (Z2 rfl) (d := 6) (v := (.int .i64 ((vs.length : Int)))) rfl (by kernel_rfl) ?_
 refine Z5 (Z2 rfl) (d := 7) (v := (.int .i64 (0))) rfl (by kernel_rfl) ?_
 refine Zr ?_
 refine Z7 ?_
 refine ZM ?_
 have H1 := H.addNil 5 1
 refine Z07 [3, 4, 7, 8, 9, 10, 11, 12, 13, 14, 15, 16] (fun F_ W_ m_ => ∃ (i : Nat) (a : Option Addr) (c : Nat) (D : List UInt8), F_ 7 = (.int .i64 ((i : Int))) ∧ F_ 3 = (.slice a D.length c) ∧ (i ≤ vs.length) ∧ (D = (ss.take i).flatten) ∧ Sat w [Za w (fun _ => False), Ze 5 1 (.slice a D.length c) D.length (D.flatMap Zo)] W_ ∧ m_ = vs.length - i) _ ⟨0, none, 0, [], (show ((.int .i64 (0)) : Value) = _ by first | rfl | go_num), (by first | rfl | go_num), (Nat.zero_le _), rfl, H1, rfl⟩ ?_
 rintro g2 w3 _ ⟨i, a, c, D, v5, v6, hi, hD, H4, rfl⟩
 refine Zy 7 _ v5 ?_
 refine Zy 3 _ v6 ?_
 refine Zh ?_
 refine Zs ?_
 refine Z5 (Z2 rfl) (d := 8) (v := (.bool (decide ((i : Int) < (vs.length : Int))))) rfl (by kernel_rfl) ?_
 refine Zr ?_
 refine Z7 ?_
 refine Zh ?_
 refine (Z00 (decide ((i : Int) < (vs.length : Int)))).elim (fun b8 => ?_) (fun b8 => ?_)
 ·have g9 := of_decide_eq_true b8
  refine Zy 8 (.bool true) (congrArg Value.bool b8) ?_
  have g10 := of_decide_eq_true b8
  refine Z1j rfl ?_
  refine ZW ?_
  refine Z7 ?_
  refine Zh ?_
  refine ZM ?_
  refine Zh ?_
  refine Zs ?_
  refine Z5 (Z2 rfl) (d := 9) (v := (.int .i64 ((i : Int)))) rfl (by kernel_rfl) ?_
  refine Z5 (Z2 rfl) (d := 4) (v := (.int .i64 ((i : Int)))) rfl (by kernel_rfl) ?_
  refine Zr ?_
  refine Z7 ?_
  refine Zs ?_
  refine Z5 (Z2 rfl) (d := 10) (v := (.slice a D.length c)) rfl (by kernel_rfl) ?_
  refine Z5 (Z2 rfl) (d := 11) (v := (.slice a0 vs.length c0)) rfl (by kernel_rfl) ?_
  refine Z5 (Z2 rfl) (d := 12) (v := (.int .i64 ((i : Int)))) rfl (by kernel_rfl) ?_
  obtain ⟨g11, o12, c13, e14, R15⟩ := SliceOf.atD hv undef (show i < vs.length by omega)
  refine Z5 (Z2 rfl) (d := 13) (v := (.pointer (some ⟨g11, o12 + ((i : Int)).toNat * 1, none⟩))) rfl (Z0d (E := 38) (by kernel_rfl) (by kernel_rfl) (Nat.le_of_ble_eq_true rfl) rfl e14 rfl (by omega) (by omega)) ?_
  refine Z5 (Z2 rfl) (d := 14) (v := (vs.getD i undef)) rfl (Zi rfl (by kernel_rfl) (H4.cellR 0 rfl (Z2c R15 0 (by kernel_rfl) (show o12 + ((i : Int)).toNat * 1 = o12 + i * 1 + 0 by omega)) (fun h => h))) ?_
  refine ZQ (Z2 rfl) (fun K16 hK16 => ?_)
  refine Z2e (T := 38) (e := 5) (size := 1) (bytes := 1) rfl H4 (by kernel_rfl) ZV Z0s 1 rfl (ListAt.now H4 0 rfl (hs.get i (by have := hs.len; omega))) rfl rfl (by have := Z6h ss (i := i) (by omega); rw [hD]; omega) (by have := Z6h ss (i := i) (by omega); rw [hD]; omega) ?_
  intro v17 w18 (H20 : Sat w [Za w (fun _ => False), Ze 5 1 v17 (D.length + (ss.getD i []).length) (D.flatMap Zo ++ (ss.getD i []).flatMap Zo)] w18)
  have H19 : Sat w [Za w (fun _ => False), Ze 5 1 v17 ((D ++ (ss.getD i [])).length) ((D ++ (ss.getD i [])).flatMap Zo)] w18 := H20.cast (by simp only [List.length_append, List.flatMap_append])
  obtain ⟨a21, c22, rfl⟩ := Zg (H19.at 1 rfl)
  refine hK16 _ _ ?_
  clear hK16 K16
  refine Z5 (Z2 rfl) (d := 3) (v := (.slice a21 ((D ++ (ss.getD i [])).length) c22)) rfl (by kernel_rfl) ?_
  refine Zr ?_
  refine ZR ?_
  refine Z7 ?_
  refine Zs ?_
  refine Z5 (Z2 rfl) (d := 16) (v := (.int .i64 ((i : Int) + 1))) rfl (Z0h (z := (i : Int) + 1) (by kernel_rfl) (IntWalk.i64_in _ (by omega))) ?_
  refine Z5 (Z2 rfl) (d := 7) (v := (.int .i64 ((i : Int) + 1))) rfl (by kernel_rfl) ?_
  refine Zr ?_
  refine ZS ?_ _ ⟨(i + 1), a21, c22, (D ++ (ss.getD i [])), (show ((.int .i64 ((i : Int) + 1)) : Value) = _ by first | rfl | go_num), (show ((.slice a21 ((D ++ (ss.getD i [])).length) c22) : Value) = _ by first | rfl | go_num), (by omega), (by rw [hD, Z4r ss (by omega)]), H19, rfl⟩ (by omega)
  exact (Z6 rfl (Z6 rfl (Z6 rfl (Z6 rfl (Z6 rfl (Z6 rfl (Z6 rfl (Z6 rfl (Z6 rfl (Z6 rfl (Z6 rfl (Z6 rfl (Z6 rfl (Z6 rfl (Z6 rfl (Z1D))))))))))))))))
 ·have g23 := of_decide_eq_false b8
  refine Zy 8 (.bool false) (congrArg Value.bool b8) ?_
  have g24 := of_decide_eq_false b8
  refine Z0o rfl ?_
  refine Z3T ?_
  refine Z1z ?_
  refine Z1x ?_
  refine Z2w ?_
  refine Z7 ?_
  refine Zh ?_
  refine Zs ?_
  refine Z5 (Z2 rfl) (d := 17) (v := (.slice a D.length c)) rfl (by kernel_rfl) ?_
  refine Z5 (Z2 rfl) (d := 2) (v := (.slice a D.length c)) rfl (by kernel_rfl) ?_
  refine Zr ?_
  refine Z7 ?_
  refine ZU ?_
  refine Z0T rfl (ZK (v := (.slice a D.length c)) rfl) ?_
  have hX : D = ss.flatten := by rw [hD, List.take_of_length_le (by omega)]
  exact ⟨_, rfl, (by rw [← hX]; exact H4.at 1 rfl), H4.upd 0 rfl [] (fun _ h => h.elim), (by rw [← hX]; exact H4.fresh 0 rfl (fun _ h => h) 1 rfl rfl)⟩
end Go.Proofs.YtgigjkjdmalmaaaGreat
