/- WHAT IS PROVED: contracts and plain laws of SortUA, Laid10, SortUS. Conditions: stated with each. -/
import Derived.Test.YtgigjkjdmalmaaaGreatPY06
import Derived.Test.YtgigjkjdmalmaaaGreatPY10
import Derived.Test.YtgigjkjdmalmaaaGreatPY11
import Derived.Test.YtgigjkjdmalmaaaGreatPY13
set_option maxHeartbeats 4000000
set_option maxRecDepth 100000
namespace Go.Proofs.YtgigjkjdmalmaaaGreat
open Go.RowKit
theorem ZaW (w : World) (x : Int) :
  Calls Tryz.prog 166 #[(.int .u64 (x))] w fun e w' => e = .returned (.bool false) ∧ Upd [] w w' := by
 have H := Sat.start0 w
 refine Zg Tryz.func166 rfl 6 rfl (Nat.le_of_ble_eq_true rfl) ?_
 refine Zf ?_
 refine Zt ?_
 refine Z6 (Z5 rfl) (d := 2) (v := (.bool false)) rfl (by kernel_rfl) ?_
 refine Zu ?_
 refine Zb ?_
 refine Zf ?_
 refine Zt ?_
 refine Z6 (Z5 rfl) (d := 3) (v := (.int .u64 (x))) rfl (by kernel_rfl) ?_
 refine Z6 (Z5 rfl) (d := 4) (v := (.int .u64 (x))) rfl (by kernel_rfl) ?_
 refine Z6 (Z5 rfl) (d := 5) (v := (.bool (!(decide (x = x))))) rfl (by kernel_rfl) ?_
 refine Z6 (Z5 rfl) (d := 2) (v := (.bool (!(decide (x = x))))) rfl (by kernel_rfl) ?_
 refine Zu ?_
 refine Zb ?_
 refine Zz ?_
 refine Z1x rfl (Z0c (v := (.bool (!(decide (x = x))))) rfl) ?_
 exact ⟨by simp, H.upd 0 rfl [] (fun _ h => h.elim)⟩
theorem Z9I (w : World) (x y : Int) :
  Calls Tryz.prog 160 #[(.int .u64 (x)), (.int .u64 (y))] w fun e w' => e = .returned (.bool (ltU x y)) ∧ Upd [] w w' := by
 have H := Sat.start0 w
 refine Zg Tryz.func160 rfl 17 rfl (Nat.le_of_ble_eq_true rfl) ?_
 refine Zf ?_
 refine Zt ?_
 refine Z6 (Z5 rfl) (d := 4) (v := (.bool false)) rfl (by kernel_rfl) ?_
 refine Zu ?_
 refine Zb ?_
 refine Zf ?_
 refine Zt ?_
 refine Z6 (Z5 rfl) (d := 5) (v := (.int .u64 (x))) rfl (by kernel_rfl) ?_
 refine Z0B (Z5 rfl) (fun K1 hK1 => ?_)
 refine Z0L (d := 6) rfl (by kernel_rfl) (ZaW w x) ?_
 rintro _ w2 ⟨rfl, u4⟩
 have H3 := H.keepU u4
 refine ⟨_, rfl, ?_⟩
 refine hK1 _ _ ?_
 clear hK1 K1
 refine Z6 (Z5 rfl) (d := 7) (v := (.bool false)) rfl (by kernel_rfl) ?_
 refine Z15 (Z0Q 2 7 true rfl (by kernel_rfl) rfl (by kernel_rfl)) rfl ?_
 refine Z15 (Z0Q 2 7 true rfl (by kernel_rfl) rfl (by kernel_rfl)) rfl ?_
 refine Z15 (Z0Q 2 7 true rfl (by kernel_rfl) rfl (by kernel_rfl)) rfl ?_
 refine Z6 (Z5 rfl) (d := 11) (v := (.bool false)) rfl (by kernel_rfl) ?_
 refine Z6 (Z5 rfl) (d := 12) (v := (.bool false)) rfl (by kernel_rfl) ?_
 refine Z6 (Z0k 7 12 false rfl (by kernel_rfl) rfl (by kernel_rfl)) (d := 13) (v := (.int .u64 (x))) rfl (by kernel_rfl) ?_
 refine Z6 (Z0k 7 12 false rfl (by kernel_rfl) rfl (by kernel_rfl)) (d := 14) (v := (.int .u64 (y))) rfl (by kernel_rfl) ?_
 refine Z6 (Z0k 7 12 false rfl (by kernel_rfl) rfl (by kernel_rfl)) (d := 15) (v := (.bool (decide (x < y)))) rfl (by kernel_rfl) ?_
 refine Z6 (Z5 rfl) (d := 16) (v := (.bool (decide (x < y)))) rfl (by kernel_rfl) ?_
 refine Z6 (Z5 rfl) (d := 4) (v := (.bool (decide (x < y)))) rfl (by kernel_rfl) ?_
 refine Zu ?_
 refine Zb ?_
 refine Zz ?_
 refine Z1x rfl (Z0c (v := (.bool (decide (x < y)))) rfl) ?_
 exact ⟨rfl, H3.upd 0 rfl [] (fun _ h => h.elim)⟩
theorem Z4O (w : World) (g n c a b : Nat) (A : List Int) (hT : (Z1U g n c A).ok w) (hn : n ≤ 1000000000000) (hab : a ≤ b ∧ b ≤ n) :
  Calls Tryz.prog 154 #[(.slice (some ⟨g, 0, none⟩) n c), (.int .i64 ((a : Int))), (.int .i64 ((b : Int)))] w fun e w' => ∃ B : List Int, e = .returned (.tuple #[]) ∧ B.length = n ∧ SegP a b A B ∧ Srt ltU a b B ∧ Sat w [Z1U g n c B, Z7 w (Z1U g n c A).fp] w' := by
 have H : Sat w [Z1U g n c A, Z7 w (Z1U g n c A).fp] w := Sat.start1 hT
 have hl := Z67 hT
 have hw := swU
 refine Zg Tryz.func154 rfl 49 rfl (Nat.le_of_ble_eq_true rfl) ?_
 refine Zf ?_
 refine Zt ?_
 refine Z6 (Z5 rfl) (d := 8) (v := (.int .i64 ((a : Int)))) rfl (by kernel_rfl) ?_
 refine Z6 (Z5 rfl) (d := 9) (v := (.int .i64 ((a : Int) + 1))) rfl (Z0I (z := (a : Int) + 1) (by kernel_rfl) (IntWalk.i64_in _ (by omega))) ?_
 refine Z6 (Z5 rfl) (d := 6) (v := (.int .i64 ((a : Int) + 1))) rfl (by kernel_rfl) ?_
 refine Zu ?_
 refine Zb ?_
 refine ZA ?_
 refine ZW [6, 7, 10, 11, 12, 13, 14, 15, 16, 17, 18, 19, 20, 21, 22, 23, 24, 25, 26, 27, 28, 29, 30, 31, 32, 33, 34, 35, 36, 37, 38, 39, 40, 41, 42, 43, 44, 45, 46, 47, 48] (fun F_ W_ m_ => ∃ (i : Nat) (B : List Int), F_ 6 = (.int .i64 ((i : Int))) ∧ (a + 1 ≤ i ∧ (i ≤ b ∨ i = a + 1)) ∧ (B.length = n) ∧ (SegP a b A B) ∧ (Srt ltU a i B) ∧ Sat w [Z1U g n c B, Z7 w (Z1U g n c A).fp] W_ ∧ m_ = b - i) _ ⟨(a + 1), A, (show ((.int .i64 ((a : Int) + 1)) : Value) = _ by first | rfl | go_num), (by omega), hl, .refl, (Srt.short (by omega)), H, rfl⟩ ?_
 rintro g1 w2 _ ⟨i, B, v4, hi, hlB, hS, hs, H3, rfl⟩
 refine Zo 6 _ v4 ?_
 refine Zf ?_
 refine Zf ?_
 refine Zt ?_
 refine Z6 (Z5 rfl) (d := 10) (v := (.int .i64 ((i : Int)))) rfl (by kernel_rfl) ?_
 refine Z6 (Z5 rfl) (d := 11) (v := (.int .i64 ((b : Int)))) rfl (by kernel_rfl) ?_
 refine Z6 (Z5 rfl) (d := 12) (v := (.bool (decide ((i : Int) < (b : Int))))) rfl (by kernel_rfl) ?_
 refine Zu ?_
 refine Zb ?_
 refine (ZC (decide ((i : Int) < (b : Int)))).elim (fun b6 => ?_) (fun b6 => ?_)
 ·have g7 := of_decide_eq_true b6
  refine Zo 12 (.bool true) (congrArg Value.bool b6) ?_
  have g8 := of_decide_eq_true b6
  refine Z0R rfl ?_
  refine ZF ?_
  refine Zb ?_
  refine Zf ?_
  refine ZA ?_
  refine Zf ?_
  refine Zt ?_
  refine Z6 (Z5 rfl) (d := 15) (v := (.int .i64 ((i : Int)))) rfl (by kernel_rfl) ?_
  refine Z6 (Z5 rfl) (d := 7) (v := (.int .i64 ((i : Int)))) rfl (by kernel_rfl) ?_
  refine Zu ?_
  refine Zb ?_
  refine ZA ?_
  refine ZW [7, 16, 17, 18, 19, 20, 21, 22, 23, 24, 25, 26, 27, 28, 29, 30, 31, 32, 33, 34, 35, 36, 37, 38, 39, 40, 41, 42, 43, 44, 45, 46, 47, 48] (fun F_ W_ m_ => ∃ (j : Nat) (C : List Int), F_ 7 = (.int .i64 ((j : Int))) ∧ (a ≤ j ∧ j ≤ i) ∧ (C.length = n) ∧ (SegP a b A C) ∧ (Ins ltU a i j C) ∧ Sat w [Z1U g n c C, Z7 w (Z1U g n c A).fp] W_ ∧ m_ = j + 1) _ ⟨i, B, (show ((.int .i64 ((i : Int))) : Value) = _ by first | rfl | go_num), (by omega), hlB, hS, (Ins.start hs), H3, rfl⟩ ?_
  rintro g9 w10 _ ⟨j, C, v12, hj, hlC, hS2, hI, H11, rfl⟩
  refine Zo 7 _ v12 ?_
  refine Zf ?_
  refine Zf ?_
  refine Z7A H11 (by kernel_rfl) (by kernel_rfl) ?_
  refine Z1B (Z5 rfl) (d := 16) (v := (.int .i64 ((j : Int)))) rfl (fun _ H' => (by kernel_rfl)) ?_
  refine Z1B (Z5 rfl) (d := 17) (v := (.int .i64 ((a : Int)))) rfl (fun _ H' => (by kernel_rfl)) ?_
  refine Z1B (Z5 rfl) (d := 18) (v := (.bool (decide ((j : Int) > (a : Int))))) rfl (fun _ H' => (by kernel_rfl)) ?_
  refine Z1B (Z5 rfl) (d := 19) (v := (.bool (decide ((j : Int) > (a : Int))))) rfl (fun _ H' => (by kernel_rfl)) ?_
  refine (ZC (decide ((j : Int) > (a : Int)))).elim (fun b14 => ?_) (fun b14 => ?_)
  ·have g15 := of_decide_eq_true b14
   refine Z17 19 (.bool true) (congrArg Value.bool b14) ?_
   have g16 := of_decide_eq_true b14
   refine Z1B (Z0k 3 19 true rfl (by kernel_rfl) rfl (by kernel_rfl)) (d := 20) (v := (.slice (some ⟨g, 0, none⟩) n c)) rfl (fun _ H' => (by kernel_rfl)) ?_
   refine Z1B (Z0k 3 19 true rfl (by kernel_rfl) rfl (by kernel_rfl)) (d := 21) (v := (.int .i64 ((j : Int)))) rfl (fun _ H' => (by kernel_rfl)) ?_
   refine Z1B (Z0k 3 19 true rfl (by kernel_rfl) rfl (by kernel_rfl)) (d := 22) (v := (.pointer (some ⟨g, 0 + ((j : Int)).toNat * 1, none⟩))) rfl (fun _ H' => (Z0r (E := 45) (by kernel_rfl) (by kernel_rfl) (Nat.le_of_ble_eq_true rfl) rfl rfl (by omega) (by omega))) ?_
   obtain ⟨x17, h18⟩ := Z4X (show j < C.length by omega)
   refine Z1B (Z0k 3 19 true rfl (by kernel_rfl) rfl (by kernel_rfl)) (d := 23) (v := (.int .u64 (x17))) rfl (fun _ H' => (Zi rfl (by kernel_rfl) (Z3i (H'.at 0 rfl) h18 (show 0 + ((j : Int)).toNat * 1 = j by omega)))) ?_
   refine Z1B (Z0k 3 19 true rfl (by kernel_rfl) rfl (by kernel_rfl)) (d := 24) (v := (.slice (some ⟨g, 0, none⟩) n c)) rfl (fun _ H' => (by kernel_rfl)) ?_
   refine Z1B (Z0k 3 19 true rfl (by kernel_rfl) rfl (by kernel_rfl)) (d := 25) (v := (.int .i64 ((j : Int)))) rfl (fun _ H' => (by kernel_rfl)) ?_
   refine Z1B (Z0k 3 19 true rfl (by kernel_rfl) rfl (by kernel_rfl)) (d := 26) (v := (.int .i64 ((j : Int) - 1))) rfl (fun _ H' => (Z0I (z := (j : Int) - 1) (by kernel_rfl) (IntWalk.i64_in _ (by omega)))) ?_
   refine Z1B (Z0k 3 19 true rfl (by kernel_rfl) rfl (by kernel_rfl)) (d := 27) (v := (.pointer (some ⟨g, 0 + ((j : Int) - 1).toNat * 1, none⟩))) rfl (fun _ H' => (Z0r (E := 45) (by kernel_rfl) (by kernel_rfl) (Nat.le_of_ble_eq_true rfl) rfl rfl (by omega) (by omega))) ?_
   obtain ⟨x19, h20⟩ := Z4X (show (j - 1) < C.length by omega)
   refine Z1B (Z0k 3 19 true rfl (by kernel_rfl) rfl (by kernel_rfl)) (d := 28) (v := (.int .u64 (x19))) rfl (fun _ H' => (Zi rfl (by kernel_rfl) (Z3i (H'.at 0 rfl) h20 (show 0 + ((j : Int) - 1).toNat * 1 = (j - 1) by omega)))) ?_
   refine Z4s (Z0k 3 19 true rfl (by kernel_rfl) rfl (by kernel_rfl)) (d := 29) (v := (.bool (ltU x17 x19))) rfl (fun _ _ => by kernel_rfl) (fun w' H' => (Z9I w' x17 x19).mono fun _ _ h => ⟨h.1, H'.keepU h.2⟩) ?_
   refine Z1B (Z5 rfl) (d := 30) (v := (.bool (ltU x17 x19))) rfl (fun _ H' => (by kernel_rfl)) ?_
   refine Z1A ?_
   intro w21 H22
   refine Zb ?_
   refine (ZC (ltU x17 x19)).elim (fun b23 => ?_) (fun b23 => ?_)
   ·refine Zo 30 (.bool true) (congrArg Value.bool b23) ?_
    refine Z0R rfl ?_
    refine ZF ?_
    refine Zb ?_
    refine Zf ?_
    refine ZA ?_
    refine Z1o H22 [Z1U g n c C, Z7 w (Z1U g n c A).fp] [15, 17] 18 rfl (by kernel_rfl) (fun Hx => (Hx.pick [0, 1] (by decide))) ?_
    intro w24 H25 S26
    refine Z0Y 0 rfl (by kernel_rfl) (by kernel_rfl) (by kernel_rfl) (fun _ _ _ h => h) S26 (Z5 rfl) rfl (d := 33) (v := (.slice (some ⟨g, 0, none⟩) n c)) rfl (fun _ => (by kernel_rfl)) ?_
    refine Z0Y 1 rfl (by kernel_rfl) (by kernel_rfl) (by kernel_rfl) (fun _ _ _ h => h) S26 (Z5 rfl) rfl (d := 34) (v := (.int .i64 ((j : Int)))) rfl (fun _ => (by kernel_rfl)) ?_
    refine Z0Y 2 rfl (by kernel_rfl) (by kernel_rfl) (by kernel_rfl) (fun _ _ _ h => h) S26 (Z5 rfl) rfl (d := 35) (v := (.slice (some ⟨g, 0, none⟩) n c)) rfl (fun _ => (by kernel_rfl)) ?_
    refine Z0Y 3 rfl (by kernel_rfl) (by kernel_rfl) (by kernel_rfl) (fun _ _ _ h => h) S26 (Z5 rfl) rfl (d := 36) (v := (.int .i64 ((j : Int)))) rfl (fun _ => (by kernel_rfl)) ?_
    refine Z0Y 4 rfl (by kernel_rfl) (by kernel_rfl) (by kernel_rfl) (fun _ _ _ h => h) S26 (Z5 rfl) rfl (d := 37) (v := (.int .i64 ((j : Int) - 1))) rfl (fun _ => (Z0I (z := (j : Int) - 1) (by kernel_rfl) (IntWalk.i64_in _ (by omega)))) ?_
    refine Z0Y 5 rfl (by kernel_rfl) (by kernel_rfl) (by kernel_rfl) (fun _ _ _ h => h) S26 (Z5 rfl) rfl (d := 38) (v := (.slice (some ⟨g, 0, none⟩) n c)) rfl (fun _ => (by kernel_rfl)) ?_
    refine Z0Y 6 rfl (by kernel_rfl) (by kernel_rfl) (by kernel_rfl) (fun _ _ _ h => h) S26 (Z5 rfl) rfl (d := 39) (v := (.int .i64 ((j : Int)))) rfl (fun _ => (by kernel_rfl)) ?_
    refine Z0Y 7 rfl (by kernel_rfl) (by kernel_rfl) (by kernel_rfl) (fun _ _ _ h => h) S26 (Z5 rfl) rfl (d := 40) (v := (.int .i64 ((j : Int) - 1))) rfl (fun _ => (Z0I (z := (j : Int) - 1) (by kernel_rfl) (IntWalk.i64_in _ (by omega)))) ?_
    refine Z0Y 8 rfl (by kernel_rfl) (by kernel_rfl) (by kernel_rfl) (fun _ _ _ h => h) S26 (Z5 rfl) rfl (d := 41) (v := (.pointer (some ⟨g, 0 + ((j : Int) - 1).toNat * 1, none⟩))) rfl (fun _ => (Z0r (E := 45) (by kernel_rfl) (by kernel_rfl) (Nat.le_of_ble_eq_true rfl) rfl rfl (by omega) (by omega))) ?_
    refine ZaI 9 rfl (by kernel_rfl) (by kernel_rfl) (by kernel_rfl) (fun _ _ _ h => h) S26 (Z5 rfl) rfl (by kernel_rfl) (d := 42) (v := (.int .u64 (x19))) rfl (fun _ H' => (Zi rfl (by kernel_rfl) (Z3i (H'.at 0 rfl) h20 (show 0 + ((j : Int) - 1).toNat * 1 = (j - 1) by omega)))) ?_
    refine Z0Y 10 rfl (by kernel_rfl) (by kernel_rfl) (by kernel_rfl) (fun _ _ _ h => h) S26 (Z5 rfl) rfl (d := 43) (v := (.slice (some ⟨g, 0, none⟩) n c)) rfl (fun _ => (by kernel_rfl)) ?_
    refine Z0Y 11 rfl (by kernel_rfl) (by kernel_rfl) (by kernel_rfl) (fun _ _ _ h => h) S26 (Z5 rfl) rfl (d := 44) (v := (.int .i64 ((j : Int)))) rfl (fun _ => (by kernel_rfl)) ?_
    refine Z0Y 12 rfl (by kernel_rfl) (by kernel_rfl) (by kernel_rfl) (fun _ _ _ h => h) S26 (Z5 rfl) rfl (d := 45) (v := (.pointer (some ⟨g, 0 + ((j : Int)).toNat * 1, none⟩))) rfl (fun _ => (Z0r (E := 45) (by kernel_rfl) (by kernel_rfl) (Nat.le_of_ble_eq_true rfl) rfl rfl (by omega) (by omega))) ?_
    refine ZaI 13 rfl (by kernel_rfl) (by kernel_rfl) (by kernel_rfl) (fun _ _ _ h => h) S26 (Z5 rfl) rfl (by kernel_rfl) (d := 46) (v := (.int .u64 (x17))) rfl (fun _ H' => (Zi rfl (by kernel_rfl) (Z3i (H'.at 0 rfl) h18 (show 0 + ((j : Int)).toNat * 1 = j by omega)))) ?_
    refine Z0Y 14 rfl (by kernel_rfl) (by kernel_rfl) (by kernel_rfl) (fun _ _ _ h => h) S26 (Z5 rfl) rfl (d := 47) (v := (.pointer (some ⟨g, 0 + ((j : Int)).toNat * 1, none⟩))) rfl (fun _ => (Z0r (E := 45) (by kernel_rfl) (by kernel_rfl) (Nat.le_of_ble_eq_true rfl) rfl rfl (by omega) (by omega))) ?_
    refine Z3u 15 (Sat w [Z7 w (Z1U g n c A).fp]) rfl (by kernel_rfl) (Z5 rfl) rfl (fun K27 hK27 => ?_)
    refine Z7U rfl H25 0 rfl rfl rfl (by kernel_rfl) (show 0 + ((j : Int)).toNat * 1 = j by omega) (by omega) ?_
    intro w28 (H29 : Sat w [Z1U g n c (C.set j x19), Z7 w (Z1U g n c A).fp] w28)
    have hlH29 : (C.set j x19).length = C.length := List.length_set
    have S30 := H29.pick [1] (by decide)
    refine hK27 _ _ S30 ?_
    clear hK27 K27
    refine Z0s 16 rfl (by kernel_rfl) (by kernel_rfl) (by kernel_rfl) (fun _ _ _ h => h) S30 (Z5 rfl) (d := 48) (v := (.pointer (some ⟨g, 0 + ((j : Int) - 1).toNat * 1, none⟩))) rfl (fun _ H' => (Z0r (E := 45) (by kernel_rfl) (by kernel_rfl) (Nat.le_of_ble_eq_true rfl) rfl rfl (by omega) (by omega))) ?_
    refine Z6J 17 rfl (by kernel_rfl) (Z5 rfl) (fun K31 hK31 => ?_)
    refine Z7U rfl H29 0 rfl rfl rfl (by kernel_rfl) (show 0 + ((j : Int) - 1).toNat * 1 = (j - 1) by omega) (by omega) ?_
    intro w32 (H33 : Sat w [Z1U g n c ((C.set j x19).set (j - 1) x17), Z7 w (Z1U g n c A).fp] w32)
    have hlH33 : ((C.set j x19).set (j - 1) x17).length = (C.set j x19).length := List.length_set
    have S34 := H33.pick [1] (by decide)
    refine hK31 _ _ S34 ?_
    clear hK31 K31
    refine Z5N (by kernel_rfl) ?_
    refine Zw ?_
    refine Zb ?_
    refine Zt ?_
    refine Z6 (Z5 rfl) (d := 31) (v := (.int .i64 ((j : Int)))) rfl (by kernel_rfl) ?_
    refine Z6 (Z5 rfl) (d := 32) (v := (.int .i64 ((j : Int) - 1))) rfl (Z0I (z := (j : Int) - 1) (by kernel_rfl) (IntWalk.i64_in _ (by omega))) ?_
    refine Z6 (Z5 rfl) (d := 7) (v := (.int .i64 ((j : Int) - 1))) rfl (by kernel_rfl) ?_
    refine Zu ?_
    refine ZE ?_ _ ⟨(j - 1), ((C.set j x19).set (j - 1) x17), (show ((.int .i64 ((j : Int) - 1)) : Value) = _ by first | rfl | go_num), (by omega), (by omega), (hS2.swap (by omega) (by omega) (by omega) (by omega) h18 h20), (hI.step hw (by omega) (by omega) h18 h20 b23), H33, rfl⟩ (by omega)
    exact (Za rfl (Za rfl (Za rfl (Za rfl (Za rfl (Za rfl (Za rfl (Za rfl (Za rfl (Za rfl (Za rfl (Za rfl (Za rfl (Za rfl (Za rfl (Za rfl (Za rfl (Za rfl (Za rfl (Za rfl (Za rfl (Za rfl (Za rfl (Za rfl (Za rfl (Za rfl (Za rfl (Za rfl (Za rfl (Za rfl (Za rfl (Za rfl (Za rfl (Za rfl (Za rfl (Za rfl (Za rfl (Z3k))))))))))))))))))))))))))))))))))))))
   ·refine Zo 30 (.bool false) (congrArg Value.bool b23) ?_
    refine Z0y rfl ?_
    refine Z5m ?_
    refine Z26 ?_
    refine Z2g ?_
    refine Z3p ?_
    refine Zw ?_
    refine Zb ?_
    refine Zt ?_
    refine Z6 (Z5 rfl) (d := 13) (v := (.int .i64 ((i : Int)))) rfl (by kernel_rfl) ?_
    refine Z6 (Z5 rfl) (d := 14) (v := (.int .i64 ((i : Int) + 1))) rfl (Z0I (z := (i : Int) + 1) (by kernel_rfl) (IntWalk.i64_in _ (by omega))) ?_
    refine Z6 (Z5 rfl) (d := 6) (v := (.int .i64 ((i : Int) + 1))) rfl (by kernel_rfl) ?_
    refine Zu ?_
    have hs2 : Srt ltU a (i + 1) C := by
     exact hI.stop hw (by omega) (by omega) h18 h20 b23
    refine ZE ?_ _ ⟨(i + 1), C, (show ((.int .i64 ((i : Int) + 1)) : Value) = _ by first | rfl | go_num), (by omega), hlC, hS2, hs2, H22, rfl⟩ (by omega)
    exact (Za rfl (Za rfl (Za rfl (Za rfl (Za rfl (Za rfl (Za rfl (Za rfl (Za rfl (Za rfl (Za rfl (Za rfl (Za rfl (Za rfl (Za rfl (Za rfl (Za rfl (Za rfl (Za rfl (Za rfl (Za rfl (Z4u rfl (Za rfl (Za rfl (Za rfl (Za rfl (Za rfl (Za rfl (Za rfl (Z3k))))))))))))))))))))))))))))))
  ·have g35 := of_decide_eq_false b14
   refine Z17 19 (.bool false) (congrArg Value.bool b14) ?_
   have g36 := of_decide_eq_false b14
   refine Z2v (Z0Q 3 19 true rfl (by kernel_rfl) rfl (by kernel_rfl)) rfl ?_
   refine Z2v (Z0Q 3 19 true rfl (by kernel_rfl) rfl (by kernel_rfl)) rfl ?_
   refine Z2v (Z0Q 3 19 true rfl (by kernel_rfl) rfl (by kernel_rfl)) rfl ?_
   refine Z2v (Z0Q 3 19 true rfl (by kernel_rfl) rfl (by kernel_rfl)) rfl ?_
   refine Z2v (Z0Q 3 19 true rfl (by kernel_rfl) rfl (by kernel_rfl)) rfl ?_
   refine Z2v (Z0Q 3 19 true rfl (by kernel_rfl) rfl (by kernel_rfl)) rfl ?_
   refine Z2v (Z0Q 3 19 true rfl (by kernel_rfl) rfl (by kernel_rfl)) rfl ?_
   refine Z2v (Z0Q 3 19 true rfl (by kernel_rfl) rfl (by kernel_rfl)) rfl ?_
   refine Z2v (Z0Q 3 19 true rfl (by kernel_rfl) rfl (by kernel_rfl)) rfl ?_
   refine Z2v (Z0Q 3 19 true rfl (by kernel_rfl) rfl (by kernel_rfl)) rfl ?_
   refine Z1B (Z5 rfl) (d := 30) (v := (.bool false)) rfl (fun _ H' => (by kernel_rfl)) ?_
   refine Z1A ?_
   intro w37 H38
   refine Zb ?_
   refine Z0y rfl ?_
   refine Z5m ?_
   refine Z26 ?_
   refine Z2g ?_
   refine Z3p ?_
   refine Zw ?_
   refine Zb ?_
   refine Zt ?_
   refine Z6 (Z5 rfl) (d := 13) (v := (.int .i64 ((i : Int)))) rfl (by kernel_rfl) ?_
   refine Z6 (Z5 rfl) (d := 14) (v := (.int .i64 ((i : Int) + 1))) rfl (Z0I (z := (i : Int) + 1) (by kernel_rfl) (IntWalk.i64_in _ (by omega))) ?_
   refine Z6 (Z5 rfl) (d := 6) (v := (.int .i64 ((i : Int) + 1))) rfl (by kernel_rfl) ?_
   refine Zu ?_
   have hs2 : Srt ltU a (i + 1) C := by
    obtain rfl : j = a := by omega
    exact hI.low
   refine ZE ?_ _ ⟨(i + 1), C, (show ((.int .i64 ((i : Int) + 1)) : Value) = _ by first | rfl | go_num), (by omega), hlC, hS2, hs2, H38, rfl⟩ (by omega)
   exact (Za rfl (Za rfl (Za rfl (Za rfl (Za rfl (Za rfl (Za rfl (Za rfl (Za rfl (Za rfl (Za rfl (Za rfl (Za rfl (Za rfl (Za rfl (Za rfl (Za rfl (Za rfl (Za rfl (Za rfl (Z4u rfl (Za rfl (Za rfl (Za rfl (Za rfl (Za rfl (Za rfl (Za rfl (Z3k)))))))))))))))))))))))))))))
 ·have g39 := of_decide_eq_false b6
  refine Zo 12 (.bool false) (congrArg Value.bool b6) ?_
  have g40 := of_decide_eq_false b6
  refine Z0y rfl ?_
  refine Z5m ?_
  refine Z26 ?_
  refine Z2g ?_
  refine Z3p ?_
  refine Z0D ?_
  refine Z7a rfl  ?_
  exact ⟨B, rfl, hlB, hS, hs.sub (Nat.le_refl _) (by omega), H3⟩
end Go.Proofs.YtgigjkjdmalmaaaGreat

namespace Go.Proofs.YtgigjkjdmalmaaaGreat
open Go.RowKit
theorem Z9X (w : World) (g n c : Nat) (lim : Int) (A : List Int) (hT : (Z1U g n c A).ok w) (hn12 : n ≤ 12) :
  Calls Tryz.prog 151 #[(.slice (some ⟨g, 0, none⟩) n c), (.int .i64 (0)), (.int .i64 ((n : Int))), (.int .i64 (lim))] w fun e w' => ∃ B : List Int, e = .returned (.tuple #[]) ∧ B.length = n ∧ B.Perm A ∧ Srt ltU 0 B.length B ∧ Sat w [Z1U g n c B, Z7 w (Z1U g n c A).fp] w' := by
 have H : Sat w [Z1U g n c A, Z7 w (Z1U g n c A).fp] w := Sat.start1 hT
 have hl := Z67 hT
 have hw := swU
 have hn : n ≤ 1000000000000 := by omega
 refine Zg Tryz.func151 rfl 134 rfl (Nat.le_of_ble_eq_true rfl) ?_
 refine Zf ?_
 refine Zt ?_
 refine Z6 (Z5 rfl) (d := 8) (v := (.bool true)) rfl (by kernel_rfl) ?_
 refine Zu ?_
 refine Zb ?_
 refine Zf ?_
 refine Zt ?_
 refine Z6 (Z5 rfl) (d := 9) (v := (.bool true)) rfl (by kernel_rfl) ?_
 refine Zu ?_
 refine Zb ?_
 refine ZA ?_
 refine ZW [1, 2, 3, 8, 9, 10, 11, 12, 13, 14, 15, 16, 17, 18, 19, 20, 21, 22, 23, 24, 25, 26, 27, 28, 29, 30, 31, 32, 33, 34, 35, 36, 37, 38, 39, 40, 41, 42, 43, 44, 45, 46, 47, 48, 49, 50, 51, 52, 53, 54, 55, 56, 57, 58, 59, 60, 61, 62, 63, 64, 65, 66, 67, 68, 69, 70, 71, 72, 73, 74, 75, 76, 77, 78, 79, 80, 81, 82, 83, 84, 85, 86, 87, 88, 89, 90, 91, 92, 93, 94, 95, 96, 97, 98, 99, 100, 101, 102, 103, 104, 105, 106, 107, 108, 109, 110, 111, 112, 113, 114, 115, 116, 117, 118, 119, 120, 121, 122, 123, 124, 125, 126, 127, 128, 129, 130, 131, 132, 133] (fun F_ W_ m_ => ∃ (z_ : Nat), F_ 1 = (.int .i64 (0)) ∧ F_ 2 = (.int .i64 ((n : Int))) ∧ F_ 3 = (.int .i64 (lim)) ∧ F_ 8 = (.bool true) ∧ F_ 9 = (.bool true) ∧ (True) ∧ Sat w [Z1U g n c A, Z7 w (Z1U g n c A).fp] W_ ∧ m_ = z_) _ ⟨0, (show ((.int .i64 (0)) : Value) = _ by first | rfl | go_num), (show ((.int .i64 ((n : Int))) : Value) = _ by first | rfl | go_num), (show ((.int .i64 (lim)) : Value) = _ by first | rfl | go_num), (by first | rfl | go_num), (by first | rfl | go_num), trivial, H, rfl⟩ ?_
 rintro g1 w2 _ ⟨z_, v4, v5, v6, v7, v8, ht_, H3, rfl⟩
 refine Zo 1 _ v4 ?_
 refine Zo 2 _ v5 ?_
 refine Zo 3 _ v6 ?_
 refine Zo 8 _ v7 ?_
 refine Zo 9 _ v8 ?_
 refine ZA ?_
 refine Zf ?_
 refine Zt ?_
 refine Z6 (Z5 rfl) (d := 19) (v := (.int .i64 ((n : Int)))) rfl (by kernel_rfl) ?_
 refine Z6 (Z5 rfl) (d := 20) (v := (.int .i64 (0))) rfl (by kernel_rfl) ?_
 refine Z6 (Z5 rfl) (d := 21) (v := (.int .i64 ((n : Int) - 0))) rfl (Z0I (z := (n : Int) - 0) (by kernel_rfl) (IntWalk.i64_in _ (by omega))) ?_
 refine Z6 (Z5 rfl) (d := 10) (v := (.int .i64 ((n : Int) - 0))) rfl (by kernel_rfl) ?_
 refine Zu ?_
 refine Zb ?_
 refine Zf ?_
 refine Zf ?_
 refine Zt ?_
 refine Z6 (Z5 rfl) (d := 22) (v := (.int .i64 ((n : Int) - 0))) rfl (by kernel_rfl) ?_
 refine Z6 (Z5 rfl) (d := 23) (v := (.bool (decide (((n : Int) - 0) ≤ 12)))) rfl (by kernel_rfl) ?_
 refine Zu ?_
 refine Zb ?_
 have b10 : (decide (((n : Int) - 0) ≤ 12)) = true := by exact decide_eq_true (by omega)
 refine Zo 23 (.bool true) (congrArg Value.bool b10) ?_
 have g11 := of_decide_eq_true b10
 refine Z0R rfl ?_
 refine Zf ?_
 refine Zt ?_
 refine Z6 (Z5 rfl) (d := 24) (v := (.slice (some ⟨g, 0, none⟩) n c)) rfl (by kernel_rfl) ?_
 refine Z6 (Z5 rfl) (d := 25) (v := (.int .i64 (0))) rfl (by kernel_rfl) ?_
 refine Z6 (Z5 rfl) (d := 26) (v := (.int .i64 ((n : Int)))) rfl (by kernel_rfl) ?_
 refine Z0B (Z5 rfl) (fun K12 hK12 => ?_)
 refine Z0L (d := 27) rfl (by kernel_rfl) (Z4O w2 g n c 0 n A (H3.at 0 rfl) hn (by omega)) ?_
 rintro _ w14 ⟨B13, rfl, l15, S16, h18, T17⟩
 have H20 : Sat w [Z1U g n c B13, Z7 w (Z1U g n c A).fp] w14 := (Sat.turn1 (L' := [Z1U g n c B13]) (R := [Z7 w (Z1U g n c A).fp]) H3 0 [1] (by decide) rfl rfl T17).pick [0, 1] (by decide)
 refine ⟨_, rfl, ?_⟩
 refine hK12 _ _ ?_
 clear hK12 K12
 refine Zu ?_
 refine Zb ?_
 refine Zz ?_
 refine ZY ?_
 refine Z27 ?_
 refine Zao ?_
 refine Z27 ?_
 refine Z7a rfl  ?_
 exact ⟨B13, rfl, l15, S16.perm, by have q := h18; rw [← l15] at q; exact q, H20⟩
theorem Z8V (w : World) (x : Int) (hx : 0 ≤ x ∧ x ≤ 18446744073709551615) : Calls Tryz.prog 102 #[.int .u64 x] w fun e w' => e = .returned (.int .i64 (Lib.bitLen x.toNat)) ∧ Upd [] w w' :=
 (Go.Proofs.Any.bits_Len bitsL x w hx.1 hx.2).mono fun _ _ ⟨he, hw⟩ => ⟨he, hw ▸ Upd.refl _ _⟩
theorem Z8F (w : World) (g n c : Nat) (A : List Int) (hT : (Z1U g n c A).ok w) (hn : n ≤ 12) :
  Calls Tryz.prog 136 #[(.slice (some ⟨g, 0, none⟩) n c)] w fun e w' => ∃ B : List Int, e = .returned (.tuple #[]) ∧ B.length = n ∧ B.Perm A ∧ Srt ltU 0 B.length B ∧ Sat w [Z1U g n c B, Z7 w (Z1U g n c A).fp] w' := by
 have H : Sat w [Z1U g n c A, Z7 w (Z1U g n c A).fp] w := Sat.start1 hT
 have hl := Z67 hT
 have hw := swU
 refine Zg Tryz.func136 rfl 11 rfl (Nat.le_of_ble_eq_true rfl) ?_
 refine Zf ?_
 refine Zt ?_
 refine Z6 (Z5 rfl) (d := 3) (v := (.slice (some ⟨g, 0, none⟩) n c)) rfl (by kernel_rfl) ?_
 refine Z6 (Z5 rfl) (d := 4) (v := (.int .i64 ((n : Int)))) rfl (by kernel_rfl) ?_
 refine Z6 (Z5 rfl) (d := 2) (v := (.int .i64 ((n : Int)))) rfl (by kernel_rfl) ?_
 refine Zu ?_
 refine Zb ?_
 refine Zt ?_
 refine Z6 (Z5 rfl) (d := 5) (v := (.slice (some ⟨g, 0, none⟩) n c)) rfl (by kernel_rfl) ?_
 refine Z6 (Z5 rfl) (d := 6) (v := (.int .i64 ((n : Int)))) rfl (by kernel_rfl) ?_
 refine Z6 (Z5 rfl) (d := 7) (v := (.int .i64 ((n : Int)))) rfl (by kernel_rfl) ?_
 refine Z6 (Z5 rfl) (d := 8) (v := (.int .u64 ((n : Int)))) rfl (Z0I (z := (n : Int)) (by kernel_rfl) (Z3o (by omega))) ?_
 refine Z0B (Z5 rfl) (fun K1 hK1 => ?_)
 refine Z0L (d := 9) rfl (by kernel_rfl) (Z8V w (n : Int) (by omega)) ?_
 rintro _ w2 ⟨rfl, u4⟩
 have H3 := H.keepU u4
 refine ⟨_, rfl, ?_⟩
 refine hK1 _ _ ?_
 clear hK1 K1
 refine Z0B (Z5 rfl) (fun K5 hK5 => ?_)
 refine Z0L (d := 10) rfl (by kernel_rfl) (Z9X w2 g n c (Lib.bitLen (n : Int).toNat : Int) A (H3.at 0 rfl) hn) ?_
 rintro _ w7 ⟨B6, rfl, l8, S9, s10, T11⟩
 have H12 : Sat w [Z1U g n c B6, Z7 w (Z1U g n c A).fp] w7 := Sat.turn1 (L' := [Z1U g n c B6]) (R := [Z7 w (Z1U g n c A).fp]) H3 0 [1] (by decide) rfl rfl T11
 refine ⟨_, rfl, ?_⟩
 refine hK5 _ _ ?_
 clear hK5 K5
 refine Zu ?_
 refine Z0D ?_
 refine Z7a rfl  ?_
 exact ⟨B6, rfl, l8, S9, s10, H12⟩
end Go.Proofs.YtgigjkjdmalmaaaGreat
