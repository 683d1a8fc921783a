/- WHAT IS PROVED: contracts and plain laws of SortUA, Laid12, SortUS. Conditions: stated with each. -/
import Derived.Shelf.SlSortCmp.SmallK
import Derived.Shelf.Small.Bits
import Derived.Test.YtoaifondpohniaaGreatPR04
import Derived.Test.YtoaifondpohniaaGreatPR05
import Derived.Test.YtoaifondpohniaaGreatPR11
set_option maxHeartbeats 4000000
set_option maxRecDepth 100000
namespace Go.Proofs.YtoaifondpohniaaGreat
open Go.RowKit
theorem Zbu (w : World) (x : Int) :
  Calls Tryz.prog 157 #[(.int .u64 (x))] w fun e w' => e = .returned (.bool false) ∧ Upd [] w w' := by
 have H := Sat.start0 w
 refine Zp Tryz.func157 rfl 6 rfl (Nat.le_of_ble_eq_true rfl) ?_
 apply zsl
 refine wv 2 (.bool false) ?_
 apply Z1y
 refine wv 3 (.int .u64 (x)) ?_
 refine wv 4 (.int .u64 (x)) ?_
 refine wv 5 (.bool (!(decide (x = x)))) ?_
 refine wv 2 (.bool (!(decide (x = x)))) ?_
 apply znt
 apply ZA
 refine ze1 (.bool (!(decide (x = x)))) ?_
 exact ⟨by simp, H.upd 0 rfl [] (fun _ h => h.elim)⟩
theorem Zap (w : World) (x y : Int) :
  Calls Tryz.prog 150 #[(.int .u64 (x)), (.int .u64 (y))] w fun e w' => e = .returned (.bool (ltU x y)) ∧ Upd [] w w' := by
 have H := Sat.start0 w
 refine Zp Tryz.func150 rfl 17 rfl (Nat.le_of_ble_eq_true rfl) ?_
 apply zsl
 refine wv 4 (.bool false) ?_
 apply Z1y
 refine wv 5 (.int .u64 (x)) ?_
 refine zwd fun Kq kq => ?_
 refine zdq 6 (Zbu w x) H ?_
 intro w2 H3
 refine kq _ _ ?_
 clear kq Kq
 refine wv 7 (.bool false) ?_
 iterate 3 refine wn 2 7 true ?_
 refine wv 11 (.bool false) ?_
 refine wv 12 (.bool false) ?_
 refine wy 7 12 false 13 (.int .u64 (x)) ?_
 refine wy 7 12 false 14 (.int .u64 (y)) ?_
 refine wy 7 12 false 15 (.bool (decide (x < y))) ?_
 refine wv 16 (.bool (decide (x < y))) ?_
 refine wv 4 (.bool (decide (x < y))) ?_
 apply znt
 apply ZA
 refine ze1 (.bool (decide (x < y))) ?_
 exact ⟨rfl, H3.upd 0 rfl [] (fun _ h => h.elim)⟩
theorem Z64 (w : World) (g n c a b : Nat) (A : List Int) (hT : (Z3k g n c A).ok w) (hn : n ≤ 1000000000000) (hab : a ≤ b ∧ b ≤ n) :
  Calls Tryz.prog 144 #[(.slice (some ⟨g, 0, none⟩) n c), (.int .i64 ((a : Int))), (.int .i64 ((b : Int)))] w fun e w' => ∃ B : List Int, e = .returned (.tuple #[]) ∧ B.length = n ∧ SegP a b A B ∧ Srt ltU a b B ∧ Sat w [Z3k g n c B, Z6 w (Z3k g n c A).fp] w' := by
 have H := Sat.start1 hT
 have hl := Z70 hT
 have hw := swU
 refine Zp Tryz.func144 rfl 49 rfl (Nat.le_of_ble_eq_true rfl) ?_
 apply zsl
 refine wv 8 (.int .i64 ((a : Int))) ?_
 refine zwi 9 ((a : Int) + 1) ?_
 refine wv 6 (.int .i64 ((a : Int) + 1)) ?_
 apply znt
 apply ZG
 refine Z02 ([6, 7] ++ List.range' 10 39) (fun F_ W_ m_ => ∃ (i : Nat) (B : List Int), F_ 6 = (.int .i64 ((i : Int))) ∧ (a + 1 ≤ i ∧ (i ≤ b ∨ i = a + 1)) ∧ (B.length = n) ∧ (SegP a b A B) ∧ (Srt ltU a i B) ∧ Sat w [Z3k g n c B, Z6 w (Z3k g n c A).fp] W_ ∧ m_ = b - i) _ ⟨(a + 1), A, (show ((.int .i64 ((a : Int) + 1)) : Value) = _ by first | rfl | go_num), (by omega), hl, .refl, (Srt.short (by omega)), H, rfl⟩ ?_
 rintro g1 w2 _ ⟨i, B, v4, hi, hlB, hS, hs, H3, rfl⟩
 refine ZF 6 _ v4 ?_
 apply Zt
 apply zsl
 refine wv 10 (.int .i64 ((i : Int))) ?_
 refine wv 11 (.int .i64 ((b : Int))) ?_
 refine wv 12 (.bool (decide ((i : Int) < (b : Int)))) ?_
 apply znt
 refine (Zl (decide ((i : Int) < (b : Int)))).elim (fun b6 => ?_) (fun b6 => ?_)
 ·have g7 := of_decide_eq_true b6
  refine Z1o _ b6 ?_
  apply ZL
  apply ztn
  apply Zt
  apply ZG
  apply zsl
  refine wv 15 (.int .i64 ((i : Int))) ?_
  refine wv 7 (.int .i64 ((i : Int))) ?_
  apply znt
  apply ZG
  refine Z02 ([7] ++ List.range' 16 33) (fun F_ W_ m_ => ∃ (j : Nat) (C : List Int), F_ 7 = (.int .i64 ((j : Int))) ∧ (a ≤ j ∧ j ≤ i) ∧ (C.length = n) ∧ (SegP a b A C) ∧ (Ins ltU a i j C) ∧ Sat w [Z3k g n c C, Z6 w (Z3k g n c A).fp] W_ ∧ m_ = j + 1) _ ⟨i, B, (show ((.int .i64 ((i : Int))) : Value) = _ by first | rfl | go_num), (by omega), hlB, hS, (Ins.start hs), H3, rfl⟩ ?_
  rintro g9 w10 _ ⟨j, C, v12, hj, hlC, hS2, hI, H11, rfl⟩
  refine ZF 7 _ v12 ?_
  apply Zt
  apply Zt
  refine zqs H11 ?_
  refine qv 16 (.int .i64 ((j : Int))) ?_
  refine qv 17 (.int .i64 ((a : Int))) ?_
  refine qv 18 (.bool (decide ((j : Int) > (a : Int)))) ?_
  refine qv 19 (.bool (decide ((j : Int) > (a : Int)))) ?_
  refine (Zl (decide ((j : Int) > (a : Int)))).elim (fun b14 => ?_) (fun b14 => ?_)
  ·have g15 := of_decide_eq_true b14
   refine Z0k 19 (.bool true) (congrArg Value.bool b14) ?_
   refine qy 3 19 true 20 (.slice (some ⟨g, 0, none⟩) n c) ?_
   refine qy 3 19 true 21 (.int .i64 ((j : Int))) ?_
   refine qy 3 19 true 22 (.pointer (some ⟨g, 0 + ((j : Int)).toNat * 1, none⟩)) ?_ (hr := fun _ H' => (Z0r (E := 27) (by kernel_rfl) (by kernel_rfl) (Nat.le_of_ble_eq_true rfl) rfl rfl (by omega) (by omega)))
   obtain ⟨x17, h18⟩ := Z2j (show j < C.length by omega)
   refine qy 3 19 true 23 (.int .u64 (x17)) ?_ (hr := fun _ H' => (Z2 rfl (by kernel_rfl) (Z4y (H'.at 0 rfl) h18 (show 0 + ((j : Int)).toNat * 1 = j by omega))))
   refine qy 3 19 true 24 (.slice (some ⟨g, 0, none⟩) n c) ?_
   refine qy 3 19 true 25 (.int .i64 ((j : Int))) ?_
   refine qy 3 19 true 26 (.int .i64 ((j : Int) - 1)) ?_ (hr := fun _ H' => (Z0I (z := (j : Int) - 1) (by kernel_rfl) (IntWalk.i64_in _ (by omega))))
   refine qy 3 19 true 27 (.pointer (some ⟨g, 0 + ((j : Int) - 1).toNat * 1, none⟩)) ?_ (hr := fun _ H' => (Z0r (E := 27) (by kernel_rfl) (by kernel_rfl) (Nat.le_of_ble_eq_true rfl) rfl rfl (by omega) (by omega)))
   obtain ⟨x19, h20⟩ := Z2j (show (j - 1) < C.length by omega)
   refine qy 3 19 true 28 (.int .u64 (x19)) ?_ (hr := fun _ H' => (Z2 rfl (by kernel_rfl) (Z4y (H'.at 0 rfl) h20 (show 0 + ((j : Int) - 1).toNat * 1 = (j - 1) by omega))))
   refine Z0B (Z01 3 19 true rfl (by kernel_rfl) rfl (by kernel_rfl)) (d := 29) (v := (.bool (ltU x17 x19))) rfl (fun _ _ => by kernel_rfl) (fun w' H' => (Zap w' x17 x19).mono fun _ _ h => ⟨h.1, H'.keepU h.2⟩) ?_
   refine qv 30 (.bool (ltU x17 x19)) ?_
   refine Z0S ?_
   intro w21 H22
   apply ztn
   refine (Zl (ltU x17 x19)).elim (fun b23 => ?_) (fun b23 => ?_)
   ·refine Z1o _ b23 ?_
    apply ZL
    apply ztn
    apply Zt
    apply ZG
    refine Z1k H22 [Z3k g n c C, Z6 w (Z3k g n c A).fp] [15, 17] 18 rfl (by kernel_rfl) (fun Hx => (Hx.pk [0, 1])) ?_
    intro w24 H25 S26
    refine zkp 0 S26 33 (.slice (some ⟨g, 0, none⟩) n c) ?_
    refine zkp 1 S26 34 (.int .i64 ((j : Int))) ?_
    refine zkp 2 S26 35 (.slice (some ⟨g, 0, none⟩) n c) ?_
    refine zkp 3 S26 36 (.int .i64 ((j : Int))) ?_
    refine zkp 4 S26 37 (.int .i64 ((j : Int) - 1)) ?_ (he := fun _ => (Z0I (z := (j : Int) - 1) (by kernel_rfl) (IntWalk.i64_in _ (by omega))))
    refine zkp 5 S26 38 (.slice (some ⟨g, 0, none⟩) n c) ?_
    refine zkp 6 S26 39 (.int .i64 ((j : Int))) ?_
    refine zkp 7 S26 40 (.int .i64 ((j : Int) - 1)) ?_ (he := fun _ => (Z0I (z := (j : Int) - 1) (by kernel_rfl) (IntWalk.i64_in _ (by omega))))
    refine zkp 8 S26 41 (.pointer (some ⟨g, 0 + ((j : Int) - 1).toNat * 1, none⟩)) ?_ (he := fun _ => (Z0r (E := 27) (by kernel_rfl) (by kernel_rfl) (Nat.le_of_ble_eq_true rfl) rfl rfl (by omega) (by omega)))
    refine zkv 9 S26 42 (.int .u64 (x19)) ?_ (he := fun _ H' => (Z2 rfl (by kernel_rfl) (Z4y (H'.at 0 rfl) h20 (show 0 + ((j : Int) - 1).toNat * 1 = (j - 1) by omega))))
    refine zkp 10 S26 43 (.slice (some ⟨g, 0, none⟩) n c) ?_
    refine zkp 11 S26 44 (.int .i64 ((j : Int))) ?_
    refine zkp 12 S26 45 (.pointer (some ⟨g, 0 + ((j : Int)).toNat * 1, none⟩)) ?_ (he := fun _ => (Z0r (E := 27) (by kernel_rfl) (by kernel_rfl) (Nat.le_of_ble_eq_true rfl) rfl rfl (by omega) (by omega)))
    refine zkv 13 S26 46 (.int .u64 (x17)) ?_ (he := fun _ H' => (Z2 rfl (by kernel_rfl) (Z4y (H'.at 0 rfl) h18 (show 0 + ((j : Int)).toNat * 1 = j by omega))))
    refine zkp 14 S26 47 (.pointer (some ⟨g, 0 + ((j : Int)).toNat * 1, none⟩)) ?_ (he := fun _ => (Z0r (E := 27) (by kernel_rfl) (by kernel_rfl) (Nat.le_of_ble_eq_true rfl) rfl rfl (by omega) (by omega)))
    refine Z30 15 (Sat w [Z6 w (Z3k g n c A).fp]) rfl (by kernel_rfl) (Zs rfl) rfl (fun Kq kq => ?_)
    refine Z8K rfl H25 0 rfl rfl rfl (by kernel_rfl) (show 0 + ((j : Int)).toNat * 1 = j by omega) (by omega) ?_
    intro w28 H29
    have hlH29 : (C.set j x19).length = C.length := List.length_set
    have S30 := H29.pk [1]
    refine kq _ _ S30 ?_
    clear kq Kq
    refine hv0 16 S30 48 (.pointer (some ⟨g, 0 + ((j : Int) - 1).toNat * 1, none⟩)) ?_ (he := fun _ H' => (Z0r (E := 27) (by kernel_rfl) (by kernel_rfl) (Nat.le_of_ble_eq_true rfl) rfl rfl (by omega) (by omega)))
    refine Z09 17 fun Kq kq => ?_
    refine Z8K rfl H29 0 rfl rfl rfl (by kernel_rfl) (show 0 + ((j : Int) - 1).toNat * 1 = (j - 1) by omega) (by omega) ?_
    intro w32 (H33 : Sat w [Z3k g n c ((C.set j x19).set (j - 1) x17), Z6 w (Z3k g n c A).fp] w32)
    have hlH33 : ((C.set j x19).set (j - 1) x17).length = (C.set j x19).length := List.length_set
    have S34 := H33.pk [1]
    refine kq _ _ S34 ?_
    clear kq Kq
    refine zhf ?_
    apply Zq
    apply ztn
    apply ZU
    refine wv 31 (.int .i64 ((j : Int))) ?_
    refine zwi 32 ((j : Int) - 1) ?_
    refine wv 7 (.int .i64 ((j : Int) - 1)) ?_
    apply ZQ
    refine Zw ?_ _ ⟨(j - 1), ((C.set j x19).set (j - 1) x17), (show ((.int .i64 ((j : Int) - 1)) : Value) = _ by first | rfl | go_num), (by omega), (by omega), (hS2.swap (by omega) (by omega) (by omega) (by omega) h18 h20), (hI.step hw (by omega) (by omega) h18 h20 b23), H33, rfl⟩ (by omega)
    exact zs
   refine Z18 _ b23 ?_
   apply zxb
   apply Zq
   apply ztn
   apply ZU
   refine wv 13 (.int .i64 ((i : Int))) ?_
   refine zwi 14 ((i : Int) + 1) ?_
   refine wv 6 (.int .i64 ((i : Int) + 1)) ?_
   apply ZQ
   have hs2 : Srt ltU a (i + 1) C := by
    exact hI.stop hw (by omega) (by omega) h18 h20 b23
   refine Zw ?_ _ ⟨(i + 1), C, rfl, (by omega), hlC, hS2, hs2, H22, rfl⟩ (by omega)
   exact zs
  have g35 := of_decide_eq_false b14
  refine Z0k 19 (.bool false) (congrArg Value.bool b14) ?_
  iterate 10 refine qn 3 19 true ?_
  refine qv 30 (.bool false) ?_
  refine Z0S ?_
  intro w37 H38
  apply ztn
  refine Z3m rfl ?_
  apply zxb
  apply Zq
  apply ztn
  apply ZU
  refine wv 13 (.int .i64 ((i : Int))) ?_
  refine zwi 14 ((i : Int) + 1) ?_
  refine wv 6 (.int .i64 ((i : Int) + 1)) ?_
  apply ZQ
  have hs2 : Srt ltU a (i + 1) C := by
   obtain rfl : j = a := by omega
   exact hI.low
  refine Zw ?_ _ ⟨(i + 1), C, rfl, (by omega), hlC, hS2, hs2, H38, rfl⟩ (by omega)
  exact zs
 have g39 := of_decide_eq_false b6
 refine Z18 _ b6 ?_
 apply zxb
 refine Z1C ?_
 refine ZaX rfl  ?_
 exact ⟨B, rfl, hlB, hS, hs.sub (Nat.le_refl _) (by omega), H3⟩
end Go.Proofs.YtoaifondpohniaaGreat
namespace Go.Proofs.YtoaifondpohniaaGreat
open Go.RowKit Go.Shelf
def ZaS : Go.Shelf.Ren := ⟨fun | 6 => 97 | 15 => 119 | 14 => 118 | 28 => 135 | 29 => 136 | 20 => 127 | 21 => 128 | 22 => 129 | 23 => 130 | 24 => 131 | 25 => 132 | 26 => 133 | 27 => 134 | 46 => 139 | 47 => 140 | 48 => 141 | 49 => 142 | 50 => 143 | 57 => 153 | n => n, fun | 22 => 125 | 24 => 24 | 25 => 116 | 3 => 3 | 39 => 175 | 0 => 0 | 53 => 186 | 55 => 27 | 4 => 4 | 46 => 195 | 45 => 194 | 50 => 199 | 5 => 5 | 9 => 9 | 66 => 205 | 70 => 209 | 76 => 217 | 77 => 218 | n => n, fun | n => n⟩
theorem sortL : Go.Proofs.SlLaysF0.n6 Tryz.prog ZaS := {
 mixed := by kernel_rfl,
 f6 := ⟨Tryz.f97.name, by decide, Tryz.func97.trans (congrArg some (by kernel_rfl))⟩,
 f14 := ⟨Tryz.f118.name, by decide, Tryz.func118.trans (congrArg some (by kernel_rfl))⟩,
 f15 := Tryz.func119.trans (congrArg some (by kernel_rfl)),
 f20 := ⟨Tryz.f127.name, by decide, Tryz.func127.trans (congrArg some (by kernel_rfl))⟩,
 f21 := ⟨Tryz.f128.name, by decide, Tryz.func128.trans (congrArg some (by kernel_rfl))⟩,
 f22 := ⟨Tryz.f129.name, by decide, Tryz.func129.trans (congrArg some (by kernel_rfl))⟩,
 f23 := ⟨Tryz.f130.name, by decide, Tryz.func130.trans (congrArg some (by kernel_rfl))⟩,
 f24 := ⟨Tryz.f131.name, by decide, Tryz.func131.trans (congrArg some (by kernel_rfl))⟩,
 f25 := ⟨Tryz.f132.name, by decide, Tryz.func132.trans (congrArg some (by kernel_rfl))⟩,
 f26 := ⟨Tryz.f133.name, by decide, Tryz.func133.trans (congrArg some (by kernel_rfl))⟩,
 f27 := ⟨Tryz.f134.name, by decide, Tryz.func134.trans (congrArg some (by kernel_rfl))⟩,
 f28 := Tryz.func135.trans (congrArg some (by kernel_rfl)),
 f29 := Tryz.func136.trans (congrArg some (by kernel_rfl)),
 f46 := ⟨Tryz.f139.name, by decide, Tryz.func139.trans (congrArg some (by kernel_rfl))⟩,
 f47 := Tryz.func140.trans (congrArg some (by kernel_rfl)),
 f48 := Tryz.func141.trans (congrArg some (by kernel_rfl)),
 f49 := ⟨Tryz.f142.name, by decide, Tryz.func142.trans (congrArg some (by kernel_rfl))⟩,
 f50 := ⟨Tryz.f143.name, by decide, Tryz.func143.trans (congrArg some (by kernel_rfl))⟩,
 f57 := ⟨Tryz.f153.name, by decide, Tryz.func153.trans (congrArg some (by kernel_rfl))⟩,
 t0 := Tryz.underlying0,
 a0 := Tryz.isAgg0,
 z0 := Tryz.sizeOf0,
 v0 := Tryz.zeroValue0,
 t3 := Tryz.underlying3,
 a3 := Tryz.isAgg3,
 z3 := Tryz.sizeOf3,
 v3 := Tryz.zeroValue3,
 t4 := Tryz.underlying4,
 a4 := Tryz.isAgg4,
 z4 := Tryz.sizeOf4,
 v4 := Tryz.zeroValue4,
 t5 := Tryz.underlying5,
 a5 := Tryz.isAgg5,
 z5 := Tryz.sizeOf5,
 v5 := Tryz.zeroValue5,
 t9 := Tryz.underlying9,
 a9 := Tryz.isAgg9,
 z9 := Tryz.sizeOf9,
 v9 := Tryz.zeroValue9,
 t22 := Tryz.underlying125,
 a22 := Tryz.isAgg125,
 z22 := Tryz.sizeOf125,
 v22 := Tryz.zeroValue125,
 t25 := Tryz.underlying116,
 a25 := Tryz.isAgg116,
 z25 := Tryz.sizeOf116,
 v25 := Tryz.zeroValue116,
 t39 := Tryz.underlying175,
 a39 := Tryz.isAgg175,
 z39 := Tryz.sizeOf175,
 v39 := Tryz.zeroValue175,
 t45 := Tryz.underlying194,
 a45 := Tryz.isAgg194,
 z45 := Tryz.sizeOf194,
 v45 := Tryz.zeroValue194,
 t46 := Tryz.underlying195,
 a46 := Tryz.isAgg195,
 z46 := Tryz.sizeOf195,
 v46 := Tryz.zeroValue195,
 t50 := Tryz.underlying199,
 a50 := Tryz.isAgg199,
 z50 := Tryz.sizeOf199,
 v50 := Tryz.zeroValue199,
 t53 := Tryz.underlying186,
 a53 := Tryz.isAgg186,
 z53 := Tryz.sizeOf186,
 v53 := Tryz.zeroValue186,
 t55 := Tryz.underlying27,
 a55 := Tryz.isAgg27,
 z55 := Tryz.sizeOf27,
 v55 := Tryz.zeroValue27,
 t66 := Tryz.underlying205,
 a66 := Tryz.isAgg205,
 z66 := Tryz.sizeOf205,
 v66 := Tryz.zeroValue205,
 t70 := Tryz.underlying209,
 a70 := Tryz.isAgg209,
 z70 := Tryz.sizeOf209,
 v70 := Tryz.zeroValue209,
 t76 := Tryz.underlying217,
 a76 := Tryz.isAgg217,
 z76 := Tryz.sizeOf217,
 v76 := Tryz.zeroValue217,
 t77 := Tryz.underlying218,
 a77 := Tryz.isAgg218,
 z77 := Tryz.sizeOf218,
 v77 := Tryz.zeroValue218 }
def Z9K : Go.Shelf.Ren := ⟨fun | 125 => 119 | 128 => 135 | 129 => 136 | n => n, fun | 3 => 3 | 4 => 4 | 5 => 5 | 9 => 9 | 46 => 175 | 51 => 186 | 53 => 27 | n => n, fun | n => n⟩
theorem bitsL : Go.Proofs.Lays.n125 Tryz.prog Z9K := {
 mixed := by kernel_rfl,
 f125 := Tryz.func119.trans (congrArg some (by kernel_rfl)),
 f128 := Tryz.func135.trans (congrArg some (by kernel_rfl)),
 f129 := Tryz.func136.trans (congrArg some (by kernel_rfl)),
 t3 := Tryz.underlying3,
 a3 := Tryz.isAgg3,
 z3 := Tryz.sizeOf3,
 v3 := Tryz.zeroValue3,
 t4 := Tryz.underlying4,
 a4 := Tryz.isAgg4,
 z4 := Tryz.sizeOf4,
 v4 := Tryz.zeroValue4,
 t5 := Tryz.underlying5,
 a5 := Tryz.isAgg5,
 z5 := Tryz.sizeOf5,
 v5 := Tryz.zeroValue5,
 t9 := Tryz.underlying9,
 a9 := Tryz.isAgg9,
 z9 := Tryz.sizeOf9,
 v9 := Tryz.zeroValue9,
 t46 := Tryz.underlying175,
 a46 := Tryz.isAgg175,
 z46 := Tryz.sizeOf175,
 v46 := Tryz.zeroValue175,
 t51 := Tryz.underlying186,
 a51 := Tryz.isAgg186,
 z51 := Tryz.sizeOf186,
 v51 := Tryz.zeroValue186,
 t53 := Tryz.underlying27,
 a53 := Tryz.isAgg27,
 z53 := Tryz.sizeOf27,
 v53 := Tryz.zeroValue27 }
end Go.Proofs.YtoaifondpohniaaGreat
namespace Go.Proofs.YtoaifondpohniaaGreat
open Go.RowKit
theorem ZaD (w : World) (g n c : Nat) (lim : Int) (A : List Int) (hT : (Z3k g n c A).ok w) (hn12 : n ≤ 12) :
  Calls Tryz.prog 138 #[(.slice (some ⟨g, 0, none⟩) n c), (.int .i64 (0)), (.int .i64 ((n : Int))), (.int .i64 (lim))] w fun e w' => ∃ B : List Int, e = .returned (.tuple #[]) ∧ B.length = n ∧ B.Perm A ∧ Srt ltU 0 B.length B ∧ Sat w [Z3k g n c B, Z6 w (Z3k g n c A).fp] w' := by
 have H : Sat w [Z3k g n c A, Z6 w (Z3k g n c A).fp] w := Sat.start1 hT
 have hl := Z70 hT
 have hw := swU
 have hn : n ≤ 1000000000000 := by omega
 refine Zp Tryz.func138 rfl 134 rfl (Nat.le_of_ble_eq_true rfl) ?_
 refine Zt ?_
 refine ZU ?_
 refine ZX (Zs rfl) (d := 8) (v := (.bool true)) rfl (by kernel_rfl) ?_
 refine ZQ ?_
 refine Z0M ?_
 refine Zt ?_
 refine ZU ?_
 refine ZX (Zs rfl) (d := 9) (v := (.bool true)) rfl (by kernel_rfl) ?_
 refine ZQ ?_
 refine Z0M ?_
 refine ZG ?_
 refine Z02 [1, 2, 3, 8, 9, 10, 11, 12, 13, 14, 15, 16, 17, 18, 19, 20, 21, 22, 23, 24, 25, 26, 27, 28, 29, 30, 31, 32, 33, 34, 35, 36, 37, 38, 39, 40, 41, 42, 43, 44, 45, 46, 47, 48, 49, 50, 51, 52, 53, 54, 55, 56, 57, 58, 59, 60, 61, 62, 63, 64, 65, 66, 67, 68, 69, 70, 71, 72, 73, 74, 75, 76, 77, 78, 79, 80, 81, 82, 83, 84, 85, 86, 87, 88, 89, 90, 91, 92, 93, 94, 95, 96, 97, 98, 99, 100, 101, 102, 103, 104, 105, 106, 107, 108, 109, 110, 111, 112, 113, 114, 115, 116, 117, 118, 119, 120, 121, 122, 123, 124, 125, 126, 127, 128, 129, 130, 131, 132, 133] (fun F_ W_ m_ => ∃ (z_ : Nat), F_ 1 = (.int .i64 (0)) ∧ F_ 2 = (.int .i64 ((n : Int))) ∧ F_ 3 = (.int .i64 (lim)) ∧ F_ 8 = (.bool true) ∧ F_ 9 = (.bool true) ∧ (True) ∧ Sat w [Z3k g n c A, Z6 w (Z3k g n c A).fp] W_ ∧ m_ = z_) _ ⟨0, (show ((.int .i64 (0)) : Value) = _ by first | rfl | go_num), (show ((.int .i64 ((n : Int))) : Value) = _ by first | rfl | go_num), (show ((.int .i64 (lim)) : Value) = _ by first | rfl | go_num), (by first | rfl | go_num), (by first | rfl | go_num), trivial, H, rfl⟩ ?_
 rintro g1 w2 _ ⟨z_, v4, v5, v6, v7, v8, ht_, H3, rfl⟩
 refine ZF 1 _ v4 ?_
 refine ZF 2 _ v5 ?_
 refine ZF 3 _ v6 ?_
 refine ZF 8 _ v7 ?_
 refine ZF 9 _ v8 ?_
 refine ZG ?_
 refine Zt ?_
 refine ZU ?_
 refine ZX (Zs rfl) (d := 19) (v := (.int .i64 ((n : Int)))) rfl (by kernel_rfl) ?_
 refine ZX (Zs rfl) (d := 20) (v := (.int .i64 (0))) rfl (by kernel_rfl) ?_
 refine ZX (Zs rfl) (d := 21) (v := (.int .i64 ((n : Int) - 0))) rfl (Z0I (z := (n : Int) - 0) (by kernel_rfl) (IntWalk.i64_in _ (by omega))) ?_
 refine ZX (Zs rfl) (d := 10) (v := (.int .i64 ((n : Int) - 0))) rfl (by kernel_rfl) ?_
 refine ZQ ?_
 refine Z0M ?_
 refine Zt ?_
 refine Zt ?_
 refine ZU ?_
 refine ZX (Zs rfl) (d := 22) (v := (.int .i64 ((n : Int) - 0))) rfl (by kernel_rfl) ?_
 refine ZX (Zs rfl) (d := 23) (v := (.bool (decide (((n : Int) - 0) ≤ 12)))) rfl (by kernel_rfl) ?_
 refine ZQ ?_
 refine Z0M ?_
 have b10 : (decide (((n : Int) - 0) ≤ 12)) = true := by exact decide_eq_true (by omega)
 refine ZF 23 (.bool true) (congrArg Value.bool b10) ?_
 have g11 := of_decide_eq_true b10
 refine Z0P rfl ?_
 refine Zt ?_
 refine ZU ?_
 refine ZX (Zs rfl) (d := 24) (v := (.slice (some ⟨g, 0, none⟩) n c)) rfl (by kernel_rfl) ?_
 refine ZX (Zs rfl) (d := 25) (v := (.int .i64 (0))) rfl (by kernel_rfl) ?_
 refine ZX (Zs rfl) (d := 26) (v := (.int .i64 ((n : Int)))) rfl (by kernel_rfl) ?_
 refine Z5d (Zs rfl) (fun K12 hK12 => ?_)
 refine Z2p (d := 27) rfl (by kernel_rfl) (Z64 w2 g n c 0 n A (H3.at 0 rfl) hn (by omega)) ?_
 rintro _ w14 ⟨B13, rfl, l15, S16, h18, T17⟩
 have H20 : Sat w [Z3k g n c B13, Z6 w (Z3k g n c A).fp] w14 := (Sat.turn1 (L' := [Z3k g n c B13]) (R := [Z6 w (Z3k g n c A).fp]) H3 0 [1] (by decide) rfl rfl T17).pick [0, 1] (by decide)
 refine ⟨_, rfl, ?_⟩
 refine hK12 _ _ ?_
 clear hK12 K12
 refine ZQ ?_
 refine Z0M ?_
 refine ZA ?_
 refine Zr ?_
 refine ZP ?_
 refine Z0l ?_
 refine ZP ?_
 refine ZaX rfl  ?_
 exact ⟨B13, rfl, l15, S16.perm, by have q := h18; rw [← l15] at q; exact q, H20⟩
theorem Z9L (w : World) (x : Int) (hx : 0 ≤ x ∧ x ≤ 18446744073709551615) : Calls Tryz.prog 119 #[.int .u64 x] w fun e w' => e = .returned (.int .i64 (Lib.bitLen x.toNat)) ∧ Upd [] w w' :=
 (Go.Proofs.Any.bits_Len bitsL x w hx.1 hx.2).mono fun _ _ ⟨he, hw⟩ => ⟨he, hw ▸ Upd.refl _ _⟩
theorem Z9w (w : World) (g n c : Nat) (A : List Int) (hT : (Z3k g n c A).ok w) (hn : n ≤ 12) :
  Calls Tryz.prog 121 #[(.slice (some ⟨g, 0, none⟩) n c)] w fun e w' => ∃ B : List Int, e = .returned (.tuple #[]) ∧ B.length = n ∧ B.Perm A ∧ Srt ltU 0 B.length B ∧ Sat w [Z3k g n c B, Z6 w (Z3k g n c A).fp] w' := by
 have H : Sat w [Z3k g n c A, Z6 w (Z3k g n c A).fp] w := Sat.start1 hT
 have hl := Z70 hT
 have hw := swU
 refine Zp Tryz.func121 rfl 11 rfl (Nat.le_of_ble_eq_true rfl) ?_
 refine Zt ?_
 refine ZU ?_
 refine ZX (Zs rfl) (d := 3) (v := (.slice (some ⟨g, 0, none⟩) n c)) rfl (by kernel_rfl) ?_
 refine ZX (Zs rfl) (d := 4) (v := (.int .i64 ((n : Int)))) rfl (by kernel_rfl) ?_
 refine ZX (Zs rfl) (d := 2) (v := (.int .i64 ((n : Int)))) rfl (by kernel_rfl) ?_
 refine ZQ ?_
 refine Z0M ?_
 refine ZU ?_
 refine ZX (Zs rfl) (d := 5) (v := (.slice (some ⟨g, 0, none⟩) n c)) rfl (by kernel_rfl) ?_
 refine ZX (Zs rfl) (d := 6) (v := (.int .i64 ((n : Int)))) rfl (by kernel_rfl) ?_
 refine ZX (Zs rfl) (d := 7) (v := (.int .i64 ((n : Int)))) rfl (by kernel_rfl) ?_
 refine ZX (Zs rfl) (d := 8) (v := (.int .u64 ((n : Int)))) rfl (Z0I (z := (n : Int)) (by kernel_rfl) (Z2m (by omega))) ?_
 refine Z5d (Zs rfl) (fun K1 hK1 => ?_)
 refine Z2p (d := 9) rfl (by kernel_rfl) (Z9L w (n : Int) (by omega)) ?_
 rintro _ w2 ⟨rfl, u4⟩
 have H3 := H.keepU u4
 refine ⟨_, rfl, ?_⟩
 refine hK1 _ _ ?_
 clear hK1 K1
 refine Z5d (Zs rfl) (fun K5 hK5 => ?_)
 refine Z2p (d := 10) rfl (by kernel_rfl) (ZaD w2 g n c (Lib.bitLen (n : Int).toNat : Int) A (H3.at 0 rfl) hn) ?_
 rintro _ w7 ⟨B6, rfl, l8, S9, s10, T11⟩
 have H12 : Sat w [Z3k g n c B6, Z6 w (Z3k g n c A).fp] w7 := Sat.turn1 (L' := [Z3k g n c B6]) (R := [Z6 w (Z3k g n c A).fp]) H3 0 [1] (by decide) rfl rfl T11
 refine ⟨_, rfl, ?_⟩
 refine hK5 _ _ ?_
 clear hK5 K5
 refine ZQ ?_
 refine Z1C ?_
 refine ZaX rfl  ?_
 exact ⟨B6, rfl, l8, S9, s10, H12⟩
end Go.Proofs.YtoaifondpohniaaGreat
