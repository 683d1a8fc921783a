/- WHAT IS PROVED: contracts and plain laws of Plays11. Conditions: stated with each. -/
import Derived.Test.YtoaifondpohniaaGreatPL43
import Derived.Test.YtoaifondpohniaaGreatPL44
set_option maxHeartbeats 4000000
set_option maxRecDepth 100000
namespace Go.Proofs.YtoaifondpohniaaGreat
open Go.RowKit
theorem AcB.now {W w : World} {G : List Ck} {a : Z9m} (h : AcB W a) (H : Sat W G w) (j : Nat) (hj : G[j]? = some (Z7 W fun _ => False)) : AcB w a := ⟨ListAt.now H j hj h.xs, h.b, ListAt.now H j hj h.X, h.S, h.x, h.t, h.u⟩
theorem Z8t (w : World) (f rp : Int) (aa1 : Option Addr) (ac1 : Nat) (A1 : List Z9m) (hA1 : ListAt Z6W 45 w (.slice aa1 A1.length ac1) A1) (hAc1 : ∀ a ∈ A1, AcB w a) (aa2 : Option Addr) (ac2 : Nat) (A2 : List Z9m) (hA2 : ListAt Z6W 45 w (.slice aa2 A2.length ac2) A2) (hAc2 : ∀ a ∈ A2, AcB w a) :
  Calls Tryz.prog 6 #[(.int .i64 (f)), (.int .i64 (rp)), (.slice aa1 A1.length ac1), (.slice aa2 A2.length ac2)] w fun e w' => e = .returned (.bool true) ∧ Upd [] w w' := by
 have hwf := Z2B f 2 (by omega)
 have hnil : ([] : List Signed).length = 0 := rfl
 have H := Sat.start0 w
 refine Zh Tryz.func6 rfl 92 rfl (Nat.le_of_ble_eq_true rfl) ?_
 refine Zd ?_
 refine Zq ?_
 refine Z2 (Z1 rfl) (d := 8) (v := (.bool false)) rfl (by kernel_rfl) ?_
 refine Zn ?_
 refine Z4 ?_
 refine Zd ?_
 refine Zq ?_
 refine Z2 (Z1 rfl) (d := 17) (v := (.int .i64 (f))) rfl (by kernel_rfl) ?_
 refine Z07 (Z1 rfl) (fun K1 hK1 => ?_)
 refine Z0g (d := 18) rfl (by kernel_rfl) (Z1t w f 2 (by omega)) ?_
 rintro _ w2 ⟨rfl, u4⟩
 have H3 := H.keepU u4
 refine ⟨_, rfl, ?_⟩
 refine hK1 _ _ ?_
 clear hK1 K1
 refine Z2 (Z1 rfl) (d := 19) (v := (.int .i64 (1 + (Z3 f 2)))) rfl (Z0n (z := 1 + (Z3 f 2)) (by kernel_rfl) (IntWalk.i64_in _ (by omega))) ?_
 refine Z2 (Z1 rfl) (d := 20) (v := (.agg ⟨([(.int .i64 (1 + (Z3 f 2))), (.int .i64 (3))] : List Value)⟩)) rfl (by kernel_rfl) ?_
 refine Z07 (Z1 rfl) (fun K5 hK5 => ?_)
 refine Z2q (zs := ([(.int .i64 (0)), (.int .i64 (0))] : List Value)) (z := (.agg ⟨([(.int .i64 (0)), (.int .i64 (0))] : List Value)⟩)) rfl H3 (by kernel_rfl) (by kernel_rfl) ?_
 intro b6 w7 (H8 : Sat w [Z7 w (fun _ => False), Z0 b6 36 ([(.int .i64 (0)), (.int .i64 (0))] : List Value)] w7)
 refine hK5 _ _ ?_
 clear hK5 K5
 refine Z07 (Z1 rfl) (fun K9 hK9 => ?_)
 refine Z1U (vs := ([(.int .i64 (1 + (Z3 f 2))), (.int .i64 (3))] : List Value)) (cs' := ([(.int .i64 (1 + (Z3 f 2))), (.int .i64 (3))] : List Value)) rfl H8 1 rfl rfl rfl rfl (by kernel_rfl) (Nat.le_of_ble_eq_true (by kernel_rfl)) (Nat.le_of_ble_eq_true (by kernel_rfl)) (by kernel_rfl) (by kernel_rfl) ?_
 intro w10 (H11 : Sat w [Z7 w (fun _ => False), Z0 b6 36 ([(.int .i64 (1 + (Z3 f 2))), (.int .i64 (3))] : List Value)] w10)
 refine hK9 _ _ ?_
 clear hK9 K9
 refine Zn ?_
 refine Z4 ?_
 obtain ⟨F, hF⟩ : ∃ F : Int, F = 1 + Z3 f 2 := ⟨_, rfl⟩
 have hf : 1 ≤ F ∧ F ≤ 2 := by omega
 have H13 : Sat w [Z7 w (fun _ => False), Z0 b6 36 ([(.int .i64 (F)), (.int .i64 (3))] : List Value)] w10 := by rw [hF]; exact H11
 refine Z0A [10, 11, 21, 22, 23, 24] (fun G_ W_ => ∃ (b_ mb_ r_ x13 : Nat), G_ 10 = (.pointer (some ⟨x13, 0, none⟩)) ∧ G_ 11 = (.bool true) ∧ Sat w [Z0 b6 36 ([(.int .i64 (F)), (.int .i64 (3))] : List Value), Z0 b_ 110 ([(.map (some mb_))] : List Value), ZQ mb_ Zz (Value.int .i64) (ZS []), Z0 r_ 98 ([(.slice none (([] : List Signed).length) 0)] : List Value), Zk 114 2 (.slice none (([] : List Signed).length) 0) (([] : List Signed).length) (([] : List Signed).flatMap Z1N), Z0 x13 40 ([(.pointer (some ⟨b_, 0, none⟩)), (.pointer (some ⟨r_, 0, none⟩))] : List Value), Z7 w (fun _ => False)] W_) ?_ ?_
 ·refine Zq ?_
  refine Z07 (Z1 rfl) (fun K15 hK15 => ?_)
  refine Z0g (d := 22) rfl (by kernel_rfl) (ZaQ w10) ?_
  rintro _ w16 ⟨b17, m18, r19, rfl, k20, p21, q22⟩
  have H23 : Sat w [Z7 w (fun _ => False), Z0 b6 36 ([(.int .i64 (F)), (.int .i64 (3))] : List Value), ZL [Z0 b17 110 [.map (some m18)], ZQ m18 Zz (Value.int .i64) (ZS []), Z0 r19 98 [.slice none 0 0]]] w16 := H13.addU p21 k20 q22
  have H24 : Sat w [Z7 w (fun _ => False), Z0 b6 36 ([(.int .i64 (F)), (.int .i64 (3))] : List Value), Z0 b17 110 ([(.map (some m18))] : List Value), ZQ m18 Zz (Value.int .i64) (ZS []), Z0 r19 98 ([(.slice none (([] : List Signed).length) 0)] : List Value)] w16 := H23.open 2 rfl
  have H25 : Sat w [Z7 w (fun _ => False), Z0 b6 36 ([(.int .i64 (F)), (.int .i64 (3))] : List Value), Z0 b17 110 ([(.map (some m18))] : List Value), ZQ m18 Zz (Value.int .i64) (ZS []), Z0 r19 98 ([(.slice none (([] : List Signed).length) 0)] : List Value), Zk 114 2 (.slice none (([] : List Signed).length) 0) (([] : List Signed).length) (([] : List Signed).flatMap Z1N)] w16 := H24.addNil 114 2
  refine ⟨_, rfl, ?_⟩
  refine hK15 _ _ ?_
  clear hK15 K15
  refine Z2 (Z1 rfl) (d := 21) (v := (.tuple #[(.agg ⟨([(.pointer (some ⟨b17, 0, none⟩)), (.pointer (some ⟨r19, 0, none⟩))] : List Value)⟩), (.bool true)])) rfl (by kernel_rfl) ?_
  refine Z2 (Z1 rfl) (d := 23) (v := (.agg ⟨([(.pointer (some ⟨b17, 0, none⟩)), (.pointer (some ⟨r19, 0, none⟩))] : List Value)⟩)) rfl (by kernel_rfl) ?_
  refine Z2 (Z1 rfl) (d := 24) (v := (.bool true)) rfl (by kernel_rfl) ?_
  refine Z07 (Z1 rfl) (fun K26 hK26 => ?_)
  refine Z2q (zs := ([(.pointer none), (.pointer none)] : List Value)) (z := (.agg ⟨([(.pointer none), (.pointer none)] : List Value)⟩)) rfl H25 (by kernel_rfl) (by kernel_rfl) ?_
  intro b27 w28 (H29 : Sat w [Z7 w (fun _ => False), Z0 b6 36 ([(.int .i64 (F)), (.int .i64 (3))] : List Value), Z0 b17 110 ([(.map (some m18))] : List Value), ZQ m18 Zz (Value.int .i64) (ZS []), Z0 r19 98 ([(.slice none (([] : List Signed).length) 0)] : List Value), Zk 114 2 (.slice none (([] : List Signed).length) 0) (([] : List Signed).length) (([] : List Signed).flatMap Z1N), Z0 b27 40 ([(.pointer none), (.pointer none)] : List Value)] w28)
  refine hK26 _ _ ?_
  clear hK26 K26
  refine Z07 (Z1 rfl) (fun K30 hK30 => ?_)
  refine Z1U (vs := ([(.pointer (some ⟨b17, 0, none⟩)), (.pointer (some ⟨r19, 0, none⟩))] : List Value)) (cs' := ([(.pointer (some ⟨b17, 0, none⟩)), (.pointer (some ⟨r19, 0, none⟩))] : List Value)) rfl H29 6 rfl rfl rfl rfl (by kernel_rfl) (Nat.le_of_ble_eq_true (by kernel_rfl)) (Nat.le_of_ble_eq_true (by kernel_rfl)) (by kernel_rfl) (by kernel_rfl) ?_
  intro w31 (H32 : Sat w [Z7 w (fun _ => False), Z0 b6 36 ([(.int .i64 (F)), (.int .i64 (3))] : List Value), Z0 b17 110 ([(.map (some m18))] : List Value), ZQ m18 Zz (Value.int .i64) (ZS []), Z0 r19 98 ([(.slice none (([] : List Signed).length) 0)] : List Value), Zk 114 2 (.slice none (([] : List Signed).length) 0) (([] : List Signed).length) (([] : List Signed).flatMap Z1N), Z0 b27 40 ([(.pointer (some ⟨b17, 0, none⟩)), (.pointer (some ⟨r19, 0, none⟩))] : List Value)] w31)
  refine hK30 _ _ ?_
  clear hK30 K30
  refine Z2 (Z1 rfl) (d := 11) (v := (.bool true)) rfl (by kernel_rfl) ?_
  refine Zn ?_
  have H34 := H32.pick [1, 2, 3, 4, 5, 6, 0] (by decide)
  refine ZX ?_ ⟨b17, m18, r19, b27, rfl, rfl, H34⟩
  exact (Z5 rfl (Z5 rfl (Z5 rfl (Z5 rfl (Z5 rfl (Z5 rfl (Z2o)))))))
 ·rintro f35 w36 ⟨b_, mb_, r_, x13, v38, v39, H37⟩
  refine Zl 10 _ v38 ?_
  refine Zl 11 _ v39 ?_
  refine Zd ?_
  refine Zq ?_
  refine Z2 (Z1 rfl) (d := 26) (v := (.agg ⟨([(.int .i64 (F)), (.int .i64 (3))] : List Value)⟩)) rfl (Zi (vs := ([(.int .i64 (F)), (.int .i64 (3))] : List Value)) rfl (by kernel_rfl) (by kernel_rfl) (by exact Nat.le_of_ble_eq_true (by kernel_rfl)) (H37.at 0 rfl) (by kernel_rfl)) ?_
  refine Z2 (Z1 rfl) (d := 27) (v := (.int .i64 (rp))) rfl (by kernel_rfl) ?_
  refine Z07 (Z1 rfl) (fun K40 hK40 => ?_)
  refine Z0g (d := 28) rfl (by kernel_rfl) (Z7H w36 F 3 rp (by omega)) ?_
  rintro _ w41 (⟨rfl, hbad, u44⟩ | ⟨t42, m43, rfl, hok, S45⟩)
  ·have H46 := H37.keepU u44
   refine ⟨_, rfl, ?_⟩
   refine hK40 _ _ ?_
   clear hK40 K40
   refine Z2 (Z1 rfl) (d := 25) (v := (.tuple #[(.pointer none), (.int .i64 (1))])) rfl (by kernel_rfl) ?_
   refine Z2 (Z1 rfl) (d := 29) (v := (.pointer none)) rfl (by kernel_rfl) ?_
   refine Z2 (Z1 rfl) (d := 30) (v := (.int .i64 (1))) rfl (by kernel_rfl) ?_
   refine Z2 (Z1 rfl) (d := 12) (v := (.pointer none)) rfl (by kernel_rfl) ?_
   refine Z2 (Z1 rfl) (d := 13) (v := (.int .i64 (1))) rfl (by kernel_rfl) ?_
   refine Zn ?_
   refine Z4 ?_
   refine Zd ?_
   refine Zd ?_
   refine Zq ?_
   refine Z2 (Z1 rfl) (d := 31) (v := (.agg ⟨([(.int .i64 (F)), (.int .i64 (3))] : List Value)⟩)) rfl (Zi (vs := ([(.int .i64 (F)), (.int .i64 (3))] : List Value)) rfl (by kernel_rfl) (by kernel_rfl) (by exact Nat.le_of_ble_eq_true (by kernel_rfl)) (H46.at 0 rfl) (by kernel_rfl)) ?_
   refine Z2 (Z1 rfl) (d := 32) (v := (.int .i64 (rp))) rfl (by kernel_rfl) ?_
   refine Z07 (Z1 rfl) (fun K47 hK47 => ?_)
   refine Z0g (d := 33) rfl (by kernel_rfl) (Z49 w41 F 3 rp (by omega)) ?_
   rintro _ w48 ⟨rfl, u50⟩
   have H49 := H46.keepU u50
   refine ⟨_, rfl, ?_⟩
   refine hK47 _ _ ?_
   clear hK47 K47
   refine Z2 (Z1 rfl) (d := 34) (v := (.bool (!(Z1r F 3 && inB F rp)))) rfl (by kernel_rfl) ?_
   refine Zn ?_
   refine Z4 ?_
   have b51 : (!(Z1r F 3 && inB F rp)) = true := by rw [hbad]; rfl
   refine Zl 34 (.bool true) (congrArg Value.bool b51) ?_
   have g52 := ZU b51
   refine Z0S rfl ?_
   refine Zd ?_
   refine Zq ?_
   refine Z2 (Z1 rfl) (d := 35) (v := (.int .i64 (1))) rfl (by kernel_rfl) ?_
   refine Z2 (Z1 rfl) (d := 36) (v := (.bool true)) rfl (by kernel_rfl) ?_
   refine Z2 (Z1 rfl) (d := 37) (v := (.bool true)) rfl (by kernel_rfl) ?_
   refine Z2 (ZD 2 37 true rfl (by kernel_rfl) rfl (by kernel_rfl)) (d := 38) (v := (.pointer none)) rfl (by kernel_rfl) ?_
   refine Z2 (ZD 2 37 true rfl (by kernel_rfl) rfl (by kernel_rfl)) (d := 39) (v := (.bool true)) rfl (by kernel_rfl) ?_
   refine Z2 (Z1 rfl) (d := 40) (v := (.bool true)) rfl (by kernel_rfl) ?_
   refine Z2 (Z1 rfl) (d := 41) (v := (.bool true)) rfl (by kernel_rfl) ?_
   refine Z07 (ZD 6 41 true rfl (by kernel_rfl) rfl (by kernel_rfl)) (fun K53 hK53 => ?_)
   refine Z0g (d := 42) rfl (by kernel_rfl) (Z62 w48) ?_
   rintro _ w54 ⟨rfl, u56⟩
   have H55 := H49.keepU u56
   refine ⟨_, rfl, ?_⟩
   refine hK53 _ _ ?_
   clear hK53 K53
   refine Z2 (Z1 rfl) (d := 43) (v := (.bool true)) rfl (by kernel_rfl) ?_
   refine Z2 (Z1 rfl) (d := 8) (v := (.bool true)) rfl (by kernel_rfl) ?_
   refine Zn ?_
   refine Z4 ?_
   refine ZI ?_
   refine ZG ?_
   refine Z2e rfl (ZT (v := (.bool true)) rfl) ?_
   exact ⟨rfl, H55.upd 6 rfl [] (fun _ h => h.elim)⟩
  ·have hrp : 0 ≤ rp ∧ rp ≤ 1000000 := by
    have q_ := hok
    unfold inB at q_
    simp only [Bool.and_eq_true, decide_eq_true_eq] at q_
    omega
   have H57 : Sat w [Z0 b6 36 ([(.int .i64 (F)), (.int .i64 (3))] : List Value), Z0 b_ 110 ([(.map (some mb_))] : List Value), ZQ mb_ Zz (Value.int .i64) (ZS []), Z0 r_ 98 ([(.slice none (([] : List Signed).length) 0)] : List Value), Zk 114 2 (.slice none (([] : List Signed).length) 0) (([] : List Signed).length) (([] : List Signed).flatMap Z1N), Z0 x13 40 ([(.pointer (some ⟨b_, 0, none⟩)), (.pointer (some ⟨r_, 0, none⟩))] : List Value), Z7 w (fun _ => False), ZL [Z0 t42 121 [.int .i64 F, .int .i64 3, .int .i64 rp, .map (some m43)], ZQ m43 nmV ceV []]] w41 := H37.addU (S45.upd 2 rfl [] (fun _ h => h.elim)) (S45.fin [0, 1] (by decide) rfl) (S45.freshS 2 rfl (fun _ h => h) [0, 1] rfl rfl)
   have H58 : Sat w [Z0 b6 36 ([(.int .i64 (F)), (.int .i64 (3))] : List Value), Z0 b_ 110 ([(.map (some mb_))] : List Value), ZQ mb_ Zz (Value.int .i64) (ZS []), Z0 r_ 98 ([(.slice none (([] : List Signed).length) 0)] : List Value), Zk 114 2 (.slice none (([] : List Signed).length) 0) (([] : List Signed).length) (([] : List Signed).flatMap Z1N), Z0 x13 40 ([(.pointer (some ⟨b_, 0, none⟩)), (.pointer (some ⟨r_, 0, none⟩))] : List Value), Z7 w (fun _ => False), Z0 t42 121 ([(.int .i64 (F)), (.int .i64 (3)), (.int .i64 (rp)), (.map (some m43))] : List Value), ZQ m43 nmV ceV []] w41 := H57.open 7 rfl
   refine ⟨_, rfl, ?_⟩
   refine hK40 _ _ ?_
   clear hK40 K40
   refine Z2 (Z1 rfl) (d := 25) (v := (.tuple #[(.pointer (some ⟨t42, 0, none⟩)), (.int .i64 (0))])) rfl (by kernel_rfl) ?_
   refine Z2 (Z1 rfl) (d := 29) (v := (.pointer (some ⟨t42, 0, none⟩))) rfl (by kernel_rfl) ?_
   refine Z2 (Z1 rfl) (d := 30) (v := (.int .i64 (0))) rfl (by kernel_rfl) ?_
   refine Z2 (Z1 rfl) (d := 12) (v := (.pointer (some ⟨t42, 0, none⟩))) rfl (by kernel_rfl) ?_
   refine Z2 (Z1 rfl) (d := 13) (v := (.int .i64 (0))) rfl (by kernel_rfl) ?_
   refine Zn ?_
   refine Z4 ?_
   refine Zd ?_
   refine Zd ?_
   refine Zq ?_
   refine Z2 (Z1 rfl) (d := 31) (v := (.agg ⟨([(.int .i64 (F)), (.int .i64 (3))] : List Value)⟩)) rfl (Zi (vs := ([(.int .i64 (F)), (.int .i64 (3))] : List Value)) rfl (by kernel_rfl) (by kernel_rfl) (by exact Nat.le_of_ble_eq_true (by kernel_rfl)) (H58.at 0 rfl) (by kernel_rfl)) ?_
   refine Z2 (Z1 rfl) (d := 32) (v := (.int .i64 (rp))) rfl (by kernel_rfl) ?_
   refine Z07 (Z1 rfl) (fun K59 hK59 => ?_)
   refine Z0g (d := 33) rfl (by kernel_rfl) (Z49 w41 F 3 rp (by omega)) ?_
   rintro _ w60 ⟨rfl, u62⟩
   have H61 := H58.keepU u62
   refine ⟨_, rfl, ?_⟩
   refine hK59 _ _ ?_
   clear hK59 K59
   refine Z2 (Z1 rfl) (d := 34) (v := (.bool (!(Z1r F 3 && inB F rp)))) rfl (by kernel_rfl) ?_
   refine Zn ?_
   refine Z4 ?_
   have b63 : (!(Z1r F 3 && inB F rp)) = false := by rw [hok]; rfl
   refine Zl 34 (.bool false) (congrArg Value.bool b63) ?_
   have g64 := Zj b63
   refine Z1g rfl ?_
   refine ZW ?_
   refine Z4 ?_
   refine Zd ?_
   refine Zq ?_
   refine Z2 (Z1 rfl) (d := 44) (v := (.agg ⟨([(.int .i64 (F)), (.int .i64 (3))] : List Value)⟩)) rfl (Zi (vs := ([(.int .i64 (F)), (.int .i64 (3))] : List Value)) rfl (by kernel_rfl) (by kernel_rfl) (by exact Nat.le_of_ble_eq_true (by kernel_rfl)) (H61.at 0 rfl) (by kernel_rfl)) ?_
   refine Z2 (Z1 rfl) (d := 45) (v := (.int .i64 (rp))) rfl (by kernel_rfl) ?_
   refine Z2 (Z1 rfl) (d := 46) (v := (.agg ⟨([(.int .i64 (F)), (.int .i64 (3)), (.int .i64 (rp)), (.slice none 0 0)] : List Value)⟩)) rfl (by kernel_rfl) ?_
   refine Z07 (Z1 rfl) (fun K65 hK65 => ?_)
   refine Z34 (vs := ([(.int .i64 (F)), (.int .i64 (3)), (.int .i64 (rp)), (.slice none 0 0)] : List Value)) rfl H61 rfl rfl ?_
   intro b66 w67 (H68 : Sat w [Z0 b6 36 ([(.int .i64 (F)), (.int .i64 (3))] : List Value), Z0 b_ 110 ([(.map (some mb_))] : List Value), ZQ mb_ Zz (Value.int .i64) (ZS []), Z0 r_ 98 ([(.slice none (([] : List Signed).length) 0)] : List Value), Zk 114 2 (.slice none (([] : List Signed).length) 0) (([] : List Signed).length) (([] : List Signed).flatMap Z1N), Z0 x13 40 ([(.pointer (some ⟨b_, 0, none⟩)), (.pointer (some ⟨r_, 0, none⟩))] : List Value), Z7 w (fun _ => False), Z0 t42 121 ([(.int .i64 (F)), (.int .i64 (3)), (.int .i64 (rp)), (.map (some m43))] : List Value), ZQ m43 nmV ceV [], Z0 b66 45 ([(.int .i64 (F)), (.int .i64 (3)), (.int .i64 (rp)), (.slice none 0 0)] : List Value)] w67)
   refine hK65 _ _ ?_
   clear hK65 K65
   refine Z2 (Z1 rfl) (d := 14) (v := (.pointer (some ⟨b66, 0, none⟩))) rfl (by kernel_rfl) ?_
   refine Zn ?_
   refine Z4 ?_
   refine Zd ?_
   refine Zd ?_
   have H69 := H68.addNil 53 38
   have H70 := H69.bag0
   have H71 : Sat w [Z0 b6 36 ([(.int .i64 (F)), (.int .i64 (3))] : List Value), Z0 b_ 110 ([(.map (some mb_))] : List Value), ZQ mb_ Zz (Value.int .i64) (ZS []), Z0 r_ 98 ([(.slice none (([] : List Signed).length) 0)] : List Value), Zk 114 2 (.slice none (([] : List Signed).length) 0) (([] : List Signed).length) (([] : List Signed).flatMap Z1N), Z0 x13 40 ([(.pointer (some ⟨b_, 0, none⟩)), (.pointer (some ⟨r_, 0, none⟩))] : List Value), Z7 w (fun _ => False), Z0 t42 121 ([(.int .i64 (F)), (.int .i64 (3)), (.int .i64 (rp)), (.map (some m43))] : List Value), ZQ m43 nmV ceV [], Z0 b66 45 ([(.int .i64 (F)), (.int .i64 (3)), (.int .i64 (rp)), (.slice none (([] : List CeR).length) 0)] : List Value), Zk 53 38 (.slice none (([] : List CeR).length) 0) (([] : List CeR).length) (([] : List CeR).flatMap Z03), ZY []] w67 := H70
   refine Zq ?_
   refine Z2 (Z1 rfl) (d := 48) (v := (.bool true)) rfl (by kernel_rfl) ?_
   refine Z2 (Z1 rfl) (d := 49) (v := (.bool false)) rfl (by kernel_rfl) ?_
   refine Z2 (Z1 rfl) (d := 50) (v := (.bool false)) rfl (by kernel_rfl) ?_
   refine Z2 (ZD 2 50 false rfl (by kernel_rfl) rfl (by kernel_rfl)) (d := 51) (v := (.int .i64 (0))) rfl (by kernel_rfl) ?_
   refine Z2 (ZD 2 50 false rfl (by kernel_rfl) rfl (by kernel_rfl)) (d := 52) (v := (.bool false)) rfl (by kernel_rfl) ?_
   refine Z2 (Z1 rfl) (d := 53) (v := (.bool false)) rfl (by kernel_rfl) ?_
   refine Z2 (Z1 rfl) (d := 54) (v := (.bool false)) rfl (by kernel_rfl) ?_
   refine Z2 (ZD 6 54 false rfl (by kernel_rfl) rfl (by kernel_rfl)) (d := 55) (v := (.pointer (some ⟨t42, 0, none⟩))) rfl (by kernel_rfl) ?_
   refine Z2 (ZD 6 54 false rfl (by kernel_rfl) rfl (by kernel_rfl)) (d := 56) (v := (.bool false)) rfl (by kernel_rfl) ?_
   refine Z2 (Z1 rfl) (d := 57) (v := (.bool false)) rfl (by kernel_rfl) ?_
   refine Z2 (Z1 rfl) (d := 58) (v := (.bool false)) rfl (by kernel_rfl) ?_
   refine Z2 (ZD 10 58 false rfl (by kernel_rfl) rfl (by kernel_rfl)) (d := 59) (v := (.agg ⟨([(.int .i64 (F)), (.int .i64 (3))] : List Value)⟩)) rfl (Zi (vs := ([(.int .i64 (F)), (.int .i64 (3))] : List Value)) rfl (by kernel_rfl) (by kernel_rfl) (by exact Nat.le_of_ble_eq_true (by kernel_rfl)) (H71.at 0 rfl) (by kernel_rfl)) ?_
   refine Z2 (ZD 10 58 false rfl (by kernel_rfl) rfl (by kernel_rfl)) (d := 60) (v := (.pointer (some ⟨t42, 0, none⟩))) rfl (by kernel_rfl) ?_
   refine Z2 (ZD 10 58 false rfl (by kernel_rfl) rfl (by kernel_rfl)) (d := 61) (v := (.pointer (some ⟨b66, 0, none⟩))) rfl (by kernel_rfl) ?_
   refine Z2 (ZD 10 58 false rfl (by kernel_rfl) rfl (by kernel_rfl)) (d := 62) (v := (.agg ⟨([(.pointer (some ⟨b_, 0, none⟩)), (.pointer (some ⟨r_, 0, none⟩))] : List Value)⟩)) rfl (Zi (vs := ([(.pointer (some ⟨b_, 0, none⟩)), (.pointer (some ⟨r_, 0, none⟩))] : List Value)) rfl (by kernel_rfl) (by kernel_rfl) (by exact Nat.le_of_ble_eq_true (by kernel_rfl)) (H71.at 5 rfl) (by kernel_rfl)) ?_
   refine Z2 (ZD 10 58 false rfl (by kernel_rfl) rfl (by kernel_rfl)) (d := 63) (v := (.slice aa1 A1.length ac1)) rfl (by kernel_rfl) ?_
   refine Z07 (ZD 10 58 false rfl (by kernel_rfl) rfl (by kernel_rfl)) (fun K72 hK72 => ?_)
   refine Z0g (d := 64) rfl (by kernel_rfl) (Z4T w67 t42 m43 F rp ([]) b66 none 0 ([] : List CeR) ([]) b_ mb_ r_ none 0 ([]) (H71.fin [7, 8, 9, 10, 11, 1, 2, 3, 4] (by decide) rfl) hf hrp TabEq.nil (Nat.zero_le _) List.nodup_nil (by omega) aa1 ac1 A1 (ListAt.now H71 6 rfl hA1) (Z26 Z5z (by decide) H71 [7, 8, 9, 10, 11, 1, 2, 3, 4] 6 rfl rfl (by decide) hA1) (fun a ha => (hAc1 a ha).now H71 6 rfl) (fun a ha => ⟨Z26 Z1v (by decide) H71 [7, 8, 9, 10, 11, 1, 2, 3, 4] 6 rfl rfl (by decide) (hAc1 a ha).xs, Z26 Z1y (by decide) H71 [7, 8, 9, 10, 11, 1, 2, 3, 4] 6 rfl rfl (by decide) (hAc1 a ha).X⟩)) ?_
   rintro _ w73 ⟨M74, B75, L76, a77, c78, L79, a80, c81, rfl, E82, l83, n84, q85, s86, T87⟩
   have H88 : Sat w [Z0 b6 36 ([(.int .i64 (F)), (.int .i64 (3))] : List Value), Z0 b_ 110 ([(.map (some mb_))] : List Value), ZQ mb_ Zz (Value.int .i64) (ZS L79), Z0 r_ 98 ([(.slice a80 L79.length c81)] : List Value), Zk 114 2 (.slice a80 L79.length c81) L79.length (L79.flatMap Z1N), Z0 x13 40 ([(.pointer (some ⟨b_, 0, none⟩)), (.pointer (some ⟨r_, 0, none⟩))] : List Value), Z7 w (fun _ => False), Z0 t42 121 ([(.int .i64 (F)), (.int .i64 (3)), (.int .i64 (rp)), (.map (some m43))] : List Value), ZQ m43 nmV ceV M74, Z0 b66 45 ([(.int .i64 (F)), (.int .i64 (3)), (.int .i64 (rp)), (.slice a77 L76.length c78)] : List Value), Zk 53 38 (.slice a77 L76.length c78) L76.length (L76.flatMap Z03), ZY B75] w73 := (Sat.turnL (L' := [Z0 t42 121 ([(.int .i64 (F)), (.int .i64 (3)), (.int .i64 (rp)), (.map (some m43))] : List Value), ZQ m43 nmV ceV M74, Z0 b66 45 ([(.int .i64 (F)), (.int .i64 (3)), (.int .i64 (rp)), (.slice a77 L76.length c78)] : List Value), Zk 53 38 (.slice a77 L76.length c78) L76.length (L76.flatMap Z03), ZY B75, Z0 b_ 110 ([(.map (some mb_))] : List Value), ZQ mb_ Zz (Value.int .i64) (ZS L79), Z0 r_ 98 ([(.slice a80 L79.length c81)] : List Value), Zk 114 2 (.slice a80 L79.length c81) L79.length (L79.flatMap Z1N)]) (R := [Z0 b6 36 ([(.int .i64 (F)), (.int .i64 (3))] : List Value), Z0 x13 40 ([(.pointer (some ⟨b_, 0, none⟩)), (.pointer (some ⟨r_, 0, none⟩))] : List Value), Z7 w (fun _ => False)]) H71 [7, 8, 9, 10, 11, 1, 2, 3, 4] [0, 5, 6] (by decide) (by kernel_rfl) rfl T87).pick [9, 5, 6, 7, 8, 10, 11, 0, 1, 2, 3, 4] (by decide)
   refine ⟨_, rfl, ?_⟩
   refine hK72 _ _ ?_
   clear hK72 K72
   refine Z2 (ZD 10 58 false rfl (by kernel_rfl) rfl (by kernel_rfl)) (d := 65) (v := (.bool false)) rfl (by kernel_rfl) ?_
   refine Z2 (Z1 rfl) (d := 66) (v := (.bool false)) rfl (by kernel_rfl) ?_
   refine Zn ?_
   refine Z4 ?_
   refine Z1g rfl ?_
   refine ZW ?_
   refine Z4 ?_
   refine Zd ?_
   refine Zq ?_
   refine Z2 (Z1 rfl) (d := 67) (v := (.pointer (some ⟨t42, 0, none⟩))) rfl (by kernel_rfl) ?_
   refine Z07 (Z1 rfl) (fun K89 hK89 => ?_)
   refine Z0g (d := 68) rfl (by kernel_rfl) (Z8m w73 t42 m43 F 3 rp M74 (H88.at 7 rfl) (H88.at 8 rfl)) ?_
   rintro _ w90 ⟨t91, m92, rfl, k93, u94, q95⟩
   have H96 : Sat w [Z0 b6 36 ([(.int .i64 (F)), (.int .i64 (3))] : List Value), Z0 b_ 110 ([(.map (some mb_))] : List Value), ZQ mb_ Zz (Value.int .i64) (ZS L79), Z0 r_ 98 ([(.slice a80 L79.length c81)] : List Value), Zk 114 2 (.slice a80 L79.length c81) L79.length (L79.flatMap Z1N), Z0 x13 40 ([(.pointer (some ⟨b_, 0, none⟩)), (.pointer (some ⟨r_, 0, none⟩))] : List Value), Z7 w (fun _ => False), Z0 t42 121 ([(.int .i64 (F)), (.int .i64 (3)), (.int .i64 (rp)), (.map (some m43))] : List Value), ZQ m43 nmV ceV M74, Z0 b66 45 ([(.int .i64 (F)), (.int .i64 (3)), (.int .i64 (rp)), (.slice a77 L76.length c78)] : List Value), Zk 53 38 (.slice a77 L76.length c78) L76.length (L76.flatMap Z03), ZY B75, ZL [Z0 t91 121 [.int .i64 F, .int .i64 3, .int .i64 rp, .map (some m92)], ZQ m92 nmV ceV M74]] w90 := H88.addU u94 k93 q95
   have H97 : Sat w [Z0 b6 36 ([(.int .i64 (F)), (.int .i64 (3))] : List Value), Z0 b_ 110 ([(.map (some mb_))] : List Value), ZQ mb_ Zz (Value.int .i64) (ZS L79), Z0 r_ 98 ([(.slice a80 L79.length c81)] : List Value), Zk 114 2 (.slice a80 L79.length c81) L79.length (L79.flatMap Z1N), Z0 x13 40 ([(.pointer (some ⟨b_, 0, none⟩)), (.pointer (some ⟨r_, 0, none⟩))] : List Value), Z7 w (fun _ => False), Z0 t42 121 ([(.int .i64 (F)), (.int .i64 (3)), (.int .i64 (rp)), (.map (some m43))] : List Value), ZQ m43 nmV ceV M74, Z0 b66 45 ([(.int .i64 (F)), (.int .i64 (3)), (.int .i64 (rp)), (.slice a77 L76.length c78)] : List Value), Zk 53 38 (.slice a77 L76.length c78) L76.length (L76.flatMap Z03), ZY B75, Z0 t91 121 ([(.int .i64 (F)), (.int .i64 (3)), (.int .i64 (rp)), (.map (some m92))] : List Value), ZQ m92 nmV ceV M74] w90 := H96.open 12 rfl
   refine ⟨_, rfl, ?_⟩
   refine hK89 _ _ ?_
   clear hK89 K89
   refine Z2 (Z1 rfl) (d := 69) (v := (.pointer (some ⟨b66, 0, none⟩))) rfl (by kernel_rfl) ?_
   refine Z07 (Z1 rfl) (fun K98 hK98 => ?_)
   have hLL := (E82).len
   refine Z0g (d := 70) rfl (by kernel_rfl) (Z9K w90 b66 F 3 rp a77 c78 L76 (H97.at 9 rfl) (H97.at 10 rfl) (by omega)) ?_
   rintro _ w99 ⟨t100, a101, c102, rfl, k103, u104, q105⟩
   have H106 : Sat w [Z0 b6 36 ([(.int .i64 (F)), (.int .i64 (3))] : List Value), Z0 b_ 110 ([(.map (some mb_))] : List Value), ZQ mb_ Zz (Value.int .i64) (ZS L79), Z0 r_ 98 ([(.slice a80 L79.length c81)] : List Value), Zk 114 2 (.slice a80 L79.length c81) L79.length (L79.flatMap Z1N), Z0 x13 40 ([(.pointer (some ⟨b_, 0, none⟩)), (.pointer (some ⟨r_, 0, none⟩))] : List Value), Z7 w (fun _ => False), Z0 t42 121 ([(.int .i64 (F)), (.int .i64 (3)), (.int .i64 (rp)), (.map (some m43))] : List Value), ZQ m43 nmV ceV M74, Z0 b66 45 ([(.int .i64 (F)), (.int .i64 (3)), (.int .i64 (rp)), (.slice a77 L76.length c78)] : List Value), Zk 53 38 (.slice a77 L76.length c78) L76.length (L76.flatMap Z03), ZY B75, Z0 t91 121 ([(.int .i64 (F)), (.int .i64 (3)), (.int .i64 (rp)), (.map (some m92))] : List Value), ZQ m92 nmV ceV M74, ZL [Z0 t100 45 ([(.int .i64 (F)), (.int .i64 (3)), (.int .i64 (rp)), (.slice a101 L76.length c102)] : List Value), Zk 53 38 (.slice a101 L76.length c102) L76.length (L76.flatMap Z03)]] w99 := H97.addU u104 k103 q105
   have H107 : Sat w [Z0 b6 36 ([(.int .i64 (F)), (.int .i64 (3))] : List Value), Z0 b_ 110 ([(.map (some mb_))] : List Value), ZQ mb_ Zz (Value.int .i64) (ZS L79), Z0 r_ 98 ([(.slice a80 L79.length c81)] : List Value), Zk 114 2 (.slice a80 L79.length c81) L79.length (L79.flatMap Z1N), Z0 x13 40 ([(.pointer (some ⟨b_, 0, none⟩)), (.pointer (some ⟨r_, 0, none⟩))] : List Value), Z7 w (fun _ => False), Z0 t42 121 ([(.int .i64 (F)), (.int .i64 (3)), (.int .i64 (rp)), (.map (some m43))] : List Value), ZQ m43 nmV ceV M74, Z0 b66 45 ([(.int .i64 (F)), (.int .i64 (3)), (.int .i64 (rp)), (.slice a77 L76.length c78)] : List Value), Zk 53 38 (.slice a77 L76.length c78) L76.length (L76.flatMap Z03), ZY B75, Z0 t91 121 ([(.int .i64 (F)), (.int .i64 (3)), (.int .i64 (rp)), (.map (some m92))] : List Value), ZQ m92 nmV ceV M74, Z0 t100 45 ([(.int .i64 (F)), (.int .i64 (3)), (.int .i64 (rp)), (.slice a101 L76.length c102)] : List Value), Zk 53 38 (.slice a101 L76.length c102) L76.length (L76.flatMap Z03)] w99 := H106.open 14 rfl
   refine ⟨_, rfl, ?_⟩
   refine hK98 _ _ ?_
   clear hK98 K98
   refine Z2 (Z1 rfl) (d := 15) (v := (.pointer (some ⟨t91, 0, none⟩))) rfl (by kernel_rfl) ?_
   refine Z2 (Z1 rfl) (d := 16) (v := (.pointer (some ⟨t100, 0, none⟩))) rfl (by kernel_rfl) ?_
   refine Zn ?_
   refine Z4 ?_
   refine Zd ?_
   refine Zq ?_
   refine Z2 (Z1 rfl) (d := 71) (v := (.pointer (some ⟨t91, 0, none⟩))) rfl (by kernel_rfl) ?_
   refine Z2 (Z1 rfl) (d := 72) (v := (.bool true)) rfl (by kernel_rfl) ?_
   refine Z2 (Z1 rfl) (d := 73) (v := (.bool true)) rfl (by kernel_rfl) ?_
   refine Z2 (ZD 2 73 true rfl (by kernel_rfl) rfl (by kernel_rfl)) (d := 74) (v := (.agg ⟨([(.int .i64 (F)), (.int .i64 (3))] : List Value)⟩)) rfl (Zi (vs := ([(.int .i64 (F)), (.int .i64 (3))] : List Value)) rfl (by kernel_rfl) (by kernel_rfl) (by exact Nat.le_of_ble_eq_true (by kernel_rfl)) (H107.at 0 rfl) (by kernel_rfl)) ?_
   refine Z2 (ZD 2 73 true rfl (by kernel_rfl) rfl (by kernel_rfl)) (d := 75) (v := (.pointer (some ⟨t91, 0, none⟩))) rfl (by kernel_rfl) ?_
   refine Z2 (ZD 2 73 true rfl (by kernel_rfl) rfl (by kernel_rfl)) (d := 76) (v := (.pointer (some ⟨t100, 0, none⟩))) rfl (by kernel_rfl) ?_
   refine Z2 (ZD 2 73 true rfl (by kernel_rfl) rfl (by kernel_rfl)) (d := 77) (v := (.agg ⟨([(.pointer (some ⟨b_, 0, none⟩)), (.pointer (some ⟨r_, 0, none⟩))] : List Value)⟩)) rfl (Zi (vs := ([(.pointer (some ⟨b_, 0, none⟩)), (.pointer (some ⟨r_, 0, none⟩))] : List Value)) rfl (by kernel_rfl) (by kernel_rfl) (by exact Nat.le_of_ble_eq_true (by kernel_rfl)) (H107.at 5 rfl) (by kernel_rfl)) ?_
   refine Z2 (ZD 2 73 true rfl (by kernel_rfl) rfl (by kernel_rfl)) (d := 78) (v := (.slice aa2 A2.length ac2)) rfl (by kernel_rfl) ?_
   refine Z07 (ZD 2 73 true rfl (by kernel_rfl) rfl (by kernel_rfl)) (fun K108 hK108 => ?_)
   refine Z0g (d := 79) rfl (by kernel_rfl) (Z4T w99 t91 m92 F rp M74 t100 a101 c102 L76 B75 b_ mb_ r_ a80 c81 L79 (H107.fin [12, 13, 14, 15, 11, 1, 2, 3, 4] (by decide) rfl) hf hrp E82 l83 n84 (by omega) aa2 ac2 A2 (ListAt.now H107 6 rfl hA2) (Z26 Z5z (by decide) H107 [12, 13, 14, 15, 11, 1, 2, 3, 4] 6 rfl rfl (by decide) hA2) (fun a ha => (hAc2 a ha).now H107 6 rfl) (fun a ha => ⟨Z26 Z1v (by decide) H107 [12, 13, 14, 15, 11, 1, 2, 3, 4] 6 rfl rfl (by decide) (hAc2 a ha).xs, Z26 Z1y (by decide) H107 [12, 13, 14, 15, 11, 1, 2, 3, 4] 6 rfl rfl (by decide) (hAc2 a ha).X⟩)) ?_
   rintro _ w109 ⟨M110, B111, L112, a113, c114, L115, a116, c117, rfl, E118, l119, n120, q121, s122, T123⟩
   have H124 : Sat w [Z0 b6 36 ([(.int .i64 (F)), (.int .i64 (3))] : List Value), Z0 b_ 110 ([(.map (some mb_))] : List Value), ZQ mb_ Zz (Value.int .i64) (ZS L115), Z0 r_ 98 ([(.slice a116 L115.length c117)] : List Value), Zk 114 2 (.slice a116 L115.length c117) L115.length (L115.flatMap Z1N), Z0 x13 40 ([(.pointer (some ⟨b_, 0, none⟩)), (.pointer (some ⟨r_, 0, none⟩))] : List Value), Z7 w (fun _ => False), Z0 t42 121 ([(.int .i64 (F)), (.int .i64 (3)), (.int .i64 (rp)), (.map (some m43))] : List Value), ZQ m43 nmV ceV M74, Z0 b66 45 ([(.int .i64 (F)), (.int .i64 (3)), (.int .i64 (rp)), (.slice a77 L76.length c78)] : List Value), Zk 53 38 (.slice a77 L76.length c78) L76.length (L76.flatMap Z03), ZY B111, Z0 t91 121 ([(.int .i64 (F)), (.int .i64 (3)), (.int .i64 (rp)), (.map (some m92))] : List Value), ZQ m92 nmV ceV M110, Z0 t100 45 ([(.int .i64 (F)), (.int .i64 (3)), (.int .i64 (rp)), (.slice a113 L112.length c114)] : List Value), Zk 53 38 (.slice a113 L112.length c114) L112.length (L112.flatMap Z03)] w109 := (Sat.turnL (L' := [Z0 t91 121 ([(.int .i64 (F)), (.int .i64 (3)), (.int .i64 (rp)), (.map (some m92))] : List Value), ZQ m92 nmV ceV M110, Z0 t100 45 ([(.int .i64 (F)), (.int .i64 (3)), (.int .i64 (rp)), (.slice a113 L112.length c114)] : List Value), Zk 53 38 (.slice a113 L112.length c114) L112.length (L112.flatMap Z03), ZY B111, Z0 b_ 110 ([(.map (some mb_))] : List Value), ZQ mb_ Zz (Value.int .i64) (ZS L115), Z0 r_ 98 ([(.slice a116 L115.length c117)] : List Value), Zk 114 2 (.slice a116 L115.length c117) L115.length (L115.flatMap Z1N)]) (R := [Z0 b6 36 ([(.int .i64 (F)), (.int .i64 (3))] : List Value), Z0 x13 40 ([(.pointer (some ⟨b_, 0, none⟩)), (.pointer (some ⟨r_, 0, none⟩))] : List Value), Z7 w (fun _ => False), Z0 t42 121 ([(.int .i64 (F)), (.int .i64 (3)), (.int .i64 (rp)), (.map (some m43))] : List Value), ZQ m43 nmV ceV M74, Z0 b66 45 ([(.int .i64 (F)), (.int .i64 (3)), (.int .i64 (rp)), (.slice a77 L76.length c78)] : List Value), Zk 53 38 (.slice a77 L76.length c78) L76.length (L76.flatMap Z03)]) H107 [12, 13, 14, 15, 11, 1, 2, 3, 4] [0, 5, 6, 7, 8, 9, 10] (by decide) (by kernel_rfl) rfl T123).pick [9, 5, 6, 7, 8, 10, 11, 12, 13, 14, 15, 4, 0, 1, 2, 3] (by decide)
   refine ⟨_, rfl, ?_⟩
   have E125 := (E82).sub s122
   refine hK108 _ _ ?_
   clear hK108 K108
   refine Z2 (Z1 rfl) (d := 80) (v := (.bool true)) rfl (by kernel_rfl) ?_
   refine Z2 (Z1 rfl) (d := 81) (v := (.bool true)) rfl (by kernel_rfl) ?_
   refine Z2 (ZD 10 81 true rfl (by kernel_rfl) rfl (by kernel_rfl)) (d := 82) (v := (.agg ⟨([(.int .i64 (F)), (.int .i64 (3))] : List Value)⟩)) rfl (Zi (vs := ([(.int .i64 (F)), (.int .i64 (3))] : List Value)) rfl (by kernel_rfl) (by kernel_rfl) (by exact Nat.le_of_ble_eq_true (by kernel_rfl)) (H124.at 0 rfl) (by kernel_rfl)) ?_
   refine Z2 (ZD 10 81 true rfl (by kernel_rfl) rfl (by kernel_rfl)) (d := 83) (v := (.pointer (some ⟨t42, 0, none⟩))) rfl (by kernel_rfl) ?_
   refine Z2 (ZD 10 81 true rfl (by kernel_rfl) rfl (by kernel_rfl)) (d := 84) (v := (.pointer (some ⟨b66, 0, none⟩))) rfl (by kernel_rfl) ?_
   refine Z2 (ZD 10 81 true rfl (by kernel_rfl) rfl (by kernel_rfl)) (d := 85) (v := (.agg ⟨([(.pointer (some ⟨b_, 0, none⟩)), (.pointer (some ⟨r_, 0, none⟩))] : List Value)⟩)) rfl (Zi (vs := ([(.pointer (some ⟨b_, 0, none⟩)), (.pointer (some ⟨r_, 0, none⟩))] : List Value)) rfl (by kernel_rfl) (by kernel_rfl) (by exact Nat.le_of_ble_eq_true (by kernel_rfl)) (H124.at 5 rfl) (by kernel_rfl)) ?_
   refine Z2 (ZD 10 81 true rfl (by kernel_rfl) rfl (by kernel_rfl)) (d := 86) (v := (.slice aa1 A1.length ac1)) rfl (by kernel_rfl) ?_
   refine Z07 (ZD 10 81 true rfl (by kernel_rfl) rfl (by kernel_rfl)) (fun K126 hK126 => ?_)
   refine Z0g (d := 87) rfl (by kernel_rfl) (Z4T w109 t42 m43 F rp M74 b66 a77 c78 L76 B111 b_ mb_ r_ a116 c117 L115 (H124.fin [7, 8, 9, 10, 11, 1, 2, 3, 4] (by decide) rfl) hf hrp E125 l83 n120 (by omega) aa1 ac1 A1 (ListAt.now H124 6 rfl hA1) (Z26 Z5z (by decide) H124 [7, 8, 9, 10, 11, 1, 2, 3, 4] 6 rfl rfl (by decide) hA1) (fun a ha => (hAc1 a ha).now H124 6 rfl) (fun a ha => ⟨Z26 Z1v (by decide) H124 [7, 8, 9, 10, 11, 1, 2, 3, 4] 6 rfl rfl (by decide) (hAc1 a ha).xs, Z26 Z1y (by decide) H124 [7, 8, 9, 10, 11, 1, 2, 3, 4] 6 rfl rfl (by decide) (hAc1 a ha).X⟩)) ?_
   rintro _ w127 ⟨M128, B129, L130, a131, c132, L133, a134, c135, rfl, E136, l137, n138, q139, s140, T141⟩
   have H142 : Sat w [Z0 b6 36 ([(.int .i64 (F)), (.int .i64 (3))] : List Value), Z0 b_ 110 ([(.map (some mb_))] : List Value), ZQ mb_ Zz (Value.int .i64) (ZS L133), Z0 r_ 98 ([(.slice a134 L133.length c135)] : List Value), Zk 114 2 (.slice a134 L133.length c135) L133.length (L133.flatMap Z1N), Z0 x13 40 ([(.pointer (some ⟨b_, 0, none⟩)), (.pointer (some ⟨r_, 0, none⟩))] : List Value), Z7 w (fun _ => False), Z0 t42 121 ([(.int .i64 (F)), (.int .i64 (3)), (.int .i64 (rp)), (.map (some m43))] : List Value), ZQ m43 nmV ceV M128, Z0 b66 45 ([(.int .i64 (F)), (.int .i64 (3)), (.int .i64 (rp)), (.slice a131 L130.length c132)] : List Value), Zk 53 38 (.slice a131 L130.length c132) L130.length (L130.flatMap Z03), ZY B129, Z0 t91 121 ([(.int .i64 (F)), (.int .i64 (3)), (.int .i64 (rp)), (.map (some m92))] : List Value), ZQ m92 nmV ceV M110, Z0 t100 45 ([(.int .i64 (F)), (.int .i64 (3)), (.int .i64 (rp)), (.slice a113 L112.length c114)] : List Value), Zk 53 38 (.slice a113 L112.length c114) L112.length (L112.flatMap Z03)] w127 := (Sat.turnL (L' := [Z0 t42 121 ([(.int .i64 (F)), (.int .i64 (3)), (.int .i64 (rp)), (.map (some m43))] : List Value), ZQ m43 nmV ceV M128, Z0 b66 45 ([(.int .i64 (F)), (.int .i64 (3)), (.int .i64 (rp)), (.slice a131 L130.length c132)] : List Value), Zk 53 38 (.slice a131 L130.length c132) L130.length (L130.flatMap Z03), ZY B129, Z0 b_ 110 ([(.map (some mb_))] : List Value), ZQ mb_ Zz (Value.int .i64) (ZS L133), Z0 r_ 98 ([(.slice a134 L133.length c135)] : List Value), Zk 114 2 (.slice a134 L133.length c135) L133.length (L133.flatMap Z1N)]) (R := [Z0 b6 36 ([(.int .i64 (F)), (.int .i64 (3))] : List Value), Z0 x13 40 ([(.pointer (some ⟨b_, 0, none⟩)), (.pointer (some ⟨r_, 0, none⟩))] : List Value), Z7 w (fun _ => False), Z0 t91 121 ([(.int .i64 (F)), (.int .i64 (3)), (.int .i64 (rp)), (.map (some m92))] : List Value), ZQ m92 nmV ceV M110, Z0 t100 45 ([(.int .i64 (F)), (.int .i64 (3)), (.int .i64 (rp)), (.slice a113 L112.length c114)] : List Value), Zk 53 38 (.slice a113 L112.length c114) L112.length (L112.flatMap Z03)]) H124 [7, 8, 9, 10, 11, 1, 2, 3, 4] [0, 5, 6, 12, 13, 14, 15] (by decide) (by kernel_rfl) rfl T141).pick [9, 5, 6, 7, 8, 10, 11, 0, 1, 2, 3, 4, 12, 13, 14, 15] (by decide)
   refine ⟨_, rfl, ?_⟩
   have E143 := (E118).sub s140
   refine hK126 _ _ ?_
   clear hK126 K126
   refine Z2 (Z1 rfl) (d := 88) (v := (.bool true)) rfl (by kernel_rfl) ?_
   refine Z2 (Z1 rfl) (d := 89) (v := (.bool true)) rfl (by kernel_rfl) ?_
   refine Z07 (ZD 18 89 true rfl (by kernel_rfl) rfl (by kernel_rfl)) (fun K144 hK144 => ?_)
   refine Z0g (d := 90) rfl (by kernel_rfl) (Z62 w127) ?_
   rintro _ w145 ⟨rfl, u147⟩
   have H146 := H142.keepU u147
   refine ⟨_, rfl, ?_⟩
   refine hK144 _ _ ?_
   clear hK144 K144
   refine Z2 (Z1 rfl) (d := 91) (v := (.bool true)) rfl (by kernel_rfl) ?_
   refine Z2 (Z1 rfl) (d := 8) (v := (.bool true)) rfl (by kernel_rfl) ?_
   refine Zn ?_
   refine Z4 ?_
   refine ZI ?_
   refine Z2e rfl (ZT (v := (.bool true)) rfl) ?_
   exact ⟨rfl, H146.upd 6 rfl [] (fun _ h => h.elim)⟩
end Go.Proofs.YtoaifondpohniaaGreat
