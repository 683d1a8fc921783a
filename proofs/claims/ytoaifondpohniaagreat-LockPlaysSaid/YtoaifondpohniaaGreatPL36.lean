/- WHAT IS PROVED: contracts and plain laws of LtF, LtEq. Conditions: stated with each. -/
import Derived.Test.YtoaifondpohniaaGreatPL17
import Derived.Test.YtoaifondpohniaaGreatPL19
import Derived.Test.YtoaifondpohniaaGreatPL31
import Derived.Test.YtoaifondpohniaaGreatPL33
import Derived.Test.YtoaifondpohniaaGreatPL35
set_option maxHeartbeats 4000000
set_option maxRecDepth 100000
namespace Go.Proofs.YtoaifondpohniaaGreat
open Go.RowKit
theorem Zbm (M' : List (NmD × CeR)) (n : NmD) : (Z5l M' n).length ≤ M'.length := by
 unfold Z5l
 split
 ·exact Nat.le_refl _
 ·exact List.length_eraseIdx_le ..
theorem Zbn {M M1 : List (NmD × CeR)} {NL : List NmD} {i : Nat} (h : M1 = (NL.take i).foldl Z5l M) (hi : i < NL.length) : Z5l M1 (⟨(NL.getD i nm0).cl, (NL.getD i nm0).sq⟩ : NmD) = (NL.take (i + 1)).foldl Z5l M := by
 rw [h, List.take_add_one, List.getElem?_eq_getElem hi, Option.toList_some, List.foldl_append, List.getD_eq_getElem?_getD, List.getElem?_eq_getElem hi]; rfl
theorem Z7G (w : World) (t tm : Nat) (F Cn rp : Int) (M : List (NmD × CeR)) (hA : (ZL [Z0 t 121 [.int .i64 F, .int .i64 Cn, .int .i64 rp, .map (some tm)], ZQ tm nmV ceV M]).ok w) (hlM : M.length ≤ 64) (na : Option Addr) (nc : Nat) (NL : List NmD) (hN : ListAt Z1c 2 w (.slice na NL.length nc) NL) (hva : 0 < NL.length → ∀ ad, na = some ad → ¬ (ZL [Z0 t 121 [.int .i64 F, .int .i64 Cn, .int .i64 rp, .map (some tm)], ZQ tm nmV ceV M]).fp ad.block) :
  Calls Tryz.prog 66 #[(.pointer (some ⟨t, 0, none⟩)), (.slice na NL.length nc)] w fun e w' => e = .returned (.int .i64 ((M.length : Int) - ((NL.foldl Z5l M).length : Int))) ∧ Sat w [Z0 t 121 [.int .i64 F, .int .i64 Cn, .int .i64 rp, .map (some tm)], ZQ tm nmV ceV (NL.foldl Z5l M), Z7 w (ZL [Z0 t 121 [.int .i64 F, .int .i64 Cn, .int .i64 rp, .map (some tm)], ZQ tm nmV ceV M]).fp] w' := by
 have H := Sat.start0 w
 have H : Sat w [Z0 t 121 ([(.int .i64 (F)), (.int .i64 (Cn)), (.int .i64 (rp)), (.map (some tm))] : List Value), ZQ tm nmV ceV M, Z7 w (ZL [Z0 t 121 [.int .i64 F, .int .i64 Cn, .int .i64 rp, .map (some tm)], ZQ tm nmV ceV M]).fp] w := Sat.start _ hA
 have hlN := SliceOf.le hN
 unfold maxLen at hlN
 refine Zh Tryz.func66 rfl 32 rfl (Nat.le_of_ble_eq_true rfl) ?_
 refine Zd ?_
 refine Zq ?_
 refine Z2 (Z1 rfl) (d := 4) (v := (.int .i64 (0))) rfl (by kernel_rfl) ?_
 refine Zn ?_
 refine Z4 ?_
 refine Zd ?_
 refine Zq ?_
 refine Z2 (Z1 rfl) (d := 8) (v := (.pointer (some ⟨t, 0, none⟩))) rfl (by kernel_rfl) ?_
 refine Z2 (Z1 rfl) (d := 9) (v := (.pointer (some ⟨t, 0, none⟩))) rfl (by kernel_rfl) ?_
 refine Z2 (Z1 rfl) (d := 10) (v := (.pointer (some ⟨t, 3, none⟩))) rfl (by kernel_rfl) ?_
 refine Z2 (Z1 rfl) (d := 11) (v := (.map (some tm))) rfl (Z8 rfl (by kernel_rfl) (H.cell 0 rfl rfl)) ?_
 refine Z2 (Z1 rfl) (d := 12) (v := (.int .i64 (((M).length : Int)))) rfl (Z9t (kt := 24) (et := 53) (by kernel_rfl) (H.at 1 rfl) rfl) ?_
 refine Z2 (Z1 rfl) (d := 5) (v := (.int .i64 (((M).length : Int)))) rfl (by kernel_rfl) ?_
 refine Zn ?_
 refine Z4 ?_
 refine Zd ?_
 refine Zd ?_
 refine Zq ?_
 refine Z2 (Z1 rfl) (d := 13) (v := (.slice na NL.length nc)) rfl (by kernel_rfl) ?_
 refine Z2 (Z1 rfl) (d := 14) (v := (.int .i64 ((NL.length : Int)))) rfl (by kernel_rfl) ?_
 refine Z2 (Z1 rfl) (d := 15) (v := (.int .i64 (0))) rfl (by kernel_rfl) ?_
 refine Zn ?_
 refine Z4 ?_
 refine ZM ?_
 refine Z0b [7, 15, 16, 17, 18, 19, 20, 21, 22, 23, 24] (fun F_ W_ m_ => ∃ (i : Nat) (M1 : List (NmD × CeR)), F_ 15 = (.int .i64 ((i : Int))) ∧ (i ≤ NL.length) ∧ (M1 = (NL.take i).foldl Z5l M) ∧ (M1.length ≤ M.length) ∧ Sat w [Z0 t 121 ([(.int .i64 (F)), (.int .i64 (Cn)), (.int .i64 (rp)), (.map (some tm))] : List Value), ZQ tm nmV ceV M1, Z7 w (ZL [Z0 t 121 [.int .i64 F, .int .i64 Cn, .int .i64 rp, .map (some tm)], ZQ tm nmV ceV M]).fp] W_ ∧ m_ = NL.length - i) _ ⟨0, M, (show ((.int .i64 (0)) : Value) = _ by first | rfl | go_num), (Nat.zero_le _), rfl, (Nat.le_refl _), H, rfl⟩ ?_
 rintro g1 w2 _ ⟨i, M1, v4, hi, hM1, hl1, H3, rfl⟩
 refine Zl 15 _ v4 ?_
 refine Zd ?_
 refine Zq ?_
 refine Z2 (Z1 rfl) (d := 16) (v := (.bool (decide ((i : Int) < (NL.length : Int))))) rfl (by kernel_rfl) ?_
 refine Zn ?_
 refine Z4 ?_
 refine Zd ?_
 refine (Zr (decide ((i : Int) < (NL.length : Int)))).elim (fun b6 => ?_) (fun b6 => ?_)
 ·have g7 := of_decide_eq_true b6
  refine Zl 16 (.bool true) (congrArg Value.bool b6) ?_
  have g8 := of_decide_eq_true b6
  refine Z0S rfl ?_
  refine ZW ?_
  refine Z4 ?_
  refine Zd ?_
  refine ZM ?_
  refine Zd ?_
  refine Zq ?_
  obtain ⟨g9, o10, c11, e12, R13⟩ := SliceOf.atD hN nm0 (show i < NL.length by omega)
  refine Z2 (Z1 rfl) (d := 17) (v := (.pointer (some ⟨g9, o10 + ((i : Int)).toNat * 2, none⟩))) rfl (ZV (E := 24) (by kernel_rfl) (by kernel_rfl) (Nat.le_of_ble_eq_true rfl) rfl e12 rfl (by omega) (by omega)) ?_
  refine Z2 (Z1 rfl) (d := 18) (v := (.agg ⟨([(.int .i64 ((NL.getD i nm0).cl)), (.int .i64 ((NL.getD i nm0).sq))] : List Value)⟩)) rfl (Z0k (vs := ([(.int .i64 ((NL.getD i nm0).cl)), (.int .i64 ((NL.getD i nm0).sq))] : List Value)) rfl (by kernel_rfl) (by kernel_rfl) (Nat.le_of_ble_eq_true (by kernel_rfl)) (H3.runR 2 rfl (Z16 R13 0 (by kernel_rfl) (show o10 + ((i : Int)).toNat * 2 = o10 + i * 2 + 0 by omega)) (by have hq := hva (by omega) _ (Z3m e12); exact hq))) ?_
  refine Z07 (Z1 rfl) (fun K14 hK14 => ?_)
  refine Z2q (zs := ([(.int .i64 (0)), (.int .i64 (0))] : List Value)) (z := (.agg ⟨([(.int .i64 (0)), (.int .i64 (0))] : List Value)⟩)) rfl H3 (by kernel_rfl) (by kernel_rfl) ?_
  intro b15 w16 (H17 : Sat w [Z0 t 121 ([(.int .i64 (F)), (.int .i64 (Cn)), (.int .i64 (rp)), (.map (some tm))] : List Value), ZQ tm nmV ceV M1, Z7 w (ZL [Z0 t 121 [.int .i64 F, .int .i64 Cn, .int .i64 rp, .map (some tm)], ZQ tm nmV ceV M]).fp, Z0 b15 24 ([(.int .i64 (0)), (.int .i64 (0))] : List Value)] w16)
  refine hK14 _ _ ?_
  clear hK14 K14
  refine Z07 (Z1 rfl) (fun K18 hK18 => ?_)
  refine Z1U (vs := ([(.int .i64 ((NL.getD i nm0).cl)), (.int .i64 ((NL.getD i nm0).sq))] : List Value)) (cs' := ([(.int .i64 ((NL.getD i nm0).cl)), (.int .i64 ((NL.getD i nm0).sq))] : List Value)) rfl H17 3 rfl rfl rfl rfl (by kernel_rfl) (Nat.le_of_ble_eq_true (by kernel_rfl)) (Nat.le_of_ble_eq_true (by kernel_rfl)) (by kernel_rfl) (by kernel_rfl) ?_
  intro w19 (H20 : Sat w [Z0 t 121 ([(.int .i64 (F)), (.int .i64 (Cn)), (.int .i64 (rp)), (.map (some tm))] : List Value), ZQ tm nmV ceV M1, Z7 w (ZL [Z0 t 121 [.int .i64 F, .int .i64 Cn, .int .i64 rp, .map (some tm)], ZQ tm nmV ceV M]).fp, Z0 b15 24 ([(.int .i64 ((NL.getD i nm0).cl)), (.int .i64 ((NL.getD i nm0).sq))] : List Value)] w19)
  refine hK18 _ _ ?_
  clear hK18 K18
  refine Zn ?_
  refine Z4 ?_
  refine Z08 H20 [Z0 t 121 ([(.int .i64 (F)), (.int .i64 (Cn)), (.int .i64 (rp)), (.map (some tm))] : List Value), Z7 w (ZL [Z0 t 121 [.int .i64 F, .int .i64 Cn, .int .i64 rp, .map (some tm)], ZQ tm nmV ceV M]).fp, Z0 b15 24 ([(.int .i64 ((NL.getD i nm0).cl)), (.int .i64 ((NL.getD i nm0).sq))] : List Value)] 6 rfl (by kernel_rfl) (fun Hx => (Hx.pick [0, 2, 3] (by decide))) ?_
  intro w22 H23 S24
  refine Z09 0 rfl (by kernel_rfl) (by kernel_rfl) (by kernel_rfl) (fun _ _ _ h => h) S24 (Z1 rfl) (d := 19) (v := (.pointer (some ⟨t, 0, none⟩))) rfl (fun _ H' => (by kernel_rfl)) ?_
  refine Z09 1 rfl (by kernel_rfl) (by kernel_rfl) (by kernel_rfl) (fun _ _ _ h => h) S24 (Z1 rfl) (d := 20) (v := (.pointer (some ⟨t, 0, none⟩))) rfl (fun _ H' => (by kernel_rfl)) ?_
  refine Z09 2 rfl (by kernel_rfl) (by kernel_rfl) (by kernel_rfl) (fun _ _ _ h => h) S24 (Z1 rfl) (d := 21) (v := (.pointer (some ⟨t, 3, none⟩))) rfl (fun _ H' => (by kernel_rfl)) ?_
  refine Z09 3 rfl (by kernel_rfl) (by kernel_rfl) (by kernel_rfl) (fun _ _ _ h => h) S24 (Z1 rfl) (d := 22) (v := (.map (some tm))) rfl (fun _ H' => (Z8 rfl (by kernel_rfl) (H'.cell 0 rfl rfl))) ?_
  refine Z09 4 rfl (by kernel_rfl) (by kernel_rfl) (by kernel_rfl) (fun _ _ _ h => h) S24 (Z1 rfl) (d := 23) (v := (.agg ⟨([(.int .i64 ((NL.getD i nm0).cl)), (.int .i64 ((NL.getD i nm0).sq))] : List Value)⟩)) rfl (fun _ H' => (Zi (vs := ([(.int .i64 ((NL.getD i nm0).cl)), (.int .i64 ((NL.getD i nm0).sq))] : List Value)) rfl (by kernel_rfl) (by kernel_rfl) (by exact Nat.le_of_ble_eq_true (by kernel_rfl)) (H'.at 2 rfl) (by kernel_rfl))) ?_
  refine Z2R 5 rfl (by kernel_rfl) (Z1 rfl) (fun K25 hK25 => ?_)
  refine Zaa (kt := 24) (et := 53) rfl H23 1 rfl nmK (by kernel_rfl) rfl (⟨(NL.getD i nm0).cl, (NL.getD i nm0).sq⟩ : NmD) rfl ?_
  intro w26 (H27 : Sat w [Z0 t 121 ([(.int .i64 (F)), (.int .i64 (Cn)), (.int .i64 (rp)), (.map (some tm))] : List Value), ZQ tm nmV ceV (Z5l M1 (⟨(NL.getD i nm0).cl, (NL.getD i nm0).sq⟩ : NmD)), Z7 w (ZL [Z0 t 121 [.int .i64 F, .int .i64 Cn, .int .i64 rp, .map (some tm)], ZQ tm nmV ceV M]).fp, Z0 b15 24 ([(.int .i64 ((NL.getD i nm0).cl)), (.int .i64 ((NL.getD i nm0).sq))] : List Value)] w26)
  have S28 := H27.pick [0, 2, 3] (by decide)
  refine hK25 _ _ S28 ?_
  clear hK25 K25
  refine Z4t (by kernel_rfl) ?_
  refine Zw ?_
  refine Z4 ?_
  refine Zq ?_
  refine Z2 (Z1 rfl) (d := 24) (v := (.int .i64 ((i : Int) + 1))) rfl (Z0n (z := (i : Int) + 1) (by kernel_rfl) (IntWalk.i64_in _ (by omega))) ?_
  refine Z2 (Z1 rfl) (d := 15) (v := (.int .i64 ((i : Int) + 1))) rfl (by kernel_rfl) ?_
  refine Zn ?_
  have H29 : Sat w [Z0 t 121 ([(.int .i64 (F)), (.int .i64 (Cn)), (.int .i64 (rp)), (.map (some tm))] : List Value), ZQ tm nmV ceV (Z5l M1 (⟨(NL.getD i nm0).cl, (NL.getD i nm0).sq⟩ : NmD)), Z7 w (ZL [Z0 t 121 [.int .i64 F, .int .i64 Cn, .int .i64 rp, .map (some tm)], ZQ tm nmV ceV M]).fp] w26 := H27.pick [0, 1, 2] (by decide)
  refine ZF ?_ _ ⟨(i + 1), (Z5l M1 (⟨(NL.getD i nm0).cl, (NL.getD i nm0).sq⟩ : NmD)), (show ((.int .i64 ((i : Int) + 1)) : Value) = _ by first | rfl | go_num), (by omega), (Zbn hM1 (by omega)), (Nat.le_trans (Zbm _ _) hl1), H29, rfl⟩ (by omega)
  exact (Z5 rfl (Z5 rfl (Z5 rfl (Z5 rfl (Z5 rfl (Z5 rfl (Z5 rfl (Z5 rfl (Z5 rfl (Z5 rfl (Z5 rfl (Z5 rfl (Z5 rfl (Z29))))))))))))))
 ·have g30 := of_decide_eq_false b6
  refine Zl 16 (.bool false) (congrArg Value.bool b6) ?_
  have g31 := of_decide_eq_false b6
  refine Z1g rfl ?_
  refine Z4c ?_
  refine Z1T ?_
  refine Z1P ?_
  refine Z2Y ?_
  refine Z4 ?_
  refine Zd ?_
  refine Zq ?_
  refine Z2 (Z1 rfl) (d := 25) (v := (.int .i64 (((M).length : Int)))) rfl (by kernel_rfl) ?_
  refine Z2 (Z1 rfl) (d := 26) (v := (.pointer (some ⟨t, 0, none⟩))) rfl (by kernel_rfl) ?_
  refine Z2 (Z1 rfl) (d := 27) (v := (.pointer (some ⟨t, 0, none⟩))) rfl (by kernel_rfl) ?_
  refine Z2 (Z1 rfl) (d := 28) (v := (.pointer (some ⟨t, 3, none⟩))) rfl (by kernel_rfl) ?_
  refine Z2 (Z1 rfl) (d := 29) (v := (.map (some tm))) rfl (Z8 rfl (by kernel_rfl) (H3.cell 0 rfl rfl)) ?_
  refine Z2 (Z1 rfl) (d := 30) (v := (.int .i64 (((M1).length : Int)))) rfl (Z9t (kt := 24) (et := 53) (by kernel_rfl) (H3.at 1 rfl) rfl) ?_
  refine Z2 (Z1 rfl) (d := 31) (v := (.int .i64 (((M).length : Int) - ((M1).length : Int)))) rfl (Z0n (z := ((M).length : Int) - ((M1).length : Int)) (by kernel_rfl) (IntWalk.i64_in _ (by omega))) ?_
  refine Z2 (Z1 rfl) (d := 4) (v := (.int .i64 (((M).length : Int) - ((M1).length : Int)))) rfl (by kernel_rfl) ?_
  refine Zn ?_
  refine Z4 ?_
  refine ZI ?_
  refine Z2e rfl (ZT (v := (.int .i64 (((M).length : Int) - ((M1).length : Int)))) rfl) ?_
  rw [List.take_of_length_le (by omega)] at hM1
  subst hM1
  exact ⟨rfl, H3.pick [0, 1, 2] (by decide)⟩
theorem Z49 (w : World) (F Cn rp : Int) (hF : -1099511627776 ≤ F ∧ F ≤ 1099511627776) :
  Calls Tryz.prog 32 #[(.agg ⟨([(.int .i64 (F)), (.int .i64 (Cn))] : List Value)⟩), (.int .i64 (rp))] w fun e w' => e = .returned (.bool (Z1r F Cn && inB F rp)) ∧ Upd [] w w' := by
 have H := Sat.start0 w
 refine Zh Tryz.func32 rfl 17 rfl (Nat.le_of_ble_eq_true rfl) ?_
 refine Zd ?_
 refine Zq ?_
 refine Z07 (Z1 rfl) (fun K1 hK1 => ?_)
 refine Z34 (vs := ([(.int .i64 (F)), (.int .i64 (Cn))] : List Value)) rfl H rfl rfl ?_
 intro b2 w3 (H4 : Sat w [Z7 w (fun _ => False), Z0 b2 36 ([(.int .i64 (F)), (.int .i64 (Cn))] : List Value)] w3)
 refine hK1 _ _ ?_
 clear hK1 K1
 refine Z2 (Z1 rfl) (d := 4) (v := (.bool false)) rfl (by kernel_rfl) ?_
 refine Zn ?_
 refine Z4 ?_
 refine Zd ?_
 refine Zq ?_
 refine Z2 (Z1 rfl) (d := 5) (v := (.agg ⟨([(.int .i64 (F)), (.int .i64 (Cn))] : List Value)⟩)) rfl (Zi (vs := ([(.int .i64 (F)), (.int .i64 (Cn))] : List Value)) rfl (by kernel_rfl) (by kernel_rfl) (by exact Nat.le_of_ble_eq_true (by kernel_rfl)) (H4.at 1 rfl) (by kernel_rfl)) ?_
 refine Z07 (Z1 rfl) (fun K5 hK5 => ?_)
 refine Z0g (d := 6) rfl (by kernel_rfl) (Z9H w3 F Cn) ?_
 rintro _ w6 ⟨rfl, u8⟩
 have H7 := H4.keepU u8
 refine ⟨_, rfl, ?_⟩
 refine hK5 _ _ ?_
 clear hK5 K5
 refine Z2 (Z1 rfl) (d := 7) (v := (.bool (Z1r F Cn))) rfl (by kernel_rfl) ?_
 refine (Zr (Z1r F Cn)).elim (fun b9 => ?_) (fun b9 => ?_)
 ·refine ZJ 7 (.bool true) (congrArg Value.bool b9) ?_
  refine Z2 (ZD 2 7 true rfl (by kernel_rfl) rfl (by kernel_rfl)) (d := 8) (v := (.int .i64 (rp))) rfl (by kernel_rfl) ?_
  refine Z2 (ZD 2 7 true rfl (by kernel_rfl) rfl (by kernel_rfl)) (d := 9) (v := (.bool (decide (rp ≥ 0)))) rfl (by kernel_rfl) ?_
  refine Z2 (Z1 rfl) (d := 10) (v := (.bool (decide (rp ≥ 0)))) rfl (by kernel_rfl) ?_
  refine Z2 (Z1 rfl) (d := 11) (v := (.bool (decide (rp ≥ 0)))) rfl (by kernel_rfl) ?_
  refine (Zr (decide (rp ≥ 0))).elim (fun b10 => ?_) (fun b10 => ?_)
  ·have g11 := of_decide_eq_true b10
   refine ZJ 11 (.bool true) (congrArg Value.bool b10) ?_
   have g12 := of_decide_eq_true b10
   refine Z2 (ZD 6 11 true rfl (by kernel_rfl) rfl (by kernel_rfl)) (d := 12) (v := (.int .i64 (rp))) rfl (by kernel_rfl) ?_
   refine Z2 (ZD 6 11 true rfl (by kernel_rfl) rfl (by kernel_rfl)) (d := 13) (v := (.agg ⟨([(.int .i64 (F)), (.int .i64 (Cn))] : List Value)⟩)) rfl (Zi (vs := ([(.int .i64 (F)), (.int .i64 (Cn))] : List Value)) rfl (by kernel_rfl) (by kernel_rfl) (by exact Nat.le_of_ble_eq_true (by kernel_rfl)) (H7.at 1 rfl) (by kernel_rfl)) ?_
   refine Z07 (ZD 6 11 true rfl (by kernel_rfl) rfl (by kernel_rfl)) (fun K13 hK13 => ?_)
   refine Z0g (d := 14) rfl (by kernel_rfl) (ZaY w6 F Cn (by omega)) ?_
   rintro _ w14 ⟨rfl, u16⟩
   have H15 := H7.keepU u16
   refine ⟨_, rfl, ?_⟩
   refine hK13 _ _ ?_
   clear hK13 K13
   refine Z2 (ZD 6 11 true rfl (by kernel_rfl) rfl (by kernel_rfl)) (d := 15) (v := (.bool (decide (rp < (3 * F + 1))))) rfl (by kernel_rfl) ?_
   refine Z2 (Z1 rfl) (d := 16) (v := (.bool (decide (rp < (3 * F + 1))))) rfl (by kernel_rfl) ?_
   refine Z2 (Z1 rfl) (d := 4) (v := (.bool (decide (rp < (3 * F + 1))))) rfl (by kernel_rfl) ?_
   refine Zn ?_
   refine Z4 ?_
   refine ZI ?_
   refine Z2e rfl (ZT (v := (.bool (decide (rp < (3 * F + 1))))) rfl) ?_
   exact ⟨by simp [inB, b9, b10], H15.upd 0 rfl [] (fun _ h => h.elim)⟩
  ·have g17 := of_decide_eq_false b10
   refine ZJ 11 (.bool false) (congrArg Value.bool b10) ?_
   have g18 := of_decide_eq_false b10
   refine Z0p (Z0i 6 11 true rfl (by kernel_rfl) rfl (by kernel_rfl)) rfl ?_
   refine Z0p (Z0i 6 11 true rfl (by kernel_rfl) rfl (by kernel_rfl)) rfl ?_
   refine Z0p (Z0i 6 11 true rfl (by kernel_rfl) rfl (by kernel_rfl)) rfl ?_
   refine Z0p (Z0i 6 11 true rfl (by kernel_rfl) rfl (by kernel_rfl)) rfl ?_
   refine Z2 (Z1 rfl) (d := 16) (v := (.bool false)) rfl (by kernel_rfl) ?_
   refine Z2 (Z1 rfl) (d := 4) (v := (.bool false)) rfl (by kernel_rfl) ?_
   refine Zn ?_
   refine Z4 ?_
   refine ZI ?_
   refine Z2e rfl (ZT (v := (.bool false)) rfl) ?_
   exact ⟨by simp [inB, b9, b10], H7.upd 0 rfl [] (fun _ h => h.elim)⟩
 ·refine ZJ 7 (.bool false) (congrArg Value.bool b9) ?_
  refine Z0p (Z0i 2 7 true rfl (by kernel_rfl) rfl (by kernel_rfl)) rfl ?_
  refine Z0p (Z0i 2 7 true rfl (by kernel_rfl) rfl (by kernel_rfl)) rfl ?_
  refine Z2 (Z1 rfl) (d := 10) (v := (.bool false)) rfl (by kernel_rfl) ?_
  refine Z2 (Z1 rfl) (d := 11) (v := (.bool false)) rfl (by kernel_rfl) ?_
  refine Z0p (Z0i 6 11 true rfl (by kernel_rfl) rfl (by kernel_rfl)) rfl ?_
  refine Z0p (Z0i 6 11 true rfl (by kernel_rfl) rfl (by kernel_rfl)) rfl ?_
  refine Z0p (Z0i 6 11 true rfl (by kernel_rfl) rfl (by kernel_rfl)) rfl ?_
  refine Z0p (Z0i 6 11 true rfl (by kernel_rfl) rfl (by kernel_rfl)) rfl ?_
  refine Z2 (Z1 rfl) (d := 16) (v := (.bool false)) rfl (by kernel_rfl) ?_
  refine Z2 (Z1 rfl) (d := 4) (v := (.bool false)) rfl (by kernel_rfl) ?_
  refine Zn ?_
  refine Z4 ?_
  refine ZI ?_
  refine Z2e rfl (ZT (v := (.bool false)) rfl) ?_
  exact ⟨by simp [inB, b9], H7.upd 0 rfl [] (fun _ h => h.elim)⟩
section
variable {B B' : List Ck} {M M' : List (NmD × CeR)} {L L' D : List CeR} {x c : CeR} {n : NmD} {ss : List NmD} {k : Nat} {F Cn floor : Int} {Lb : List Signed}
structure TabEq (B : List Ck) (M : List (NmD × CeR)) (L : List CeR) : Prop where
 ok : TabOk B M
 ct : ∀ c ∈ L, CeT B c
 up : L.Pairwise fun x y => Z5p x y = true
 eq : (L.map Z3g).Perm (M.map fun q => Z3g q.2)
theorem TabEq.nil : TabEq [] [] [] := ⟨TabOk.nil, fun _ hc => absurd hc List.not_mem_nil, List.Pairwise.nil, List.Perm.refl _⟩
theorem TabEq.len (h : TabEq B M L) : M.length = L.length := by
 have q := h.eq.length_eq
 simpa using q.symm
theorem CeT.sub (h : CeT B c) (hb : ∀ A ∈ B, A ∈ B') : CeT B' c := ⟨h.x, h.S, h.len, hb _ h.bag⟩
theorem TabEq.sub (h : TabEq B M L) (hb : ∀ A ∈ B, A ∈ B') : TabEq B' M L := ⟨⟨fun q hq => (h.ok.T q hq).sub hb, h.ok.K, h.ok.N⟩, fun c hc => (h.ct c hc).sub hb, h.up, h.eq⟩
theorem Zbk {a b : CeR} (h : Z3g a = Z3g b) : a.x = b.x ∧ a.S = b.S := by
 unfold Z3g at h
 exact Prod.mk.inj h
theorem nm_cp {a b : CeR} (h : Z3g a = Z3g b) : nmX a = nmX b := by unfold nmX; rw [(Zbk h).1]
theorem Zcj {a b : CeR} (h : Z5p a b = true) (e : nmX a = nmX b) : False := by
 unfold nmX at e
 obtain ⟨e1, e2⟩ := NmD.mk.inj e
 unfold Z5p at h
 simp only [Bool.or_eq_true, Bool.and_eq_true, decide_eq_true_eq] at h
 omega
theorem Zcn : ∀ {L : List CeR}, (L.Pairwise fun x y => Z5p x y = true) → ∀ {a b : CeR}, a ∈ L → b ∈ L → nmX a = nmX b → a = b
 | [], _, _, _, ha, _, _ => by cases ha
 | x :: L, h, a, b, ha, hb, e => by
  obtain ⟨h1, h2⟩ := List.pairwise_cons.1 h
  rcases List.mem_cons.1 ha with ea | ha'
  ·rcases List.mem_cons.1 hb with eb | hb'
   ·rw [ea, eb]
   ·exact (Zcj (h1 b hb') (ea ▸ e)).elim
  ·rcases List.mem_cons.1 hb with eb | hb'
   ·exact (Zcj (h1 a ha') (eb ▸ e.symm)).elim
   ·exact Zcn h2 ha' hb' e
theorem Z8h (hc : c ∈ L) (hu : L.Pairwise fun x y => Z5p x y = true) : ZP L (nmX c).cl (nmX c).sq = some c := by
 cases e : ZP L (nmX c).cl (nmX c).sq with
 | none =>
  unfold ZP at e
  rw [List.find?_eq_none] at e
  exact absurd (decide_eq_true (show c.x.cl = (nmX c).cl ∧ c.x.seq = (nmX c).sq from ⟨rfl, rfl⟩)) (by simpa using e c hc)
 | some y =>
  have hm : y ∈ L := List.mem_of_find?_eq_some (show L.find? (fun d => decide (d.x.cl = (nmX c).cl ∧ d.x.seq = (nmX c).sq)) = some y from e)
  have hp := List.find?_some (show L.find? (fun d => decide (d.x.cl = (nmX c).cl ∧ d.x.seq = (nmX c).sq)) = some y from e)
  have hp2 := of_decide_eq_true hp
  rw [Zcn hu hm hc (by unfold nmX; rw [hp2.1, hp2.2]; rfl)]
theorem Z7t {a b : Int} (h : ZP L a b = some c) : c ∈ L ∧ c.x.cl = a ∧ c.x.seq = b := by
 have h' : L.find? (fun d => decide (d.x.cl = a ∧ d.x.seq = b)) = some c := h
 have q := List.find?_some h'
 exact ⟨List.mem_of_find?_eq_some h', of_decide_eq_true (by simpa using q)⟩
theorem TabEq.look (h : TabEq B M L) (n : NmD) : (Zm M n).map Z3g = (ZP L n.cl n.sq).map Z3g := by
 cases hl : Zm M n with
 | none =>
  cases hf : ZP L n.cl n.sq with
  | none => rfl
  | some c =>
   obtain ⟨hc, e1, e2⟩ := Z7t hf
   obtain ⟨q, hq, e⟩ := List.mem_map.1 (h.eq.subset (List.mem_map_of_mem hc))
   have hk : q.1 = n := by rw [h.ok.K q hq, nm_cp e]; unfold nmX; rw [e1, e2]
   exact absurd (List.mem_map.2 ⟨q, hq, hk⟩) (Z4Q.1 hl)
 | some v =>
  have hm := Z5L hl
  have hk : n = nmX v := h.ok.K _ hm
  obtain ⟨c, hc, e⟩ := List.mem_map.1 (h.eq.symm.subset (List.mem_map.2 ⟨(n, v), hm, rfl⟩))
  have hn : nmX c = n := by rw [hk]; exact nm_cp e
  have hf := Z8h hc h.up
  rw [hn] at hf
  rw [hf]
  exact congrArg some e.symm
theorem TabEq.some_iff (h : TabEq B M L) (n : NmD) : (Zm M n).isSome = (ZP L n.cl n.sq).isSome := by
 have := congrArg Option.isSome (h.look n)
 simpa using this
theorem TabEq.got (h : TabEq B M L) (n : NmD) : Z3g ((Zm M n).getD ce0) = Z3g ((ZP L n.cl n.sq).getD ce0) := by
 have q := h.look n
 cases hl : Zm M n <;> cases hf : ZP L n.cl n.sq <;> rw [hl, hf] at q <;> simp_all
theorem TabEq.take (h : TabEq B M L) : Z3a F Cn floor Lb M x = Z44 F Cn floor Lb L x := by
 unfold Z3a Z44
 have h1 := h.some_iff (nmX x)
 have h2 := Zbk (h.got (nmX x))
 rw [h1, h2.1, h2.2, h.len]
 rfl
theorem ZaK {a b d : CeR} (h1 : Z5p a b = true) (h2 : Z5p b d = true) : Z5p a d = true := by
 unfold Z5p at *
 simp only [Bool.or_eq_true, Bool.and_eq_true, decide_eq_true_eq] at *
 omega
theorem ZbF {a b : CeR} (h : Z5p a b = false) (hn : nmX a ≠ nmX b) : Z5p b a = true := by
 have hn' : ¬ (a.x.cl = b.x.cl ∧ a.x.seq = b.x.seq) := fun e => hn (by unfold nmX; rw [e.1, e.2])
 unfold Z5p at *
 simp only [Bool.or_eq_false_iff, Bool.and_eq_false_iff, decide_eq_false_iff_not, Bool.or_eq_true, Bool.and_eq_true, decide_eq_true_eq] at *
 omega
theorem TabEq.put (h : TabEq B M L) (hx : CeT B x) (hn : (Zm M (nmX x)).isSome = false) (hp : Z86 L x k) (sa : Option Addr) (sc : Nat) : TabEq (stC ⟨x.x, sa, sc, x.S⟩ :: B) (Z3q M (nmX x) ⟨x.x, sa, sc, x.S⟩) (L.take k ++ x :: L.drop k) := by
 have hf : ∀ y ∈ L, nmX y ≠ nmX x := fun y hy e => by
  have q := Z8h hy h.up
  rw [e] at q
  have q2 := h.some_iff (nmX x)
  rw [q, hn] at q2; cases q2
 have hsplit : L.take k ++ L.drop k = L := List.take_append_drop k L
 have hup : (L.take k ++ L.drop k).Pairwise fun x y => Z5p x y = true := by rw [hsplit]; exact h.up
 obtain ⟨u1, u2, u3⟩ := List.pairwise_append.1 hup
 have hbef : ∀ y ∈ L.take k, Z5p y x = true := fun y hy => by
  rcases hp.stop with h0 | ⟨z, hz, hzf⟩
  ·subst h0; simp at hy
  ·obtain ⟨hzl, hze⟩ := List.getElem?_eq_some_iff.1 hz
   have hzx : Z5p z x = true := ZbF hzf fun e => hf z (hze ▸ List.getElem_mem hzl) e.symm
   obtain ⟨j, hj, e⟩ := List.mem_iff_getElem.1 hy
   rw [List.length_take] at hj
   rw [List.getElem_take] at e
   rcases Nat.lt_or_ge j (k - 1) with q | q
   ·have q1 := List.pairwise_iff_getElem.1 h.up j (k - 1) (by omega) hzl q
    rw [e, hze] at q1
    exact ZaK q1 hzx
   ·have hjk : j = k - 1 := by omega
    subst hjk
    rw [← e, hze]; exact hzx
 have haft : ∀ y ∈ L.drop k, Z5p x y = true := fun y hy => by
  obtain ⟨j, hj, e⟩ := List.mem_iff_getElem.1 hy
  rw [List.length_drop] at hj
  rw [List.getElem_drop] at e
  exact hp.up (k + j) (by omega) y (by rw [List.getElem?_eq_getElem (by omega), e])
 refine ⟨h.ok.put hn hx sa sc, fun c hc => ?_, ?_, ?_⟩
 ·rcases List.mem_append.1 hc with hc | hc
  ·exact (h.ct c (List.mem_of_mem_take hc)).more _
  ·rcases List.mem_cons.1 hc with rfl | hc
   ·exact hx.more _
   ·exact (h.ct c (List.mem_of_mem_drop hc)).more _
 ·refine List.pairwise_append.2 ⟨u1, List.pairwise_cons.2 ⟨haft, u2⟩, fun a ha b hb => ?_⟩
  rcases List.mem_cons.1 hb with rfl | hb
  ·exact hbef a ha
  ·exact u3 a ha b hb
 ·rw [Z3X hn]
  simp only [List.map_append, List.map_cons, List.map_nil]
  refine (List.perm_middle).trans ?_
  rw [← List.map_append, hsplit]
  exact (List.Perm.cons _ h.eq).trans (List.perm_append_singleton _ _).symm
theorem TabEq.took {er : Int} {R R2 E1 E2 : Prop} (h : TabEq B M L) (hx : CeT B x) (hl : M.length ≤ 64) (he : er = Z3a F Cn floor Lb M x) (hd : (M' = M ∧ B' = B ∧ (er = 0 → (Zm M (nmX x)).isSome = true) ∧ E1) ∨ ((er = 0 ∧ R) ∧ (Zm M (nmX x)).isSome = false ∧ ∃ (sa : Option Addr) (sc : Nat), M' = Z3q M (nmX x) ⟨x.x, sa, sc, x.S⟩ ∧ B' = stC ⟨x.x, sa, sc, x.S⟩ :: B))
  (hd2 : (L' = L ∧ (er = 0 → (ZP L x.x.cl x.x.seq).isSome = true) ∧ E2) ∨ ((er = 0 ∧ R2) ∧ (ZP L x.x.cl x.x.seq).isSome = false ∧ ∃ k, Z86 L x k ∧ L' = L.take k ++ x :: L.drop k)) : TabEq B' M' L' ∧ (∀ A ∈ B, A ∈ B') ∧ M'.length ≤ 64 := by
 have hs := h.some_iff (nmX x)
 rcases hd with ⟨rfl, rfl, h1, _⟩ | ⟨⟨h0, _⟩, hn, sa, sc, rfl, rfl⟩
 ·rcases hd2 with ⟨rfl, _, _⟩ | ⟨⟨h0, _⟩, hf, _⟩
  ·exact ⟨h, fun _ q => q, hl⟩
  ·rw [h1 h0] at hs
   exact absurd (hs.trans hf) (by decide)
 ·rcases hd2 with ⟨_, h2, _⟩ | ⟨_, hf, k, hp, rfl⟩
  ·rw [hn] at hs
   exact absurd (hs.trans (h2 h0)) (by decide)
  ·refine ⟨h.put hx hn hp sa sc, fun A q => List.mem_cons_of_mem _ q, ?_⟩
   rw [Z3X hn, List.length_append]
   rw [h0] at he
   unfold Z3a at he
   by_cases q1 : Z0m F Cn Lb x.x x.S = true
   ·rw [if_pos q1, if_neg (by rw [hn]; decide)] at he
    by_cases q2 : ZA x.S ≤ floor
    ·rw [if_pos q2] at he; omega
    ·rw [if_neg q2] at he
     by_cases q3 : 64 ≤ M.length
     ·rw [if_pos q3] at he; omega
     ·simp; omega
   ·rw [if_neg q1] at he; omega
theorem Z7i {er er2 rp : Int} {a a2 : Za} {R R2 : Prop} {Lp Lq : List Signed} (h : TabEq B M L) (hx : CeT B x) (hl : M.length ≤ 64) (hn : Lb.Nodup) (he : er = Z3a F Cn floor Lb M x) (h0 : er = 0 → a = Z9n rp Lb x ∧ Lp = Zp Lb (Z9o rp x)) (h1 : ¬ er = 0 → Lp = Lb)
  (hd : (M' = M ∧ B' = B ∧ (er = 0 → (Zm M (nmX x)).isSome = true) ∧ (¬ er = 0 → a = Ze)) ∨ ((er = 0 ∧ R) ∧ (Zm M (nmX x)).isSome = false ∧ ∃ (sa : Option Addr) (sc : Nat), M' = Z3q M (nmX x) ⟨x.x, sa, sc, x.S⟩ ∧ B' = stC ⟨x.x, sa, sc, x.S⟩ :: B))
  (he2 : er2 = Z44 F Cn floor Lb L x) (g0 : er2 = 0 → a2 = Z9n rp Lb x ∧ Lq = Zp Lb (Z9o rp x)) (g1 : ¬ er2 = 0 → Lq = Lb)
  (hd2 : (L' = L ∧ (er2 = 0 → (ZP L x.x.cl x.x.seq).isSome = true) ∧ (¬ er2 = 0 → a2 = Ze)) ∨ ((er2 = 0 ∧ R2) ∧ (ZP L x.x.cl x.x.seq).isSome = false ∧ ∃ k, Z86 L x k ∧ L' = L.take k ++ x :: L.drop k)) :
  er2 = er ∧ a2 = a ∧ Lq = Lp ∧ (TabEq B' M' L' ∧ (∀ A ∈ B, A ∈ B') ∧ M'.length ≤ 64) ∧ Lp.Nodup ∧ Lp.length ≤ Lb.length + 1 := by
 have hee : er2 = er := by rw [he2, he]; exact h.take.symm
 subst hee
 refine ⟨rfl, ?_, ?_, h.took hx hl he hd hd2, ?_, ?_⟩
 ·by_cases q : er2 = 0
  ·rw [(g0 q).1, (h0 q).1]
  ·rcases hd with ⟨_, _, _, e1⟩ | ⟨⟨e1, _⟩, _⟩
   ·rcases hd2 with ⟨_, _, e2⟩ | ⟨⟨e2, _⟩, _⟩
    ·rw [e1 q, e2 q]
    ·exact absurd e2 q
   ·exact absurd e1 q
 ·by_cases q : er2 = 0
  ·rw [(g0 q).2, (h0 q).2]
  ·rw [g1 q, h1 q]
 ·by_cases q : er2 = 0
  ·rw [(h0 q).2]; exact Z20 hn _
  ·rw [h1 q]; exact hn
 ·by_cases q : er2 = 0
  ·rw [(h0 q).2]; exact Z2a _ _
  ·rw [h1 q]; omega
theorem Z6n : ∀ {M : List (NmD × CeR)}, (M.map (·.1)).Nodup → ∀ n, Z5l M n = M.filter fun q => decide (q.1 ≠ n)
 | [], _, n => rfl
 | q :: M, hn, n => by
  rw [List.map_cons, List.nodup_cons] at hn
  have ih := Z6n hn.2 n
  unfold Z5l at ih ⊢
  rw [List.map_cons, List.idxOf?_cons, List.filter_cons]
  by_cases e : q.1 = n
  ·have e' : (q.1 == n) = true := by simpa using e
   have e2 : decide (q.1 ≠ n) = false := by simp [e]
   rw [e', e2]
   simp only [if_true, List.eraseIdx_zero, List.tail_cons, Bool.false_eq_true, if_false]
   rw [List.filter_eq_self.2]
   intro p hp
   rw [decide_eq_true_eq]
   exact fun e3 => hn.1 (List.mem_map.2 ⟨p, hp, by rw [e3, e]⟩)
  ·have e' : (q.1 == n) = false := by simpa using e
   have e2 : decide (q.1 ≠ n) = true := by simp [e]
   rw [e', e2]
   simp only [Bool.false_eq_true, if_false, if_true]
   rw [← ih]
   cases (M.map (·.1)).idxOf? n <;> simp
theorem Z50 {p : NmD × CeR → Bool} (h : (M.map (·.1)).Nodup) : ((M.filter p).map (·.1)).Nodup := h.sublist (List.filter_sublist.map _)
theorem Z8d (NL : List NmD) : ∀ {M : List (NmD × CeR)}, (M.map (·.1)).Nodup → NL.foldl Z5l M = M.filter fun q => decide (q.1 ∉ NL) := by
 induction NL with
 | nil => intro M _; exact (List.filter_eq_self.2 fun _ _ => by simp).symm
 | cons n NL ih =>
  intro M h
  rw [List.foldl_cons, Z6n h, ih (Z50 h), List.filter_filter]
  congr 1
  funext q
  simp only [List.mem_cons, not_or, ne_eq]
  by_cases h1 : q.1 = n <;> by_cases h2 : q.1 ∈ NL <;> simp [h1, h2]
theorem TabEq.drop (h : TabEq B M L) (NL : List NmD) : TabEq B (NL.foldl Z5l M) (L.filter fun c => decide (nmX c ∉ NL)) := by
 rw [Z8d NL h.ok.N]
 refine ⟨⟨fun q hq => h.ok.T q (List.mem_filter.1 hq).1, fun q hq => h.ok.K q (List.mem_filter.1 hq).1, Z50 h.ok.N⟩, fun c hc => h.ct c (List.mem_filter.1 hc).1, h.up.sublist List.filter_sublist, ?_⟩
 have e1 : (L.filter fun c => decide (nmX c ∉ NL)).map Z3g = (L.map Z3g).filter fun p => decide ((⟨p.1.cl, p.1.seq⟩ : NmD) ∉ NL) := by rw [List.filter_map]; rfl
 have e2 : (M.filter fun q => decide (q.1 ∉ NL)).map (fun q => Z3g q.2) = (M.map fun q => Z3g q.2).filter fun p => decide ((⟨p.1.cl, p.1.seq⟩ : NmD) ∉ NL) := by
  rw [List.filter_map]
  congr 1
  refine List.filter_congr fun q hq => ?_
  rw [h.ok.K q hq]; rfl
 rw [e1, e2]
 exact h.eq.filter _
theorem Z4b : ∀ {s t : List NmD}, (s.Pairwise Z5c) → (t.Pairwise Z5c) → s.Perm t → s = t
 | [], t, _, _, h => (List.nil_perm.1 h).symm
 | a :: s, [], _, _, h => by have := h.length_eq; simp at this
 | a :: s, b :: t, hs, ht, h => by
  obtain ⟨s1, s2⟩ := List.pairwise_cons.1 hs
  obtain ⟨t1, t2⟩ := List.pairwise_cons.1 ht
  have hab : a = b := by
   rcases List.mem_cons.1 (h.subset (List.mem_cons_self (a := a) (l := s))) with e | ha
   ·exact e
   ·rcases List.mem_cons.1 (h.symm.subset (List.mem_cons_self (a := b) (l := t))) with e | hb
    ·exact e.symm
    ·have q1 := t1 a ha
     have q2 := s1 b hb
     unfold Z5c at q1 q2
     omega
  subst hab
  rw [Z4b s2 t2 (List.perm_cons a |>.1 h)]
theorem TabEq.held (h : TabEq B M L) (hs : ss.Perm (M.map (·.1))) (hsp : ss.Pairwise fun a b => ¬ Z5c b a) (hv : HvC M ss D) : D.map Z3g = L.map Z3g := by
 have hss : ss.Nodup := hs.nodup_iff.2 h.ok.N
 have hst : ss.Pairwise Z5c := List.pairwise_iff_getElem.2 fun i j hi hj hij => rising hss hsp (List.getElem?_eq_getElem hi) (List.getElem?_eq_getElem hj) hij
 have hLt : (L.map nmX).Pairwise Z5c := by
  refine List.pairwise_map.2 (h.up.imp fun {a b} q => ?_)
  unfold Z5p at q
  unfold Z5c nmX
  simp only [Bool.or_eq_true, Bool.and_eq_true, decide_eq_true_eq] at q
  exact q
 have hp : (L.map nmX).Perm (M.map (·.1)) := by
  have e1 : L.map nmX = (L.map Z3g).map fun p => (⟨p.1.cl, p.1.seq⟩ : NmD) := by rw [List.map_map]; rfl
  have e2 : M.map (·.1) = (M.map fun q => Z3g q.2).map fun p => (⟨p.1.cl, p.1.seq⟩ : NmD) := by
   rw [List.map_map]
   exact List.map_congr_left fun q hq => h.ok.K q hq
  rw [e1, e2]
  exact h.eq.map _
 have hse : ss = L.map nmX := Z4b hst hLt (hs.trans hp.symm)
 rw [hv, hse, List.map_map]
 refine List.map_congr_left fun c hc => ?_
 show Z3g ((Zm M (nmX c)).getD ce0) = Z3g c
 rw [h.got, Z8h hc h.up]; rfl
theorem ZcM (e : D.map Z3g = L.map Z3g) (a b : Int) : (Z0a D a b).map Z3g = (Z0a L a b).map Z3g := by
 unfold Z0a
 have q : ∀ X : List CeR, (X.filter fun c => decide (ZA c.S > a) && decide (ZA c.S ≤ b)).map Z3g = (X.map Z3g).filter fun p => decide (ZA p.2 > a) && decide (ZA p.2 ≤ b) := fun X => by rw [List.filter_map]; rfl
 rw [q, q, e]
theorem Zbj (e : D.map Z3g = L.map Z3g) : Z4X D = Z4X L := by
 have q : ∀ X : List CeR, Z4X X = (X.map Z3g).flatMap fun p => [Z02 p.1, Zf (p.2.length : Int)].flatten ++ Z5Y p.2 := fun X => by
  unfold Z4X
  rw [List.flatMap_map]; rfl
 rw [q, q, e]
theorem ZcJ {r e' f : Int} {ca ca' : Option Addr} {cc cc' : Nat} {s1 s2 s3 s4 : Int} (e : D.map Z3g = L.map Z3g) : Z0f (⟨r, e', f, ca, cc, s1, s2, D⟩ : PrR) = Z0f (⟨r, e', f, ca', cc', s3, s4, L⟩ : PrR) := by
 have hl : D.length = L.length := by have := congrArg List.length e; simpa using this
 unfold Z0f Z1l
 rw [Zbj e, hl]
end
end Go.Proofs.YtoaifondpohniaaGreat
