/- WHAT IS PROVED: contracts and plain laws of Replies22. Conditions: stated with each. -/
import Derived.Test.YtgigjkjdmalmaaaGreatPR12
import Derived.Test.YtgigjkjdmalmaaaGreatPR27
import Derived.Test.YtgigjkjdmalmaaaGreatPR28
import Derived.Test.YtgigjkjdmalmaaaGreatPR30
set_option maxHeartbeats 4000000
set_option maxRecDepth 100000
namespace Go.Proofs.YtgigjkjdmalmaaaGreat
open Go.RowKit
def Z0J : Z1Q := ⟨1 :: List.replicate 31 0, by simp⟩
theorem Z53 {t : Int} (h : 0 ≤ t ∧ t < 256) : ([Value.int .u8 t] : List Value) = ([UInt8.ofNat t.toNat] : List UInt8).map Z1g := by
 show [Value.int .u8 t] = [Z1g (UInt8.ofNat t.toNat)]
 unfold Z1g
 rw [UInt8.toNat_ofNat', Nat.mod_eq_of_lt (by omega), Int.toNat_of_nonneg h.1]
structure Rcv (i : Nat) (v : RcD) (R : List (Int × RcD)) : Prop where
 len : R.length = i
 lt : ∀ y ∈ R, y.1 < (i : Int)
 all : ∀ y ∈ R, y.2 = v
section
variable {i : Nat} {v : RcD} {R : List (Int × RcD)} {F : Int} {op : Bool}
theorem Rcv.nil : Rcv 0 v [] := ⟨rfl, (fun _ h => nomatch h), (fun _ h => nomatch h)⟩
theorem Rcv.add (h : Rcv i v R) : Rcv (i + 1) v (Z0u R i v) ∧ (Zr (Z0u R i v) i).getD rc0 = v ∧ Z0R (Z0u R i v) v = i + 1 := by
 have hn : (i : Int) ∉ R.map (·.1) := fun q => by
  obtain ⟨y, hy, e⟩ := List.mem_map.1 q
  have := h.lt y hy; omega
 have h2 : ∀ y ∈ Z0u R i v, y.2 = v := fun y hy => by
  rw [Z1l hn] at hy
  rcases List.mem_append.1 hy with hy | hy
  ·exact h.all y hy
  ·rw [List.mem_singleton.1 hy]
 refine ⟨⟨by rw [Z1l hn, List.length_append, h.len]; rfl, fun y hy => ?_, h2⟩, Z17 hn, ?_⟩
 ·rw [Z1l hn] at hy
  rcases List.mem_append.1 hy with hy | hy
  ·have := h.lt y hy; omega
  ·rw [List.mem_singleton.1 hy]; show (i : Int) < _; omega
 ·unfold Z0R
  rw [List.countP_eq_length.2 (fun y hy => decide_eq_true (h2 y hy)), Z1l hn, List.length_append, h.len]; rfl
theorem rc_no (h : Rcv i v R) (ho : op = decide ((i : Int) = F + 1)) (hi : (i : Int) < F + 1) (hc : op = true ∨ (Z0R (Z0u R i v) ((Zr (Z0u R i v) i).getD rc0) : Int) < F + 1) : op = decide (((i + 1 : Nat) : Int) = F + 1) := by
 rw [h.add.2.1, h.add.2.2] at hc
 rw [decide_eq_false (by omega)] at ho
 subst ho
 rcases hc with hc | hc
 ·cases hc
 ·exact (decide_eq_false (by omega)).symm
theorem rc_yes (h : Rcv i v R) (hi : (i : Int) < F + 1) (hc : F + 1 ≤ (Z0R (Z0u R i v) ((Zr (Z0u R i v) i).getD rc0) : Int)) : true = decide (((i + 1 : Nat) : Int) = F + 1) ∧ ((Zr (Z0u R i v) i).getD rc0).i = v.i := by
 rw [h.add.2.1, h.add.2.2] at hc
 exact ⟨(decide_eq_true (by omega)).symm, by rw [h.add.2.1]⟩
end
section
variable {F : Int} {S : List (Int × List UInt8)} {dn : Bool} {rp told : List UInt8}
theorem rep_ne (h : Rep F S dn rp told) : decide (told = []) = !dn := by
 have t := h.t
 cases dn
 ·rw [if_neg (by decide)] at t; rw [decide_eq_true t]; rfl
 ·rw [if_pos rfl] at t; rw [decide_eq_false (fun e => h.n rfl (t.symm.trans e))]; rfl
theorem rep_eq (h : Rep F S dn rp told) (hr : dn = false → rp = []) : rp = told := by
 have t := h.t
 cases dn
 ·rw [if_neg (by decide)] at t; rw [t]; exact hr rfl
 ·rw [if_pos rfl] at t; exact t.symm
end
theorem Z3o (w : World) (f : Int) (wa : Option Addr) (wc : Nat) (W : List Int) (hW : ListAt encJ 1 w (.slice wa W.length wc) W) (ya : Option Addr) (yc : Nat) (Y : List Int) (hY : ListAt encJ 1 w (.slice ya Y.length yc) Y) :
  Calls Tryz.prog 6 #[(.int .i64 (f)), (.slice wa W.length wc), (.slice ya Y.length yc)] w fun e w' => e = .returned (.bool true) ∧ Upd [] w w' := by
 have hw3 := Z2c f 3 (by omega)
 have hlW := SliceOf.le hW
 have hlY := SliceOf.le hY
 unfold maxLen at hlW hlY
 have H := Sat.start0 w
 refine Zu Tryz.func6 rfl 203 rfl (Nat.le_of_ble_eq_true rfl) ?_
 refine Zf ?_
 refine Zm ?_
 refine Z3 (Z1 rfl) (d := 6) (v := (.bool false)) rfl (by kernel_rfl) ?_
 refine Zj ?_
 refine Z7 ?_
 refine Z0p [7, 31, 32, 33, 34] (fun G_ W_ => ∃ (F : Int) (x7 : Nat), G_ 7 = (.pointer (some ⟨x7, 0, none⟩)) ∧ (1 ≤ F ∧ F ≤ 3) ∧ Sat w [Zb w (fun _ => False), Z6 x7 27 ([(.int .i64 (F)), (.int .i64 (1))] : List Value)] W_) ?_ ?_
 ·refine Zm ?_
  refine Z3 (Z1 rfl) (d := 31) (v := (.int .i64 (f))) rfl (by kernel_rfl) ?_
  refine ZC (Z1 rfl) (fun K2 hK2 => ?_)
  refine ZD (d := 32) rfl (by kernel_rfl) (Z2b w f 3 (by omega)) ?_
  rintro _ w3 ⟨rfl, u5⟩
  have H4 := H.keepU u5
  refine ⟨_, rfl, ?_⟩
  refine hK2 _ _ ?_
  clear hK2 K2
  refine Z3 (Z1 rfl) (d := 33) (v := (.int .i64 (1 + (Z08 f 3)))) rfl (Z06 (z := 1 + (Z08 f 3)) (by kernel_rfl) (IntWalk.i64_in _ (by omega))) ?_
  refine Z3 (Z1 rfl) (d := 34) (v := (.agg ⟨([(.int .i64 (1 + (Z08 f 3))), (.int .i64 (1))] : List Value)⟩)) rfl (by kernel_rfl) ?_
  refine ZC (Z1 rfl) (fun K6 hK6 => ?_)
  refine Z0y (zs := ([(.int .i64 (0)), (.int .i64 (0))] : List Value)) (z := (.agg ⟨([(.int .i64 (0)), (.int .i64 (0))] : List Value)⟩)) rfl H4 (by kernel_rfl) (by kernel_rfl) ?_
  intro b7 w8 (H9 : Sat w [Zb w (fun _ => False), Z6 b7 27 ([(.int .i64 (0)), (.int .i64 (0))] : List Value)] w8)
  refine hK6 _ _ ?_
  clear hK6 K6
  refine ZC (Z1 rfl) (fun K10 hK10 => ?_)
  refine ZV (vs := ([(.int .i64 (1 + (Z08 f 3))), (.int .i64 (1))] : List Value)) (cs' := ([(.int .i64 (1 + (Z08 f 3))), (.int .i64 (1))] : List Value)) rfl H9 1 rfl rfl rfl rfl (by kernel_rfl) (Nat.le_of_ble_eq_true (by kernel_rfl)) (Nat.le_of_ble_eq_true (by kernel_rfl)) (by kernel_rfl) (by kernel_rfl) ?_
  intro w11 (H12 : Sat w [Zb w (fun _ => False), Z6 b7 27 ([(.int .i64 (1 + (Z08 f 3))), (.int .i64 (1))] : List Value)] w11)
  refine hK10 _ _ ?_
  clear hK10 K10
  refine Zj ?_
  have H14 : Sat w [Zb w (fun _ => False), Z6 b7 27 ([(.int .i64 (1 + (Z08 f 3))), (.int .i64 (1))] : List Value)] w11 := H12.pick [0, 1] (by decide)
  refine ZS ?_ ⟨(1 + (Z08 f 3)), b7, rfl, (by omega), H14⟩
  exact (Z4 rfl (Z4 rfl (Z4 rfl (Z4 rfl (Z4 rfl (ZP))))))
 ·rintro f15 w16 ⟨F, x7, v18, hF, H17⟩
  refine Zq 7 _ v18 ?_
  refine Zf ?_
  refine Zm ?_
  refine Z3 (Z1 rfl) (d := 35) (v := (.agg ⟨([(.int .i64 (F)), (.int .i64 (1))] : List Value)⟩)) rfl (ZM (vs := ([(.int .i64 (F)), (.int .i64 (1))] : List Value)) rfl (by kernel_rfl) (by kernel_rfl) (by exact Nat.le_of_ble_eq_true (by kernel_rfl)) (H17.at 1 rfl) (by kernel_rfl)) ?_
  refine ZC (Z1 rfl) (fun K19 hK19 => ?_)
  refine ZD (d := 36) rfl (by kernel_rfl) (rN_any w16 F 1 (by omega)) ?_
  rintro _ w20 ⟨rfl, u22⟩
  have H21 := H17.keepU u22
  refine ⟨_, rfl, ?_⟩
  refine hK19 _ _ ?_
  clear hK19 K19
  refine Z3 (Z1 rfl) (d := 8) (v := (.int .i64 (3 * F + 1))) rfl (by kernel_rfl) ?_
  refine Zj ?_
  refine Z7 ?_
  refine Zf ?_
  refine Zm ?_
  refine ZC (Z1 rfl) (fun K23 hK23 => ?_)
  refine ZD (d := 37) rfl (by kernel_rfl) (Z4y w20) ?_
  rintro _ w24 ⟨b25, m26, rfl, k27, p28, q29⟩
  have H30 : Sat w [Zb w (fun _ => False), Z6 x7 27 ([(.int .i64 (F)), (.int .i64 (1))] : List Value), ZF [Z6 b25 108 [.map (some m26)], Zi m26 Zc (Value.int .i64) (Zk [])]] w24 := H21.addU p28 k27 q29
  have H31 : Sat w [Zb w (fun _ => False), Z6 x7 27 ([(.int .i64 (F)), (.int .i64 (1))] : List Value), Z6 b25 108 ([(.map (some m26))] : List Value), Zi m26 Zc (Value.int .i64) (Zk [])] w24 := H30.open 2 rfl
  refine ⟨_, rfl, ?_⟩
  refine hK23 _ _ ?_
  clear hK23 K23
  refine Z3 (Z1 rfl) (d := 9) (v := (.pointer (some ⟨b25, 0, none⟩))) rfl (by kernel_rfl) ?_
  refine Zj ?_
  refine Z7 ?_
  refine Zf ?_
  refine Zf ?_
  refine Zm ?_
  refine Z3 (Z1 rfl) (d := 38) (v := (.pointer (some ⟨b25, 0, none⟩))) rfl (by kernel_rfl) ?_
  refine Z3 (Z1 rfl) (d := 39) (v := (.bool false)) rfl (by kernel_rfl) ?_
  refine Zj ?_
  refine Z7 ?_
  refine ZT rfl ?_
  refine ZO ?_
  refine Z7 ?_
  refine Zf ?_
  refine Zm ?_
  refine Z3 (Z1 rfl) (d := 41) (v := (.agg ⟨([(.int .i64 (F)), (.int .i64 (1))] : List Value)⟩)) rfl (ZM (vs := ([(.int .i64 (F)), (.int .i64 (1))] : List Value)) rfl (by kernel_rfl) (by kernel_rfl) (by exact Nat.le_of_ble_eq_true (by kernel_rfl)) (H31.at 1 rfl) (by kernel_rfl)) ?_
  refine Z3 (Z1 rfl) (d := 42) (v := (.pointer (some ⟨b25, 0, none⟩))) rfl (by kernel_rfl) ?_
  refine ZC (Z1 rfl) (fun K32 hK32 => ?_)
  refine ZD (d := 43) rfl (by kernel_rfl) (Z3C w24 F 1 (0 : Int) b25 (by unfold Z1I; simp; omega) (by omega)) ?_
  rintro _ w33 ⟨c34, rfl, k35, p36, q37⟩
  have H38 : Sat w [Zb w (fun _ => False), Z6 x7 27 ([(.int .i64 (F)), (.int .i64 (1))] : List Value), Z6 b25 108 ([(.map (some m26))] : List Value), Zi m26 Zc (Value.int .i64) (Zk []), Z6 c34 112 ([(.int .i64 (F)), (.int .i64 (1)), (.int .i64 (0)), (.pointer (some ⟨b25, 0, none⟩)), (.slice none 0 0)] : List Value)] w33 := H31.addU p36 k35 q37
  refine ⟨_, rfl, ?_⟩
  refine hK32 _ _ ?_
  clear hK32 K32
  refine Z3 (Z1 rfl) (d := 40) (v := (.tuple #[(.pointer (some ⟨c34, 0, none⟩)), (.int .i64 (0))])) rfl (by kernel_rfl) ?_
  refine Z3 (Z1 rfl) (d := 44) (v := (.pointer (some ⟨c34, 0, none⟩))) rfl (by kernel_rfl) ?_
  refine Z3 (Z1 rfl) (d := 45) (v := (.int .i64 (0))) rfl (by kernel_rfl) ?_
  refine Z3 (Z1 rfl) (d := 10) (v := (.pointer (some ⟨c34, 0, none⟩))) rfl (by kernel_rfl) ?_
  refine Z3 (Z1 rfl) (d := 11) (v := (.int .i64 (0))) rfl (by kernel_rfl) ?_
  refine Zj ?_
  refine Z7 ?_
  refine Zf ?_
  refine Zf ?_
  refine Zm ?_
  refine Z3 (Z1 rfl) (d := 46) (v := (.int .i64 (0))) rfl (by kernel_rfl) ?_
  refine Z3 (Z1 rfl) (d := 47) (v := (.bool false)) rfl (by kernel_rfl) ?_
  refine Z3 (Z1 rfl) (d := 48) (v := (.bool false)) rfl (by kernel_rfl) ?_
  refine Z3 (Zs 2 48 false rfl (by kernel_rfl) rfl (by kernel_rfl)) (d := 49) (v := (.pointer (some ⟨c34, 0, none⟩))) rfl (by kernel_rfl) ?_
  refine Z3 (Zs 2 48 false rfl (by kernel_rfl) rfl (by kernel_rfl)) (d := 50) (v := (.bool false)) rfl (by kernel_rfl) ?_
  refine Z3 (Z1 rfl) (d := 51) (v := (.bool false)) rfl (by kernel_rfl) ?_
  refine Zj ?_
  refine Z7 ?_
  refine ZT rfl ?_
  refine ZO ?_
  refine Z7 ?_
  have H40 : Sat w [Zb w (fun _ => False), Z6 x7 27 ([(.int .i64 (F)), (.int .i64 (1))] : List Value), Z6 b25 108 ([(.map (some m26))] : List Value), Zi m26 Zc (Value.int .i64) (Zk []), Z6 c34 112 ([(.int .i64 (F)), (.int .i64 (1)), (.int .i64 (0)), (.pointer (some ⟨b25, 0, none⟩)), (.slice none (([] : List Zl).length) 0)] : List Value), Ze 119 79 (.slice none (([] : List Zl).length) 0) (([] : List Zl).length) (([] : List Zl).flatMap Zg)] w33 := H38.addNil 119 79
  have H41 : Sat w [Zb w (fun _ => False), Z6 x7 27 ([(.int .i64 (F)), (.int .i64 (1))] : List Value), Z6 b25 108 ([(.map (some m26))] : List Value), Zi m26 Zc (Value.int .i64) (Zk []), Z6 c34 112 ([(.int .i64 (F)), (.int .i64 (1)), (.int .i64 (0)), (.pointer (some ⟨b25, 0, none⟩)), (.slice none (([] : List Zl).length) 0)] : List Value), Ze 119 79 (.slice none (([] : List Zl).length) 0) (([] : List Zl).length) (([] : List Zl).flatMap Zg), ZJ (.slice none 0 0) ([] : List UInt8)] w33 := (H40.addNil 5 1).conv 6 rfl (fun h_ => Z1i (ListAt.row (enc := Zo) (sz := 1) (xs := []) ZR (by decide) h_)) (fun _ h_ => h_.2)
  refine Z0p [6, 12, 13, 52, 53, 54, 55, 56, 57, 58, 59] (fun G_ W_ => ∃ (g lc : Nat) (q : Zl), (q.op = false) ∧ (q.x.h = Z8 (ofT 0 1 Z0J [])) ∧ (q.P = []) ∧ (q.dn = false) ∧ (q.rp = []) ∧ Sat w [Zb w (fun _ => False), Z6 x7 27 ([(.int .i64 (F)), (.int .i64 (1))] : List Value), Z6 c34 112 ([(.int .i64 (F)), (.int .i64 (1)), (.int .i64 (0)), (.pointer (some ⟨b25, 0, none⟩)), (.slice (some ⟨g, 0, none⟩) 1 lc)] : List Value), Ze 119 79 (.slice (some ⟨g, 0, none⟩) 1 lc) 1 (([q]).flatMap Zg), Zi q.mr (Value.int .i64) rcV [], Ze 5 1 (.slice q.pa q.P.length q.pc) q.P.length (q.P.flatMap Zo), Zi q.mp (Value.int .i64) Zt []] W_) ?_ ?_
  ·refine Zf ?_
   refine Zm ?_
   refine Z3 (Z1 rfl) (d := 53) (v := (.pointer (some ⟨c34, 0, none⟩))) rfl (by kernel_rfl) ?_
   refine Z3 (Z1 rfl) (d := 54) (v := (.agg ⟨(hc (hash1 (1)))⟩)) rfl (by kernel_rfl) ?_
   refine ZC (Z1 rfl) (fun K43 hK43 => ?_)
   refine ZD (d := 55) rfl (by kernel_rfl) (Z2d w33 c34 b25 m26 0 none F 1 0 ([] : List Zl) ([]) none 0 ([] : List UInt8) (H41.fin [4, 5, 2, 3, 6] (by decide) rfl) Z0J (by decide) (by decide) (by decide) (fun _ e_ => by cases e_) (by omega) (by omega)) ?_
   rintro _ w44 ⟨g45, c46, a47, c48, m49, m50, m51, m52, a53, c54, D55, B56, rfl, n57, o58, T59⟩
   have H60 : Sat w [Zb w (fun _ => False), Z6 x7 27 ([(.int .i64 (F)), (.int .i64 (1))] : List Value), Z6 b25 108 ([(.map (some m26))] : List Value), Zi m26 Zc (Value.int .i64) (Zk (Zd ([]) (⟨1000 + 0, Z2 (⟨0, ((([] : List Zl).length : Int) + 1), Z8 (ofT 0 ((([] : List Zl).length : Int) + 1) Z0J ([] : List UInt8)), ([] : List UInt8).length, 0, 0⟩ : Z0)⟩ : Z5))), Z6 c34 112 ([(.int .i64 (F)), (.int .i64 (1)), (.int .i64 (0)), (.pointer (some ⟨b25, 0, none⟩)), (.slice (some ⟨g45, 0, none⟩) ((([] : List Zl) ++ [(⟨(⟨0, ((([] : List Zl).length : Int) + 1), Z8 (ofT 0 ((([] : List Zl).length : Int) + 1) Z0J ([] : List UInt8)), ([] : List UInt8).length, 1000 + 0, Z9 (Zd ([]) (⟨1000 + 0, Z2 (⟨0, ((([] : List Zl).length : Int) + 1), Z8 (ofT 0 ((([] : List Zl).length : Int) + 1) Z0J ([] : List UInt8)), ([] : List UInt8).length, 0, 0⟩ : Z0)⟩ : Z5)) (⟨1000 + 0, Z2 (⟨0, ((([] : List Zl).length : Int) + 1), Z8 (ofT 0 ((([] : List Zl).length : Int) + 1) Z0J ([] : List UInt8)), ([] : List UInt8).length, 0, 0⟩ : Z0)⟩ : Z5)⟩ : Z0), a47, c48, ([] : List UInt8), Z0J, m49, none, m50, m51, false, 0, m52, false, []⟩ : Zl)]).length) c46)] : List Value), Ze 119 79 (.slice (some ⟨g45, 0, none⟩) ((([] : List Zl) ++ [(⟨(⟨0, ((([] : List Zl).length : Int) + 1), Z8 (ofT 0 ((([] : List Zl).length : Int) + 1) Z0J ([] : List UInt8)), ([] : List UInt8).length, 1000 + 0, Z9 (Zd ([]) (⟨1000 + 0, Z2 (⟨0, ((([] : List Zl).length : Int) + 1), Z8 (ofT 0 ((([] : List Zl).length : Int) + 1) Z0J ([] : List UInt8)), ([] : List UInt8).length, 0, 0⟩ : Z0)⟩ : Z5)) (⟨1000 + 0, Z2 (⟨0, ((([] : List Zl).length : Int) + 1), Z8 (ofT 0 ((([] : List Zl).length : Int) + 1) Z0J ([] : List UInt8)), ([] : List UInt8).length, 0, 0⟩ : Z0)⟩ : Z5)⟩ : Z0), a47, c48, ([] : List UInt8), Z0J, m49, none, m50, m51, false, 0, m52, false, []⟩ : Zl)]).length) c46) ((([] : List Zl) ++ [(⟨(⟨0, ((([] : List Zl).length : Int) + 1), Z8 (ofT 0 ((([] : List Zl).length : Int) + 1) Z0J ([] : List UInt8)), ([] : List UInt8).length, 1000 + 0, Z9 (Zd ([]) (⟨1000 + 0, Z2 (⟨0, ((([] : List Zl).length : Int) + 1), Z8 (ofT 0 ((([] : List Zl).length : Int) + 1) Z0J ([] : List UInt8)), ([] : List UInt8).length, 0, 0⟩ : Z0)⟩ : Z5)) (⟨1000 + 0, Z2 (⟨0, ((([] : List Zl).length : Int) + 1), Z8 (ofT 0 ((([] : List Zl).length : Int) + 1) Z0J ([] : List UInt8)), ([] : List UInt8).length, 0, 0⟩ : Z0)⟩ : Z5)⟩ : Z0), a47, c48, ([] : List UInt8), Z0J, m49, none, m50, m51, false, 0, m52, false, []⟩ : Zl)]).length) ((([] : List Zl) ++ [(⟨(⟨0, ((([] : List Zl).length : Int) + 1), Z8 (ofT 0 ((([] : List Zl).length : Int) + 1) Z0J ([] : List UInt8)), ([] : List UInt8).length, 1000 + 0, Z9 (Zd ([]) (⟨1000 + 0, Z2 (⟨0, ((([] : List Zl).length : Int) + 1), Z8 (ofT 0 ((([] : List Zl).length : Int) + 1) Z0J ([] : List UInt8)), ([] : List UInt8).length, 0, 0⟩ : Z0)⟩ : Z5)) (⟨1000 + 0, Z2 (⟨0, ((([] : List Zl).length : Int) + 1), Z8 (ofT 0 ((([] : List Zl).length : Int) + 1) Z0J ([] : List UInt8)), ([] : List UInt8).length, 0, 0⟩ : Z0)⟩ : Z5)⟩ : Z0), a47, c48, ([] : List UInt8), Z0J, m49, none, m50, m51, false, 0, m52, false, []⟩ : Zl)]).flatMap Zg), ZJ (.slice none 0 0) ([] : List UInt8), Zi m49 (Value.int .i64) Z0d [], Zi m50 (Value.int .i64) Value.bool [], Zi m51 (Value.int .i64) rcV [], Zi m52 (Value.int .i64) Zt [], Ze 5 1 (.slice a47 (([] : List UInt8).length) c48) (([] : List UInt8).length) (([] : List UInt8).flatMap Zo), Ze 82 295 (.slice a53 D55.length c54) D55.length (D55.flatMap Z04), Z0U B56] w44 := (Sat.turnL (L' := [Z6 c34 112 ([(.int .i64 (F)), (.int .i64 (1)), (.int .i64 (0)), (.pointer (some ⟨b25, 0, none⟩)), (.slice (some ⟨g45, 0, none⟩) ((([] : List Zl) ++ [(⟨(⟨0, ((([] : List Zl).length : Int) + 1), Z8 (ofT 0 ((([] : List Zl).length : Int) + 1) Z0J ([] : List UInt8)), ([] : List UInt8).length, 1000 + 0, Z9 (Zd ([]) (⟨1000 + 0, Z2 (⟨0, ((([] : List Zl).length : Int) + 1), Z8 (ofT 0 ((([] : List Zl).length : Int) + 1) Z0J ([] : List UInt8)), ([] : List UInt8).length, 0, 0⟩ : Z0)⟩ : Z5)) (⟨1000 + 0, Z2 (⟨0, ((([] : List Zl).length : Int) + 1), Z8 (ofT 0 ((([] : List Zl).length : Int) + 1) Z0J ([] : List UInt8)), ([] : List UInt8).length, 0, 0⟩ : Z0)⟩ : Z5)⟩ : Z0), a47, c48, ([] : List UInt8), Z0J, m49, none, m50, m51, false, 0, m52, false, []⟩ : Zl)]).length) c46)] : List Value), Ze 119 79 (.slice (some ⟨g45, 0, none⟩) ((([] : List Zl) ++ [(⟨(⟨0, ((([] : List Zl).length : Int) + 1), Z8 (ofT 0 ((([] : List Zl).length : Int) + 1) Z0J ([] : List UInt8)), ([] : List UInt8).length, 1000 + 0, Z9 (Zd ([]) (⟨1000 + 0, Z2 (⟨0, ((([] : List Zl).length : Int) + 1), Z8 (ofT 0 ((([] : List Zl).length : Int) + 1) Z0J ([] : List UInt8)), ([] : List UInt8).length, 0, 0⟩ : Z0)⟩ : Z5)) (⟨1000 + 0, Z2 (⟨0, ((([] : List Zl).length : Int) + 1), Z8 (ofT 0 ((([] : List Zl).length : Int) + 1) Z0J ([] : List UInt8)), ([] : List UInt8).length, 0, 0⟩ : Z0)⟩ : Z5)⟩ : Z0), a47, c48, ([] : List UInt8), Z0J, m49, none, m50, m51, false, 0, m52, false, []⟩ : Zl)]).length) c46) ((([] : List Zl) ++ [(⟨(⟨0, ((([] : List Zl).length : Int) + 1), Z8 (ofT 0 ((([] : List Zl).length : Int) + 1) Z0J ([] : List UInt8)), ([] : List UInt8).length, 1000 + 0, Z9 (Zd ([]) (⟨1000 + 0, Z2 (⟨0, ((([] : List Zl).length : Int) + 1), Z8 (ofT 0 ((([] : List Zl).length : Int) + 1) Z0J ([] : List UInt8)), ([] : List UInt8).length, 0, 0⟩ : Z0)⟩ : Z5)) (⟨1000 + 0, Z2 (⟨0, ((([] : List Zl).length : Int) + 1), Z8 (ofT 0 ((([] : List Zl).length : Int) + 1) Z0J ([] : List UInt8)), ([] : List UInt8).length, 0, 0⟩ : Z0)⟩ : Z5)⟩ : Z0), a47, c48, ([] : List UInt8), Z0J, m49, none, m50, m51, false, 0, m52, false, []⟩ : Zl)]).length) ((([] : List Zl) ++ [(⟨(⟨0, ((([] : List Zl).length : Int) + 1), Z8 (ofT 0 ((([] : List Zl).length : Int) + 1) Z0J ([] : List UInt8)), ([] : List UInt8).length, 1000 + 0, Z9 (Zd ([]) (⟨1000 + 0, Z2 (⟨0, ((([] : List Zl).length : Int) + 1), Z8 (ofT 0 ((([] : List Zl).length : Int) + 1) Z0J ([] : List UInt8)), ([] : List UInt8).length, 0, 0⟩ : Z0)⟩ : Z5)) (⟨1000 + 0, Z2 (⟨0, ((([] : List Zl).length : Int) + 1), Z8 (ofT 0 ((([] : List Zl).length : Int) + 1) Z0J ([] : List UInt8)), ([] : List UInt8).length, 0, 0⟩ : Z0)⟩ : Z5)⟩ : Z0), a47, c48, ([] : List UInt8), Z0J, m49, none, m50, m51, false, 0, m52, false, []⟩ : Zl)]).flatMap Zg), Z6 b25 108 ([(.map (some m26))] : List Value), Zi m26 Zc (Value.int .i64) (Zk (Zd ([]) (⟨1000 + 0, Z2 (⟨0, ((([] : List Zl).length : Int) + 1), Z8 (ofT 0 ((([] : List Zl).length : Int) + 1) Z0J ([] : List UInt8)), ([] : List UInt8).length, 0, 0⟩ : Z0)⟩ : Z5))), ZJ (.slice none 0 0) ([] : List UInt8), Zi m49 (Value.int .i64) Z0d [], Zi m50 (Value.int .i64) Value.bool [], Zi m51 (Value.int .i64) rcV [], Zi m52 (Value.int .i64) Zt [], Ze 5 1 (.slice a47 (([] : List UInt8).length) c48) (([] : List UInt8).length) (([] : List UInt8).flatMap Zo), Ze 82 295 (.slice a53 D55.length c54) D55.length (D55.flatMap Z04), Z0U B56]) (R := [Zb w (fun _ => False), Z6 x7 27 ([(.int .i64 (F)), (.int .i64 (1))] : List Value)]) H41 [4, 5, 2, 3, 6] [0, 1] (by decide) (by kernel_rfl) rfl T59).pick [12, 13, 2, 3, 0, 1, 4, 5, 6, 7, 8, 9, 10, 11] (by decide)
   refine ⟨_, rfl, ?_⟩
   refine hK43 _ _ ?_
   clear hK43 K43
   refine Z3 (Z1 rfl) (d := 52) (v := (.tuple #[(.slice a53 D55.length c54), (.int .i64 (0))])) rfl (by kernel_rfl) ?_
   refine Z3 (Z1 rfl) (d := 56) (v := (.slice a53 D55.length c54)) rfl (by kernel_rfl) ?_
   refine Z3 (Z1 rfl) (d := 57) (v := (.int .i64 (0))) rfl (by kernel_rfl) ?_
   refine Z3 (Z1 rfl) (d := 12) (v := (.slice a53 D55.length c54)) rfl (by kernel_rfl) ?_
   refine Z3 (Z1 rfl) (d := 13) (v := (.int .i64 (0))) rfl (by kernel_rfl) ?_
   refine Zj ?_
   refine Z7 ?_
   refine Zf ?_
   refine Zm ?_
   refine Z3 (Z1 rfl) (d := 58) (v := (.int .i64 (0))) rfl (by kernel_rfl) ?_
   refine Z3 (Z1 rfl) (d := 59) (v := (.bool false)) rfl (by kernel_rfl) ?_
   refine Zj ?_
   refine Z7 ?_
   refine ZT rfl ?_
   refine ZO ?_
   have H61 : Sat w [Zb w (fun _ => False), Z6 x7 27 ([(.int .i64 (F)), (.int .i64 (1))] : List Value), Z6 c34 112 ([(.int .i64 (F)), (.int .i64 (1)), (.int .i64 (0)), (.pointer (some ⟨b25, 0, none⟩)), (.slice (some ⟨g45, 0, none⟩) ((([] : List Zl) ++ [(⟨(⟨0, ((([] : List Zl).length : Int) + 1), Z8 (ofT 0 ((([] : List Zl).length : Int) + 1) Z0J ([] : List UInt8)), ([] : List UInt8).length, 1000 + 0, Z9 (Zd ([]) (⟨1000 + 0, Z2 (⟨0, ((([] : List Zl).length : Int) + 1), Z8 (ofT 0 ((([] : List Zl).length : Int) + 1) Z0J ([] : List UInt8)), ([] : List UInt8).length, 0, 0⟩ : Z0)⟩ : Z5)) (⟨1000 + 0, Z2 (⟨0, ((([] : List Zl).length : Int) + 1), Z8 (ofT 0 ((([] : List Zl).length : Int) + 1) Z0J ([] : List UInt8)), ([] : List UInt8).length, 0, 0⟩ : Z0)⟩ : Z5)⟩ : Z0), a47, c48, ([] : List UInt8), Z0J, m49, none, m50, m51, false, 0, m52, false, []⟩ : Zl)]).length) c46)] : List Value), Ze 119 79 (.slice (some ⟨g45, 0, none⟩) ((([] : List Zl) ++ [(⟨(⟨0, ((([] : List Zl).length : Int) + 1), Z8 (ofT 0 ((([] : List Zl).length : Int) + 1) Z0J ([] : List UInt8)), ([] : List UInt8).length, 1000 + 0, Z9 (Zd ([]) (⟨1000 + 0, Z2 (⟨0, ((([] : List Zl).length : Int) + 1), Z8 (ofT 0 ((([] : List Zl).length : Int) + 1) Z0J ([] : List UInt8)), ([] : List UInt8).length, 0, 0⟩ : Z0)⟩ : Z5)) (⟨1000 + 0, Z2 (⟨0, ((([] : List Zl).length : Int) + 1), Z8 (ofT 0 ((([] : List Zl).length : Int) + 1) Z0J ([] : List UInt8)), ([] : List UInt8).length, 0, 0⟩ : Z0)⟩ : Z5)⟩ : Z0), a47, c48, ([] : List UInt8), Z0J, m49, none, m50, m51, false, 0, m52, false, []⟩ : Zl)]).length) c46) ((([] : List Zl) ++ [(⟨(⟨0, ((([] : List Zl).length : Int) + 1), Z8 (ofT 0 ((([] : List Zl).length : Int) + 1) Z0J ([] : List UInt8)), ([] : List UInt8).length, 1000 + 0, Z9 (Zd ([]) (⟨1000 + 0, Z2 (⟨0, ((([] : List Zl).length : Int) + 1), Z8 (ofT 0 ((([] : List Zl).length : Int) + 1) Z0J ([] : List UInt8)), ([] : List UInt8).length, 0, 0⟩ : Z0)⟩ : Z5)) (⟨1000 + 0, Z2 (⟨0, ((([] : List Zl).length : Int) + 1), Z8 (ofT 0 ((([] : List Zl).length : Int) + 1) Z0J ([] : List UInt8)), ([] : List UInt8).length, 0, 0⟩ : Z0)⟩ : Z5)⟩ : Z0), a47, c48, ([] : List UInt8), Z0J, m49, none, m50, m51, false, 0, m52, false, []⟩ : Zl)]).length) ((([] : List Zl) ++ [(⟨(⟨0, ((([] : List Zl).length : Int) + 1), Z8 (ofT 0 ((([] : List Zl).length : Int) + 1) Z0J ([] : List UInt8)), ([] : List UInt8).length, 1000 + 0, Z9 (Zd ([]) (⟨1000 + 0, Z2 (⟨0, ((([] : List Zl).length : Int) + 1), Z8 (ofT 0 ((([] : List Zl).length : Int) + 1) Z0J ([] : List UInt8)), ([] : List UInt8).length, 0, 0⟩ : Z0)⟩ : Z5)) (⟨1000 + 0, Z2 (⟨0, ((([] : List Zl).length : Int) + 1), Z8 (ofT 0 ((([] : List Zl).length : Int) + 1) Z0J ([] : List UInt8)), ([] : List UInt8).length, 0, 0⟩ : Z0)⟩ : Z5)⟩ : Z0), a47, c48, ([] : List UInt8), Z0J, m49, none, m50, m51, false, 0, m52, false, []⟩ : Zl)]).flatMap Zg), Zi m51 (Value.int .i64) rcV [], Ze 5 1 (.slice a47 (([] : List UInt8).length) c48) (([] : List UInt8).length) (([] : List UInt8).flatMap Zo), Zi m52 (Value.int .i64) Zt []] w44 := H60.pick [0, 1, 4, 5, 9, 11, 10] (by decide)
   refine ZS ?_ ⟨g45, c46, (⟨(⟨0, ((([] : List Zl).length : Int) + 1), Z8 (ofT 0 ((([] : List Zl).length : Int) + 1) Z0J ([] : List UInt8)), ([] : List UInt8).length, 1000 + 0, Z9 (Zd ([]) (⟨1000 + 0, Z2 (⟨0, ((([] : List Zl).length : Int) + 1), Z8 (ofT 0 ((([] : List Zl).length : Int) + 1) Z0J ([] : List UInt8)), ([] : List UInt8).length, 0, 0⟩ : Z0)⟩ : Z5)) (⟨1000 + 0, Z2 (⟨0, ((([] : List Zl).length : Int) + 1), Z8 (ofT 0 ((([] : List Zl).length : Int) + 1) Z0J ([] : List UInt8)), ([] : List UInt8).length, 0, 0⟩ : Z0)⟩ : Z5)⟩ : Z0), a47, c48, ([] : List UInt8), Z0J, m49, none, m50, m51, false, 0, m52, false, []⟩ : Zl), rfl, (by rfl), rfl, rfl, rfl, H61⟩
   exact (Z4 rfl (Z4 rfl (Z4 rfl (Z4 rfl (Z4 rfl (Z4 rfl (Z4 rfl (Z4 rfl (Z4 rfl (Z4 rfl (ZP)))))))))))
  ·rintro f62 w63 ⟨g, lc, q, hqo, hqh, hqP, hqd, hqr, H64⟩
   refine Z0p [14, 60, 61, 62] (fun G_ W_ => ∃ (x14 : Nat), G_ 14 = (.pointer (some ⟨x14, 0, none⟩)) ∧ Sat w [Zb w (fun _ => False), Z6 x7 27 ([(.int .i64 (F)), (.int .i64 (1))] : List Value), Z6 c34 112 ([(.int .i64 (F)), (.int .i64 (1)), (.int .i64 (0)), (.pointer (some ⟨b25, 0, none⟩)), (.slice (some ⟨g, 0, none⟩) 1 lc)] : List Value), Ze 119 79 (.slice (some ⟨g, 0, none⟩) 1 lc) 1 (([q]).flatMap Zg), Zi q.mr (Value.int .i64) rcV [], Ze 5 1 (.slice q.pa q.P.length q.pc) q.P.length (q.P.flatMap Zo), Zi q.mp (Value.int .i64) Zt [], Z6 x14 40 (hc q.x.h)] W_) ?_ ?_
   ·refine Zm ?_
    refine Z3 (Z1 rfl) (d := 60) (v := (.agg ⟨([(.int .i64 (0)), (.int .i64 (1))] : List Value)⟩)) rfl (by kernel_rfl) ?_
    refine Z3 (Z1 rfl) (d := 61) (v := (.agg ⟨(hc (hash1 (1)))⟩)) rfl (by kernel_rfl) ?_
    refine ZC (Z1 rfl) (fun K66 hK66 => ?_)
    refine ZD (d := 62) rfl (by kernel_rfl) (Z6H w63 0 1 Z0J none 0 [] ListAt.nil (by decide) (by decide) (by decide)) ?_
    rintro _ w67 ⟨rfl, u69⟩
    have H68 := H64.keepU u69
    refine ⟨_, rfl, ?_⟩
    refine hK66 _ _ ?_
    clear hK66 K66
    refine ZC (Z1 rfl) (fun K70 hK70 => ?_)
    refine Z0y (zs := (hc Za)) (z := (.agg ⟨(hc Za)⟩)) rfl H68 (by kernel_rfl) (by kernel_rfl) ?_
    intro b71 w72 (H73 : Sat w [Zb w (fun _ => False), Z6 x7 27 ([(.int .i64 (F)), (.int .i64 (1))] : List Value), Z6 c34 112 ([(.int .i64 (F)), (.int .i64 (1)), (.int .i64 (0)), (.pointer (some ⟨b25, 0, none⟩)), (.slice (some ⟨g, 0, none⟩) 1 lc)] : List Value), Ze 119 79 (.slice (some ⟨g, 0, none⟩) 1 lc) 1 (([q]).flatMap Zg), Zi q.mr (Value.int .i64) rcV [], Ze 5 1 (.slice q.pa q.P.length q.pc) q.P.length (q.P.flatMap Zo), Zi q.mp (Value.int .i64) Zt [], Z6 b71 40 (hc Za)] w72)
    refine hK70 _ _ ?_
    clear hK70 K70
    refine ZC (Z1 rfl) (fun K74 hK74 => ?_)
    refine ZV (vs := (hc (Z8 (ofT 0 1 Z0J [])))) (cs' := (hc (Z8 (ofT 0 1 Z0J [])))) rfl H73 7 rfl rfl rfl rfl (by kernel_rfl) (Nat.le_of_ble_eq_true (by kernel_rfl)) (Nat.le_of_ble_eq_true (by kernel_rfl)) (by kernel_rfl) (by kernel_rfl) ?_
    intro w75 (H76 : Sat w [Zb w (fun _ => False), Z6 x7 27 ([(.int .i64 (F)), (.int .i64 (1))] : List Value), Z6 c34 112 ([(.int .i64 (F)), (.int .i64 (1)), (.int .i64 (0)), (.pointer (some ⟨b25, 0, none⟩)), (.slice (some ⟨g, 0, none⟩) 1 lc)] : List Value), Ze 119 79 (.slice (some ⟨g, 0, none⟩) 1 lc) 1 (([q]).flatMap Zg), Zi q.mr (Value.int .i64) rcV [], Ze 5 1 (.slice q.pa q.P.length q.pc) q.P.length (q.P.flatMap Zo), Zi q.mp (Value.int .i64) Zt [], Z6 b71 40 (hc (Z8 (ofT 0 1 Z0J [])))] w75)
    refine hK74 _ _ ?_
    clear hK74 K74
    refine Zj ?_
    have H78 : Sat w [Zb w (fun _ => False), Z6 x7 27 ([(.int .i64 (F)), (.int .i64 (1))] : List Value), Z6 c34 112 ([(.int .i64 (F)), (.int .i64 (1)), (.int .i64 (0)), (.pointer (some ⟨b25, 0, none⟩)), (.slice (some ⟨g, 0, none⟩) 1 lc)] : List Value), Ze 119 79 (.slice (some ⟨g, 0, none⟩) 1 lc) 1 (([q]).flatMap Zg), Zi q.mr (Value.int .i64) rcV [], Ze 5 1 (.slice q.pa q.P.length q.pc) q.P.length (q.P.flatMap Zo), Zi q.mp (Value.int .i64) Zt [], Z6 b71 40 (hc (Z8 (ofT 0 1 Z0J [])))] w75 := H76.pick [0, 1, 2, 3, 4, 5, 6, 7] (by decide)
    have H79 : Sat w [Zb w (fun _ => False), Z6 x7 27 ([(.int .i64 (F)), (.int .i64 (1))] : List Value), Z6 c34 112 ([(.int .i64 (F)), (.int .i64 (1)), (.int .i64 (0)), (.pointer (some ⟨b25, 0, none⟩)), (.slice (some ⟨g, 0, none⟩) 1 lc)] : List Value), Ze 119 79 (.slice (some ⟨g, 0, none⟩) 1 lc) 1 (([q]).flatMap Zg), Zi q.mr (Value.int .i64) rcV [], Ze 5 1 (.slice q.pa q.P.length q.pc) q.P.length (q.P.flatMap Zo), Zi q.mp (Value.int .i64) Zt [], Z6 b71 40 (hc q.x.h)] w75 := H78.cast (by rw [hqh])
    refine ZS ?_ ⟨b71, rfl, H79⟩
    exact (Z4 rfl (Z4 rfl (Z4 rfl (Z4 rfl (ZP)))))
   ·rintro f80 w81 ⟨x14, v83, H82⟩
    refine Zq 14 _ v83 ?_
    refine Zf ?_
    refine Zf ?_
    refine Zm ?_
    refine Z3 (Z1 rfl) (d := 63) (v := (.pointer (some ⟨c34, 0, none⟩))) rfl (by kernel_rfl) ?_
    refine Z3 (Z1 rfl) (d := 64) (v := (.agg ⟨(([(.int .i64 (13)), (.int .i64 (0)), (.int .i64 (1000)), (.int .i64 (0)), (.int .i64 (0))] : List Value) ++ hc Za ++ ([(.int .i64 (0)), (.int .i64 (0)), (.int .i64 (0)), (.int .i64 (0)), (.int .i64 (0)), (.int .i64 (0))] : List Value) ++ hc Za ++ ([(.int .u64 (0)), (.int .i64 (0)), (.int .i64 (0)), (.int .i64 (0)), (.int .i64 (0))] : List Value) ++ hc Za ++ ([(.int .i64 (0)), (.int .i64 (0)), (.int .i64 (0)), (.slice none 0 0), (.int .i64 (0)), (.int .i64 (0)), (.int .i64 (0))] : List Value) ++ hc Za ++ ([(.int .u64 (0)), (.int .i64 (0)), (.int .i64 (0)), (.int .i64 (0)), (.int .i64 (0)), (.int .u64 (0)), (.int .i64 (0)), (.int .i64 (0)), (.int .u64 (0)), (.slice none 0 0), (.int .i64 (0)), (.int .i64 (0)), (.int .i64 (0)), (.int .i64 (0)), (.int .i64 (0)), (.int .i64 (0)), (.int .i64 (0)), (.int .u64 (0)), (.slice none 0 0), (.slice none 0 0), (.slice none 0 0), (.int .i64 (0)), (.int .i64 (0)), (.int .i64 (0))] : List Value) ++ ([(.int .i64 (0)), (.int .i64 (0)), (.int .i64 (0))] : List Value) ++ hc Za ++ ([(.int .i64 (0)), (.int .i64 (0)), (.int .i64 (4)), (.int .i64 (0)), (.int .i64 (0))] : List Value) ++ hc Za ++ ([(.int .u64 (0)), (.int .i64 (0)), (.slice none 0 0)] : List Value) ++ hc Za ++ ([(.int .i64 (0)), (.int .i64 (0)), (.int .i64 (0)), (.int .i64 (0)), (Zt ([111, 107])), (.int .i64 (0)), (.int .i64 (0)), (.int .i64 (0)), (.int .u64 (0)), (.slice none 0 0), (.slice none 0 0), (.slice none 0 0), (.slice none 0 0)] : List Value))⟩)) rfl (by kernel_rfl) ?_
    refine ZC (Z1 rfl) (fun K84 hK84 => ?_)
    refine ZD (d := 65) rfl (by kernel_rfl) (Z2e w81 c34 b25 g lc F 1 0 [q] (H82.at 2 rfl) (H82.at 3 rfl) (Nat.le_of_ble_eq_true rfl) (by omega) (by decide) (0 : Int) (4 : Int) ([111, 107]) (Z3N (by rintro _ (_ | ⟨_, ⟨⟩⟩); unfold Z51; rw [hqo]; rfl)) (by unfold inB; simp; omega)) ?_
    rintro _ w85 ⟨rfl, u86⟩
    have H87 := H82.keepU u86
    refine ⟨_, rfl, ?_⟩
    refine hK84 _ _ ?_
    clear hK84 K84
    refine Z3 (Z1 rfl) (d := 66) (v := (.int .i64 (0))) rfl (by kernel_rfl) ?_
    refine Z3 (Z1 rfl) (d := 67) (v := (.bool false)) rfl (by kernel_rfl) ?_
    refine Zj ?_
    refine Z7 ?_
    refine ZT rfl ?_
    refine ZO ?_
    refine Z7 ?_
    refine Zf ?_
    refine Zf ?_
    refine Zm ?_
    refine Z3 (Z1 rfl) (d := 15) (v := (.int .i64 (0))) rfl (by kernel_rfl) ?_
    refine Zj ?_
    refine Z7 ?_
    refine ZB ?_
    refine ZX [15, 68, 69, 70, 71, 72, 73, 74, 75, 76, 77, 78, 79, 80, 81] (fun F_ W_ m_ => ∃ (i : Nat) (R : List (Int × RcD)) (qi : Zl), F_ 15 = (.int .i64 ((i : Int))) ∧ ((i : Int) ≤ F + 1) ∧ (Rcv i (⟨4, ⟨0, 1, qi.x.h, 2⟩⟩ : RcD) R) ∧ (qi.op = decide ((i : Int) = F + 1)) ∧ (qi.op = true → qi.pl = 4) ∧ (qi.P = []) ∧ (qi.dn = false) ∧ (qi.rp = []) ∧ Sat w [Zb w (fun _ => False), Z6 x7 27 ([(.int .i64 (F)), (.int .i64 (1))] : List Value), Z6 c34 112 ([(.int .i64 (F)), (.int .i64 (1)), (.int .i64 (0)), (.pointer (some ⟨b25, 0, none⟩)), (.slice (some ⟨g, 0, none⟩) 1 lc)] : List Value), Ze 119 79 (.slice (some ⟨g, 0, none⟩) 1 lc) 1 (([qi]).flatMap Zg), Zi qi.mr (Value.int .i64) rcV R, Ze 5 1 (.slice qi.pa qi.P.length qi.pc) qi.P.length (qi.P.flatMap Zo), Zi qi.mp (Value.int .i64) Zt [], Z6 x14 40 (hc qi.x.h)] W_ ∧ m_ = (F + 1 - i).toNat) _ ⟨0, [], q, (show ((.int .i64 (0)) : Value) = _ by first | rfl | go_num), (by omega), Rcv.nil, (by rw [hqo]; exact (decide_eq_false (by omega)).symm), (fun h_ => by rw [hqo] at h_; cases h_), hqP, hqd, hqr, H87, rfl⟩ ?_
    rintro g88 w89 _ ⟨i, R, qi, v91, hi, hRc, hop, hpl, hqP, hqd, hqr, H90, rfl⟩
    refine Zq 15 _ v91 ?_
    refine Zf ?_
    refine Zf ?_
    refine Zm ?_
    refine Z3 (Z1 rfl) (d := 68) (v := (.int .i64 ((i : Int)))) rfl (by kernel_rfl) ?_
    refine Z3 (Z1 rfl) (d := 69) (v := (.pointer (some ⟨x7, 0, none⟩))) rfl (by kernel_rfl) ?_
    refine Z3 (Z1 rfl) (d := 70) (v := (.int .i64 (F))) rfl (Zh rfl (by kernel_rfl) (H90.cell 1 rfl rfl)) ?_
    refine Z3 (Z1 rfl) (d := 71) (v := (.int .i64 (F + 1))) rfl (Z06 (z := F + 1) (by kernel_rfl) (IntWalk.i64_in _ (by omega))) ?_
    refine Z3 (Z1 rfl) (d := 72) (v := (.bool (decide ((i : Int) < (F + 1))))) rfl (by kernel_rfl) ?_
    refine Zj ?_
    refine Z7 ?_
    refine (Z00 (decide ((i : Int) < (F + 1)))).elim (fun b93 => ?_) (fun b93 => ?_)
    ·have g94 := of_decide_eq_true b93
     refine Zq 72 (.bool true) (congrArg Value.bool b93) ?_
     have g95 := of_decide_eq_true b93
     refine Z0o rfl ?_
     refine ZO ?_
     refine Z7 ?_
     refine Zf ?_
     refine ZB ?_
     refine Zm ?_
     refine Z3 (Z1 rfl) (d := 75) (v := (.pointer (some ⟨c34, 0, none⟩))) rfl (by kernel_rfl) ?_
     refine Z3 (Z1 rfl) (d := 76) (v := (.int .i64 ((i : Int)))) rfl (by kernel_rfl) ?_
     refine Z3 (Z1 rfl) (d := 77) (v := (.agg ⟨([(.int .i64 (0)), (.int .i64 (1))] : List Value)⟩)) rfl (by kernel_rfl) ?_
     refine Z3 (Z1 rfl) (d := 78) (v := (.agg ⟨(hc qi.x.h)⟩)) rfl (ZM (vs := (hc qi.x.h)) rfl (by kernel_rfl) (by kernel_rfl) (by exact Nat.le_of_ble_eq_true (by kernel_rfl)) (H90.at 7 rfl) (by kernel_rfl)) ?_
     refine Z3 (Z1 rfl) (d := 79) (v := (.agg ⟨(([(.int .i64 (0)), (.int .i64 (1))] : List Value) ++ hc qi.x.h ++ ([(.int .u64 (2))] : List Value))⟩)) rfl (by kernel_rfl) ?_
     refine Z3 (Z1 rfl) (d := 80) (v := (.agg ⟨(([(.int .i64 (9)), (.int .i64 ((i : Int))), (.int .i64 (1000)), (.int .i64 (0)), (.int .i64 (0))] : List Value) ++ hc Za ++ ([(.int .i64 (0)), (.int .i64 (0)), (.int .i64 (0)), (.int .i64 (0)), (.int .i64 (0)), (.int .i64 (0))] : List Value) ++ hc Za ++ ([(.int .u64 (0)), (.int .i64 (0)), (.int .i64 (0)), (.int .i64 (0)), (.int .i64 (0))] : List Value) ++ hc Za ++ ([(.int .i64 (0)), (.int .i64 (0)), (.int .i64 (0)), (.slice none 0 0), (.int .i64 (0)), (.int .i64 (0)), (.int .i64 (0))] : List Value) ++ hc Za ++ ([(.int .u64 (0)), (.int .i64 (0)), (.int .i64 (0)), (.int .i64 (0)), (.int .i64 (0)), (.int .u64 (0)), (.int .i64 (0)), (.int .i64 (0)), (.int .u64 (0)), (.slice none 0 0), (.int .i64 (0)), (.int .i64 (0)), (.int .i64 (0)), (.int .i64 (0)), (.int .i64 (0)), (.int .i64 (0)), (.int .i64 (0)), (.int .u64 (0)), (.slice none 0 0), (.slice none 0 0), (.slice none 0 0), (.int .i64 (0)), (.int .i64 (0)), (.int .i64 (0))] : List Value) ++ ([(.int .i64 (0)), (.int .i64 (0)), (.int .i64 (0))] : List Value) ++ hc Za ++ ([(.int .i64 (0)), (.int .i64 (0)), (.int .i64 (4)), (.int .i64 (0)), (.int .i64 (1))] : List Value) ++ hc qi.x.h ++ ([(.int .u64 (2)), (.int .i64 (0)), (.slice none 0 0)] : List Value) ++ hc Za ++ ([(.int .i64 (0)), (.int .i64 (0)), (.int .i64 (0)), (.int .i64 (0)), (Zt ([] : List UInt8)), (.int .i64 (0)), (.int .i64 (0)), (.int .i64 (0)), (.int .u64 (0)), (.slice none 0 0), (.slice none 0 0), (.slice none 0 0), (.slice none 0 0)] : List Value))⟩)) rfl (by kernel_rfl) ?_
     refine ZC (Z1 rfl) (fun K96 hK96 => ?_)
     refine ZD (d := 81) rfl (by kernel_rfl) (Z49 w89 c34 b25 g lc F 1 0 [qi] 0 qi rfl R (H90.fin [2, 3, 4, 5] (by decide) rfl) (Nat.le_of_ble_eq_true rfl) (by rw [hRc.len]; omega) (by rw [hqP]; decide) (by omega) (by decide) (i : Int) 4 1 2 rfl (by unfold inB; simp; omega)) ?_
     rintro _ w97 (⟨k98, rfl, T99⟩ | ⟨k100, a101, c102, D103, B104, rfl, n105, o106, T107⟩)
     ·have H108 : Sat w [Zb w (fun _ => False), Z6 x7 27 ([(.int .i64 (F)), (.int .i64 (1))] : List Value), Z6 c34 112 ([(.int .i64 (F)), (.int .i64 (1)), (.int .i64 (0)), (.pointer (some ⟨b25, 0, none⟩)), (.slice (some ⟨g, 0, none⟩) 1 lc)] : List Value), Ze 119 79 (.slice (some ⟨g, 0, none⟩) 1 lc) 1 (([qi]).flatMap Zg), Zi qi.mr (Value.int .i64) rcV (Z0u R (i : Int) (⟨4, ⟨0, 1, qi.x.h, 2⟩⟩ : RcD)), Ze 5 1 (.slice qi.pa qi.P.length qi.pc) qi.P.length (qi.P.flatMap Zo), Zi qi.mp (Value.int .i64) Zt [], Z6 x14 40 (hc qi.x.h)] w97 := (Sat.turnL (L' := [Z6 c34 112 ([(.int .i64 (F)), (.int .i64 (1)), (.int .i64 (0)), (.pointer (some ⟨b25, 0, none⟩)), (.slice (some ⟨g, 0, none⟩) 1 lc)] : List Value), Ze 119 79 (.slice (some ⟨g, 0, none⟩) 1 lc) 1 (([qi]).flatMap Zg), Zi qi.mr (Value.int .i64) rcV (Z0u R (i : Int) (⟨4, ⟨0, 1, qi.x.h, 2⟩⟩ : RcD)), Ze 5 1 (.slice qi.pa qi.P.length qi.pc) qi.P.length (qi.P.flatMap Zo)]) (R := [Zb w (fun _ => False), Z6 x7 27 ([(.int .i64 (F)), (.int .i64 (1))] : List Value), Zi qi.mp (Value.int .i64) Zt [], Z6 x14 40 (hc qi.x.h)]) H90 [2, 3, 4, 5] [0, 1, 6, 7] (by decide) (by kernel_rfl) rfl T99).pick [4, 5, 0, 1, 2, 3, 6, 7] (by decide)
      refine ⟨_, rfl, ?_⟩
      refine hK96 _ _ ?_
      clear hK96 K96
      refine Zj ?_
      refine ZE ?_
      refine Z7 ?_
      refine Zm ?_
      refine Z3 (Z1 rfl) (d := 73) (v := (.int .i64 ((i : Int)))) rfl (by kernel_rfl) ?_
      refine Z3 (Z1 rfl) (d := 74) (v := (.int .i64 ((i : Int) + 1))) rfl (Z06 (z := (i : Int) + 1) (by kernel_rfl) (IntWalk.i64_in _ (by omega))) ?_
      refine Z3 (Z1 rfl) (d := 15) (v := (.int .i64 ((i : Int) + 1))) rfl (by kernel_rfl) ?_
      refine Zj ?_
      have H109 : Sat w [Zb w (fun _ => False), Z6 x7 27 ([(.int .i64 (F)), (.int .i64 (1))] : List Value), Z6 c34 112 ([(.int .i64 (F)), (.int .i64 (1)), (.int .i64 (0)), (.pointer (some ⟨b25, 0, none⟩)), (.slice (some ⟨g, 0, none⟩) 1 lc)] : List Value), Ze 119 79 (.slice (some ⟨g, 0, none⟩) 1 lc) 1 (([qi]).flatMap Zg), Zi qi.mr (Value.int .i64) rcV (Z0u R (i : Int) (⟨4, ⟨0, 1, qi.x.h, 2⟩⟩ : RcD)), Ze 5 1 (.slice qi.pa qi.P.length qi.pc) qi.P.length (qi.P.flatMap Zo), Zi qi.mp (Value.int .i64) Zt [], Z6 x14 40 (hc qi.x.h)] w97 := H108.pick [0, 1, 2, 3, 4, 5, 6, 7] (by decide)
      refine ZK ?_ _ ⟨(i + 1), (Z0u R (i : Int) (⟨4, ⟨0, 1, qi.x.h, 2⟩⟩ : RcD)), qi, (show ((.int .i64 ((i : Int) + 1)) : Value) = _ by first | rfl | go_num), (by omega), hRc.add.1, (rc_no hRc hop (by omega) k98), (fun h_ => hpl h_), hqP, hqd, hqr, H109, rfl⟩ (by omega)
      exact (Z4 rfl (Z4 rfl (Z4 rfl (Z4 rfl (Z4 rfl (Z4 rfl (Z4 rfl (Z4 rfl (Z4 rfl (Z4 rfl (Z4 rfl (Z4 rfl (Z4 rfl (Z4 rfl (Z4 rfl (Z4 rfl (Z4 rfl (Z0A))))))))))))))))))
     ·have H110 : Sat w [Zb w (fun _ => False), Z6 x7 27 ([(.int .i64 (F)), (.int .i64 (1))] : List Value), Z6 c34 112 ([(.int .i64 (F)), (.int .i64 (1)), (.int .i64 (0)), (.pointer (some ⟨b25, 0, none⟩)), (.slice (some ⟨g, 0, none⟩) 1 lc)] : List Value), Ze 119 79 (.slice (some ⟨g, 0, none⟩) 1 lc) 1 (([(⟨qi.x, qi.pa, qi.pc, qi.P, qi.no, qi.ms, qi.cb, qi.ma, qi.mr, true, ((Zr (Z0u R (i : Int) (⟨4, ⟨0, 1, qi.x.h, 2⟩⟩ : RcD)) (i : Int)).getD rc0).i, qi.mp, qi.dn, qi.rp⟩ : Zl)]).flatMap Zg), Zi qi.mr (Value.int .i64) rcV (Z0u R (i : Int) (⟨4, ⟨0, 1, qi.x.h, 2⟩⟩ : RcD)), Ze 5 1 (.slice qi.pa qi.P.length qi.pc) qi.P.length (qi.P.flatMap Zo), Zi qi.mp (Value.int .i64) Zt [], Z6 x14 40 (hc qi.x.h), Ze 82 295 (.slice a101 D103.length c102) D103.length (D103.flatMap Z04), Z0U B104] w97 := (Sat.turnL (L' := [Z6 c34 112 ([(.int .i64 (F)), (.int .i64 (1)), (.int .i64 (0)), (.pointer (some ⟨b25, 0, none⟩)), (.slice (some ⟨g, 0, none⟩) 1 lc)] : List Value), Ze 119 79 (.slice (some ⟨g, 0, none⟩) 1 lc) 1 (([(⟨qi.x, qi.pa, qi.pc, qi.P, qi.no, qi.ms, qi.cb, qi.ma, qi.mr, true, ((Zr (Z0u R (i : Int) (⟨4, ⟨0, 1, qi.x.h, 2⟩⟩ : RcD)) (i : Int)).getD rc0).i, qi.mp, qi.dn, qi.rp⟩ : Zl)]).flatMap Zg), Zi qi.mr (Value.int .i64) rcV (Z0u R (i : Int) (⟨4, ⟨0, 1, qi.x.h, 2⟩⟩ : RcD)), Ze 5 1 (.slice qi.pa qi.P.length qi.pc) qi.P.length (qi.P.flatMap Zo), Ze 82 295 (.slice a101 D103.length c102) D103.length (D103.flatMap Z04), Z0U B104]) (R := [Zb w (fun _ => False), Z6 x7 27 ([(.int .i64 (F)), (.int .i64 (1))] : List Value), Zi qi.mp (Value.int .i64) Zt [], Z6 x14 40 (hc qi.x.h)]) H90 [2, 3, 4, 5] [0, 1, 6, 7] (by decide) (by kernel_rfl) rfl T107).pick [6, 7, 0, 1, 2, 3, 8, 9, 4, 5] (by decide)
      refine ⟨_, rfl, ?_⟩
      refine hK96 _ _ ?_
      clear hK96 K96
      refine Zj ?_
      refine ZE ?_
      refine Z7 ?_
      refine Zm ?_
      refine Z3 (Z1 rfl) (d := 73) (v := (.int .i64 ((i : Int)))) rfl (by kernel_rfl) ?_
      refine Z3 (Z1 rfl) (d := 74) (v := (.int .i64 ((i : Int) + 1))) rfl (Z06 (z := (i : Int) + 1) (by kernel_rfl) (IntWalk.i64_in _ (by omega))) ?_
      refine Z3 (Z1 rfl) (d := 15) (v := (.int .i64 ((i : Int) + 1))) rfl (by kernel_rfl) ?_
      refine Zj ?_
      have H111 : Sat w [Zb w (fun _ => False), Z6 x7 27 ([(.int .i64 (F)), (.int .i64 (1))] : List Value), Z6 c34 112 ([(.int .i64 (F)), (.int .i64 (1)), (.int .i64 (0)), (.pointer (some ⟨b25, 0, none⟩)), (.slice (some ⟨g, 0, none⟩) 1 lc)] : List Value), Ze 119 79 (.slice (some ⟨g, 0, none⟩) 1 lc) 1 (([(⟨qi.x, qi.pa, qi.pc, qi.P, qi.no, qi.ms, qi.cb, qi.ma, qi.mr, true, ((Zr (Z0u R (i : Int) (⟨4, ⟨0, 1, qi.x.h, 2⟩⟩ : RcD)) (i : Int)).getD rc0).i, qi.mp, qi.dn, qi.rp⟩ : Zl)]).flatMap Zg), Zi qi.mr (Value.int .i64) rcV (Z0u R (i : Int) (⟨4, ⟨0, 1, qi.x.h, 2⟩⟩ : RcD)), Ze 5 1 (.slice qi.pa qi.P.length qi.pc) qi.P.length (qi.P.flatMap Zo), Zi qi.mp (Value.int .i64) Zt [], Z6 x14 40 (hc qi.x.h)] w97 := H110.pick [0, 1, 2, 3, 4, 5, 6, 7] (by decide)
      have e112 := rc_yes hRc (by omega) k100.2
      refine ZK ?_ _ ⟨(i + 1), (Z0u R (i : Int) (⟨4, ⟨0, 1, qi.x.h, 2⟩⟩ : RcD)), (⟨qi.x, qi.pa, qi.pc, qi.P, qi.no, qi.ms, qi.cb, qi.ma, qi.mr, true, ((Zr (Z0u R (i : Int) (⟨4, ⟨0, 1, qi.x.h, 2⟩⟩ : RcD)) (i : Int)).getD rc0).i, qi.mp, qi.dn, qi.rp⟩ : Zl), (show ((.int .i64 ((i : Int) + 1)) : Value) = _ by first | rfl | go_num), (by omega), hRc.add.1, e112.1, (fun _ => e112.2), hqP, hqd, hqr, H111, rfl⟩ (by omega)
      exact (Z4 rfl (Z4 rfl (Z4 rfl (Z4 rfl (Z4 rfl (Z4 rfl (Z4 rfl (Z4 rfl (Z4 rfl (Z4 rfl (Z4 rfl (Z4 rfl (Z4 rfl (Z4 rfl (Z4 rfl (Z4 rfl (Z4 rfl (Z0A))))))))))))))))))
    ·have g113 := of_decide_eq_false b93
     refine Zq 72 (.bool false) (congrArg Value.bool b93) ?_
     have g114 := of_decide_eq_false b93
     refine ZT rfl ?_
     refine Z1N ?_
     refine Z0F ?_
     refine Z0C ?_
     refine Z1c ?_
     refine Z7 ?_
     have hop1 : qi.op = true := by rw [hop]; exact decide_eq_true (by have q_ := b93; simp at q_; omega)
     have hpl1 := hpl hop1
     refine Z0p [6, 16, 17, 82, 83, 84, 85, 86, 87, 88, 89, 90, 91, 92] (fun G_ W_ => ∃ (q : Zl), (q.op = true) ∧ (q.pl = 4) ∧ (q.P = []) ∧ (q.dn = false) ∧ (q.rp = []) ∧ Sat w [Zb w (fun _ => False), Z6 x7 27 ([(.int .i64 (F)), (.int .i64 (1))] : List Value), Z6 c34 112 ([(.int .i64 (F)), (.int .i64 (1)), (.int .i64 (0)), (.pointer (some ⟨b25, 0, none⟩)), (.slice (some ⟨g, 0, none⟩) 1 lc)] : List Value), Ze 119 79 (.slice (some ⟨g, 0, none⟩) 1 lc) 1 (([q]).flatMap Zg), Zi q.mp (Value.int .i64) Zt [], Ze 5 1 (.slice q.pa q.P.length q.pc) q.P.length (q.P.flatMap Zo)] W_) ?_ ?_
     ·refine Zf ?_
      refine Zm ?_
      refine Z3 (Z1 rfl) (d := 83) (v := (.pointer (some ⟨c34, 0, none⟩))) rfl (by kernel_rfl) ?_
      refine ZC (Z1 rfl) (fun K116 hK116 => ?_)
      refine ZD (d := 84) rfl (by kernel_rfl) (Z47 w89 c34 b25 g lc F 1 0 [qi] (H90.at 2 rfl) (H90.at 3 rfl) (Nat.le_of_ble_eq_true rfl) 0 qi rfl 1 rfl) ?_
      rintro _ w117 ⟨rfl, u119⟩
      have H118 := H90.keepU u119
      refine ⟨_, rfl, ?_⟩
      refine hK116 _ _ ?_
      clear hK116 K116
      refine Z3 (Z1 rfl) (d := 82) (v := (.tuple #[(.int .i64 (qi.pl)), (.bool (qi.op))])) rfl (by kernel_rfl) ?_
      refine Z3 (Z1 rfl) (d := 85) (v := (.int .i64 (qi.pl))) rfl (by kernel_rfl) ?_
      refine Z3 (Z1 rfl) (d := 86) (v := (.bool (qi.op))) rfl (by kernel_rfl) ?_
      refine Z3 (Z1 rfl) (d := 16) (v := (.int .i64 (qi.pl))) rfl (by kernel_rfl) ?_
      refine Z3 (Z1 rfl) (d := 17) (v := (.bool (qi.op))) rfl (by kernel_rfl) ?_
      refine Zj ?_
      refine Z7 ?_
      refine Zf ?_
      refine Zm ?_
      refine Z3 (Z1 rfl) (d := 87) (v := (.bool (qi.op))) rfl (by kernel_rfl) ?_
      refine Z3 (Z1 rfl) (d := 88) (v := (.bool (!(qi.op)))) rfl (by kernel_rfl) ?_
      refine Z3 (Z1 rfl) (d := 89) (v := (.bool (!(qi.op)))) rfl (by kernel_rfl) ?_
      have b120 : (!(qi.op)) = false := by rw [hop1]; rfl
      refine Z05 89 (.bool false) (congrArg Value.bool b120) ?_
      have g121 := ZW b120
      refine Z3 (Zs 2 89 false rfl (by kernel_rfl) rfl (by kernel_rfl)) (d := 90) (v := (.int .i64 (qi.pl))) rfl (by kernel_rfl) ?_
      refine Z3 (Zs 2 89 false rfl (by kernel_rfl) rfl (by kernel_rfl)) (d := 91) (v := (.bool (!(decide (qi.pl = 4))))) rfl (by kernel_rfl) ?_
      refine Z3 (Z1 rfl) (d := 92) (v := (.bool (!(decide (qi.pl = 4))))) rfl (by kernel_rfl) ?_
      refine Zj ?_
      refine Z7 ?_
      have b122 : (!(decide (qi.pl = 4))) = false := by rw [hpl1]; rfl
      refine Zq 92 (.bool false) (congrArg Value.bool b122) ?_
      have g123 := ZW b122
      have g124 := of_decide_eq_true g123
      refine ZT rfl ?_
      refine ZO ?_
      have H125 : Sat w [Zb w (fun _ => False), Z6 x7 27 ([(.int .i64 (F)), (.int .i64 (1))] : List Value), Z6 c34 112 ([(.int .i64 (F)), (.int .i64 (1)), (.int .i64 (0)), (.pointer (some ⟨b25, 0, none⟩)), (.slice (some ⟨g, 0, none⟩) 1 lc)] : List Value), Ze 119 79 (.slice (some ⟨g, 0, none⟩) 1 lc) 1 (([qi]).flatMap Zg), Zi qi.mp (Value.int .i64) Zt [], Ze 5 1 (.slice qi.pa qi.P.length qi.pc) qi.P.length (qi.P.flatMap Zo)] w117 := H118.pick [0, 1, 2, 3, 6, 5] (by decide)
      refine ZS ?_ ⟨qi, hop1, hpl1, hqP, hqd, hqr, H125⟩
      exact (Z4 rfl (Z4 rfl (Z4 rfl (Z4 rfl (Z4 rfl (Z4 rfl (Z4 rfl (Z4 rfl (Z4 rfl (Z4 rfl (Z4 rfl (Z4 rfl (Z4 rfl (Z4 rfl (Z4 rfl (ZP))))))))))))))))
     ·rintro f126 w127 ⟨q, hqo, hqpl, hqP, hqd, hqr, H128⟩
      refine Zf ?_
      refine Zm ?_
      refine ZC (Z1 rfl) (fun K129 hK129 => ?_)
      refine Z0b (Value.int .i64) Zt rfl H128 ?_
      intro b130 w131 (H132 : Sat w [Zb w (fun _ => False), Z6 x7 27 ([(.int .i64 (F)), (.int .i64 (1))] : List Value), Z6 c34 112 ([(.int .i64 (F)), (.int .i64 (1)), (.int .i64 (0)), (.pointer (some ⟨b25, 0, none⟩)), (.slice (some ⟨g, 0, none⟩) 1 lc)] : List Value), Ze 119 79 (.slice (some ⟨g, 0, none⟩) 1 lc) 1 (([q]).flatMap Zg), Zi q.mp (Value.int .i64) Zt [], Ze 5 1 (.slice q.pa q.P.length q.pc) q.P.length (q.P.flatMap Zo), Zi b130 (Value.int .i64) Zt []] w131)
      refine hK129 _ _ ?_
      clear hK129 K129
      refine Z3 (Z1 rfl) (d := 18) (v := (.map (some b130))) rfl (by kernel_rfl) ?_
      refine Zj ?_
      refine Z7 ?_
      refine Zf ?_
      refine Zm ?_
      refine Z3 (Z1 rfl) (d := 19) (v := (Zt ([] : List UInt8))) rfl (by kernel_rfl) ?_
      refine Zj ?_
      refine Z7 ?_
      refine Zf ?_
      refine Zf ?_
      refine Zm ?_
      refine Z3 (Z1 rfl) (d := 20) (v := (.int .i64 (0))) rfl (by kernel_rfl) ?_
      refine Zj ?_
      refine Z7 ?_
      refine ZB ?_
      refine ZX [6, 19, 20, 21, 22, 23, 24, 25, 27, 28, 29, 94, 95, 96, 97, 98, 99, 100, 101, 102, 103, 104, 105, 106, 107, 108, 109, 110, 111, 112, 113, 114, 115, 116, 117, 118, 119, 120, 121, 122, 123, 124, 125, 126, 127, 128, 129, 130, 131, 132, 133, 134, 135, 136, 137, 138, 139, 140, 141, 142, 143, 144, 145, 146, 147, 148, 149, 150, 151, 152, 153, 154, 155, 156, 157, 158, 159, 160, 161, 162, 163, 164, 165, 166, 167, 168, 169, 170, 171, 172, 173, 174, 175, 176, 177, 178, 179] (fun F_ W_ m_ => ∃ (i : Nat) (S : List (Int × List UInt8)) (qi : Zl) (told : List UInt8), F_ 20 = (.int .i64 ((i : Int))) ∧ F_ 19 = (Zt told) ∧ (i ≤ 30) ∧ (S.length ≤ i) ∧ (Rep F S qi.dn qi.rp told) ∧ (qi.op = true) ∧ (qi.pl = 4) ∧ (qi.P = []) ∧ (qi.dn = false → qi.rp = []) ∧ Sat w [Zb w (fun _ => False), Z6 x7 27 ([(.int .i64 (F)), (.int .i64 (1))] : List Value), Z6 c34 112 ([(.int .i64 (F)), (.int .i64 (1)), (.int .i64 (0)), (.pointer (some ⟨b25, 0, none⟩)), (.slice (some ⟨g, 0, none⟩) 1 lc)] : List Value), Ze 119 79 (.slice (some ⟨g, 0, none⟩) 1 lc) 1 (([qi]).flatMap Zg), Zi qi.mp (Value.int .i64) Zt S, Ze 5 1 (.slice qi.pa qi.P.length qi.pc) qi.P.length (qi.P.flatMap Zo), Zi b130 (Value.int .i64) Zt S] W_ ∧ m_ = 31 - i) _ ⟨0, [], q, [], (show ((.int .i64 (0)) : Value) = _ by first | rfl | go_num), (by first | rfl | go_num), (Nat.zero_le _), (Nat.zero_le _), (Rep.nil hqd), hqo, hqpl, hqP, (fun _ => hqr), H132, rfl⟩ ?_
      rintro g133 w134 _ ⟨i, S, qi, told, v136, v137, hi, hSl, hRep, hop, hpl, hqP, hrp, H135, rfl⟩
      refine Zq 20 _ v136 ?_
      refine Zq 19 _ v137 ?_
      refine Zf ?_
      refine Z0p [94, 95, 96, 97, 98, 99, 100, 101, 102, 103, 104, 105, 106, 107] (fun G_ W_ => G_ 107 = (.bool ((decide ((i : Int) < (W.length : Int)) && decide ((i : Int) < (Y.length : Int))) && decide ((i : Int) < 30))) ∧ Sat w [Zb w (fun _ => False), Z6 x7 27 ([(.int .i64 (F)), (.int .i64 (1))] : List Value), Z6 c34 112 ([(.int .i64 (F)), (.int .i64 (1)), (.int .i64 (0)), (.pointer (some ⟨b25, 0, none⟩)), (.slice (some ⟨g, 0, none⟩) 1 lc)] : List Value), Ze 119 79 (.slice (some ⟨g, 0, none⟩) 1 lc) 1 (([qi]).flatMap Zg), Zi qi.mp (Value.int .i64) Zt S, Ze 5 1 (.slice qi.pa qi.P.length qi.pc) qi.P.length (qi.P.flatMap Zo), Zi b130 (Value.int .i64) Zt S] W_) ?_ ?_
      ·refine Zm ?_
       refine Z3 (Z1 rfl) (d := 94) (v := (.int .i64 ((i : Int)))) rfl (by kernel_rfl) ?_
       refine Z3 (Z1 rfl) (d := 95) (v := (.slice wa W.length wc)) rfl (by kernel_rfl) ?_
       refine Z3 (Z1 rfl) (d := 96) (v := (.int .i64 ((W.length : Int)))) rfl (by kernel_rfl) ?_
       refine Z3 (Z1 rfl) (d := 97) (v := (.bool (decide ((i : Int) < (W.length : Int))))) rfl (by kernel_rfl) ?_
       refine Z3 (Z1 rfl) (d := 98) (v := (.bool (decide ((i : Int) < (W.length : Int))))) rfl (by kernel_rfl) ?_
       refine (Z00 (decide ((i : Int) < (W.length : Int)))).elim (fun b140 => ?_) (fun b140 => ?_)
       ·have g141 := of_decide_eq_true b140
        refine Z05 98 (.bool true) (congrArg Value.bool b140) ?_
        have g142 := of_decide_eq_true b140
        refine Z3 (Zs 4 98 true rfl (by kernel_rfl) rfl (by kernel_rfl)) (d := 99) (v := (.int .i64 ((i : Int)))) rfl (by kernel_rfl) ?_
        refine Z3 (Zs 4 98 true rfl (by kernel_rfl) rfl (by kernel_rfl)) (d := 100) (v := (.slice ya Y.length yc)) rfl (by kernel_rfl) ?_
        refine Z3 (Zs 4 98 true rfl (by kernel_rfl) rfl (by kernel_rfl)) (d := 101) (v := (.int .i64 ((Y.length : Int)))) rfl (by kernel_rfl) ?_
        refine Z3 (Zs 4 98 true rfl (by kernel_rfl) rfl (by kernel_rfl)) (d := 102) (v := (.bool (decide ((i : Int) < (Y.length : Int))))) rfl (by kernel_rfl) ?_
        refine Z3 (Z1 rfl) (d := 103) (v := (.bool (decide ((i : Int) < (Y.length : Int))))) rfl (by kernel_rfl) ?_
        refine Z3 (Z1 rfl) (d := 104) (v := (.bool (decide ((i : Int) < (Y.length : Int))))) rfl (by kernel_rfl) ?_
        refine (Z00 (decide ((i : Int) < (Y.length : Int)))).elim (fun b143 => ?_) (fun b143 => ?_)
        ·have g144 := of_decide_eq_true b143
         refine Z05 104 (.bool true) (congrArg Value.bool b143) ?_
         have g145 := of_decide_eq_true b143
         refine Z3 (Zs 10 104 true rfl (by kernel_rfl) rfl (by kernel_rfl)) (d := 105) (v := (.int .i64 ((i : Int)))) rfl (by kernel_rfl) ?_
         refine Z3 (Zs 10 104 true rfl (by kernel_rfl) rfl (by kernel_rfl)) (d := 106) (v := (.bool (decide ((i : Int) < 30)))) rfl (by kernel_rfl) ?_
         refine Z3 (Z1 rfl) (d := 107) (v := (.bool (decide ((i : Int) < 30)))) rfl (by kernel_rfl) ?_
         refine Zj ?_
         refine ZS ?_ ⟨(congrArg Value.bool (show (decide ((i : Int) < 30)) = ((decide ((i : Int) < (W.length : Int)) && decide ((i : Int) < (Y.length : Int))) && decide ((i : Int) < 30)) by rw [b140, b143]; rfl)), H135⟩
         exact (Z4 rfl (Z4 rfl (Z4 rfl (Z4 rfl (Z4 rfl (Z4 rfl (Z4 rfl (Z4 rfl (Z4 rfl (Z4 rfl (Z4 rfl (Z4 rfl (Z4 rfl (Z4 rfl (Z4 rfl (Z4 rfl (ZP)))))))))))))))))
        ·have g146 := of_decide_eq_false b143
         refine Z05 104 (.bool false) (congrArg Value.bool b143) ?_
         have g147 := of_decide_eq_false b143
         refine ZG (ZQ 10 104 true rfl (by kernel_rfl) rfl (by kernel_rfl)) rfl ?_
         refine ZG (ZQ 10 104 true rfl (by kernel_rfl) rfl (by kernel_rfl)) rfl ?_
         refine Z3 (Z1 rfl) (d := 107) (v := (.bool false)) rfl (by kernel_rfl) ?_
         refine Zj ?_
         refine ZS ?_ ⟨(congrArg Value.bool (show false = ((decide ((i : Int) < (W.length : Int)) && decide ((i : Int) < (Y.length : Int))) && decide ((i : Int) < 30)) by rw [b140, b143]; rfl)), H135⟩
         exact (Z4 rfl (Z4 rfl (Z4 rfl (Z4 rfl (Z4 rfl (Z4 rfl (Z4 rfl (Z4 rfl (Z4 rfl (Z4 rfl (Z4 rfl (Z4 rfl (Z4 rfl (Z4 rfl (Z4 rfl (Z4 rfl (ZP)))))))))))))))))
       ·have g148 := of_decide_eq_false b140
        refine Z05 98 (.bool false) (congrArg Value.bool b140) ?_
        have g149 := of_decide_eq_false b140
        refine ZG (ZQ 4 98 true rfl (by kernel_rfl) rfl (by kernel_rfl)) rfl ?_
        refine ZG (ZQ 4 98 true rfl (by kernel_rfl) rfl (by kernel_rfl)) rfl ?_
        refine ZG (ZQ 4 98 true rfl (by kernel_rfl) rfl (by kernel_rfl)) rfl ?_
        refine ZG (ZQ 4 98 true rfl (by kernel_rfl) rfl (by kernel_rfl)) rfl ?_
        refine Z3 (Z1 rfl) (d := 103) (v := (.bool false)) rfl (by kernel_rfl) ?_
        refine Z3 (Z1 rfl) (d := 104) (v := (.bool false)) rfl (by kernel_rfl) ?_
        refine ZG (ZQ 10 104 true rfl (by kernel_rfl) rfl (by kernel_rfl)) rfl ?_
        refine ZG (ZQ 10 104 true rfl (by kernel_rfl) rfl (by kernel_rfl)) rfl ?_
        refine Z3 (Z1 rfl) (d := 107) (v := (.bool false)) rfl (by kernel_rfl) ?_
        refine Zj ?_
        refine ZS ?_ ⟨(congrArg Value.bool (show false = ((decide ((i : Int) < (W.length : Int)) && decide ((i : Int) < (Y.length : Int))) && decide ((i : Int) < 30)) by rw [b140]; rfl)), H135⟩
        exact (Z4 rfl (Z4 rfl (Z4 rfl (Z4 rfl (Z4 rfl (Z4 rfl (Z4 rfl (Z4 rfl (Z4 rfl (Z4 rfl (Z4 rfl (Z4 rfl (Z4 rfl (Z4 rfl (Z4 rfl (ZP))))))))))))))))
      ·rintro f150 w151 ⟨v153, H152⟩
       refine Zq 107 _ v153 ?_
       refine (Z00 ((decide ((i : Int) < (W.length : Int)) && decide ((i : Int) < (Y.length : Int))) && decide ((i : Int) < 30))).elim (fun b154 => ?_) (fun b154 => ?_)
       ·refine Zq 107 (.bool true) (congrArg Value.bool b154) ?_
        refine Z0o rfl ?_
        refine ZO ?_
        refine Z7 ?_
        refine Zf ?_
        refine ZB ?_
        have hii := b154
        simp only [Bool.and_eq_true, decide_eq_true_eq] at hii
        obtain ⟨⟨hi1, hi2⟩, hi3⟩ := hii
        refine Z0p [21, 110, 111, 112, 113, 114, 115] (fun G_ W_ => ∃ (fr : Int), G_ 21 = (.int .i64 (fr)) ∧ (0 ≤ fr ∧ fr < 3 * F + 1) ∧ Sat w [Zb w (fun _ => False), Z6 x7 27 ([(.int .i64 (F)), (.int .i64 (1))] : List Value), Z6 c34 112 ([(.int .i64 (F)), (.int .i64 (1)), (.int .i64 (0)), (.pointer (some ⟨b25, 0, none⟩)), (.slice (some ⟨g, 0, none⟩) 1 lc)] : List Value), Ze 119 79 (.slice (some ⟨g, 0, none⟩) 1 lc) 1 (([qi]).flatMap Zg), Zi qi.mp (Value.int .i64) Zt S, Ze 5 1 (.slice qi.pa qi.P.length qi.pc) qi.P.length (qi.P.flatMap Zo), Zi b130 (Value.int .i64) Zt S] W_) ?_ ?_
        ·refine Zm ?_
         refine Z3 (Z1 rfl) (d := 110) (v := (.slice wa W.length wc)) rfl (by kernel_rfl) ?_
         refine Z3 (Z1 rfl) (d := 111) (v := (.int .i64 ((i : Int)))) rfl (by kernel_rfl) ?_
         obtain ⟨g156, o157, c158, e159, R160⟩ := SliceOf.atD hW 0 (show i < W.length by omega)
         refine Z3 (Z1 rfl) (d := 112) (v := (.pointer (some ⟨g156, o157 + ((i : Int)).toNat * 1, none⟩))) rfl (Z09 (E := 3) (by kernel_rfl) (by kernel_rfl) (Nat.le_of_ble_eq_true rfl) rfl e159 rfl (by omega) (by omega)) ?_
         refine Z3 (Z1 rfl) (d := 113) (v := (.int .i64 ((W.getD i 0)))) rfl (Zh rfl (by kernel_rfl) (H152.cellR 0 rfl (Z2n R160 0 (by kernel_rfl) (show o157 + ((i : Int)).toNat * 1 = o157 + i * 1 + 0 by omega)) (fun h => h))) ?_
         refine Z3 (Z1 rfl) (d := 114) (v := (.int .i64 (3 * F + 1))) rfl (by kernel_rfl) ?_
         refine ZC (Z1 rfl) (fun K161 hK161 => ?_)
         refine ZD (d := 115) rfl (by kernel_rfl) (Z2b w151 (W.getD i 0) (3 * F + 1) (by omega)) ?_
         rintro _ w162 ⟨rfl, u164⟩
         have H163 := H152.keepU u164
         refine ⟨_, rfl, ?_⟩
         refine hK161 _ _ ?_
         clear hK161 K161
         refine Z3 (Z1 rfl) (d := 21) (v := (.int .i64 (Z08 (W.getD i 0) (3 * F + 1)))) rfl (by kernel_rfl) ?_
         refine Zj ?_
         have H165 : Sat w [Zb w (fun _ => False), Z6 x7 27 ([(.int .i64 (F)), (.int .i64 (1))] : List Value), Z6 c34 112 ([(.int .i64 (F)), (.int .i64 (1)), (.int .i64 (0)), (.pointer (some ⟨b25, 0, none⟩)), (.slice (some ⟨g, 0, none⟩) 1 lc)] : List Value), Ze 119 79 (.slice (some ⟨g, 0, none⟩) 1 lc) 1 (([qi]).flatMap Zg), Zi qi.mp (Value.int .i64) Zt S, Ze 5 1 (.slice qi.pa qi.P.length qi.pc) qi.P.length (qi.P.flatMap Zo), Zi b130 (Value.int .i64) Zt S] w162 := H163.pick [0, 1, 2, 3, 4, 5, 6] (by decide)
         refine ZS ?_ ⟨(Z08 (W.getD i 0) (3 * F + 1)), rfl, (by have q_ := Z2c (W.getD i 0) (3 * F + 1) (by omega); omega), H165⟩
         exact (Z4 rfl (Z4 rfl (Z4 rfl (Z4 rfl (Z4 rfl (Z4 rfl (Z4 rfl (ZP))))))))
        ·rintro f166 w167 ⟨fr, v169, hfr, H168⟩
         refine Zq 21 _ v169 ?_
         refine Z0p [22, 116, 117, 118, 119, 120, 121, 122, 123, 124] (fun G_ W_ => ∃ (sx : List UInt8), G_ 22 = (Zt sx) ∧ (sx ≠ []) ∧ Sat w [Zb w (fun _ => False), Z6 x7 27 ([(.int .i64 (F)), (.int .i64 (1))] : List Value), Z6 c34 112 ([(.int .i64 (F)), (.int .i64 (1)), (.int .i64 (0)), (.pointer (some ⟨b25, 0, none⟩)), (.slice (some ⟨g, 0, none⟩) 1 lc)] : List Value), Ze 119 79 (.slice (some ⟨g, 0, none⟩) 1 lc) 1 (([qi]).flatMap Zg), Zi qi.mp (Value.int .i64) Zt S, Ze 5 1 (.slice qi.pa qi.P.length qi.pc) qi.P.length (qi.P.flatMap Zo), Zi b130 (Value.int .i64) Zt S] W_) ?_ ?_
         ·have hwb := Z2c (Y.getD i 0) 3 (by omega)
          refine Zm ?_
          refine Z3 (Z1 rfl) (d := 116) (v := (.slice ya Y.length yc)) rfl (by kernel_rfl) ?_
          refine Z3 (Z1 rfl) (d := 117) (v := (.int .i64 ((i : Int)))) rfl (by kernel_rfl) ?_
          obtain ⟨g171, o172, c173, e174, R175⟩ := SliceOf.atD hY 0 (show i < Y.length by omega)
          refine Z3 (Z1 rfl) (d := 118) (v := (.pointer (some ⟨g171, o172 + ((i : Int)).toNat * 1, none⟩))) rfl (Z09 (E := 3) (by kernel_rfl) (by kernel_rfl) (Nat.le_of_ble_eq_true rfl) rfl e174 rfl (by omega) (by omega)) ?_
          refine Z3 (Z1 rfl) (d := 119) (v := (.int .i64 ((Y.getD i 0)))) rfl (Zh rfl (by kernel_rfl) (H168.cellR 0 rfl (Z2n R175 0 (by kernel_rfl) (show o172 + ((i : Int)).toNat * 1 = o172 + i * 1 + 0 by omega)) (fun h => h))) ?_
          refine ZC (Z1 rfl) (fun K176 hK176 => ?_)
          refine ZD (d := 120) rfl (by kernel_rfl) (Z2b w167 (Y.getD i 0) 3 (by omega)) ?_
          rintro _ w177 ⟨rfl, u179⟩
          have H178 := H168.keepU u179
          refine ⟨_, rfl, ?_⟩
          refine hK176 _ _ ?_
          clear hK176 K176
          refine Z3 (Z1 rfl) (d := 121) (v := (.int .i64 (97 + (Z08 (Y.getD i 0) 3)))) rfl (Z06 (z := 97 + (Z08 (Y.getD i 0) 3)) (by kernel_rfl) (IntWalk.i64_in _ (by omega))) ?_
          refine Z3 (Z1 rfl) (d := 122) (v := (.int .u8 (97 + (Z08 (Y.getD i 0) 3)))) rfl (Z06 (z := 97 + (Z08 (Y.getD i 0) 3)) (by kernel_rfl) (Z4t (by omega))) ?_
          refine ZC (Z1 rfl) (fun K180 hK180 => ?_)
          refine Z02 (e := 5) (size := 1) (bytes := 1) (z := (.int .u8 (0))) (pvs := [(0, (.int .u8 (97 + (Z08 (Y.getD i 0) 3))))]) (vs := ([(.int .u8 (97 + (Z08 (Y.getD i 0) 3)))] : List Value)) rfl H178 (by kernel_rfl) (by kernel_rfl) (by kernel_rfl) (by kernel_rfl) (by kernel_rfl) rfl rfl ?_
          intro b181 w182 (H183 : Sat w [Zb w (fun _ => False), Z6 x7 27 ([(.int .i64 (F)), (.int .i64 (1))] : List Value), Z6 c34 112 ([(.int .i64 (F)), (.int .i64 (1)), (.int .i64 (0)), (.pointer (some ⟨b25, 0, none⟩)), (.slice (some ⟨g, 0, none⟩) 1 lc)] : List Value), Ze 119 79 (.slice (some ⟨g, 0, none⟩) 1 lc) 1 (([qi]).flatMap Zg), Zi qi.mp (Value.int .i64) Zt S, Ze 5 1 (.slice qi.pa qi.P.length qi.pc) qi.P.length (qi.P.flatMap Zo), Zi b130 (Value.int .i64) Zt S, Ze 5 1 (.slice (some ⟨b181, 0, none⟩) 1 1) 1 ([(.int .u8 (97 + (Z08 (Y.getD i 0) 3)))] : List Value)] w182)
          refine hK180 _ _ ?_
          clear hK180 K180
          refine Z3 (Z1 rfl) (d := 124) (v := (Zt ([UInt8.ofNat (97 + (Z08 (Y.getD i 0) 3)).toNat] : List UInt8))) rfl (Z2y (e := 5) (s := ([UInt8.ofNat (97 + (Z08 (Y.getD i 0) 3)).toNat] : List UInt8)) (by kernel_rfl) (by kernel_rfl) (by kernel_rfl) rfl (Z3k (by have q := H183.at 7 rfl; rw [Z53 (t := 97 + (Z08 (Y.getD i 0) 3)) (by omega)] at q; exact q))) ?_
          refine Z3 (Z1 rfl) (d := 22) (v := (Zt ([UInt8.ofNat (97 + (Z08 (Y.getD i 0) 3)).toNat] : List UInt8))) rfl (by kernel_rfl) ?_
          refine Zj ?_
          have H184 : Sat w [Zb w (fun _ => False), Z6 x7 27 ([(.int .i64 (F)), (.int .i64 (1))] : List Value), Z6 c34 112 ([(.int .i64 (F)), (.int .i64 (1)), (.int .i64 (0)), (.pointer (some ⟨b25, 0, none⟩)), (.slice (some ⟨g, 0, none⟩) 1 lc)] : List Value), Ze 119 79 (.slice (some ⟨g, 0, none⟩) 1 lc) 1 (([qi]).flatMap Zg), Zi qi.mp (Value.int .i64) Zt S, Ze 5 1 (.slice qi.pa qi.P.length qi.pc) qi.P.length (qi.P.flatMap Zo), Zi b130 (Value.int .i64) Zt S] w182 := H183.pick [0, 1, 2, 3, 4, 5, 6] (by decide)
          refine ZS ?_ ⟨([UInt8.ofNat (97 + (Z08 (Y.getD i 0) 3)).toNat] : List UInt8), rfl, (fun h_ => nomatch h_), H184⟩
          exact (Z4 rfl (Z4 rfl (Z4 rfl (Z4 rfl (Z4 rfl (Z4 rfl (Z4 rfl (Z4 rfl (Z4 rfl (Z4 rfl (ZP)))))))))))
         ·rintro f185 w186 ⟨sx, v188, hsx, H187⟩
          refine Zq 22 _ v188 ?_
          refine Zf ?_
          refine Zm ?_
          refine Z3 (Z1 rfl) (d := 125) (v := (.pointer (some ⟨c34, 0, none⟩))) rfl (by kernel_rfl) ?_
          refine Z3 (Z1 rfl) (d := 126) (v := (.int .i64 (fr))) rfl (by kernel_rfl) ?_
          refine Z3 (Z1 rfl) (d := 127) (v := (.agg ⟨(([(.int .i64 (13)), (.int .i64 (fr)), (.int .i64 (1000)), (.int .i64 (0)), (.int .i64 (0))] : List Value) ++ hc Za ++ ([(.int .i64 (0)), (.int .i64 (0)), (.int .i64 (0)), (.int .i64 (0)), (.int .i64 (0)), (.int .i64 (0))] : List Value) ++ hc Za ++ ([(.int .u64 (0)), (.int .i64 (0)), (.int .i64 (0)), (.int .i64 (0)), (.int .i64 (0))] : List Value) ++ hc Za ++ ([(.int .i64 (0)), (.int .i64 (0)), (.int .i64 (0)), (.slice none 0 0), (.int .i64 (0)), (.int .i64 (0)), (.int .i64 (0))] : List Value) ++ hc Za ++ ([(.int .u64 (0)), (.int .i64 (0)), (.int .i64 (0)), (.int .i64 (0)), (.int .i64 (0)), (.int .u64 (0)), (.int .i64 (0)), (.int .i64 (0)), (.int .u64 (0)), (.slice none 0 0), (.int .i64 (0)), (.int .i64 (0)), (.int .i64 (0)), (.int .i64 (0)), (.int .i64 (0)), (.int .i64 (0)), (.int .i64 (0)), (.int .u64 (0)), (.slice none 0 0), (.slice none 0 0), (.slice none 0 0), (.int .i64 (0)), (.int .i64 (0)), (.int .i64 (0))] : List Value) ++ ([(.int .i64 (0)), (.int .i64 (0)), (.int .i64 (0))] : List Value) ++ hc Za ++ ([(.int .i64 (0)), (.int .i64 (0)), (.int .i64 (5)), (.int .i64 (0)), (.int .i64 (0))] : List Value) ++ hc Za ++ ([(.int .u64 (0)), (.int .i64 (0)), (.slice none 0 0)] : List Value) ++ hc Za ++ ([(.int .i64 (0)), (.int .i64 (0)), (.int .i64 (0)), (.int .i64 (0)), (Zt ([122])), (.int .i64 (0)), (.int .i64 (0)), (.int .i64 (0)), (.int .u64 (0)), (.slice none 0 0), (.slice none 0 0), (.slice none 0 0), (.slice none 0 0)] : List Value))⟩)) rfl (by kernel_rfl) ?_
          refine ZC (Z1 rfl) (fun K189 hK189 => ?_)
          refine ZD (d := 128) rfl (by kernel_rfl) (Z2e w186 c34 b25 g lc F 1 0 [qi] (H187.at 2 rfl) (H187.at 3 rfl) (Nat.le_of_ble_eq_true rfl) (by omega) (by decide) fr (5 : Int) ([122]) (Z3N (by rintro _ (_ | ⟨_, ⟨⟩⟩); unfold Z51; rw [hpl, decide_eq_false (by decide), Bool.and_false])) (by unfold inB; simp; omega)) ?_
          rintro _ w190 ⟨rfl, u191⟩
          have H192 := H187.keepU u191
          refine ⟨_, rfl, ?_⟩
          refine hK189 _ _ ?_
          clear hK189 K189
          refine Zj ?_
          refine Z7 ?_
          refine Z0p [129, 130, 131, 132, 133] (fun G_ W_ => ∃ (S2 : List (Int × List UInt8)) (q2 : Zl), (S2 = (Z0u S fr sx)) ∧ (Rep F S2 q2.dn q2.rp (Z2O F S fr sx told)) ∧ (q2.op = true) ∧ (q2.pl = 4) ∧ (q2.P = []) ∧ (q2.dn = false → q2.rp = []) ∧ Sat w [Zb w (fun _ => False), Z6 x7 27 ([(.int .i64 (F)), (.int .i64 (1))] : List Value), Z6 c34 112 ([(.int .i64 (F)), (.int .i64 (1)), (.int .i64 (0)), (.pointer (some ⟨b25, 0, none⟩)), (.slice (some ⟨g, 0, none⟩) 1 lc)] : List Value), Ze 119 79 (.slice (some ⟨g, 0, none⟩) 1 lc) 1 (([q2]).flatMap Zg), Zi q2.mp (Value.int .i64) Zt S2, Ze 5 1 (.slice q2.pa q2.P.length q2.pc) q2.P.length (q2.P.flatMap Zo), Zi b130 (Value.int .i64) Zt S] W_) ?_ ?_
          ·refine Zm ?_
           refine Z3 (Z1 rfl) (d := 129) (v := (.pointer (some ⟨c34, 0, none⟩))) rfl (by kernel_rfl) ?_
           refine Z3 (Z1 rfl) (d := 130) (v := (.int .i64 (fr))) rfl (by kernel_rfl) ?_
           refine Z3 (Z1 rfl) (d := 131) (v := (Zt sx)) rfl (by kernel_rfl) ?_
           refine Z3 (Z1 rfl) (d := 132) (v := (.agg ⟨(([(.int .i64 (13)), (.int .i64 (fr)), (.int .i64 (1000)), (.int .i64 (0)), (.int .i64 (0))] : List Value) ++ hc Za ++ ([(.int .i64 (0)), (.int .i64 (0)), (.int .i64 (0)), (.int .i64 (0)), (.int .i64 (0)), (.int .i64 (0))] : List Value) ++ hc Za ++ ([(.int .u64 (0)), (.int .i64 (0)), (.int .i64 (0)), (.int .i64 (0)), (.int .i64 (0))] : List Value) ++ hc Za ++ ([(.int .i64 (0)), (.int .i64 (0)), (.int .i64 (0)), (.slice none 0 0), (.int .i64 (0)), (.int .i64 (0)), (.int .i64 (0))] : List Value) ++ hc Za ++ ([(.int .u64 (0)), (.int .i64 (0)), (.int .i64 (0)), (.int .i64 (0)), (.int .i64 (0)), (.int .u64 (0)), (.int .i64 (0)), (.int .i64 (0)), (.int .u64 (0)), (.slice none 0 0), (.int .i64 (0)), (.int .i64 (0)), (.int .i64 (0)), (.int .i64 (0)), (.int .i64 (0)), (.int .i64 (0)), (.int .i64 (0)), (.int .u64 (0)), (.slice none 0 0), (.slice none 0 0), (.slice none 0 0), (.int .i64 (0)), (.int .i64 (0)), (.int .i64 (0))] : List Value) ++ ([(.int .i64 (0)), (.int .i64 (0)), (.int .i64 (0))] : List Value) ++ hc Za ++ ([(.int .i64 (0)), (.int .i64 (0)), (.int .i64 (4)), (.int .i64 (0)), (.int .i64 (0))] : List Value) ++ hc Za ++ ([(.int .u64 (0)), (.int .i64 (0)), (.slice none 0 0)] : List Value) ++ hc Za ++ ([(.int .i64 (0)), (.int .i64 (0)), (.int .i64 (0)), (.int .i64 (0)), (Zt sx), (.int .i64 (0)), (.int .i64 (0)), (.int .i64 (0)), (.int .u64 (0)), (.slice none 0 0), (.slice none 0 0), (.slice none 0 0), (.slice none 0 0)] : List Value))⟩)) rfl (by kernel_rfl) ?_
           refine ZC (Z1 rfl) (fun K194 hK194 => ?_)
           refine ZD (d := 133) rfl (by kernel_rfl) (Z4a w190 c34 b25 g lc F 1 0 [qi] 0 qi rfl S (H192.fin [2, 3, 4] (by decide) rfl) (Nat.le_of_ble_eq_true rfl) (by omega) (by omega) (by decide) fr 4 sx (Z5Z (k := 0) (q := qi) rfl (by unfold Z51; rw [hop, hpl]; rfl) (fun j_ _ h_ => absurd h_ (Nat.not_lt_zero j_))) (by unfold inB; simp; omega)) ?_
           rintro _ w195 ⟨rfl, (⟨k196, T197⟩ | ⟨k198, T199⟩)⟩
           ·have H200 : Sat w [Zb w (fun _ => False), Z6 x7 27 ([(.int .i64 (F)), (.int .i64 (1))] : List Value), Z6 c34 112 ([(.int .i64 (F)), (.int .i64 (1)), (.int .i64 (0)), (.pointer (some ⟨b25, 0, none⟩)), (.slice (some ⟨g, 0, none⟩) 1 lc)] : List Value), Ze 119 79 (.slice (some ⟨g, 0, none⟩) 1 lc) 1 (([qi]).flatMap Zg), Zi qi.mp (Value.int .i64) Zt (Z0u S fr sx), Ze 5 1 (.slice qi.pa qi.P.length qi.pc) qi.P.length (qi.P.flatMap Zo), Zi b130 (Value.int .i64) Zt S] w195 := (Sat.turnL (L' := [Z6 c34 112 ([(.int .i64 (F)), (.int .i64 (1)), (.int .i64 (0)), (.pointer (some ⟨b25, 0, none⟩)), (.slice (some ⟨g, 0, none⟩) 1 lc)] : List Value), Ze 119 79 (.slice (some ⟨g, 0, none⟩) 1 lc) 1 (([qi]).flatMap Zg), Zi qi.mp (Value.int .i64) Zt (Z0u S fr sx)]) (R := [Zb w (fun _ => False), Z6 x7 27 ([(.int .i64 (F)), (.int .i64 (1))] : List Value), Ze 5 1 (.slice qi.pa qi.P.length qi.pc) qi.P.length (qi.P.flatMap Zo), Zi b130 (Value.int .i64) Zt S]) H192 [2, 3, 4] [0, 1, 5, 6] (by decide) (by kernel_rfl) rfl T197).pick [3, 4, 0, 1, 2, 5, 6] (by decide)
            refine ⟨_, rfl, ?_⟩
            refine hK194 _ _ ?_
            clear hK194 K194
            refine Zj ?_
            have H201 : Sat w [Zb w (fun _ => False), Z6 x7 27 ([(.int .i64 (F)), (.int .i64 (1))] : List Value), Z6 c34 112 ([(.int .i64 (F)), (.int .i64 (1)), (.int .i64 (0)), (.pointer (some ⟨b25, 0, none⟩)), (.slice (some ⟨g, 0, none⟩) 1 lc)] : List Value), Ze 119 79 (.slice (some ⟨g, 0, none⟩) 1 lc) 1 (([qi]).flatMap Zg), Zi qi.mp (Value.int .i64) Zt (Z0u S fr sx), Ze 5 1 (.slice qi.pa qi.P.length qi.pc) qi.P.length (qi.P.flatMap Zo), Zi b130 (Value.int .i64) Zt S] w195 := H200.pick [0, 1, 2, 3, 4, 5, 6] (by decide)
            refine ZS ?_ ⟨(Z0u S fr sx), qi, rfl, (hRep.no k196), hop, hpl, hqP, hrp, H201⟩
            exact (Z4 rfl (Z4 rfl (Z4 rfl (Z4 rfl (Z4 rfl (ZP))))))
           ·have H202 : Sat w [Zb w (fun _ => False), Z6 x7 27 ([(.int .i64 (F)), (.int .i64 (1))] : List Value), Z6 c34 112 ([(.int .i64 (F)), (.int .i64 (1)), (.int .i64 (0)), (.pointer (some ⟨b25, 0, none⟩)), (.slice (some ⟨g, 0, none⟩) 1 lc)] : List Value), Ze 119 79 (.slice (some ⟨g, 0, none⟩) 1 lc) 1 (([(⟨qi.x, qi.pa, qi.pc, qi.P, qi.no, qi.ms, qi.cb, qi.ma, qi.mr, qi.op, qi.pl, qi.mp, true, ((Zr (Z0u S fr sx) fr).getD [])⟩ : Zl)]).flatMap Zg), Zi qi.mp (Value.int .i64) Zt (Z0u S fr sx), Ze 5 1 (.slice qi.pa qi.P.length qi.pc) qi.P.length (qi.P.flatMap Zo), Zi b130 (Value.int .i64) Zt S] w195 := (Sat.turnL (L' := [Z6 c34 112 ([(.int .i64 (F)), (.int .i64 (1)), (.int .i64 (0)), (.pointer (some ⟨b25, 0, none⟩)), (.slice (some ⟨g, 0, none⟩) 1 lc)] : List Value), Ze 119 79 (.slice (some ⟨g, 0, none⟩) 1 lc) 1 (([(⟨qi.x, qi.pa, qi.pc, qi.P, qi.no, qi.ms, qi.cb, qi.ma, qi.mr, qi.op, qi.pl, qi.mp, true, ((Zr (Z0u S fr sx) fr).getD [])⟩ : Zl)]).flatMap Zg), Zi qi.mp (Value.int .i64) Zt (Z0u S fr sx)]) (R := [Zb w (fun _ => False), Z6 x7 27 ([(.int .i64 (F)), (.int .i64 (1))] : List Value), Ze 5 1 (.slice qi.pa qi.P.length qi.pc) qi.P.length (qi.P.flatMap Zo), Zi b130 (Value.int .i64) Zt S]) H192 [2, 3, 4] [0, 1, 5, 6] (by decide) (by kernel_rfl) rfl T199).pick [3, 4, 0, 1, 2, 5, 6] (by decide)
            refine ⟨_, rfl, ?_⟩
            refine hK194 _ _ ?_
            clear hK194 K194
            refine Zj ?_
            have H203 : Sat w [Zb w (fun _ => False), Z6 x7 27 ([(.int .i64 (F)), (.int .i64 (1))] : List Value), Z6 c34 112 ([(.int .i64 (F)), (.int .i64 (1)), (.int .i64 (0)), (.pointer (some ⟨b25, 0, none⟩)), (.slice (some ⟨g, 0, none⟩) 1 lc)] : List Value), Ze 119 79 (.slice (some ⟨g, 0, none⟩) 1 lc) 1 (([(⟨qi.x, qi.pa, qi.pc, qi.P, qi.no, qi.ms, qi.cb, qi.ma, qi.mr, qi.op, qi.pl, qi.mp, true, ((Zr (Z0u S fr sx) fr).getD [])⟩ : Zl)]).flatMap Zg), Zi qi.mp (Value.int .i64) Zt (Z0u S fr sx), Ze 5 1 (.slice qi.pa qi.P.length qi.pc) qi.P.length (qi.P.flatMap Zo), Zi b130 (Value.int .i64) Zt S] w195 := H202.pick [0, 1, 2, 3, 4, 5, 6] (by decide)
            refine ZS ?_ ⟨(Z0u S fr sx), (⟨qi.x, qi.pa, qi.pc, qi.P, qi.no, qi.ms, qi.cb, qi.ma, qi.mr, qi.op, qi.pl, qi.mp, true, ((Zr (Z0u S fr sx) fr).getD [])⟩ : Zl), rfl, (hRep.yes hsx k198.1 (by omega) k198.2), hop, hpl, hqP, (fun h_ => nomatch h_), H203⟩
            exact (Z4 rfl (Z4 rfl (Z4 rfl (Z4 rfl (Z4 rfl (ZP))))))
          ·rintro f204 w205 ⟨S2, q2, hS2, hRep2, hop2, hpl2, hqP2, hrp2, H206⟩
           refine Z0p [19, 23, 24, 25, 27, 134, 135, 136, 137, 138, 139, 140, 141, 142, 143, 144, 145, 146, 147, 148, 149, 150, 151, 152, 153, 154, 155, 156, 157, 158, 159, 160, 161, 162, 163, 164, 165] (fun G_ W_ => ∃ (told2 : List UInt8), G_ 19 = (Zt told2) ∧ (told2 = Z2O F S fr sx told) ∧ Sat w [Zb w (fun _ => False), Z6 x7 27 ([(.int .i64 (F)), (.int .i64 (1))] : List Value), Z6 c34 112 ([(.int .i64 (F)), (.int .i64 (1)), (.int .i64 (0)), (.pointer (some ⟨b25, 0, none⟩)), (.slice (some ⟨g, 0, none⟩) 1 lc)] : List Value), Ze 119 79 (.slice (some ⟨g, 0, none⟩) 1 lc) 1 (([q2]).flatMap Zg), Zi q2.mp (Value.int .i64) Zt S2, Ze 5 1 (.slice q2.pa q2.P.length q2.pc) q2.P.length (q2.P.flatMap Zo), Zi b130 (Value.int .i64) Zt S2] W_) ?_ ?_
           ·refine Zf ?_
            refine Zm ?_
            refine Z3 (Z1 rfl) (d := 135) (v := (.map (some b130))) rfl (by kernel_rfl) ?_
            refine Z3 (Z1 rfl) (d := 136) (v := (.int .i64 (fr))) rfl (by kernel_rfl) ?_
            refine Z3 (Z1 rfl) (d := 137) (v := (.tuple #[(Zt ((Zr S fr).getD [])), (.bool ((Zr S fr).isSome))])) rfl (Z2z (kt := 3) (et := 9) (KeyTy.int (by kernel_rfl)) (by kernel_rfl) Z21 rfl fr rfl (H206.at 6 rfl) (Z5M Zt _ _) rfl) ?_
            refine Z3 (Z1 rfl) (d := 134) (v := (.tuple #[(Zt ((Zr S fr).getD [])), (.bool ((Zr S fr).isSome))])) rfl (by kernel_rfl) ?_
            refine Z3 (Z1 rfl) (d := 138) (v := (Zt ((Zr S fr).getD []))) rfl (by kernel_rfl) ?_
            refine Z3 (Z1 rfl) (d := 139) (v := (.bool ((Zr S fr).isSome))) rfl (by kernel_rfl) ?_
            refine Z3 (Z1 rfl) (d := 23) (v := (Zt ((Zr S fr).getD []))) rfl (by kernel_rfl) ?_
            refine Z3 (Z1 rfl) (d := 24) (v := (.bool ((Zr S fr).isSome))) rfl (by kernel_rfl) ?_
            refine Zj ?_
            refine Z7 ?_
            refine Zf ?_
            refine Zm ?_
            refine Z3 (Z1 rfl) (d := 140) (v := (.bool ((Zr S fr).isSome))) rfl (by kernel_rfl) ?_
            refine Z3 (Z1 rfl) (d := 141) (v := (.bool (!((Zr S fr).isSome)))) rfl (by kernel_rfl) ?_
            refine Zj ?_
            refine Z7 ?_
            refine (Z00 (!((Zr S fr).isSome))).elim (fun b208 => ?_) (fun b208 => ?_)
            ·have g209 := Z0D b208
             refine Zq 141 (.bool true) (congrArg Value.bool b208) ?_
             have g210 := Z0D b208
             refine Z0o rfl ?_
             refine Zf ?_
             refine Zm ?_
             refine Z3 (Z1 rfl) (d := 142) (v := (.map (some b130))) rfl (by kernel_rfl) ?_
             refine Z3 (Z1 rfl) (d := 143) (v := (.int .i64 (fr))) rfl (by kernel_rfl) ?_
             refine Z3 (Z1 rfl) (d := 144) (v := (Zt sx)) rfl (by kernel_rfl) ?_
             refine ZC (Z1 rfl) (fun K211 hK211 => ?_)
             refine Z1n (kt := 3) (et := 9) rfl H206 6 rfl (KeyTy.int (by kernel_rfl)) (by kernel_rfl) rfl fr rfl sx rfl ?_
             intro w212 (H213 : Sat w [Zb w (fun _ => False), Z6 x7 27 ([(.int .i64 (F)), (.int .i64 (1))] : List Value), Z6 c34 112 ([(.int .i64 (F)), (.int .i64 (1)), (.int .i64 (0)), (.pointer (some ⟨b25, 0, none⟩)), (.slice (some ⟨g, 0, none⟩) 1 lc)] : List Value), Ze 119 79 (.slice (some ⟨g, 0, none⟩) 1 lc) 1 (([q2]).flatMap Zg), Zi q2.mp (Value.int .i64) Zt S2, Ze 5 1 (.slice q2.pa q2.P.length q2.pc) q2.P.length (q2.P.flatMap Zo), Zi b130 (Value.int .i64) Zt (Z1L S fr sx)] w212)
             refine hK211 _ _ ?_
             clear hK211 K211
             refine Zj ?_
             refine Z7 ?_
             refine Zf ?_
             refine Zm ?_
             refine Z3 (Z1 rfl) (d := 25) (v := (.int .i64 (0))) rfl (by kernel_rfl) ?_
             refine Zj ?_
             refine Z7 ?_
             have hno : fr ∉ S.map (·.1) := Z0W.1 (by have q_ := b208; simpa using q_)
             have H214 : Sat w [Zb w (fun _ => False), Z6 x7 27 ([(.int .i64 (F)), (.int .i64 (1))] : List Value), Z6 c34 112 ([(.int .i64 (F)), (.int .i64 (1)), (.int .i64 (0)), (.pointer (some ⟨b25, 0, none⟩)), (.slice (some ⟨g, 0, none⟩) 1 lc)] : List Value), Ze 119 79 (.slice (some ⟨g, 0, none⟩) 1 lc) 1 (([q2]).flatMap Zg), Zi q2.mp (Value.int .i64) Zt S2, Ze 5 1 (.slice q2.pa q2.P.length q2.pc) q2.P.length (q2.P.flatMap Zo), Zi b130 (Value.int .i64) Zt S2] w212 := H213.cast (by rw [Z3m hno, ← hS2])
             refine Z0p [25, 27, 145, 146, 147, 148, 149, 150, 151, 152, 153, 154, 155] (fun G_ W_ => G_ 25 = (.int .i64 ((Z0R S2 sx : Int))) ∧ Sat w [Zb w (fun _ => False), Z6 x7 27 ([(.int .i64 (F)), (.int .i64 (1))] : List Value), Z6 c34 112 ([(.int .i64 (F)), (.int .i64 (1)), (.int .i64 (0)), (.pointer (some ⟨b25, 0, none⟩)), (.slice (some ⟨g, 0, none⟩) 1 lc)] : List Value), Ze 119 79 (.slice (some ⟨g, 0, none⟩) 1 lc) 1 (([q2]).flatMap Zg), Zi q2.mp (Value.int .i64) Zt S2, Ze 5 1 (.slice q2.pa q2.P.length q2.pc) q2.P.length (q2.P.flatMap Zo), Zi b130 (Value.int .i64) Zt S2] W_) ?_ ?_
             ·refine Zf ?_
              have hMs : MapAt w212 b130 (Value.int .i64) Zt S2 := H214.at 6 rfl
              have hlS2 : S2.length ≤ 31 := by rw [hS2]; exact Nat.le_trans Z2m (by omega)
              have HK := Sat.start0 w212
              refine Zm ?_
              refine Z3 (Z1 rfl) (d := 145) (v := (.map (some b130))) rfl (by kernel_rfl) ?_
              refine ZC (Z1 rfl) (fun K216 hK216 => ?_)
              refine Z38 (kt := 3) (et := 9) rfl HK 0 rfl hMs (fun h => h) (by kernel_rfl) rfl ?_
              intro r217 w218 (H219 : Sat w212 [Zb w212 (fun _ => False), Z1x w212 r217 b130 (Value.int .i64) Zt S2 []] w218)
              refine hK216 _ _ ?_
              clear hK216 K216
              refine Zj ?_
              refine Z7 ?_
              refine ZB ?_
              refine ZX [25, 27, 147, 148, 149, 150, 151, 152, 153, 154, 155] (fun F_ W_ m_ => ∃ (seen rest : List (Int × List UInt8)), F_ 25 = (.int .i64 ((Z0R seen sx : Int))) ∧ (S2.Perm (seen ++ rest)) ∧ Sat w212 [Zb w212 (fun _ => False), Z1x w212 r217 b130 (Value.int .i64) Zt S2 seen] W_ ∧ m_ = rest.length) _ ⟨[], S2, (show ((.int .i64 (0)) : Value) = _ by first | rfl | go_num), (List.Perm.refl _), H219, rfl⟩ ?_
              rintro g220 w221 _ ⟨seen, rest, v223, hperm, H222, rfl⟩
              refine Zq 25 _ v223 ?_
              refine Zf ?_
              refine Zm ?_
              refine ZC (Z1 rfl) (fun K225 hK225 => ?_)
              refine Z4g rfl H222 1 rfl 0 rfl (fun h => h) rfl ?_ ?_
              ·intro p226
               refine hK225 _ _ ?_
               clear hK225 K225
               refine Z3 (Z1 rfl) (d := 148) (v := (.bool false)) rfl (by kernel_rfl) ?_
               refine Zj ?_
               refine Z7 ?_
               refine Zf ?_
               refine ZT rfl ?_
               refine Z1N ?_
               refine Z0F ?_
               refine Z0C ?_
               refine Z1c ?_
               have H227 : Sat w [Zb w (fun _ => False), Z6 x7 27 ([(.int .i64 (F)), (.int .i64 (1))] : List Value), Z6 c34 112 ([(.int .i64 (F)), (.int .i64 (1)), (.int .i64 (0)), (.pointer (some ⟨b25, 0, none⟩)), (.slice (some ⟨g, 0, none⟩) 1 lc)] : List Value), Ze 119 79 (.slice (some ⟨g, 0, none⟩) 1 lc) 1 (([q2]).flatMap Zg), Zi q2.mp (Value.int .i64) Zt S2, Ze 5 1 (.slice q2.pa q2.P.length q2.pc) q2.P.length (q2.P.flatMap Zo), Zi b130 (Value.int .i64) Zt S2] w221 := H214.keepU (H222.upd 0 rfl [] (fun _ h => h.elim))
               refine ZS ?_ ⟨(congrArg (fun z_ : Nat => Value.int .i64 (z_ : Int)) (Z37 (x := sx) p226).symm), H227⟩
               exact (Z4 rfl (Z4 rfl (Z4 rfl (Z0w rfl (Z4 rfl (Z4 rfl (ZP)))))))
              ·intro y228 t229 w230 p231 (H232 : Sat w212 [Zb w212 (fun _ => False), Z1x w212 r217 b130 (Value.int .i64) Zt S2 (seen ++ [y228])] w230)
               refine hK225 _ _ ?_
               clear hK225 K225
               refine Z3 (Z1 rfl) (d := 148) (v := (.bool true)) rfl (by kernel_rfl) ?_
               refine Zj ?_
               refine Z7 ?_
               refine Zf ?_
               refine Z0o rfl ?_
               refine ZO ?_
               refine Z7 ?_
               refine ZB ?_
               refine Zf ?_
               refine Zm ?_
               refine Z3 (Z1 rfl) (d := 149) (v := (.tuple #[(.int .i64 (y228.1)), (Zt y228.2)])) rfl (H232.entryR 1 rfl 0 rfl (fun h => h) rfl) ?_
               refine Z3 (Z1 rfl) (d := 150) (v := (Zt y228.2)) rfl (by kernel_rfl) ?_
               refine Z3 (Z1 rfl) (d := 27) (v := (Zt y228.2)) rfl (by kernel_rfl) ?_
               refine Zj ?_
               refine Z7 ?_
               refine Zf ?_
               refine Zm ?_
               refine Z3 (Z1 rfl) (d := 151) (v := (Zt y228.2)) rfl (by kernel_rfl) ?_
               refine Z3 (Z1 rfl) (d := 152) (v := (Zt sx)) rfl (by kernel_rfl) ?_
               refine Z3 (Z1 rfl) (d := 153) (v := (.bool (decide (y228.2 = sx)))) rfl (Z4h y228.2 sx rfl rfl) ?_
               refine Zj ?_
               refine Z7 ?_
               refine (Z00 (decide (y228.2 = sx))).elim (fun b233 => ?_) (fun b233 => ?_)
               ·have g234 := of_decide_eq_true b233
                refine Zq 153 (.bool true) (congrArg Value.bool b233) ?_
                have g235 := of_decide_eq_true b233
                refine Z0o rfl ?_
                refine Zm ?_
                refine Z3 (Z1 rfl) (d := 154) (v := (.int .i64 ((Z0R seen sx : Int)))) rfl (by kernel_rfl) ?_
                refine Z3 (Z1 rfl) (d := 155) (v := (.int .i64 ((Z0R seen sx : Int) + 1))) rfl (Z06 (z := (Z0R seen sx : Int) + 1) (by kernel_rfl) (IntWalk.i64_in _ (by have h1 := hperm.length_eq; have h2 := Z56 (l := seen) (x := sx); simp only [List.length_append] at h1; omega))) ?_
                refine Z3 (Z1 rfl) (d := 25) (v := (.int .i64 ((Z0R seen sx : Int) + 1))) rfl (by kernel_rfl) ?_
                refine Zj ?_
                refine ZE ?_
                refine ZK ?_ _ ⟨(seen ++ [y228]), t229, (show ((.int .i64 ((Z0R seen sx : Int) + 1)) : Value) = _ by rw [Z1u, Z1O]; have q_ := b233; simp at q_; simp [q_]), p231, H232, rfl⟩ (by have h1 := hperm.length_eq; have h2 := p231.length_eq; simp only [List.length_append, List.length_cons, List.length_nil] at h1 h2; omega)
                exact (Z4 rfl (Z4 rfl (Z4 rfl (Z4 rfl (Z4 rfl (Z4 rfl (Z4 rfl (Z4 rfl (Z4 rfl (Z4 rfl (Z4 rfl (Z4 rfl (Z4 rfl (Z0A))))))))))))))
               ·have g236 := of_decide_eq_false b233
                refine Zq 153 (.bool false) (congrArg Value.bool b233) ?_
                have g237 := of_decide_eq_false b233
                refine ZT rfl ?_
                refine ZO ?_
                refine ZE ?_
                refine ZK ?_ _ ⟨(seen ++ [y228]), t229, (show ((.int .i64 ((Z0R seen sx : Int))) : Value) = _ by rw [Z1u, Z1O]; have q_ := b233; simp at q_; simp [q_]), p231, H232, rfl⟩ (by have h1 := hperm.length_eq; have h2 := p231.length_eq; simp only [List.length_append, List.length_cons, List.length_nil] at h1 h2; omega)
                exact (Z4 rfl (Z4 rfl (Z4 rfl (Z4 rfl (Z4 rfl (Z4 rfl (Z4 rfl (Z4 rfl (Z4 rfl (Z4 rfl (Z0A)))))))))))
             ·rintro f238 w239 ⟨v241, H240⟩
              refine Zq 25 _ v241 ?_
              refine Zf ?_
              refine Zm ?_
              refine Z3 (Z1 rfl) (d := 156) (v := (Zt told)) rfl (by kernel_rfl) ?_
              refine Z3 (Z1 rfl) (d := 157) (v := (.bool (decide (told = ([] : List UInt8))))) rfl (Z4h told ([] : List UInt8) rfl rfl) ?_
              refine Z3 (Z1 rfl) (d := 158) (v := (.bool (decide (told = ([] : List UInt8))))) rfl (by kernel_rfl) ?_
              refine (Z00 (decide (told = ([] : List UInt8)))).elim (fun b242 => ?_) (fun b242 => ?_)
              ·have g243 := of_decide_eq_true b242
               refine Z05 158 (.bool true) (congrArg Value.bool b242) ?_
               have g244 := of_decide_eq_true b242
               refine Z3 (Zs 2 158 true rfl (by kernel_rfl) rfl (by kernel_rfl)) (d := 159) (v := (.int .i64 ((Z0R S2 sx : Int)))) rfl (by kernel_rfl) ?_
               refine Z3 (Zs 2 158 true rfl (by kernel_rfl) rfl (by kernel_rfl)) (d := 160) (v := (.pointer (some ⟨x7, 0, none⟩))) rfl (by kernel_rfl) ?_
               refine Z3 (Zs 2 158 true rfl (by kernel_rfl) rfl (by kernel_rfl)) (d := 161) (v := (.int .i64 (F))) rfl (Zh rfl (by kernel_rfl) (H240.cell 1 rfl rfl)) ?_
               refine Z3 (Zs 2 158 true rfl (by kernel_rfl) rfl (by kernel_rfl)) (d := 162) (v := (.int .i64 (F + 1))) rfl (Z06 (z := F + 1) (by kernel_rfl) (IntWalk.i64_in _ (by omega))) ?_
               refine Z3 (Zs 2 158 true rfl (by kernel_rfl) rfl (by kernel_rfl)) (d := 163) (v := (.bool (decide ((Z0R S2 sx : Int) ≥ (F + 1))))) rfl (by kernel_rfl) ?_
               refine Z3 (Z1 rfl) (d := 164) (v := (.bool (decide ((Z0R S2 sx : Int) ≥ (F + 1))))) rfl (by kernel_rfl) ?_
               refine Zj ?_
               refine Z7 ?_
               refine (Z00 (decide ((Z0R S2 sx : Int) ≥ (F + 1)))).elim (fun b245 => ?_) (fun b245 => ?_)
               ·have g246 := of_decide_eq_true b245
                refine Zq 164 (.bool true) (congrArg Value.bool b245) ?_
                have g247 := of_decide_eq_true b245
                refine Z0o rfl ?_
                refine Zm ?_
                refine Z3 (Z1 rfl) (d := 165) (v := (Zt sx)) rfl (by kernel_rfl) ?_
                refine Z3 (Z1 rfl) (d := 19) (v := (Zt sx)) rfl (by kernel_rfl) ?_
                refine Zj ?_
                have H248 : Sat w [Zb w (fun _ => False), Z6 x7 27 ([(.int .i64 (F)), (.int .i64 (1))] : List Value), Z6 c34 112 ([(.int .i64 (F)), (.int .i64 (1)), (.int .i64 (0)), (.pointer (some ⟨b25, 0, none⟩)), (.slice (some ⟨g, 0, none⟩) 1 lc)] : List Value), Ze 119 79 (.slice (some ⟨g, 0, none⟩) 1 lc) 1 (([q2]).flatMap Zg), Zi q2.mp (Value.int .i64) Zt S2, Ze 5 1 (.slice q2.pa q2.P.length q2.pc) q2.P.length (q2.P.flatMap Zo), Zi b130 (Value.int .i64) Zt S2] w239 := H240.pick [0, 1, 2, 3, 4, 5, 6] (by decide)
                refine ZS ?_ ⟨sx, rfl, (by unfold Z2O; rw [if_neg hno, if_pos ⟨by simp_all, by rw [← hS2]; simp_all⟩]), H248⟩
                exact (Z4 rfl (Z4 rfl (Z4 rfl (Z4 rfl (Z4 rfl (Z4 rfl (Z4 rfl (Z4 rfl (Z4 rfl (Z4 rfl (Z4 rfl (Z4 rfl (Z4 rfl (Z4 rfl (Z0w rfl (Z4 rfl (Z4 rfl (Z4 rfl (Z4 rfl (Z4 rfl (Z4 rfl (Z4 rfl (Z4 rfl (Z4 rfl (Z4 rfl (Z4 rfl (Z4 rfl (Z4 rfl (Z4 rfl (Z4 rfl (ZP)))))))))))))))))))))))))))))))
               ·have g249 := of_decide_eq_false b245
                refine Zq 164 (.bool false) (congrArg Value.bool b245) ?_
                have g250 := of_decide_eq_false b245
                refine ZT rfl ?_
                refine ZO ?_
                have H251 : Sat w [Zb w (fun _ => False), Z6 x7 27 ([(.int .i64 (F)), (.int .i64 (1))] : List Value), Z6 c34 112 ([(.int .i64 (F)), (.int .i64 (1)), (.int .i64 (0)), (.pointer (some ⟨b25, 0, none⟩)), (.slice (some ⟨g, 0, none⟩) 1 lc)] : List Value), Ze 119 79 (.slice (some ⟨g, 0, none⟩) 1 lc) 1 (([q2]).flatMap Zg), Zi q2.mp (Value.int .i64) Zt S2, Ze 5 1 (.slice q2.pa q2.P.length q2.pc) q2.P.length (q2.P.flatMap Zo), Zi b130 (Value.int .i64) Zt S2] w239 := H240.pick [0, 1, 2, 3, 4, 5, 6] (by decide)
                refine ZS ?_ ⟨told, rfl, (by unfold Z2O; rw [if_neg hno, if_neg (fun h_ => by rw [← hS2] at h_; first | (simp_all; done) | (simp_all; omega))]), H251⟩
                exact (Z4 rfl (Z4 rfl (Z4 rfl (Z4 rfl (Z4 rfl (Z4 rfl (Z4 rfl (Z4 rfl (Z4 rfl (Z4 rfl (Z4 rfl (Z4 rfl (Z0w rfl (Z4 rfl (Z4 rfl (Z4 rfl (Z4 rfl (Z4 rfl (Z4 rfl (Z4 rfl (Z4 rfl (Z4 rfl (Z4 rfl (Z4 rfl (Z4 rfl (Z4 rfl (Z4 rfl (Z4 rfl (ZP)))))))))))))))))))))))))))))
              ·have g252 := of_decide_eq_false b242
               refine Z05 158 (.bool false) (congrArg Value.bool b242) ?_
               have g253 := of_decide_eq_false b242
               refine ZG (ZQ 2 158 true rfl (by kernel_rfl) rfl (by kernel_rfl)) rfl ?_
               refine ZG (ZQ 2 158 true rfl (by kernel_rfl) rfl (by kernel_rfl)) rfl ?_
               refine ZG (ZQ 2 158 true rfl (by kernel_rfl) rfl (by kernel_rfl)) rfl ?_
               refine ZG (ZQ 2 158 true rfl (by kernel_rfl) rfl (by kernel_rfl)) rfl ?_
               refine ZG (ZQ 2 158 true rfl (by kernel_rfl) rfl (by kernel_rfl)) rfl ?_
               refine Z3 (Z1 rfl) (d := 164) (v := (.bool false)) rfl (by kernel_rfl) ?_
               refine Zj ?_
               refine Z7 ?_
               refine ZT rfl ?_
               refine ZO ?_
               have H254 : Sat w [Zb w (fun _ => False), Z6 x7 27 ([(.int .i64 (F)), (.int .i64 (1))] : List Value), Z6 c34 112 ([(.int .i64 (F)), (.int .i64 (1)), (.int .i64 (0)), (.pointer (some ⟨b25, 0, none⟩)), (.slice (some ⟨g, 0, none⟩) 1 lc)] : List Value), Ze 119 79 (.slice (some ⟨g, 0, none⟩) 1 lc) 1 (([q2]).flatMap Zg), Zi q2.mp (Value.int .i64) Zt S2, Ze 5 1 (.slice q2.pa q2.P.length q2.pc) q2.P.length (q2.P.flatMap Zo), Zi b130 (Value.int .i64) Zt S2] w239 := H240.pick [0, 1, 2, 3, 4, 5, 6] (by decide)
               refine ZS ?_ ⟨told, rfl, (by unfold Z2O; rw [if_neg hno, if_neg (fun h_ => by rw [← hS2] at h_; first | (simp_all; done) | (simp_all; omega))]), H254⟩
               exact (Z4 rfl (Z4 rfl (Z4 rfl (Z4 rfl (Z4 rfl (Z4 rfl (Z4 rfl (Z4 rfl (Z4 rfl (Z4 rfl (Z4 rfl (Z0w rfl (Z4 rfl (Z4 rfl (Z4 rfl (Z4 rfl (Z4 rfl (Z4 rfl (Z4 rfl (Z4 rfl (Z4 rfl (Z4 rfl (Z4 rfl (Z4 rfl (Z4 rfl (Z4 rfl (Z4 rfl (ZP))))))))))))))))))))))))))))
            ·have g255 := ZW b208
             refine Zq 141 (.bool false) (congrArg Value.bool b208) ?_
             have g256 := ZW b208
             refine ZT rfl ?_
             refine ZO ?_
             have H257 : Sat w [Zb w (fun _ => False), Z6 x7 27 ([(.int .i64 (F)), (.int .i64 (1))] : List Value), Z6 c34 112 ([(.int .i64 (F)), (.int .i64 (1)), (.int .i64 (0)), (.pointer (some ⟨b25, 0, none⟩)), (.slice (some ⟨g, 0, none⟩) 1 lc)] : List Value), Ze 119 79 (.slice (some ⟨g, 0, none⟩) 1 lc) 1 (([q2]).flatMap Zg), Zi q2.mp (Value.int .i64) Zt S2, Ze 5 1 (.slice q2.pa q2.P.length q2.pc) q2.P.length (q2.P.flatMap Zo), Zi b130 (Value.int .i64) Zt S] w205 := H206.pick [0, 1, 2, 3, 4, 5, 6] (by decide)
             have hin_ : fr ∈ S.map (·.1) := Decidable.byContradiction fun h_ => by have q_ := b208; rw [Z0W.2 h_] at q_; simp at q_
             have hSS : S2 = S := hS2.trans (Z2s hin_)
             have H258 : Sat w [Zb w (fun _ => False), Z6 x7 27 ([(.int .i64 (F)), (.int .i64 (1))] : List Value), Z6 c34 112 ([(.int .i64 (F)), (.int .i64 (1)), (.int .i64 (0)), (.pointer (some ⟨b25, 0, none⟩)), (.slice (some ⟨g, 0, none⟩) 1 lc)] : List Value), Ze 119 79 (.slice (some ⟨g, 0, none⟩) 1 lc) 1 (([q2]).flatMap Zg), Zi q2.mp (Value.int .i64) Zt S2, Ze 5 1 (.slice q2.pa q2.P.length q2.pc) q2.P.length (q2.P.flatMap Zo), Zi b130 (Value.int .i64) Zt S2] w205 := H257.cast (by rw [hSS])
             refine ZS ?_ ⟨told, rfl, (if_pos hin_).symm, H258⟩
             exact (Z4 rfl (Z4 rfl (Z4 rfl (Z4 rfl (Z4 rfl (Z4 rfl (Z4 rfl (Z4 rfl (Z4 rfl (Z4 rfl (Z4 rfl (ZP))))))))))))
           ·rintro f259 w260 ⟨told2, v262, htold2, H261⟩
            refine Zq 19 _ v262 ?_
            refine Zf ?_
            refine Zm ?_
            refine Z3 (Z1 rfl) (d := 167) (v := (.pointer (some ⟨c34, 0, none⟩))) rfl (by kernel_rfl) ?_
            refine ZC (Z1 rfl) (fun K263 hK263 => ?_)
            refine ZD (d := 168) rfl (by kernel_rfl) (Z48 w260 c34 b25 g lc F 1 0 [q2] (H261.at 2 rfl) (H261.at 3 rfl) (Nat.le_of_ble_eq_true rfl) 0 q2 rfl 1 rfl) ?_
            rintro _ w264 ⟨rfl, u266⟩
            have H265 := H261.keepU u266
            refine ⟨_, rfl, ?_⟩
            refine hK263 _ _ ?_
            clear hK263 K263
            refine Z3 (Z1 rfl) (d := 166) (v := (.tuple #[(Zt q2.rp), (.bool (q2.dn))])) rfl (by kernel_rfl) ?_
            refine Z3 (Z1 rfl) (d := 169) (v := (Zt q2.rp)) rfl (by kernel_rfl) ?_
            refine Z3 (Z1 rfl) (d := 170) (v := (.bool (q2.dn))) rfl (by kernel_rfl) ?_
            refine Z3 (Z1 rfl) (d := 28) (v := (Zt q2.rp)) rfl (by kernel_rfl) ?_
            refine Z3 (Z1 rfl) (d := 29) (v := (.bool (q2.dn))) rfl (by kernel_rfl) ?_
            refine Zj ?_
            refine Z7 ?_
            refine Zf ?_
            have hRt : Rep F S2 q2.dn q2.rp told2 := by rw [htold2]; exact hRep2
            refine Zm ?_
            refine Z3 (Z1 rfl) (d := 171) (v := (.bool (q2.dn))) rfl (by kernel_rfl) ?_
            refine Z3 (Z1 rfl) (d := 172) (v := (Zt told2)) rfl (by kernel_rfl) ?_
            refine Z3 (Z1 rfl) (d := 173) (v := (.bool (!(decide (told2 = ([] : List UInt8)))))) rfl (Z39 told2 ([] : List UInt8) rfl rfl) ?_
            refine Z3 (Z1 rfl) (d := 174) (v := (.bool (!((q2.dn) == (!(decide (told2 = ([] : List UInt8)))))))) rfl (by kernel_rfl) ?_
            refine Z3 (Z1 rfl) (d := 175) (v := (.bool (!((q2.dn) == (!(decide (told2 = ([] : List UInt8)))))))) rfl (by kernel_rfl) ?_
            have b267 : (!((q2.dn) == (!(decide (told2 = ([] : List UInt8)))))) = false := by rw [rep_ne hRt]; cases q2.dn <;> rfl
            refine Z05 175 (.bool false) (congrArg Value.bool b267) ?_
            have g268 := ZW b267
            refine Z3 (Zs 4 175 false rfl (by kernel_rfl) rfl (by kernel_rfl)) (d := 176) (v := (Zt q2.rp)) rfl (by kernel_rfl) ?_
            refine Z3 (Zs 4 175 false rfl (by kernel_rfl) rfl (by kernel_rfl)) (d := 177) (v := (Zt told2)) rfl (by kernel_rfl) ?_
            refine Z3 (Zs 4 175 false rfl (by kernel_rfl) rfl (by kernel_rfl)) (d := 178) (v := (.bool (!(decide (q2.rp = told2))))) rfl (Z39 q2.rp told2 rfl rfl) ?_
            refine Z3 (Z1 rfl) (d := 179) (v := (.bool (!(decide (q2.rp = told2))))) rfl (by kernel_rfl) ?_
            refine Zj ?_
            refine Z7 ?_
            have b269 : (!(decide (q2.rp = told2))) = false := by rw [decide_eq_true (rep_eq hRt hrp2)]; rfl
            refine Zq 179 (.bool false) (congrArg Value.bool b269) ?_
            have g270 := ZW b269
            have g271 := of_decide_eq_true g270
            refine ZT rfl ?_
            refine ZO ?_
            refine ZE ?_
            refine Z7 ?_
            refine Zm ?_
            refine Z3 (Z1 rfl) (d := 108) (v := (.int .i64 ((i : Int)))) rfl (by kernel_rfl) ?_
            refine Z3 (Z1 rfl) (d := 109) (v := (.int .i64 ((i : Int) + 1))) rfl (Z06 (z := (i : Int) + 1) (by kernel_rfl) (IntWalk.i64_in _ (by omega))) ?_
            refine Z3 (Z1 rfl) (d := 20) (v := (.int .i64 ((i : Int) + 1))) rfl (by kernel_rfl) ?_
            refine Zj ?_
            have H272 : Sat w [Zb w (fun _ => False), Z6 x7 27 ([(.int .i64 (F)), (.int .i64 (1))] : List Value), Z6 c34 112 ([(.int .i64 (F)), (.int .i64 (1)), (.int .i64 (0)), (.pointer (some ⟨b25, 0, none⟩)), (.slice (some ⟨g, 0, none⟩) 1 lc)] : List Value), Ze 119 79 (.slice (some ⟨g, 0, none⟩) 1 lc) 1 (([q2]).flatMap Zg), Zi q2.mp (Value.int .i64) Zt S2, Ze 5 1 (.slice q2.pa q2.P.length q2.pc) q2.P.length (q2.P.flatMap Zo), Zi b130 (Value.int .i64) Zt S2] w264 := H265.pick [0, 1, 2, 3, 4, 5, 6] (by decide)
            refine ZK ?_ _ ⟨(i + 1), S2, q2, told2, (show ((.int .i64 ((i : Int) + 1)) : Value) = _ by first | rfl | go_num), (show ((Zt told2) : Value) = _ by first | rfl | go_num), (by omega), (by rw [hS2]; exact Nat.le_trans Z2m (by omega)), (by rw [htold2]; exact hRep2), hop2, hpl2, hqP2, hrp2, H272, rfl⟩ (by omega)
            exact (Z4 rfl (Z4 rfl (Z4 rfl (Z4 rfl (Z4 rfl (Z4 rfl (Z4 rfl (Z4 rfl (Z4 rfl (Z4 rfl (Z4 rfl (Z4 rfl (Z4 rfl (Z4 rfl (Z4 rfl (Z4 rfl (Z4 rfl (Z4 rfl (Z4 rfl (Z4 rfl (Z4 rfl (Z4 rfl (Z0w rfl (Z0w rfl (Z4 rfl (Z4 rfl (Z4 rfl (Z4 rfl (Z4 rfl (Z0w rfl (Z4 rfl (Z0w rfl (Z4 rfl (Z4 rfl (Z0w rfl (Z4 rfl (Z4 rfl (Z0A))))))))))))))))))))))))))))))))))))))
       ·refine Zq 107 (.bool false) (congrArg Value.bool b154) ?_
        refine ZT rfl ?_
        refine Z1N ?_
        refine Z0F ?_
        refine Z0C ?_
        refine Z1c ?_
        refine Z7 ?_
        refine Zf ?_
        refine Zm ?_
        refine Z3 (Z1 rfl) (d := 180) (v := (.pointer (some ⟨c34, 0, none⟩))) rfl (by kernel_rfl) ?_
        refine ZC (Z1 rfl) (fun K273 hK273 => ?_)
        rcases Bool.eq_false_or_eq_true qi.dn with hdn | hdn
        ·have htd : ¬ (told = []) := fun h_ => by have q_ := hRep.t; rw [if_pos hdn] at q_; exact hRep.n hdn (q_.symm.trans h_)
         refine ZD (d := 181) rfl (by kernel_rfl) (Z3z w151 c34 b25 g lc F 1 0 [qi] (H152.at 2 rfl) (H152.at 3 rfl) (Nat.le_of_ble_eq_true rfl) 0 qi rfl (by omega) (by decide) (ListAt.row (e := 5) (enc := Zo) (sz := 1) ZR (by decide) (H152.at 5 rfl)) (by rw [hqP]; decide) hdn 1 rfl) ?_
         rintro _ w274 ⟨rfl, u275⟩
         have H276 := H152.keepU u275
         refine ⟨_, rfl, ?_⟩
         refine hK273 _ _ ?_
         clear hK273 K273
         refine Z3 (Z1 rfl) (d := 30) (v := (.slice none 0 0)) rfl (by kernel_rfl) ?_
         refine Zj ?_
         refine Z7 ?_
         refine Zf ?_
         refine Zm ?_
         refine Z3 (Z1 rfl) (d := 182) (v := (.slice none 0 0)) rfl (by kernel_rfl) ?_
         refine Z3 (Z1 rfl) (d := 183) (v := (.int .i64 (0))) rfl (by kernel_rfl) ?_
         refine Z3 (Z1 rfl) (d := 184) (v := (.bool true)) rfl (by kernel_rfl) ?_
         refine Z3 (Z1 rfl) (d := 185) (v := (Zt told)) rfl (by kernel_rfl) ?_
         refine Z3 (Z1 rfl) (d := 186) (v := (.bool (!(decide (told = ([] : List UInt8)))))) rfl (Z39 told ([] : List UInt8) rfl rfl) ?_
         refine Z3 (Z1 rfl) (d := 187) (v := (.bool (true == (!(decide (told = ([] : List UInt8))))))) rfl (by kernel_rfl) ?_
         refine Z3 (Z1 rfl) (d := 188) (v := (.bool (true == (!(decide (told = ([] : List UInt8))))))) rfl (by kernel_rfl) ?_
         have b277 : (true == (!(decide (told = ([] : List UInt8))))) = true := by rw [decide_eq_false htd]; rfl
         refine Z05 188 (.bool true) (congrArg Value.bool b277) ?_
         refine Z3 (Zs 6 188 true rfl (by kernel_rfl) rfl (by kernel_rfl)) (d := 189) (v := (.slice none 0 0)) rfl (by kernel_rfl) ?_
         refine Z3 (Zs 6 188 true rfl (by kernel_rfl) rfl (by kernel_rfl)) (d := 190) (v := (.int .i64 (0))) rfl (by kernel_rfl) ?_
         refine Z3 (Zs 6 188 true rfl (by kernel_rfl) rfl (by kernel_rfl)) (d := 191) (v := (.bool true)) rfl (by kernel_rfl) ?_
         refine Z3 (Zs 6 188 true rfl (by kernel_rfl) rfl (by kernel_rfl)) (d := 192) (v := (.bool true)) rfl (by kernel_rfl) ?_
         refine ZG (ZQ 10 192 false rfl (by kernel_rfl) rfl (by kernel_rfl)) rfl ?_
         refine ZG (ZQ 10 192 false rfl (by kernel_rfl) rfl (by kernel_rfl)) rfl ?_
         refine ZG (ZQ 10 192 false rfl (by kernel_rfl) rfl (by kernel_rfl)) rfl ?_
         refine ZG (ZQ 10 192 false rfl (by kernel_rfl) rfl (by kernel_rfl)) rfl ?_
         refine ZG (ZQ 10 192 false rfl (by kernel_rfl) rfl (by kernel_rfl)) rfl ?_
         refine Z3 (Zs 6 188 true rfl (by kernel_rfl) rfl (by kernel_rfl)) (d := 198) (v := (.bool true)) rfl (by kernel_rfl) ?_
         refine Z3 (Z1 rfl) (d := 199) (v := (.bool true)) rfl (by kernel_rfl) ?_
         refine Z3 (Z1 rfl) (d := 200) (v := (.bool true)) rfl (by kernel_rfl) ?_
         refine ZC (Zs 18 200 true rfl (by kernel_rfl) rfl (by kernel_rfl)) (fun K278 hK278 => ?_)
         refine ZD (d := 201) rfl (by kernel_rfl) (Z2E w274) ?_
         rintro _ w279 ⟨rfl, u281⟩
         have H280 := H276.keepU u281
         refine ⟨_, rfl, ?_⟩
         refine hK278 _ _ ?_
         clear hK278 K278
         refine Z3 (Z1 rfl) (d := 202) (v := (.bool true)) rfl (by kernel_rfl) ?_
         refine Z3 (Z1 rfl) (d := 6) (v := (.bool true)) rfl (by kernel_rfl) ?_
         refine Zj ?_
         refine Z7 ?_
         refine ZY ?_
         refine Z0I rfl (ZI (v := (.bool true)) rfl) ?_
         exact ⟨rfl, H280.upd 0 rfl [] (fun _ h => h.elim)⟩
        ·have htd : told = [] := by have q_ := hRep.t; rw [if_neg (by rw [hdn]; simp)] at q_; exact q_
         refine ZD (d := 181) rfl (by kernel_rfl) (Z3A w151 c34 b25 g lc F 1 0 [qi] (H152.at 2 rfl) (H152.at 3 rfl) (Nat.le_of_ble_eq_true rfl) 0 qi rfl (by omega) (by decide) (ListAt.row (e := 5) (enc := Zo) (sz := 1) ZR (by decide) (H152.at 5 rfl)) (by rw [hqP]; decide) ⟨hop, hdn⟩ 1 rfl) ?_
         rintro _ w282 ⟨a283, c284, D285, B286, rfl, n287, o288, k289, p290, q291⟩
         have H292 : Sat w [Zb w (fun _ => False), Z6 x7 27 ([(.int .i64 (F)), (.int .i64 (1))] : List Value), Z6 c34 112 ([(.int .i64 (F)), (.int .i64 (1)), (.int .i64 (0)), (.pointer (some ⟨b25, 0, none⟩)), (.slice (some ⟨g, 0, none⟩) 1 lc)] : List Value), Ze 119 79 (.slice (some ⟨g, 0, none⟩) 1 lc) 1 (([qi]).flatMap Zg), Zi qi.mp (Value.int .i64) Zt S, Ze 5 1 (.slice qi.pa qi.P.length qi.pc) qi.P.length (qi.P.flatMap Zo), Zi b130 (Value.int .i64) Zt S, ZF [Ze 82 295 (.slice a283 D285.length c284) D285.length (D285.flatMap Z04), Z0U B286]] w282 := H152.addU p290 k289 q291
         have H293 : Sat w [Zb w (fun _ => False), Z6 x7 27 ([(.int .i64 (F)), (.int .i64 (1))] : List Value), Z6 c34 112 ([(.int .i64 (F)), (.int .i64 (1)), (.int .i64 (0)), (.pointer (some ⟨b25, 0, none⟩)), (.slice (some ⟨g, 0, none⟩) 1 lc)] : List Value), Ze 119 79 (.slice (some ⟨g, 0, none⟩) 1 lc) 1 (([qi]).flatMap Zg), Zi qi.mp (Value.int .i64) Zt S, Ze 5 1 (.slice qi.pa qi.P.length qi.pc) qi.P.length (qi.P.flatMap Zo), Zi b130 (Value.int .i64) Zt S, Ze 82 295 (.slice a283 D285.length c284) D285.length (D285.flatMap Z04), Z0U B286] w282 := H292.open 7 rfl
         refine ⟨_, rfl, ?_⟩
         refine hK273 _ _ ?_
         clear hK273 K273
         refine Z3 (Z1 rfl) (d := 30) (v := (.slice a283 D285.length c284)) rfl (by kernel_rfl) ?_
         refine Zj ?_
         refine Z7 ?_
         refine Zf ?_
         refine Zm ?_
         refine Z3 (Z1 rfl) (d := 182) (v := (.slice a283 D285.length c284)) rfl (by kernel_rfl) ?_
         refine Z3 (Z1 rfl) (d := 183) (v := (.int .i64 ((D285.length : Int)))) rfl (by kernel_rfl) ?_
         refine Z3 (Z1 rfl) (d := 184) (v := (.bool (decide ((D285.length : Int) = 0)))) rfl (by kernel_rfl) ?_
         refine Z3 (Z1 rfl) (d := 185) (v := (Zt told)) rfl (by kernel_rfl) ?_
         refine Z3 (Z1 rfl) (d := 186) (v := (.bool (!(decide (told = ([] : List UInt8)))))) rfl (Z39 told ([] : List UInt8) rfl rfl) ?_
         refine Z3 (Z1 rfl) (d := 187) (v := (.bool ((decide ((D285.length : Int) = 0)) == (!(decide (told = ([] : List UInt8))))))) rfl (by kernel_rfl) ?_
         refine Z3 (Z1 rfl) (d := 188) (v := (.bool ((decide ((D285.length : Int) = 0)) == (!(decide (told = ([] : List UInt8))))))) rfl (by kernel_rfl) ?_
         have b294 : ((decide ((D285.length : Int) = 0)) == (!(decide (told = ([] : List UInt8))))) = true := by rw [decide_eq_true htd, decide_eq_false (by omega)]; rfl
         refine Z05 188 (.bool true) (congrArg Value.bool b294) ?_
         refine Z3 (Zs 6 188 true rfl (by kernel_rfl) rfl (by kernel_rfl)) (d := 189) (v := (.slice a283 D285.length c284)) rfl (by kernel_rfl) ?_
         refine Z3 (Zs 6 188 true rfl (by kernel_rfl) rfl (by kernel_rfl)) (d := 190) (v := (.int .i64 ((D285.length : Int)))) rfl (by kernel_rfl) ?_
         refine Z3 (Zs 6 188 true rfl (by kernel_rfl) rfl (by kernel_rfl)) (d := 191) (v := (.bool (decide ((D285.length : Int) = 0)))) rfl (by kernel_rfl) ?_
         refine Z3 (Zs 6 188 true rfl (by kernel_rfl) rfl (by kernel_rfl)) (d := 192) (v := (.bool (decide ((D285.length : Int) = 0)))) rfl (by kernel_rfl) ?_
         have b295 : (decide ((D285.length : Int) = 0)) = false := by exact decide_eq_false (by omega)
         refine Z05 192 (.bool false) (congrArg Value.bool b295) ?_
         have g296 := of_decide_eq_false b295
         refine Z3 (Zs 10 192 false rfl (by kernel_rfl) rfl (by kernel_rfl)) (d := 193) (v := (.slice a283 D285.length c284)) rfl (by kernel_rfl) ?_
         obtain ⟨g297, c298, e299⟩ := Z19 (H293.at 7 rfl) (by omega)
         obtain ⟨x300, h301⟩ := Z5e (show 0 < D285.length by omega)
         refine Z3 (Zs 10 192 false rfl (by kernel_rfl) rfl (by kernel_rfl)) (d := 194) (v := (.pointer (some ⟨g297, 0 + ((0 : Int)).toNat * 295, none⟩))) rfl (Z1w (E := 82) (by kernel_rfl) (by kernel_rfl) (Nat.le_of_ble_eq_true rfl) rfl e299 rfl (by omega) (by omega)) ?_
         refine Z3 (Zs 10 192 false rfl (by kernel_rfl) rfl (by kernel_rfl)) (d := 195) (v := (.pointer (some ⟨g297, 0 + ((0 : Int)).toNat * 295, none⟩))) rfl (by kernel_rfl) ?_
         refine Z3 (Zs 10 192 false rfl (by kernel_rfl) rfl (by kernel_rfl)) (d := 196) (v := (.int .i64 (x300.k))) rfl (Zh rfl (by kernel_rfl) (Z01 (H293.at 7 rfl) e299 Z3G h301 0 rfl (show 0 + ((0 : Int)).toNat * 295 = 0 * 295 + 0 by omega) (by kernel_rfl))) ?_
         refine Z3 (Zs 10 192 false rfl (by kernel_rfl) rfl (by kernel_rfl)) (d := 197) (v := (.bool (decide (x300.k = 10)))) rfl (by kernel_rfl) ?_
         refine Z3 (Zs 6 188 true rfl (by kernel_rfl) rfl (by kernel_rfl)) (d := 198) (v := (.bool (decide (x300.k = 10)))) rfl (by kernel_rfl) ?_
         refine Z3 (Z1 rfl) (d := 199) (v := (.bool (decide (x300.k = 10)))) rfl (by kernel_rfl) ?_
         refine Z3 (Z1 rfl) (d := 200) (v := (.bool (decide (x300.k = 10)))) rfl (by kernel_rfl) ?_
         have b302 : (decide (x300.k = 10)) = true := by exact decide_eq_true (Z6t (o288) h301).k
         refine Z05 200 (.bool true) (congrArg Value.bool b302) ?_
         have g303 := of_decide_eq_true b302
         refine ZC (Zs 18 200 true rfl (by kernel_rfl) rfl (by kernel_rfl)) (fun K304 hK304 => ?_)
         refine ZD (d := 201) rfl (by kernel_rfl) (Z2E w282) ?_
         rintro _ w305 ⟨rfl, u307⟩
         have H306 := H293.keepU u307
         refine ⟨_, rfl, ?_⟩
         refine hK304 _ _ ?_
         clear hK304 K304
         refine Z3 (Z1 rfl) (d := 202) (v := (.bool true)) rfl (by kernel_rfl) ?_
         refine Z3 (Z1 rfl) (d := 6) (v := (.bool true)) rfl (by kernel_rfl) ?_
         refine Zj ?_
         refine Z7 ?_
         refine ZY ?_
         refine Z0I rfl (ZI (v := (.bool true)) rfl) ?_
         exact ⟨rfl, H306.upd 0 rfl [] (fun _ h => h.elim)⟩
end Go.Proofs.YtgigjkjdmalmaaaGreat
