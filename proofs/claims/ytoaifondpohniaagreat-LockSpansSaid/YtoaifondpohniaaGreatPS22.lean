/- WHAT IS PROVED: contracts and plain laws of RbD, RefB, Rg2t. Conditions: stated with each. -/
import Derived.Test.YtoaifondpohniaaGreatPS05
import Derived.Test.YtoaifondpohniaaGreatPS12
import Derived.Test.YtoaifondpohniaaGreatPS15
import Derived.Test.YtoaifondpohniaaGreatPS18
set_option maxHeartbeats 4000000
set_option maxRecDepth 100000
namespace Go.Proofs.YtoaifondpohniaaGreat
open Go.RowKit
def Z0q (x : Signed) : List Value := [.int .i64 x.p, Z1m x.s]
theorem Z69 (x : Signed) : (Z0q x).length = 2 := rfl
theorem BytesAt.now {W w : World} {G : List Ck} {v : Value} {s : List UInt8} (H : Sat W G w) (j : Nat) (hj : G[j]? = Option.some (Z6 W fun _ => False)) (hv : BytesAt W v s) : BytesAt w v s :=
 SliceOf.mono hv fun _ _ h => H.cellR j hj h (fun h => h)
def Z62 (r : Nat) (a : Option Addr) (c : Nat) (L : List Signed) (tv : Value) (tx : List UInt8) : List Ck := [Z3 r 98 [.slice a L.length c], Zb 114 2 (.slice a L.length c) L.length (L.flatMap Z0q), Zb 5 1 tv tx.length (tx.flatMap Zr)]
theorem Z4Z {L : List Signed} (hn : L.Nodup) {i : Nat} {y : Signed} (h : L[i]? = some y) : Zt L y = (i : Int) + 1 := by
 obtain ⟨hi, rfl⟩ := List.getElem?_eq_some_iff.1 h
 have : L.idxOf? L[i] = some i := by
  rw [List.idxOf?_eq_some_iff]
  refine ⟨hi, rfl, fun j hj e => ?_⟩
  have := List.pairwise_iff_getElem.1 hn j i (by omega) hi hj
  exact this e
 unfold Zt; rw [this]; rfl
theorem Z7o {L : List Signed} {i : Nat} {x : Signed} {y : Signed} (hx : L[i]? = some x) (hne : ¬ x = y) (h : y ∉ L.take i) : y ∉ L.take (i + 1) := by
 rw [List.take_add_one, hx, List.mem_append]
 rintro (q | q)
 ·exact h q
 ·simp at q; exact hne q.symm
theorem Z4b (w : World) (r : Nat) (a : Option Addr) (c : Nat) (L : List Signed) (tv : Value) (tx : List UInt8) (hB : (ZH (Z62 r a c L tv tx)).ok w) (hl : L.length ≤ 1000000) (hn : L.Nodup) (p : Int) :
  Calls Tryz.prog 16 #[(.pointer (some ⟨r, 0, none⟩)), (.int .i64 (p)), tv] w fun e w' => ∃ a' c', e = .returned (.agg #[.int .i64 p, .int .i64 (Zt (Zg L (⟨p, tx⟩ : Signed)) (⟨p, tx⟩ : Signed))]) ∧ Sat w [Z3 r 98 [.slice a' (Zg L (⟨p, tx⟩ : Signed)).length c'], Zb 114 2 (.slice a' (Zg L (⟨p, tx⟩ : Signed)).length c') (Zg L (⟨p, tx⟩ : Signed)).length ((Zg L (⟨p, tx⟩ : Signed)).flatMap Z0q), Zb 5 1 tv tx.length (tx.flatMap Zr), Z6 w (ZH (Z62 r a c L tv tx)).fp] w' := by
 have H : Sat w [Z3 r 98 ([(.slice a L.length c)] : List Value), Zb 114 2 (.slice a L.length c) L.length (L.flatMap Z0q), Zb 5 1 tv tx.length (tx.flatMap Zr), Z6 w (ZH (Z62 r a c L tv tx)).fp] w := Sat.start (Z62 r a c L tv tx) hB
 refine ZE Tryz.func16 rfl 64 rfl (Nat.le_of_ble_eq_true rfl) ?_
 refine Zc ?_
 refine Zp ?_
 refine ZA (Z1 rfl) (fun K1 hK1 => ?_)
 refine Z0e (zs := ([(.int .i64 (0)), (.int .i64 (0))] : List Value)) (z := (.agg ⟨([(.int .i64 (0)), (.int .i64 (0))] : List Value)⟩)) rfl H (by kernel_rfl) (by kernel_rfl) ?_
 intro b2 w3 (H4 : Sat w [Z3 r 98 ([(.slice a L.length c)] : List Value), Zb 114 2 (.slice a L.length c) L.length (L.flatMap Z0q), Zb 5 1 tv tx.length (tx.flatMap Zr), Z6 w (ZH (Z62 r a c L tv tx)).fp, Z3 b2 29 ([(.int .i64 (0)), (.int .i64 (0))] : List Value)] w3)
 refine hK1 _ _ ?_
 clear hK1 K1
 refine Zm ?_
 refine Z4 ?_
 refine Zc ?_
 refine Zc ?_
 refine Zp ?_
 refine Z2 (Z1 rfl) (d := 8) (v := (.pointer (some ⟨r, 0, none⟩))) rfl (by kernel_rfl) ?_
 refine Z2 (Z1 rfl) (d := 9) (v := (.pointer (some ⟨r, 0, none⟩))) rfl (by kernel_rfl) ?_
 refine Z2 (Z1 rfl) (d := 10) (v := (.pointer (some ⟨r, 0, none⟩))) rfl (by kernel_rfl) ?_
 refine Z2 (Z1 rfl) (d := 11) (v := (.slice a L.length c)) rfl (Zi rfl (by kernel_rfl) (H4.cell 0 rfl rfl)) ?_
 refine Z2 (Z1 rfl) (d := 12) (v := (.int .i64 ((L.length : Int)))) rfl (by kernel_rfl) ?_
 refine Z2 (Z1 rfl) (d := 13) (v := (.int .i64 (0))) rfl (by kernel_rfl) ?_
 refine Zm ?_
 refine Z4 ?_
 refine ZR ?_
 refine Z0m [7, 13, 14, 15, 16, 17, 18, 19, 20, 21, 22, 23, 24, 25, 26, 27, 28, 29, 30, 31, 32, 33, 34, 35, 36, 37, 38, 39, 40, 41, 42, 43] (fun F_ W_ m_ => ∃ (i : Nat), F_ 13 = (.int .i64 ((i : Int))) ∧ (i ≤ L.length) ∧ ((⟨p, tx⟩ : Signed) ∉ L.take i) ∧ Sat w [Z3 r 98 ([(.slice a L.length c)] : List Value), Zb 114 2 (.slice a L.length c) L.length (L.flatMap Z0q), Zb 5 1 tv tx.length (tx.flatMap Zr), Z6 w (ZH (Z62 r a c L tv tx)).fp, Z3 b2 29 ([(.int .i64 (0)), (.int .i64 (0))] : List Value)] W_ ∧ m_ = L.length + 1 - i) _ ⟨0, (show ((.int .i64 (0)) : Value) = _ by first | rfl | go_num), by omega, by simp, H4, rfl⟩ ?_
 rintro g5 w6 _ ⟨i, v8, hi, hno, H7, rfl⟩
 refine Zs 13 _ v8 ?_
 refine Zc ?_
 refine Zp ?_
 refine Z2 (Z1 rfl) (d := 14) (v := (.bool (decide ((i : Int) < (L.length : Int))))) rfl (by kernel_rfl) ?_
 refine Zm ?_
 refine Z4 ?_
 refine Zc ?_
 refine (ZS (decide ((i : Int) < (L.length : Int)))).elim (fun b10 => ?_) (fun b10 => ?_)
 ·have g11 := of_decide_eq_true b10
  refine Zs 14 (.bool true) (congrArg Value.bool b10) ?_
  have g12 := of_decide_eq_true b10
  refine Z0h rfl ?_
  refine Z0b ?_
  refine Z4 ?_
  refine Zc ?_
  refine ZR ?_
  refine Zc ?_
  refine Zp ?_
  refine Z2 (Z1 rfl) (d := 15) (v := (.int .i64 ((i : Int)))) rfl (by kernel_rfl) ?_
  refine Z2 (Z1 rfl) (d := 7) (v := (.int .i64 ((i : Int)))) rfl (by kernel_rfl) ?_
  refine Zm ?_
  refine Z4 ?_
  refine Zc ?_
  refine Z1d H7 (by kernel_rfl) (by kernel_rfl) ?_
  refine Zz (Z1 rfl) (d := 16) (v := (.pointer (some ⟨r, 0, none⟩))) rfl (fun _ H' => (by kernel_rfl)) ?_
  refine Zz (Z1 rfl) (d := 17) (v := (.pointer (some ⟨r, 0, none⟩))) rfl (fun _ H' => (by kernel_rfl)) ?_
  refine Zz (Z1 rfl) (d := 18) (v := (.pointer (some ⟨r, 0, none⟩))) rfl (fun _ H' => (by kernel_rfl)) ?_
  refine Zz (Z1 rfl) (d := 19) (v := (.slice a L.length c)) rfl (fun _ H' => (Zi rfl (by kernel_rfl) (H'.cell 0 rfl rfl))) ?_
  refine Zz (Z1 rfl) (d := 20) (v := (.int .i64 ((i : Int)))) rfl (fun _ H' => (by kernel_rfl)) ?_
  obtain ⟨g13, c14, e15⟩ := Z16 (H7.at 1 rfl) (by omega)
  obtain ⟨x16, h17⟩ := Z2r (show i < L.length by omega)
  refine Zz (Z1 rfl) (d := 21) (v := (.pointer (some ⟨g13, 0 + ((i : Int)).toNat * 2, none⟩))) rfl (fun _ H' => (Z0D (E := 114) (by kernel_rfl) (by kernel_rfl) (Nat.le_of_ble_eq_true rfl) rfl e15 rfl (by omega) (by omega))) ?_
  refine Zz (Z1 rfl) (d := 22) (v := (.pointer (some ⟨g13, 0 + ((i : Int)).toNat * 2, none⟩))) rfl (fun _ H' => (by kernel_rfl)) ?_
  refine Zz (Z1 rfl) (d := 23) (v := (.int .i64 (x16.p))) rfl (fun _ H' => (Zi rfl (by kernel_rfl) (Z2f (H'.at 1 rfl) e15 Z69 h17 0 rfl (show 0 + ((i : Int)).toNat * 2 = i * 2 + 0 by omega) (by kernel_rfl)))) ?_
  refine Zz (Z1 rfl) (d := 24) (v := (.int .i64 (p))) rfl (fun _ H' => (by kernel_rfl)) ?_
  refine Zz (Z1 rfl) (d := 25) (v := (.bool (decide (x16.p = p)))) rfl (fun _ H' => (by kernel_rfl)) ?_
  refine Zz (Z1 rfl) (d := 26) (v := (.bool (decide (x16.p = p)))) rfl (fun _ H' => (by kernel_rfl)) ?_
  refine (ZS (decide (x16.p = p))).elim (fun b18 => ?_) (fun b18 => ?_)
  ·have g19 := of_decide_eq_true b18
   refine Z1O 26 (.bool true) (congrArg Value.bool b18) ?_
   have g20 := of_decide_eq_true b18
   refine Zz (Zj 10 26 true rfl (by kernel_rfl) rfl (by kernel_rfl)) (d := 27) (v := (.pointer (some ⟨r, 0, none⟩))) rfl (fun _ H' => (by kernel_rfl)) ?_
   refine Zz (Zj 10 26 true rfl (by kernel_rfl) rfl (by kernel_rfl)) (d := 28) (v := (.pointer (some ⟨r, 0, none⟩))) rfl (fun _ H' => (by kernel_rfl)) ?_
   refine Zz (Zj 10 26 true rfl (by kernel_rfl) rfl (by kernel_rfl)) (d := 29) (v := (.pointer (some ⟨r, 0, none⟩))) rfl (fun _ H' => (by kernel_rfl)) ?_
   refine Zz (Zj 10 26 true rfl (by kernel_rfl) rfl (by kernel_rfl)) (d := 30) (v := (.slice a L.length c)) rfl (fun _ H' => (Zi rfl (by kernel_rfl) (H'.cell 0 rfl rfl))) ?_
   refine Zz (Zj 10 26 true rfl (by kernel_rfl) rfl (by kernel_rfl)) (d := 31) (v := (.int .i64 ((i : Int)))) rfl (fun _ H' => (by kernel_rfl)) ?_
   refine Zz (Zj 10 26 true rfl (by kernel_rfl) rfl (by kernel_rfl)) (d := 32) (v := (.pointer (some ⟨g13, 0 + ((i : Int)).toNat * 2, none⟩))) rfl (fun _ H' => (Z0D (E := 114) (by kernel_rfl) (by kernel_rfl) (Nat.le_of_ble_eq_true rfl) rfl e15 rfl (by omega) (by omega))) ?_
   refine Zz (Zj 10 26 true rfl (by kernel_rfl) rfl (by kernel_rfl)) (d := 33) (v := (.pointer (some ⟨g13, 0 + ((i : Int)).toNat * 2 + 1, none⟩))) rfl (fun _ H' => (by kernel_rfl)) ?_
   refine Zz (Zj 10 26 true rfl (by kernel_rfl) rfl (by kernel_rfl)) (d := 34) (v := (Z1m x16.s)) rfl (fun _ H' => (Zi rfl (by kernel_rfl) (Z2f (H'.at 1 rfl) e15 Z69 h17 1 rfl (show 0 + ((i : Int)).toNat * 2 + 1 = i * 2 + 1 by omega) (by kernel_rfl)))) ?_
   refine Zz (Zj 10 26 true rfl (by kernel_rfl) rfl (by kernel_rfl)) (d := 35) (v := tv) rfl (fun _ H' => (by kernel_rfl)) ?_
   refine Zz (Zj 10 26 true rfl (by kernel_rfl) rfl (by kernel_rfl)) (d := 36) (v := (Z1m tx)) rfl (fun _ H' => (Z20 (e := 5) (s := tx) (by kernel_rfl) (by kernel_rfl) (by kernel_rfl) rfl (Z1Q (ListAt.row (e := 5) (enc := Zr) (sz := 1) (v := tv) (n := tx.length) (xs := tx) Z05 (by decide) (H'.at 2 rfl))))) ?_
   refine Zz (Zj 10 26 true rfl (by kernel_rfl) rfl (by kernel_rfl)) (d := 37) (v := (.bool (decide (x16.s = tx)))) rfl (fun _ H' => (Z8q x16.s tx rfl rfl)) ?_
   refine Zz (Z1 rfl) (d := 38) (v := (.bool (decide (x16.s = tx)))) rfl (fun _ H' => (by kernel_rfl)) ?_
   refine Z1U ?_
   intro w21 H22
   refine Z4 ?_
   refine (ZS (decide (x16.s = tx))).elim (fun b23 => ?_) (fun b23 => ?_)
   ·have g24 := of_decide_eq_true b23
    refine Zs 38 (.bool true) (congrArg Value.bool b23) ?_
    have g25 := of_decide_eq_true b23
    refine Z0h rfl ?_
    refine Zc ?_
    refine Zp ?_
    refine Z2 (Z1 rfl) (d := 39) (v := (.int .i64 (p))) rfl (by kernel_rfl) ?_
    refine Z2 (Z1 rfl) (d := 40) (v := (.int .i64 ((i : Int)))) rfl (by kernel_rfl) ?_
    refine Z2 (Z1 rfl) (d := 41) (v := (.int .i64 ((i : Int) + 1))) rfl (Z04 (z := (i : Int) + 1) (by kernel_rfl) (IntWalk.i64_in _ (by omega))) ?_
    refine Z2 (Z1 rfl) (d := 42) (v := (.agg ⟨([(.int .i64 (p)), (.int .i64 ((i : Int) + 1))] : List Value)⟩)) rfl (by kernel_rfl) ?_
    refine ZA (Z1 rfl) (fun K26 hK26 => ?_)
    refine Z1D (vs := ([(.int .i64 (p)), (.int .i64 ((i : Int) + 1))] : List Value)) rfl H22 4 rfl rfl rfl rfl (by kernel_rfl) (Nat.le_of_ble_eq_true (by kernel_rfl)) (Nat.le_of_ble_eq_true (by kernel_rfl)) (by kernel_rfl) ?_
    intro w27 (H28 : Sat w [Z3 r 98 ([(.slice a L.length c)] : List Value), Zb 114 2 (.slice a L.length c) L.length (L.flatMap Z0q), Zb 5 1 tv tx.length (tx.flatMap Zr), Z6 w (ZH (Z62 r a c L tv tx)).fp, Z3 b2 29 ([(.int .i64 (p)), (.int .i64 ((i : Int) + 1))] : List Value)] w27)
    refine hK26 _ _ ?_
    clear hK26 K26
    refine Zm ?_
    refine Z4 ?_
    refine ZY ?_
    refine Z0N ?_
    refine Z0d ?_
    refine Z1n ?_
    refine Z0N ?_
    refine Z0d ?_
    refine Z0O rfl (Z0i (vs := ([(.int .i64 (p)), (.int .i64 ((i : Int) + 1))] : List Value)) rfl (by kernel_rfl) (by kernel_rfl) (by exact Nat.le_of_ble_eq_true (by kernel_rfl)) (H28.at 4 rfl) (by kernel_rfl)) ?_
    have hy : L[i]? = some (⟨p, tx⟩ : Signed) := by rw [h17]; congr 1; have q1 := of_decide_eq_true b18; have q2 := of_decide_eq_true b23; rw [← q1, ← q2]
    have hm : (⟨p, tx⟩ : Signed) ∈ L := List.mem_of_getElem? hy
    refine ⟨a, c, ?_, ?_⟩
    ·rw [Z1I hm, Z4Z hn hy]
    ·rw [Z1I hm]; exact H28.pick [0, 1, 2, 3] (by decide)
   ·have g30 := of_decide_eq_false b23
    refine Zs 38 (.bool false) (congrArg Value.bool b23) ?_
    have g31 := of_decide_eq_false b23
    refine Z09 rfl ?_
    refine Z0b ?_
    refine ZL ?_
    refine Z4 ?_
    refine Zp ?_
    refine Z2 (Z1 rfl) (d := 43) (v := (.int .i64 ((i : Int) + 1))) rfl (Z04 (z := (i : Int) + 1) (by kernel_rfl) (IntWalk.i64_in _ (by omega))) ?_
    refine Z2 (Z1 rfl) (d := 13) (v := (.int .i64 ((i : Int) + 1))) rfl (by kernel_rfl) ?_
    refine Zm ?_
    refine ZM ?_ _ ⟨(i + 1), (show ((.int .i64 ((i : Int) + 1)) : Value) = _ by first | rfl | go_num), by omega, (Z7o h17 (fun e => by first | exact absurd (congrArg Signed.s e) (of_decide_eq_false b23) | exact absurd (congrArg Signed.p e) (of_decide_eq_false b23)) hno), H22, rfl⟩ (by omega)
    exact (Z0 rfl (Z0 rfl (Z0 rfl (Z0 rfl (Z0 rfl (Z0 rfl (Z0 rfl (Z0 rfl (Z0 rfl (Z0 rfl (Z0 rfl (Z0 rfl (Z0 rfl (Z0 rfl (Z0 rfl (Z0 rfl (Z0 rfl (Z0 rfl (Z0 rfl (Z0 rfl (Z0 rfl (Z0 rfl (Z0 rfl (Z0 rfl (Z0 rfl (Z0 rfl (Z0 rfl (Z0 rfl (Z0 rfl (Z0 rfl (Z0 rfl (Z0 rfl (Z06)))))))))))))))))))))))))))))))))
  ·have g32 := of_decide_eq_false b18
   refine Z1O 26 (.bool false) (congrArg Value.bool b18) ?_
   have g33 := of_decide_eq_false b18
   refine Z07 (Zh 10 26 true rfl (by kernel_rfl) rfl (by kernel_rfl)) rfl ?_
   refine Z07 (Zh 10 26 true rfl (by kernel_rfl) rfl (by kernel_rfl)) rfl ?_
   refine Z07 (Zh 10 26 true rfl (by kernel_rfl) rfl (by kernel_rfl)) rfl ?_
   refine Z07 (Zh 10 26 true rfl (by kernel_rfl) rfl (by kernel_rfl)) rfl ?_
   refine Z07 (Zh 10 26 true rfl (by kernel_rfl) rfl (by kernel_rfl)) rfl ?_
   refine Z07 (Zh 10 26 true rfl (by kernel_rfl) rfl (by kernel_rfl)) rfl ?_
   refine Z07 (Zh 10 26 true rfl (by kernel_rfl) rfl (by kernel_rfl)) rfl ?_
   refine Z07 (Zh 10 26 true rfl (by kernel_rfl) rfl (by kernel_rfl)) rfl ?_
   refine Z07 (Zh 10 26 true rfl (by kernel_rfl) rfl (by kernel_rfl)) rfl ?_
   refine Z07 (Zh 10 26 true rfl (by kernel_rfl) rfl (by kernel_rfl)) rfl ?_
   refine Z07 (Zh 10 26 true rfl (by kernel_rfl) rfl (by kernel_rfl)) rfl ?_
   refine Zz (Z1 rfl) (d := 38) (v := (.bool false)) rfl (fun _ H' => (by kernel_rfl)) ?_
   refine Z1U ?_
   intro w34 H35
   refine Z4 ?_
   refine Z09 rfl ?_
   refine Z0b ?_
   refine ZL ?_
   refine Z4 ?_
   refine Zp ?_
   refine Z2 (Z1 rfl) (d := 43) (v := (.int .i64 ((i : Int) + 1))) rfl (Z04 (z := (i : Int) + 1) (by kernel_rfl) (IntWalk.i64_in _ (by omega))) ?_
   refine Z2 (Z1 rfl) (d := 13) (v := (.int .i64 ((i : Int) + 1))) rfl (by kernel_rfl) ?_
   refine Zm ?_
   refine ZM ?_ _ ⟨(i + 1), (show ((.int .i64 ((i : Int) + 1)) : Value) = _ by first | rfl | go_num), by omega, (Z7o h17 (fun e => by first | exact absurd (congrArg Signed.s e) (of_decide_eq_false b18) | exact absurd (congrArg Signed.p e) (of_decide_eq_false b18)) hno), H35, rfl⟩ (by omega)
   exact (Z0 rfl (Z0 rfl (Z0 rfl (Z0 rfl (Z0 rfl (Z0 rfl (Z0 rfl (Z0 rfl (Z0 rfl (Z0 rfl (Z0 rfl (Z0 rfl (Z0 rfl (Z0 rfl (Z0 rfl (Z0 rfl (Z0 rfl (Z0 rfl (Z0 rfl (Z0 rfl (Z0 rfl (Z0 rfl (Z0 rfl (Z0 rfl (Z0 rfl (Z0 rfl (Z0 rfl (Z0 rfl (Z0 rfl (Z0 rfl (Z0 rfl (Z06))))))))))))))))))))))))))))))))
 ·have g36 := of_decide_eq_false b10
  refine Zs 14 (.bool false) (congrArg Value.bool b10) ?_
  have g37 := of_decide_eq_false b10
  refine Z09 rfl ?_
  refine Z0M ?_
  refine Z0a ?_
  refine Z0c ?_
  refine Z0B ?_
  refine Z4 ?_
  refine Zc ?_
  refine Z1f H7 [Z3 r 98 ([(.slice a L.length c)] : List Value), Zb 5 1 tv tx.length (tx.flatMap Zr), Z6 w (ZH (Z62 r a c L tv tx)).fp, Z3 b2 29 ([(.int .i64 (0)), (.int .i64 (0))] : List Value)] [13] 14 rfl (by kernel_rfl) (fun Hx => (Hx.pick [0, 2, 3, 4] (by decide))) ?_
  intro w38 H39 S40
  refine ZP 0 rfl (by kernel_rfl) (by kernel_rfl) (by kernel_rfl) (fun _ _ _ h => h) S40 (Z1 rfl) rfl (d := 44) (v := (.pointer (some ⟨r, 0, none⟩))) rfl (fun _ => (by kernel_rfl)) ?_
  refine ZP 1 rfl (by kernel_rfl) (by kernel_rfl) (by kernel_rfl) (fun _ _ _ h => h) S40 (Z1 rfl) rfl (d := 45) (v := (.pointer (some ⟨r, 0, none⟩))) rfl (fun _ => (by kernel_rfl)) ?_
  refine ZP 2 rfl (by kernel_rfl) (by kernel_rfl) (by kernel_rfl) (fun _ _ _ h => h) S40 (Z1 rfl) rfl (d := 46) (v := (.pointer (some ⟨r, 0, none⟩))) rfl (fun _ => (by kernel_rfl)) ?_
  refine ZP 3 rfl (by kernel_rfl) (by kernel_rfl) (by kernel_rfl) (fun _ _ _ h => h) S40 (Z1 rfl) rfl (d := 47) (v := (.pointer (some ⟨r, 0, none⟩))) rfl (fun _ => (by kernel_rfl)) ?_
  refine Z1Y 4 rfl (by kernel_rfl) (by kernel_rfl) (by kernel_rfl) (fun _ _ _ h => h) S40 (Z1 rfl) rfl (by kernel_rfl) (d := 48) (v := (.slice a L.length c)) rfl (fun _ H' => (Zi rfl (by kernel_rfl) (H'.cell 0 rfl rfl))) ?_
  refine ZP 5 rfl (by kernel_rfl) (by kernel_rfl) (by kernel_rfl) (fun _ _ _ h => h) S40 (Z1 rfl) rfl (d := 49) (v := (.int .i64 (p))) rfl (fun _ => (by kernel_rfl)) ?_
  refine ZP 6 rfl (by kernel_rfl) (by kernel_rfl) (by kernel_rfl) (fun _ _ _ h => h) S40 (Z1 rfl) rfl (d := 50) (v := tv) rfl (fun _ => (by kernel_rfl)) ?_
  refine Z1Y 7 rfl (by kernel_rfl) (by kernel_rfl) (by kernel_rfl) (fun _ _ _ h => h) S40 (Z1 rfl) rfl (by kernel_rfl) (d := 51) (v := (Z1m tx)) rfl (fun _ H' => (Z20 (e := 5) (s := tx) (by kernel_rfl) (by kernel_rfl) (by kernel_rfl) rfl (Z1Q (ListAt.row (e := 5) (enc := Zr) (sz := 1) (v := tv) (n := tx.length) (xs := tx) Z05 (by decide) (H'.at 1 rfl))))) ?_
  refine ZP 8 rfl (by kernel_rfl) (by kernel_rfl) (by kernel_rfl) (fun _ _ _ h => h) S40 (Z1 rfl) rfl (d := 52) (v := (.agg ⟨([(.int .i64 (p)), (Z1m tx)] : List Value)⟩)) rfl (fun _ => (by kernel_rfl)) ?_
  refine Z5l 9 rfl (by kernel_rfl) (Z1 rfl) rfl (fun K41 hK41 => ?_)
  refine ZX (e := 114) (size := 2) (bytes := 24) (z := (.agg ⟨([(.int .i64 (0)), (Z1m ([] : List UInt8))] : List Value)⟩)) (pvs := [(0, (.agg ⟨([(.int .i64 (p)), (Z1m tx)] : List Value)⟩))]) (vs := ([(.int .i64 (p)), (Z1m tx)] : List Value)) rfl H39 (by kernel_rfl) (by kernel_rfl) (by kernel_rfl) (by kernel_rfl) (by kernel_rfl) rfl rfl ?_
  intro b42 w43 (H44 : Sat w [Z3 r 98 ([(.slice a L.length c)] : List Value), Zb 114 2 (.slice a L.length c) L.length (L.flatMap Z0q), Zb 5 1 tv tx.length (tx.flatMap Zr), Z6 w (ZH (Z62 r a c L tv tx)).fp, Z3 b2 29 ([(.int .i64 (0)), (.int .i64 (0))] : List Value), Zb 114 2 (.slice (some ⟨b42, 0, none⟩) 1 1) 1 ([(.int .i64 (p)), (Z1m tx)] : List Value)] w43)
  have S45 := H44.pick [0, 2, 3, 4] (by decide)
  refine hK41 _ _ S45 ?_
  clear hK41 K41
  refine Z5l 10 rfl (by kernel_rfl) (Z1 rfl) rfl (fun K46 hK46 => ?_)
  refine Z0Z (T := 96) (e := 114) (size := 2) (bytes := 24) rfl H44 (by kernel_rfl) 1 5 rfl rfl rfl rfl (by kernel_rfl) (by omega) (by omega) ?_
  intro v47 w48 (H49 : Sat w [Z3 r 98 ([(.slice a L.length c)] : List Value), Zb 114 2 v47 (L.length + 1) ((L.flatMap Z0q) ++ ([(.int .i64 (p)), (Z1m tx)] : List Value)), Zb 5 1 tv tx.length (tx.flatMap Zr), Z6 w (ZH (Z62 r a c L tv tx)).fp, Z3 b2 29 ([(.int .i64 (0)), (.int .i64 (0))] : List Value), Zb 114 2 (.slice (some ⟨b42, 0, none⟩) 1 1) 1 ([(.int .i64 (p)), (Z1m tx)] : List Value)] w48)
  have H52 : Sat w [Z3 r 98 ([(.slice a L.length c)] : List Value), Zb 114 2 v47 ((L ++ [(⟨p, tx⟩ : Signed)]).length) ((L ++ [(⟨p, tx⟩ : Signed)]).flatMap Z0q), Zb 5 1 tv tx.length (tx.flatMap Zr), Z6 w (ZH (Z62 r a c L tv tx)).fp, Z3 b2 29 ([(.int .i64 (0)), (.int .i64 (0))] : List Value), Zb 114 2 (.slice (some ⟨b42, 0, none⟩) 1 1) 1 ([(.int .i64 (p)), (Z1m tx)] : List Value)] w48 := H49.cast (by simp only [List.length_append, List.flatMap_append] <;> rfl)
  obtain ⟨a50, c51, rfl⟩ := Zl (H52.at 1 rfl)
  have S53 := H52.pick [0, 2, 3, 4] (by decide)
  refine hK46 _ _ S53 ?_
  clear hK46 K46
  refine ZP 11 rfl (by kernel_rfl) (by kernel_rfl) (by kernel_rfl) (fun _ _ _ h => h) S53 (Z1 rfl) rfl (d := 55) (v := (.pointer (some ⟨r, 0, none⟩))) rfl (fun _ => (by kernel_rfl)) ?_
  refine ZP 12 rfl (by kernel_rfl) (by kernel_rfl) (by kernel_rfl) (fun _ _ _ h => h) S53 (Z1 rfl) rfl (d := 56) (v := (.pointer (some ⟨r, 0, none⟩))) rfl (fun _ => (by kernel_rfl)) ?_
  refine Z3b 13 (Sat w [Zb 5 1 tv tx.length (tx.flatMap Zr), Z6 w (ZH (Z62 r a c L tv tx)).fp, Z3 b2 29 ([(.int .i64 (0)), (.int .i64 (0))] : List Value)]) rfl (by kernel_rfl) (Z1 rfl) rfl (fun K54 hK54 => ?_)
  refine Z1D (vs := ([(.slice a50 ((L ++ [(⟨p, tx⟩ : Signed)]).length) c51)] : List Value)) rfl H52 0 rfl rfl rfl rfl (by kernel_rfl) (Nat.le_of_ble_eq_true (by kernel_rfl)) (Nat.le_of_ble_eq_true (by kernel_rfl)) (by kernel_rfl) ?_
  intro w55 (H56 : Sat w [Z3 r 98 ([(.slice a50 ((L ++ [(⟨p, tx⟩ : Signed)]).length) c51)] : List Value), Zb 114 2 (.slice a50 ((L ++ [(⟨p, tx⟩ : Signed)]).length) c51) ((L ++ [(⟨p, tx⟩ : Signed)]).length) ((L ++ [(⟨p, tx⟩ : Signed)]).flatMap Z0q), Zb 5 1 tv tx.length (tx.flatMap Zr), Z6 w (ZH (Z62 r a c L tv tx)).fp, Z3 b2 29 ([(.int .i64 (0)), (.int .i64 (0))] : List Value), Zb 114 2 (.slice (some ⟨b42, 0, none⟩) 1 1) 1 ([(.int .i64 (p)), (Z1m tx)] : List Value)] w55)
  have S58 := H56.pick [2, 3, 4] (by decide)
  refine hK54 _ _ S58 ?_
  clear hK54 K54
  refine Z0C (by kernel_rfl) ?_
  refine Z4 ?_
  refine Zc ?_
  refine Zp ?_
  refine Z2 (Z1 rfl) (d := 57) (v := (.int .i64 (p))) rfl (by kernel_rfl) ?_
  refine Z2 (Z1 rfl) (d := 58) (v := (.pointer (some ⟨r, 0, none⟩))) rfl (by kernel_rfl) ?_
  refine Z2 (Z1 rfl) (d := 59) (v := (.pointer (some ⟨r, 0, none⟩))) rfl (by kernel_rfl) ?_
  refine Z2 (Z1 rfl) (d := 60) (v := (.pointer (some ⟨r, 0, none⟩))) rfl (by kernel_rfl) ?_
  refine Z2 (Z1 rfl) (d := 61) (v := (.slice a50 ((L ++ [(⟨p, tx⟩ : Signed)]).length) c51)) rfl (Zi rfl (by kernel_rfl) (H56.cell 0 rfl rfl)) ?_
  refine Z2 (Z1 rfl) (d := 62) (v := (.int .i64 (((L ++ [(⟨p, tx⟩ : Signed)]).length : Int)))) rfl (by kernel_rfl) ?_
  refine Z2 (Z1 rfl) (d := 63) (v := (.agg ⟨([(.int .i64 (p)), (.int .i64 (((L ++ [(⟨p, tx⟩ : Signed)]).length : Int)))] : List Value)⟩)) rfl (by kernel_rfl) ?_
  refine ZA (Z1 rfl) (fun K59 hK59 => ?_)
  refine Z1D (vs := ([(.int .i64 (p)), (.int .i64 (((L ++ [(⟨p, tx⟩ : Signed)]).length : Int)))] : List Value)) rfl H56 4 rfl rfl rfl rfl (by kernel_rfl) (Nat.le_of_ble_eq_true (by kernel_rfl)) (Nat.le_of_ble_eq_true (by kernel_rfl)) (by kernel_rfl) ?_
  intro w60 (H61 : Sat w [Z3 r 98 ([(.slice a50 ((L ++ [(⟨p, tx⟩ : Signed)]).length) c51)] : List Value), Zb 114 2 (.slice a50 ((L ++ [(⟨p, tx⟩ : Signed)]).length) c51) ((L ++ [(⟨p, tx⟩ : Signed)]).length) ((L ++ [(⟨p, tx⟩ : Signed)]).flatMap Z0q), Zb 5 1 tv tx.length (tx.flatMap Zr), Z6 w (ZH (Z62 r a c L tv tx)).fp, Z3 b2 29 ([(.int .i64 (p)), (.int .i64 (((L ++ [(⟨p, tx⟩ : Signed)]).length : Int)))] : List Value), Zb 114 2 (.slice (some ⟨b42, 0, none⟩) 1 1) 1 ([(.int .i64 (p)), (Z1m tx)] : List Value)] w60)
  refine hK59 _ _ ?_
  clear hK59 K59
  refine Zm ?_
  refine Z4 ?_
  refine ZY ?_
  refine Z0O rfl (Z0i (vs := ([(.int .i64 (p)), (.int .i64 (((L ++ [(⟨p, tx⟩ : Signed)]).length : Int)))] : List Value)) rfl (by kernel_rfl) (by kernel_rfl) (by exact Nat.le_of_ble_eq_true (by kernel_rfl)) (H61.at 4 rfl) (by kernel_rfl)) ?_
  have hno2 : (⟨p, tx⟩ : Signed) ∉ L := by rw [List.take_of_length_le (show L.length ≤ i by omega)] at hno; exact hno
  have hsl : Zg L (⟨p, tx⟩ : Signed) = L ++ [(⟨p, tx⟩ : Signed)] := by unfold Zg; rw [if_neg hno2]
  have hnd : (L ++ [(⟨p, tx⟩ : Signed)]).Nodup := by rw [List.nodup_append]; exact ⟨hn, by simp, fun x hx y hy => by rw [List.mem_singleton.1 hy]; exact fun e => hno2 (e ▸ hx)⟩
  have hat : (L ++ [(⟨p, tx⟩ : Signed)])[L.length]? = some (⟨p, tx⟩ : Signed) := by simp
  refine ⟨a50, c51, ?_, ?_⟩
  ·rw [hsl, Z4Z hnd hat]; first | rfl | simp
  ·rw [hsl]; exact H61.pick [0, 1, 2, 3] (by decide)
theorem Z8d (w : World) (f cn : Int) (hf : -1099511627776 ≤ f ∧ f ≤ 1099511627776) :
  Calls Tryz.prog 37 #[(.agg ⟨([(.int .i64 (f)), (.int .i64 (cn))] : List Value)⟩)] w fun e w' => e = .returned (.int .i64 (2 * f + 1)) ∧ Upd [] w w' := by
 have H := Sat.start0 w
 refine ZE Tryz.func37 rfl 7 rfl (Nat.le_of_ble_eq_true rfl) ?_
 refine Zc ?_
 refine Zp ?_
 refine ZA (Z1 rfl) (fun K1 hK1 => ?_)
 refine Z0H (vs := ([(.int .i64 (f)), (.int .i64 (cn))] : List Value)) rfl H rfl rfl ?_
 intro b2 w3 (H4 : Sat w [Z6 w (fun _ => False), Z3 b2 36 ([(.int .i64 (f)), (.int .i64 (cn))] : List Value)] w3)
 refine hK1 _ _ ?_
 clear hK1 K1
 refine Z2 (Z1 rfl) (d := 2) (v := (.int .i64 (0))) rfl (by kernel_rfl) ?_
 refine Zm ?_
 refine Z4 ?_
 refine Zc ?_
 refine Zp ?_
 refine Z2 (Z1 rfl) (d := 3) (v := (.pointer (some ⟨b2, 0, none⟩))) rfl (by kernel_rfl) ?_
 refine Z2 (Z1 rfl) (d := 4) (v := (.int .i64 (f))) rfl (Zi rfl (by kernel_rfl) (H4.cell 1 rfl rfl)) ?_
 refine Z2 (Z1 rfl) (d := 5) (v := (.int .i64 (2 * f))) rfl (Z04 (z := 2 * f) (by kernel_rfl) (IntWalk.i64_in _ (by omega))) ?_
 refine Z2 (Z1 rfl) (d := 6) (v := (.int .i64 ((2 * f) + 1))) rfl (Z04 (z := (2 * f) + 1) (by kernel_rfl) (IntWalk.i64_in _ (by omega))) ?_
 refine Z2 (Z1 rfl) (d := 2) (v := (.int .i64 ((2 * f) + 1))) rfl (by kernel_rfl) ?_
 refine Zm ?_
 refine Z4 ?_
 refine ZY ?_
 refine Z0O rfl (ZF (v := (.int .i64 ((2 * f) + 1))) rfl) ?_
 exact ⟨rfl, H4.upd 0 rfl [] (fun _ h => h.elim)⟩
end Go.Proofs.YtoaifondpohniaaGreat
