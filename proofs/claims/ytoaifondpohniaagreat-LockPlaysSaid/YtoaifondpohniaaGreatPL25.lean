/- WHAT IS PROVED: contracts and plain laws of RbD, RefB. Conditions: stated with each. -/
import Derived.Test.YtoaifondpohniaaGreatPL05
set_option maxHeartbeats 4000000
set_option maxRecDepth 100000
namespace Go.Proofs.YtoaifondpohniaaGreat
open Go.RowKit
def Z1N (x : Signed) : List Value := [.int .i64 x.p, Z2p x.s]
theorem Z5m (x : Signed) : (Z1N x).length = 2 := rfl
theorem BytesAt.now {W w : World} {G : List Ck} {v : Value} {s : List UInt8} (H : Sat W G w) (j : Nat) (hj : G[j]? = Option.some (Z7 W fun _ => False)) (hv : BytesAt W v s) : BytesAt w v s :=
 SliceOf.mono hv fun _ _ h => H.cellR j hj h (fun h => h)
def Z9b (r : Nat) (a : Option Addr) (c : Nat) (L : List Signed) (tv : Value) (tx : List UInt8) : List Ck := [Z0 r 98 [.slice a L.length c], Zk 114 2 (.slice a L.length c) L.length (L.flatMap Z1N), Zk 5 1 tv tx.length (tx.flatMap ZE)]
theorem Z4z {L : List Signed} (hn : L.Nodup) {i : Nat} {y : Signed} (h : L[i]? = some y) : ZB L y = (i : Int) + 1 := by
 obtain ⟨hi, rfl⟩ := List.getElem?_eq_some_iff.1 h
 have : L.idxOf? L[i] = some i := by
  rw [List.idxOf?_eq_some_iff]
  refine ⟨hi, rfl, fun j hj e => ?_⟩
  have := List.pairwise_iff_getElem.1 hn j i (by omega) hi hj
  exact this e
 unfold ZB; rw [this]; rfl
theorem ZaM {L : List Signed} {y : Signed} (h : y ∉ L) : ZB L y = 0 := by
 unfold ZB
 cases hq : L.idxOf? y with
 | none => rfl
 | some i =>
  obtain ⟨h1, h2, _⟩ := List.idxOf?_eq_some_iff.1 hq
  exact absurd (h2 ▸ List.getElem_mem h1) h
theorem Z4B {L : List Signed} (hn : L.Nodup) {p m : Int} {tx : List UInt8} : Z1k L p m tx = true ↔ ∃ i : Nat, L[i]? = some ⟨p, tx⟩ ∧ m = (i : Int) + 1 := by
 unfold Z1k
 simp only [Bool.and_eq_true, decide_eq_true_eq]
 constructor
 ·rintro ⟨h1, h2⟩
  by_cases hm : (⟨p, tx⟩ : Signed) ∈ L
  ·obtain ⟨i, hi, e⟩ := List.mem_iff_getElem.1 hm
   have h3 : L[i]? = some ⟨p, tx⟩ := by rw [List.getElem?_eq_getElem hi, e]
   exact ⟨i, h3, by have := Z4z hn h3; omega⟩
  ·rw [ZaM hm] at h1; omega
 ·rintro ⟨i, h1, h2⟩
  have := Z4z hn h1
  omega
theorem ZaR {L : List Signed} {i : Nat} {x : Signed} {y : Signed} (hx : L[i]? = some x) (hne : ¬ x = y) (h : y ∉ L.take i) : y ∉ L.take (i + 1) := by
 rw [List.take_add_one, hx, List.mem_append]
 rintro (q | q)
 ·exact h q
 ·simp at q; exact hne q.symm
theorem Z2z (w : World) (r : Nat) (a : Option Addr) (c : Nat) (L : List Signed) (tv : Value) (tx : List UInt8) (hB : (ZL (Z9b r a c L tv tx)).ok w) (hl : L.length ≤ 1000000) (hn : L.Nodup) (p : Int) :
  Calls Tryz.prog 16 #[(.pointer (some ⟨r, 0, none⟩)), (.int .i64 (p)), tv] w fun e w' => ∃ a' c', e = .returned (.agg #[.int .i64 p, .int .i64 (ZB (Zp L (⟨p, tx⟩ : Signed)) (⟨p, tx⟩ : Signed))]) ∧ Sat w [Z0 r 98 [.slice a' (Zp L (⟨p, tx⟩ : Signed)).length c'], Zk 114 2 (.slice a' (Zp L (⟨p, tx⟩ : Signed)).length c') (Zp L (⟨p, tx⟩ : Signed)).length ((Zp L (⟨p, tx⟩ : Signed)).flatMap Z1N), Zk 5 1 tv tx.length (tx.flatMap ZE), Z7 w (ZL (Z9b r a c L tv tx)).fp] w' := by
 have H : Sat w [Z0 r 98 ([(.slice a L.length c)] : List Value), Zk 114 2 (.slice a L.length c) L.length (L.flatMap Z1N), Zk 5 1 tv tx.length (tx.flatMap ZE), Z7 w (ZL (Z9b r a c L tv tx)).fp] w := Sat.start (Z9b r a c L tv tx) hB
 refine Zh Tryz.func16 rfl 64 rfl (Nat.le_of_ble_eq_true rfl) ?_
 refine Zd ?_
 refine Zq ?_
 refine Z07 (Z1 rfl) (fun K1 hK1 => ?_)
 refine Z2q (zs := ([(.int .i64 (0)), (.int .i64 (0))] : List Value)) (z := (.agg ⟨([(.int .i64 (0)), (.int .i64 (0))] : List Value)⟩)) rfl H (by kernel_rfl) (by kernel_rfl) ?_
 intro b2 w3 (H4 : Sat w [Z0 r 98 ([(.slice a L.length c)] : List Value), Zk 114 2 (.slice a L.length c) L.length (L.flatMap Z1N), Zk 5 1 tv tx.length (tx.flatMap ZE), Z7 w (ZL (Z9b r a c L tv tx)).fp, Z0 b2 29 ([(.int .i64 (0)), (.int .i64 (0))] : List Value)] w3)
 refine hK1 _ _ ?_
 clear hK1 K1
 refine Zn ?_
 refine Z4 ?_
 refine Zd ?_
 refine Zd ?_
 refine Zq ?_
 refine Z2 (Z1 rfl) (d := 8) (v := (.pointer (some ⟨r, 0, none⟩))) rfl (by kernel_rfl) ?_
 refine Z2 (Z1 rfl) (d := 9) (v := (.pointer (some ⟨r, 0, none⟩))) rfl (by kernel_rfl) ?_
 refine Z2 (Z1 rfl) (d := 10) (v := (.pointer (some ⟨r, 0, none⟩))) rfl (by kernel_rfl) ?_
 refine Z2 (Z1 rfl) (d := 11) (v := (.slice a L.length c)) rfl (Z8 rfl (by kernel_rfl) (H4.cell 0 rfl rfl)) ?_
 refine Z2 (Z1 rfl) (d := 12) (v := (.int .i64 ((L.length : Int)))) rfl (by kernel_rfl) ?_
 refine Z2 (Z1 rfl) (d := 13) (v := (.int .i64 (0))) rfl (by kernel_rfl) ?_
 refine Zn ?_
 refine Z4 ?_
 refine ZM ?_
 refine Z0b [7, 13, 14, 15, 16, 17, 18, 19, 20, 21, 22, 23, 24, 25, 26, 27, 28, 29, 30, 31, 32, 33, 34, 35, 36, 37, 38, 39, 40, 41, 42, 43] (fun F_ W_ m_ => ∃ (i : Nat), F_ 13 = (.int .i64 ((i : Int))) ∧ (i ≤ L.length) ∧ ((⟨p, tx⟩ : Signed) ∉ L.take i) ∧ Sat w [Z0 r 98 ([(.slice a L.length c)] : List Value), Zk 114 2 (.slice a L.length c) L.length (L.flatMap Z1N), Zk 5 1 tv tx.length (tx.flatMap ZE), Z7 w (ZL (Z9b r a c L tv tx)).fp, Z0 b2 29 ([(.int .i64 (0)), (.int .i64 (0))] : List Value)] W_ ∧ m_ = L.length + 1 - i) _ ⟨0, (show ((.int .i64 (0)) : Value) = _ by first | rfl | go_num), by omega, by simp, H4, rfl⟩ ?_
 rintro g5 w6 _ ⟨i, v8, hi, hno, H7, rfl⟩
 refine Zl 13 _ v8 ?_
 refine Zd ?_
 refine Zq ?_
 refine Z2 (Z1 rfl) (d := 14) (v := (.bool (decide ((i : Int) < (L.length : Int))))) rfl (by kernel_rfl) ?_
 refine Zn ?_
 refine Z4 ?_
 refine Zd ?_
 refine (Zr (decide ((i : Int) < (L.length : Int)))).elim (fun b10 => ?_) (fun b10 => ?_)
 ·have g11 := of_decide_eq_true b10
  refine Zl 14 (.bool true) (congrArg Value.bool b10) ?_
  have g12 := of_decide_eq_true b10
  refine Z0S rfl ?_
  refine ZW ?_
  refine Z4 ?_
  refine Zd ?_
  refine ZM ?_
  refine Zd ?_
  refine Zq ?_
  refine Z2 (Z1 rfl) (d := 15) (v := (.int .i64 ((i : Int)))) rfl (by kernel_rfl) ?_
  refine Z2 (Z1 rfl) (d := 7) (v := (.int .i64 ((i : Int)))) rfl (by kernel_rfl) ?_
  refine Zn ?_
  refine Z4 ?_
  refine Zd ?_
  refine Z5O H7 (by kernel_rfl) (by kernel_rfl) ?_
  refine Z0v (Z1 rfl) (d := 16) (v := (.pointer (some ⟨r, 0, none⟩))) rfl (fun _ H' => (by kernel_rfl)) ?_
  refine Z0v (Z1 rfl) (d := 17) (v := (.pointer (some ⟨r, 0, none⟩))) rfl (fun _ H' => (by kernel_rfl)) ?_
  refine Z0v (Z1 rfl) (d := 18) (v := (.pointer (some ⟨r, 0, none⟩))) rfl (fun _ H' => (by kernel_rfl)) ?_
  refine Z0v (Z1 rfl) (d := 19) (v := (.slice a L.length c)) rfl (fun _ H' => (Z8 rfl (by kernel_rfl) (H'.cell 0 rfl rfl))) ?_
  refine Z0v (Z1 rfl) (d := 20) (v := (.int .i64 ((i : Int)))) rfl (fun _ H' => (by kernel_rfl)) ?_
  obtain ⟨g13, c14, e15⟩ := Z1D (H7.at 1 rfl) (by omega)
  obtain ⟨x16, h17⟩ := Z3E (show i < L.length by omega)
  refine Z0v (Z1 rfl) (d := 21) (v := (.pointer (some ⟨g13, 0 + ((i : Int)).toNat * 2, none⟩))) rfl (fun _ H' => (Z0r (E := 114) (by kernel_rfl) (by kernel_rfl) (Nat.le_of_ble_eq_true rfl) rfl e15 rfl (by omega) (by omega))) ?_
  refine Z0v (Z1 rfl) (d := 22) (v := (.pointer (some ⟨g13, 0 + ((i : Int)).toNat * 2, none⟩))) rfl (fun _ H' => (by kernel_rfl)) ?_
  refine Z0v (Z1 rfl) (d := 23) (v := (.int .i64 (x16.p))) rfl (fun _ H' => (Z8 rfl (by kernel_rfl) (Z2N (H'.at 1 rfl) e15 Z5m h17 0 rfl (show 0 + ((i : Int)).toNat * 2 = i * 2 + 0 by omega) (by kernel_rfl)))) ?_
  refine Z0v (Z1 rfl) (d := 24) (v := (.int .i64 (p))) rfl (fun _ H' => (by kernel_rfl)) ?_
  refine Z0v (Z1 rfl) (d := 25) (v := (.bool (decide (x16.p = p)))) rfl (fun _ H' => (by kernel_rfl)) ?_
  refine Z0v (Z1 rfl) (d := 26) (v := (.bool (decide (x16.p = p)))) rfl (fun _ H' => (by kernel_rfl)) ?_
  refine (Zr (decide (x16.p = p))).elim (fun b18 => ?_) (fun b18 => ?_)
  ·have g19 := of_decide_eq_true b18
   refine Z0P 26 (.bool true) (congrArg Value.bool b18) ?_
   have g20 := of_decide_eq_true b18
   refine Z0v (ZD 10 26 true rfl (by kernel_rfl) rfl (by kernel_rfl)) (d := 27) (v := (.pointer (some ⟨r, 0, none⟩))) rfl (fun _ H' => (by kernel_rfl)) ?_
   refine Z0v (ZD 10 26 true rfl (by kernel_rfl) rfl (by kernel_rfl)) (d := 28) (v := (.pointer (some ⟨r, 0, none⟩))) rfl (fun _ H' => (by kernel_rfl)) ?_
   refine Z0v (ZD 10 26 true rfl (by kernel_rfl) rfl (by kernel_rfl)) (d := 29) (v := (.pointer (some ⟨r, 0, none⟩))) rfl (fun _ H' => (by kernel_rfl)) ?_
   refine Z0v (ZD 10 26 true rfl (by kernel_rfl) rfl (by kernel_rfl)) (d := 30) (v := (.slice a L.length c)) rfl (fun _ H' => (Z8 rfl (by kernel_rfl) (H'.cell 0 rfl rfl))) ?_
   refine Z0v (ZD 10 26 true rfl (by kernel_rfl) rfl (by kernel_rfl)) (d := 31) (v := (.int .i64 ((i : Int)))) rfl (fun _ H' => (by kernel_rfl)) ?_
   refine Z0v (ZD 10 26 true rfl (by kernel_rfl) rfl (by kernel_rfl)) (d := 32) (v := (.pointer (some ⟨g13, 0 + ((i : Int)).toNat * 2, none⟩))) rfl (fun _ H' => (Z0r (E := 114) (by kernel_rfl) (by kernel_rfl) (Nat.le_of_ble_eq_true rfl) rfl e15 rfl (by omega) (by omega))) ?_
   refine Z0v (ZD 10 26 true rfl (by kernel_rfl) rfl (by kernel_rfl)) (d := 33) (v := (.pointer (some ⟨g13, 0 + ((i : Int)).toNat * 2 + 1, none⟩))) rfl (fun _ H' => (by kernel_rfl)) ?_
   refine Z0v (ZD 10 26 true rfl (by kernel_rfl) rfl (by kernel_rfl)) (d := 34) (v := (Z2p x16.s)) rfl (fun _ H' => (Z8 rfl (by kernel_rfl) (Z2N (H'.at 1 rfl) e15 Z5m h17 1 rfl (show 0 + ((i : Int)).toNat * 2 + 1 = i * 2 + 1 by omega) (by kernel_rfl)))) ?_
   refine Z0v (ZD 10 26 true rfl (by kernel_rfl) rfl (by kernel_rfl)) (d := 35) (v := tv) rfl (fun _ H' => (by kernel_rfl)) ?_
   refine Z0v (ZD 10 26 true rfl (by kernel_rfl) rfl (by kernel_rfl)) (d := 36) (v := (Z2p tx)) rfl (fun _ H' => (Z2D (e := 5) (s := tx) (by kernel_rfl) (by kernel_rfl) (by kernel_rfl) rfl (Z2y (ListAt.row (e := 5) (enc := ZE) (sz := 1) (v := tv) (n := tx.length) (xs := tx) ZR (by decide) (H'.at 2 rfl))))) ?_
   refine Z0v (ZD 10 26 true rfl (by kernel_rfl) rfl (by kernel_rfl)) (d := 37) (v := (.bool (decide (x16.s = tx)))) rfl (fun _ H' => (Zab x16.s tx rfl rfl)) ?_
   refine Z0v (Z1 rfl) (d := 38) (v := (.bool (decide (x16.s = tx)))) rfl (fun _ H' => (by kernel_rfl)) ?_
   refine Z1a ?_
   intro w21 H22
   refine Z4 ?_
   refine (Zr (decide (x16.s = tx))).elim (fun b23 => ?_) (fun b23 => ?_)
   ·have g24 := of_decide_eq_true b23
    refine Zl 38 (.bool true) (congrArg Value.bool b23) ?_
    have g25 := of_decide_eq_true b23
    refine Z0S rfl ?_
    refine Zd ?_
    refine Zq ?_
    refine Z2 (Z1 rfl) (d := 39) (v := (.int .i64 (p))) rfl (by kernel_rfl) ?_
    refine Z2 (Z1 rfl) (d := 40) (v := (.int .i64 ((i : Int)))) rfl (by kernel_rfl) ?_
    refine Z2 (Z1 rfl) (d := 41) (v := (.int .i64 ((i : Int) + 1))) rfl (Z0n (z := (i : Int) + 1) (by kernel_rfl) (IntWalk.i64_in _ (by omega))) ?_
    refine Z2 (Z1 rfl) (d := 42) (v := (.agg ⟨([(.int .i64 (p)), (.int .i64 ((i : Int) + 1))] : List Value)⟩)) rfl (by kernel_rfl) ?_
    refine Z07 (Z1 rfl) (fun K26 hK26 => ?_)
    refine Z2C (vs := ([(.int .i64 (p)), (.int .i64 ((i : Int) + 1))] : List Value)) rfl H22 4 rfl rfl rfl rfl (by kernel_rfl) (Nat.le_of_ble_eq_true (by kernel_rfl)) (Nat.le_of_ble_eq_true (by kernel_rfl)) (by kernel_rfl) ?_
    intro w27 (H28 : Sat w [Z0 r 98 ([(.slice a L.length c)] : List Value), Zk 114 2 (.slice a L.length c) L.length (L.flatMap Z1N), Zk 5 1 tv tx.length (tx.flatMap ZE), Z7 w (ZL (Z9b r a c L tv tx)).fp, Z0 b2 29 ([(.int .i64 (p)), (.int .i64 ((i : Int) + 1))] : List Value)] w27)
    refine hK26 _ _ ?_
    clear hK26 K26
    refine Zn ?_
    refine Z4 ?_
    refine ZI ?_
    refine Z0e ?_
    refine ZG ?_
    refine Z10 ?_
    refine Z0e ?_
    refine ZG ?_
    refine Z2e rfl (ZZ (vs := ([(.int .i64 (p)), (.int .i64 ((i : Int) + 1))] : List Value)) rfl (by kernel_rfl) (by kernel_rfl) (by exact Nat.le_of_ble_eq_true (by kernel_rfl)) (H28.at 4 rfl) (by kernel_rfl)) ?_
    have hy : L[i]? = some (⟨p, tx⟩ : Signed) := by rw [h17]; congr 1; have q1 := of_decide_eq_true b18; have q2 := of_decide_eq_true b23; rw [← q1, ← q2]
    have hm : (⟨p, tx⟩ : Signed) ∈ L := List.mem_of_getElem? hy
    refine ⟨a, c, ?_, ?_⟩
    ·rw [Z2V hm, Z4z hn hy]
    ·rw [Z2V hm]; exact H28.pick [0, 1, 2, 3] (by decide)
   ·have g30 := of_decide_eq_false b23
    refine Zl 38 (.bool false) (congrArg Value.bool b23) ?_
    have g31 := of_decide_eq_false b23
    refine Z1g rfl ?_
    refine ZW ?_
    refine Zw ?_
    refine Z4 ?_
    refine Zq ?_
    refine Z2 (Z1 rfl) (d := 43) (v := (.int .i64 ((i : Int) + 1))) rfl (Z0n (z := (i : Int) + 1) (by kernel_rfl) (IntWalk.i64_in _ (by omega))) ?_
    refine Z2 (Z1 rfl) (d := 13) (v := (.int .i64 ((i : Int) + 1))) rfl (by kernel_rfl) ?_
    refine Zn ?_
    refine ZF ?_ _ ⟨(i + 1), (show ((.int .i64 ((i : Int) + 1)) : Value) = _ by first | rfl | go_num), by omega, (ZaR h17 (fun e => by first | exact absurd (congrArg Signed.s e) (of_decide_eq_false b23) | exact absurd (congrArg Signed.p e) (of_decide_eq_false b23)) hno), H22, rfl⟩ (by omega)
    exact (Z5 rfl (Z5 rfl (Z5 rfl (Z5 rfl (Z5 rfl (Z5 rfl (Z5 rfl (Z5 rfl (Z5 rfl (Z5 rfl (Z5 rfl (Z5 rfl (Z5 rfl (Z5 rfl (Z5 rfl (Z5 rfl (Z5 rfl (Z5 rfl (Z5 rfl (Z5 rfl (Z5 rfl (Z5 rfl (Z5 rfl (Z5 rfl (Z5 rfl (Z5 rfl (Z5 rfl (Z5 rfl (Z5 rfl (Z5 rfl (Z5 rfl (Z5 rfl (Z29)))))))))))))))))))))))))))))))))
  ·have g32 := of_decide_eq_false b18
   refine Z0P 26 (.bool false) (congrArg Value.bool b18) ?_
   have g33 := of_decide_eq_false b18
   refine Z1M (Z0i 10 26 true rfl (by kernel_rfl) rfl (by kernel_rfl)) rfl ?_
   refine Z1M (Z0i 10 26 true rfl (by kernel_rfl) rfl (by kernel_rfl)) rfl ?_
   refine Z1M (Z0i 10 26 true rfl (by kernel_rfl) rfl (by kernel_rfl)) rfl ?_
   refine Z1M (Z0i 10 26 true rfl (by kernel_rfl) rfl (by kernel_rfl)) rfl ?_
   refine Z1M (Z0i 10 26 true rfl (by kernel_rfl) rfl (by kernel_rfl)) rfl ?_
   refine Z1M (Z0i 10 26 true rfl (by kernel_rfl) rfl (by kernel_rfl)) rfl ?_
   refine Z1M (Z0i 10 26 true rfl (by kernel_rfl) rfl (by kernel_rfl)) rfl ?_
   refine Z1M (Z0i 10 26 true rfl (by kernel_rfl) rfl (by kernel_rfl)) rfl ?_
   refine Z1M (Z0i 10 26 true rfl (by kernel_rfl) rfl (by kernel_rfl)) rfl ?_
   refine Z1M (Z0i 10 26 true rfl (by kernel_rfl) rfl (by kernel_rfl)) rfl ?_
   refine Z1M (Z0i 10 26 true rfl (by kernel_rfl) rfl (by kernel_rfl)) rfl ?_
   refine Z0v (Z1 rfl) (d := 38) (v := (.bool false)) rfl (fun _ H' => (by kernel_rfl)) ?_
   refine Z1a ?_
   intro w34 H35
   refine Z4 ?_
   refine Z1g rfl ?_
   refine ZW ?_
   refine Zw ?_
   refine Z4 ?_
   refine Zq ?_
   refine Z2 (Z1 rfl) (d := 43) (v := (.int .i64 ((i : Int) + 1))) rfl (Z0n (z := (i : Int) + 1) (by kernel_rfl) (IntWalk.i64_in _ (by omega))) ?_
   refine Z2 (Z1 rfl) (d := 13) (v := (.int .i64 ((i : Int) + 1))) rfl (by kernel_rfl) ?_
   refine Zn ?_
   refine ZF ?_ _ ⟨(i + 1), (show ((.int .i64 ((i : Int) + 1)) : Value) = _ by first | rfl | go_num), by omega, (ZaR h17 (fun e => by first | exact absurd (congrArg Signed.s e) (of_decide_eq_false b18) | exact absurd (congrArg Signed.p e) (of_decide_eq_false b18)) hno), H35, rfl⟩ (by omega)
   exact (Z5 rfl (Z5 rfl (Z5 rfl (Z5 rfl (Z5 rfl (Z5 rfl (Z5 rfl (Z5 rfl (Z5 rfl (Z5 rfl (Z5 rfl (Z5 rfl (Z5 rfl (Z5 rfl (Z5 rfl (Z5 rfl (Z5 rfl (Z5 rfl (Z5 rfl (Z5 rfl (Z5 rfl (Z5 rfl (Z5 rfl (Z5 rfl (Z5 rfl (Z5 rfl (Z5 rfl (Z5 rfl (Z5 rfl (Z5 rfl (Z5 rfl (Z29))))))))))))))))))))))))))))))))
 ·have g36 := of_decide_eq_false b10
  refine Zl 14 (.bool false) (congrArg Value.bool b10) ?_
  have g37 := of_decide_eq_false b10
  refine Z1g rfl ?_
  refine Z4c ?_
  refine Z1T ?_
  refine Z1P ?_
  refine Z2Y ?_
  refine Z4 ?_
  refine Zd ?_
  refine Z1o H7 [Z0 r 98 ([(.slice a L.length c)] : List Value), Zk 5 1 tv tx.length (tx.flatMap ZE), Z7 w (ZL (Z9b r a c L tv tx)).fp, Z0 b2 29 ([(.int .i64 (0)), (.int .i64 (0))] : List Value)] [13] 14 rfl (by kernel_rfl) (fun Hx => (Hx.pick [0, 2, 3, 4] (by decide))) ?_
  intro w38 H39 S40
  refine Z0Y 0 rfl (by kernel_rfl) (by kernel_rfl) (by kernel_rfl) (fun _ _ _ h => h) S40 (Z1 rfl) rfl (d := 44) (v := (.pointer (some ⟨r, 0, none⟩))) rfl (fun _ => (by kernel_rfl)) ?_
  refine Z0Y 1 rfl (by kernel_rfl) (by kernel_rfl) (by kernel_rfl) (fun _ _ _ h => h) S40 (Z1 rfl) rfl (d := 45) (v := (.pointer (some ⟨r, 0, none⟩))) rfl (fun _ => (by kernel_rfl)) ?_
  refine Z0Y 2 rfl (by kernel_rfl) (by kernel_rfl) (by kernel_rfl) (fun _ _ _ h => h) S40 (Z1 rfl) rfl (d := 46) (v := (.pointer (some ⟨r, 0, none⟩))) rfl (fun _ => (by kernel_rfl)) ?_
  refine Z0Y 3 rfl (by kernel_rfl) (by kernel_rfl) (by kernel_rfl) (fun _ _ _ h => h) S40 (Z1 rfl) rfl (d := 47) (v := (.pointer (some ⟨r, 0, none⟩))) rfl (fun _ => (by kernel_rfl)) ?_
  refine Z9z 4 rfl (by kernel_rfl) (by kernel_rfl) (by kernel_rfl) (fun _ _ _ h => h) S40 (Z1 rfl) rfl (by kernel_rfl) (d := 48) (v := (.slice a L.length c)) rfl (fun _ H' => (Z8 rfl (by kernel_rfl) (H'.cell 0 rfl rfl))) ?_
  refine Z0Y 5 rfl (by kernel_rfl) (by kernel_rfl) (by kernel_rfl) (fun _ _ _ h => h) S40 (Z1 rfl) rfl (d := 49) (v := (.int .i64 (p))) rfl (fun _ => (by kernel_rfl)) ?_
  refine Z0Y 6 rfl (by kernel_rfl) (by kernel_rfl) (by kernel_rfl) (fun _ _ _ h => h) S40 (Z1 rfl) rfl (d := 50) (v := tv) rfl (fun _ => (by kernel_rfl)) ?_
  refine Z9z 7 rfl (by kernel_rfl) (by kernel_rfl) (by kernel_rfl) (fun _ _ _ h => h) S40 (Z1 rfl) rfl (by kernel_rfl) (d := 51) (v := (Z2p tx)) rfl (fun _ H' => (Z2D (e := 5) (s := tx) (by kernel_rfl) (by kernel_rfl) (by kernel_rfl) rfl (Z2y (ListAt.row (e := 5) (enc := ZE) (sz := 1) (v := tv) (n := tx.length) (xs := tx) ZR (by decide) (H'.at 1 rfl))))) ?_
  refine Z0Y 8 rfl (by kernel_rfl) (by kernel_rfl) (by kernel_rfl) (fun _ _ _ h => h) S40 (Z1 rfl) rfl (d := 52) (v := (.agg ⟨([(.int .i64 (p)), (Z2p tx)] : List Value)⟩)) rfl (fun _ => (by kernel_rfl)) ?_
  refine k_do 9 rfl (by kernel_rfl) (Z1 rfl) rfl (fun K41 hK41 => ?_)
  refine Z1i (e := 114) (size := 2) (bytes := 24) (z := (.agg ⟨([(.int .i64 (0)), (Z2p ([] : List UInt8))] : List Value)⟩)) (pvs := [(0, (.agg ⟨([(.int .i64 (p)), (Z2p tx)] : List Value)⟩))]) (vs := ([(.int .i64 (p)), (Z2p tx)] : List Value)) rfl H39 (by kernel_rfl) (by kernel_rfl) (by kernel_rfl) (by kernel_rfl) (by kernel_rfl) rfl rfl ?_
  intro b42 w43 (H44 : Sat w [Z0 r 98 ([(.slice a L.length c)] : List Value), Zk 114 2 (.slice a L.length c) L.length (L.flatMap Z1N), Zk 5 1 tv tx.length (tx.flatMap ZE), Z7 w (ZL (Z9b r a c L tv tx)).fp, Z0 b2 29 ([(.int .i64 (0)), (.int .i64 (0))] : List Value), Zk 114 2 (.slice (some ⟨b42, 0, none⟩) 1 1) 1 ([(.int .i64 (p)), (Z2p tx)] : List Value)] w43)
  have S45 := H44.pick [0, 2, 3, 4] (by decide)
  refine hK41 _ _ S45 ?_
  clear hK41 K41
  refine k_do 10 rfl (by kernel_rfl) (Z1 rfl) rfl (fun K46 hK46 => ?_)
  refine Z11 (T := 96) (e := 114) (size := 2) (bytes := 24) rfl H44 (by kernel_rfl) 1 5 rfl rfl rfl rfl (by kernel_rfl) (by omega) (by omega) ?_
  intro v47 w48 (H49 : Sat w [Z0 r 98 ([(.slice a L.length c)] : List Value), Zk 114 2 v47 (L.length + 1) ((L.flatMap Z1N) ++ ([(.int .i64 (p)), (Z2p tx)] : List Value)), Zk 5 1 tv tx.length (tx.flatMap ZE), Z7 w (ZL (Z9b r a c L tv tx)).fp, Z0 b2 29 ([(.int .i64 (0)), (.int .i64 (0))] : List Value), Zk 114 2 (.slice (some ⟨b42, 0, none⟩) 1 1) 1 ([(.int .i64 (p)), (Z2p tx)] : List Value)] w48)
  have H52 : Sat w [Z0 r 98 ([(.slice a L.length c)] : List Value), Zk 114 2 v47 ((L ++ [(⟨p, tx⟩ : Signed)]).length) ((L ++ [(⟨p, tx⟩ : Signed)]).flatMap Z1N), Zk 5 1 tv tx.length (tx.flatMap ZE), Z7 w (ZL (Z9b r a c L tv tx)).fp, Z0 b2 29 ([(.int .i64 (0)), (.int .i64 (0))] : List Value), Zk 114 2 (.slice (some ⟨b42, 0, none⟩) 1 1) 1 ([(.int .i64 (p)), (Z2p tx)] : List Value)] w48 := H49.cast (by simp only [List.length_append, List.flatMap_append] <;> rfl)
  obtain ⟨a50, c51, rfl⟩ := Z6 (H52.at 1 rfl)
  have S53 := H52.pick [0, 2, 3, 4] (by decide)
  refine hK46 _ _ S53 ?_
  clear hK46 K46
  refine Z0Y 11 rfl (by kernel_rfl) (by kernel_rfl) (by kernel_rfl) (fun _ _ _ h => h) S53 (Z1 rfl) rfl (d := 55) (v := (.pointer (some ⟨r, 0, none⟩))) rfl (fun _ => (by kernel_rfl)) ?_
  refine Z0Y 12 rfl (by kernel_rfl) (by kernel_rfl) (by kernel_rfl) (fun _ _ _ h => h) S53 (Z1 rfl) rfl (d := 56) (v := (.pointer (some ⟨r, 0, none⟩))) rfl (fun _ => (by kernel_rfl)) ?_
  refine Z3j 13 (Sat w [Zk 5 1 tv tx.length (tx.flatMap ZE), Z7 w (ZL (Z9b r a c L tv tx)).fp, Z0 b2 29 ([(.int .i64 (0)), (.int .i64 (0))] : List Value)]) rfl (by kernel_rfl) (Z1 rfl) rfl (fun K54 hK54 => ?_)
  refine Z2C (vs := ([(.slice a50 ((L ++ [(⟨p, tx⟩ : Signed)]).length) c51)] : List Value)) rfl H52 0 rfl rfl rfl rfl (by kernel_rfl) (Nat.le_of_ble_eq_true (by kernel_rfl)) (Nat.le_of_ble_eq_true (by kernel_rfl)) (by kernel_rfl) ?_
  intro w55 (H56 : Sat w [Z0 r 98 ([(.slice a50 ((L ++ [(⟨p, tx⟩ : Signed)]).length) c51)] : List Value), Zk 114 2 (.slice a50 ((L ++ [(⟨p, tx⟩ : Signed)]).length) c51) ((L ++ [(⟨p, tx⟩ : Signed)]).length) ((L ++ [(⟨p, tx⟩ : Signed)]).flatMap Z1N), Zk 5 1 tv tx.length (tx.flatMap ZE), Z7 w (ZL (Z9b r a c L tv tx)).fp, Z0 b2 29 ([(.int .i64 (0)), (.int .i64 (0))] : List Value), Zk 114 2 (.slice (some ⟨b42, 0, none⟩) 1 1) 1 ([(.int .i64 (p)), (Z2p tx)] : List Value)] w55)
  have S58 := H56.pick [2, 3, 4] (by decide)
  refine hK54 _ _ S58 ?_
  clear hK54 K54
  refine Z4t (by kernel_rfl) ?_
  refine Z4 ?_
  refine Zd ?_
  refine Zq ?_
  refine Z2 (Z1 rfl) (d := 57) (v := (.int .i64 (p))) rfl (by kernel_rfl) ?_
  refine Z2 (Z1 rfl) (d := 58) (v := (.pointer (some ⟨r, 0, none⟩))) rfl (by kernel_rfl) ?_
  refine Z2 (Z1 rfl) (d := 59) (v := (.pointer (some ⟨r, 0, none⟩))) rfl (by kernel_rfl) ?_
  refine Z2 (Z1 rfl) (d := 60) (v := (.pointer (some ⟨r, 0, none⟩))) rfl (by kernel_rfl) ?_
  refine Z2 (Z1 rfl) (d := 61) (v := (.slice a50 ((L ++ [(⟨p, tx⟩ : Signed)]).length) c51)) rfl (Z8 rfl (by kernel_rfl) (H56.cell 0 rfl rfl)) ?_
  refine Z2 (Z1 rfl) (d := 62) (v := (.int .i64 (((L ++ [(⟨p, tx⟩ : Signed)]).length : Int)))) rfl (by kernel_rfl) ?_
  refine Z2 (Z1 rfl) (d := 63) (v := (.agg ⟨([(.int .i64 (p)), (.int .i64 (((L ++ [(⟨p, tx⟩ : Signed)]).length : Int)))] : List Value)⟩)) rfl (by kernel_rfl) ?_
  refine Z07 (Z1 rfl) (fun K59 hK59 => ?_)
  refine Z2C (vs := ([(.int .i64 (p)), (.int .i64 (((L ++ [(⟨p, tx⟩ : Signed)]).length : Int)))] : List Value)) rfl H56 4 rfl rfl rfl rfl (by kernel_rfl) (Nat.le_of_ble_eq_true (by kernel_rfl)) (Nat.le_of_ble_eq_true (by kernel_rfl)) (by kernel_rfl) ?_
  intro w60 (H61 : Sat w [Z0 r 98 ([(.slice a50 ((L ++ [(⟨p, tx⟩ : Signed)]).length) c51)] : List Value), Zk 114 2 (.slice a50 ((L ++ [(⟨p, tx⟩ : Signed)]).length) c51) ((L ++ [(⟨p, tx⟩ : Signed)]).length) ((L ++ [(⟨p, tx⟩ : Signed)]).flatMap Z1N), Zk 5 1 tv tx.length (tx.flatMap ZE), Z7 w (ZL (Z9b r a c L tv tx)).fp, Z0 b2 29 ([(.int .i64 (p)), (.int .i64 (((L ++ [(⟨p, tx⟩ : Signed)]).length : Int)))] : List Value), Zk 114 2 (.slice (some ⟨b42, 0, none⟩) 1 1) 1 ([(.int .i64 (p)), (Z2p tx)] : List Value)] w60)
  refine hK59 _ _ ?_
  clear hK59 K59
  refine Zn ?_
  refine Z4 ?_
  refine ZI ?_
  refine Z2e rfl (ZZ (vs := ([(.int .i64 (p)), (.int .i64 (((L ++ [(⟨p, tx⟩ : Signed)]).length : Int)))] : List Value)) rfl (by kernel_rfl) (by kernel_rfl) (by exact Nat.le_of_ble_eq_true (by kernel_rfl)) (H61.at 4 rfl) (by kernel_rfl)) ?_
  have hno2 : (⟨p, tx⟩ : Signed) ∉ L := by rw [List.take_of_length_le (show L.length ≤ i by omega)] at hno; exact hno
  have hsl : Zp L (⟨p, tx⟩ : Signed) = L ++ [(⟨p, tx⟩ : Signed)] := by unfold Zp; rw [if_neg hno2]
  have hnd : (L ++ [(⟨p, tx⟩ : Signed)]).Nodup := by rw [List.nodup_append]; exact ⟨hn, by simp, fun x hx y hy => by rw [List.mem_singleton.1 hy]; exact fun e => hno2 (e ▸ hx)⟩
  have hat : (L ++ [(⟨p, tx⟩ : Signed)])[L.length]? = some (⟨p, tx⟩ : Signed) := by simp
  refine ⟨a50, c51, ?_, ?_⟩
  ·rw [hsl, Z4z hnd hat]; first | rfl | simp
  ·rw [hsl]; exact H61.pick [0, 1, 2, 3] (by decide)
end Go.Proofs.YtoaifondpohniaaGreat
