/- WHAT IS PROVED: contracts and plain laws of RbD, RefB. Conditions: stated with each. -/
import Derived.Test.YtoaifondpohniaaGreatPR04
import Derived.Test.YtoaifondpohniaaGreatPR05
set_option maxHeartbeats 4000000
set_option maxRecDepth 100000
namespace Go.Proofs.YtoaifondpohniaaGreat
open Go.RowKit
def Z43 (x : Signed) : List Value := [.int .i64 x.p, Z2O x.s]
theorem Z5g (x : Signed) : (Z43 x).length = 2 := rfl
theorem BytesAt.now {W w : World} {G : List Ck} {v : Value} {s : List UInt8} (H : Sat W G w) (j : Nat) (hj : G[j]? = Option.some (Z6 W fun _ => False)) (hv : BytesAt W v s) : BytesAt w v s :=
 SliceOf.mono hv fun _ _ h => H.cellR j hj h (fun h => h)
abbrev Z8d (p0 : Option Addr) (p1 : Nat) (p2 : Nat) : List Value := ([(.slice p0 p1 p2)] : List Value)
abbrev Zck (p0 : Option Addr) (p1 : List Signed) (p2 : Nat) : Ck := ZH 114 2 (.slice p0 p1.length p2) p1.length (p1.flatMap Z43)
abbrev Z4L (p0 : Int) (p1 : Int) : List Value := ([(.int .i64 p0), (.int .i64 p1)] : List Value)
abbrev Z6N : List Value := ([(.int .i64 (0)), (.int .i64 (0))] : List Value)
abbrev Z8e (p0 : Int) (p1 : Value) : List Value := ([(.int .i64 p0), p1] : List Value)
def ZcK (r : Nat) (a : Option Addr) (c : Nat) (L : List Signed) (tv : Value) (tx : List UInt8) : List Ck := [Z0 r 98 [.slice a L.length c], ZH 114 2 (.slice a L.length c) L.length (L.flatMap Z43), ZH 5 1 tv tx.length (tx.flatMap ZN)]
theorem Z4t {L : List Signed} (hn : L.Nodup) {i : Nat} {y : Signed} (h : L[i]? = some y) : Zu L y = (i : Int) + 1 := by
 obtain ⟨hi, rfl⟩ := List.getElem?_eq_some_iff.1 h
 have : L.idxOf? L[i] = some i := by
  rw [List.idxOf?_eq_some_iff]
  refine ⟨hi, rfl, fun j hj e => ?_⟩
  have := List.pairwise_iff_getElem.1 hn j i (by omega) hi hj
  exact this e
 unfold Zu; rw [this]; rfl
theorem Zat {L : List Signed} {y : Signed} (h : y ∉ L) : Zu L y = 0 := by
 unfold Zu
 cases hq : L.idxOf? y with
 | none => rfl
 | some i =>
  obtain ⟨h1, h2, _⟩ := List.idxOf?_eq_some_iff.1 hq
  exact absurd (h2 ▸ List.getElem_mem h1) h
theorem Z4x {L : List Signed} (hn : L.Nodup) {p m : Int} {tx : List UInt8} : Z0p L p m tx = true ↔ ∃ i : Nat, L[i]? = some ⟨p, tx⟩ ∧ m = (i : Int) + 1 := by
 unfold Z0p
 simp only [Bool.and_eq_true, decide_eq_true_eq]
 constructor
 ·rintro ⟨h1, h2⟩
  by_cases hm : (⟨p, tx⟩ : Signed) ∈ L
  ·obtain ⟨i, hi, e⟩ := List.mem_iff_getElem.1 hm
   have h3 : L[i]? = some ⟨p, tx⟩ := by rw [List.getElem?_eq_getElem hi, e]
   exact ⟨i, h3, by have := Z4t hn h3; omega⟩
  rw [Zat hm] at h1; omega
 rintro ⟨i, h1, h2⟩
 have := Z4t hn h1
 omega
theorem Zaz {L : List Signed} {i : Nat} {x : Signed} {y : Signed} (hx : L[i]? = some x) (hne : ¬ x = y) (h : y ∉ L.take i) : y ∉ L.take (i + 1) := by
 rw [List.take_add_one, hx, List.mem_append]
 rintro (q | q)
 ·exact h q
 simp at q; exact hne q.symm
theorem Z26 (w : World) (r : Nat) (a : Option Addr) (c : Nat) (L : List Signed) (tv : Value) (tx : List UInt8) (hB : (Z0c (ZcK r a c L tv tx)).ok w) (hl : L.length ≤ 1000000) (hn : L.Nodup) (p : Int) :
  Calls Tryz.prog 16 #[(.pointer (some ⟨r, 0, none⟩)), (.int .i64 (p)), tv] w fun e w' => ∃ a' c', e = .returned (.agg #[.int .i64 p, .int .i64 (Zu (Zk L (⟨p, tx⟩ : Signed)) (⟨p, tx⟩ : Signed))]) ∧ Sat w [Z0 r 98 [.slice a' (Zk L (⟨p, tx⟩ : Signed)).length c'], ZH 114 2 (.slice a' (Zk L (⟨p, tx⟩ : Signed)).length c') (Zk L (⟨p, tx⟩ : Signed)).length ((Zk L (⟨p, tx⟩ : Signed)).flatMap Z43), ZH 5 1 tv tx.length (tx.flatMap ZN), Z6 w (Z0c (ZcK r a c L tv tx)).fp] w' := by
 have H := Sat.start (ZcK r a c L tv tx) hB
 refine Zp Tryz.func16 rfl 64 rfl (Nat.le_of_ble_eq_true rfl) ?_
 apply zsl
 refine zwd fun Kq kq => ?_
 refine zda (Z6N) H ?_
 intro b2 w3 H4
 refine kq _ _ ?_
 clear kq Kq
 apply znt
 apply Zt
 apply zsl
 refine wv 8 (pt r 0) ?_
 refine wv 9 (pt r 0) ?_
 refine wv 10 (pt r 0) ?_
 refine zw1 11 (.slice a L.length c) (H4.cell 0 rfl rfl) ?_
 refine wv 12 (.int .i64 ((L.length : Int))) ?_
 refine wv 13 (.int .i64 (0)) ?_
 apply znt
 apply ZG
 refine Z02 ([7] ++ List.range' 13 31) (fun F_ W_ m_ => ∃ (i : Nat), F_ 13 = (.int .i64 ((i : Int))) ∧ (i ≤ L.length) ∧ ((⟨p, tx⟩ : Signed) ∉ L.take i) ∧ Sat w [Z0 r 98 (Z8d a L.length c), (Zck a L c), ZH 5 1 tv tx.length (tx.flatMap ZN), Z6 w (Z0c (ZcK r a c L tv tx)).fp, Z0 b2 29 (Z6N)] W_ ∧ m_ = L.length + 1 - i) _ ⟨0, (show ((.int .i64 (0)) : Value) = _ by first | rfl | go_num), by omega, by simp, H4, rfl⟩ ?_
 rintro g5 w6 _ ⟨i, v8, hi, hno, H7, rfl⟩
 refine ZF 13 _ v8 ?_
 apply zsl
 refine wv 14 (.bool (decide ((i : Int) < (L.length : Int)))) ?_
 apply znt
 apply Zt
 refine (Zl (decide ((i : Int) < (L.length : Int)))).elim (fun b10 => ?_) (fun b10 => ?_)
 ·have g11 := of_decide_eq_true b10
  refine Z1o _ b10 ?_
  apply ZL
  apply ztn
  apply Zt
  apply ZG
  apply zsl
  refine wv 15 (.int .i64 ((i : Int))) ?_
  refine wv 7 (.int .i64 ((i : Int))) ?_
  apply znt
  apply Zt
  refine zqs H7 ?_
  refine qv 16 (pt r 0) ?_
  refine qv 17 (pt r 0) ?_
  refine qv 18 (pt r 0) ?_
  refine qv 19 (.slice a L.length c) ?_ (hr := fun _ H' => (Z2 rfl (by kernel_rfl) (H'.cell 0 rfl rfl)))
  refine qv 20 (.int .i64 ((i : Int))) ?_
  obtain ⟨g13, c14, e15⟩ := Z1n (H7.at 1 rfl) (by omega)
  obtain ⟨x16, h17⟩ := Z2j (show i < L.length by omega)
  refine qv 21 (.pointer (some ⟨g13, 0 + ((i : Int)).toNat * 2, none⟩)) ?_ (hr := fun _ H' => (Z0t (E := 114) (by kernel_rfl) (by kernel_rfl) (Nat.le_of_ble_eq_true rfl) rfl e15 rfl (by omega) (by omega)))
  refine qv 22 (.pointer (some ⟨g13, 0 + ((i : Int)).toNat * 2, none⟩)) ?_
  refine qv 23 (.int .i64 (x16.p)) ?_ (hr := fun _ H' => (Z2 rfl (by kernel_rfl) (Z2f (H'.at 1 rfl) e15 Z5g h17 0 rfl (show 0 + ((i : Int)).toNat * 2 = i * 2 + 0 by omega) (by kernel_rfl))))
  refine qv 24 (.int .i64 (p)) ?_
  refine qv 25 (.bool (decide (x16.p = p))) ?_
  refine qv 26 (.bool (decide (x16.p = p))) ?_
  refine (Zl (decide (x16.p = p))).elim (fun b18 => ?_) (fun b18 => ?_)
  ·have g19 := of_decide_eq_true b18
   refine Z0k 26 (.bool true) (congrArg Value.bool b18) ?_
   refine qy 10 26 true 27 (pt r 0) ?_
   refine qy 10 26 true 28 (pt r 0) ?_
   refine qy 10 26 true 29 (pt r 0) ?_
   refine qy 10 26 true 30 (.slice a L.length c) ?_ (hr := fun _ H' => (Z2 rfl (by kernel_rfl) (H'.cell 0 rfl rfl)))
   refine qy 10 26 true 31 (.int .i64 ((i : Int))) ?_
   refine qy 10 26 true 32 (.pointer (some ⟨g13, 0 + ((i : Int)).toNat * 2, none⟩)) ?_ (hr := fun _ H' => (Z0t (E := 114) (by kernel_rfl) (by kernel_rfl) (Nat.le_of_ble_eq_true rfl) rfl e15 rfl (by omega) (by omega)))
   refine qy 10 26 true 33 (.pointer (some ⟨g13, 0 + ((i : Int)).toNat * 2 + 1, none⟩)) ?_
   refine qy 10 26 true 34 (Z2O x16.s) ?_ (hr := fun _ H' => (Z2 rfl (by kernel_rfl) (Z2f (H'.at 1 rfl) e15 Z5g h17 1 rfl (show 0 + ((i : Int)).toNat * 2 + 1 = i * 2 + 1 by omega) (by kernel_rfl))))
   refine qy 10 26 true 35 (tv) ?_
   refine qy 10 26 true 36 (Z2O tx) ?_ (hr := fun _ H' => (Z21 (e := 5) (s := tx) (by kernel_rfl) (by kernel_rfl) (by kernel_rfl) rfl (Z25 (ListAt.row (e := 5) (enc := ZN) (sz := 1) (v := tv) (n := tx.length) (xs := tx) ZE (by decide) (H'.at 2 rfl)))))
   refine qy 10 26 true 37 (.bool (decide (x16.s = tx))) ?_ (hr := fun _ H' => (Z9U x16.s tx rfl rfl))
   refine qv 38 (.bool (decide (x16.s = tx))) ?_
   refine Z0S ?_
   intro w21 H22
   apply ztn
   refine (Zl (decide (x16.s = tx))).elim (fun b23 => ?_) (fun b23 => ?_)
   ·have g24 := of_decide_eq_true b23
    refine Z1o _ b23 ?_
    apply zsl
    refine wv 39 (.int .i64 (p)) ?_
    refine wv 40 (.int .i64 ((i : Int))) ?_
    refine zwi 41 ((i : Int) + 1) ?_
    refine wv 42 (.agg ⟨(Z4L p ((i : Int) + 1))⟩) ?_
    refine zwd fun Kq kq => ?_
    refine Z2q (vs := (Z4L p ((i : Int) + 1))) rfl H22 4 rfl rfl rfl rfl (by kernel_rfl) (Nat.le_of_ble_eq_true (by kernel_rfl)) (Nat.le_of_ble_eq_true (by kernel_rfl)) (by kernel_rfl) ?_
    intro w27 H28
    refine kq _ _ ?_
    clear kq Kq
    apply znt
    apply ZA
    apply ZP
    apply Zr
    apply Z0l
    apply ZP
    apply Zr
    refine Z6E rfl (Z0i (vs := (Z4L p ((i : Int) + 1))) rfl (by kernel_rfl) (by kernel_rfl) (by exact Nat.le_of_ble_eq_true (by kernel_rfl)) (H28.at 4 rfl) (by kernel_rfl)) ?_
    have hy : L[i]? = some (⟨p, tx⟩ : Signed) := by rw [h17]; congr 1; have q1 := of_decide_eq_true b18; have q2 := of_decide_eq_true b23; rw [← q1, ← q2]
    have hm : (⟨p, tx⟩ : Signed) ∈ L := List.mem_of_getElem? hy
    refine ⟨a, c, ?_, ?_⟩
    ·rw [Z2I hm, Z4t hn hy]
    rw [Z2I hm]; exact H28.pk [0, 1, 2, 3]
   have g29 := of_decide_eq_false b23
   refine Z18 _ b23 ?_
   apply ZL
   apply Zq
   apply ztn
   apply ZU
   refine zwi 43 ((i : Int) + 1) ?_
   refine wv 13 (.int .i64 ((i : Int) + 1)) ?_
   apply ZQ
   refine Zw ?_ _ ⟨(i + 1), rfl, by omega, (Zaz h17 (fun e => by first | exact absurd (congrArg Signed.s e) (of_decide_eq_false b23) | exact absurd (congrArg Signed.p e) (of_decide_eq_false b23)) hno), H22, rfl⟩ (by omega)
   exact zs
  have g32 := of_decide_eq_false b18
  refine Z0k 26 (.bool false) (congrArg Value.bool b18) ?_
  iterate 11 refine qn 10 26 true ?_
  refine qv 38 (.bool false) ?_
  refine Z0S ?_
  intro w34 H35
  apply ztn
  refine Z3m rfl ?_
  apply ZL
  apply Zq
  apply ztn
  apply ZU
  refine zwi 43 ((i : Int) + 1) ?_
  refine wv 13 (.int .i64 ((i : Int) + 1)) ?_
  apply ZQ
  refine Zw ?_ _ ⟨(i + 1), rfl, by omega, (Zaz h17 (fun e => by first | exact absurd (congrArg Signed.s e) (of_decide_eq_false b18) | exact absurd (congrArg Signed.p e) (of_decide_eq_false b18)) hno), H35, rfl⟩ (by omega)
  exact zs
 have g36 := of_decide_eq_false b10
 refine Z18 _ b10 ?_
 apply zxb
 apply ztn
 apply Zt
 refine Z1k H7 [Z0 r 98 (Z8d a L.length c), ZH 5 1 tv tx.length (tx.flatMap ZN), Z6 w (Z0c (ZcK r a c L tv tx)).fp, Z0 b2 29 (Z6N)] [13] 14 rfl (by kernel_rfl) (fun Hx => (Hx.pk [0, 2, 3, 4])) ?_
 intro w38 H39 S40
 refine zkp 0 S40 44 (pt r 0) ?_
 refine zkp 1 S40 45 (pt r 0) ?_
 refine zkp 2 S40 46 (pt r 0) ?_
 refine zkp 3 S40 47 (pt r 0) ?_
 refine zkv 4 S40 48 (.slice a L.length c) ?_ (he := fun _ H' => (Z2 rfl (by kernel_rfl) (H'.cell 0 rfl rfl)))
 refine zkp 5 S40 49 (.int .i64 (p)) ?_
 refine zkp 6 S40 50 tv ?_
 refine k_val 7 rfl (by kernel_rfl) (by kernel_rfl) (by kernel_rfl) (fun _ _ _ h => h) S40 (Zs rfl) rfl (by kernel_rfl) (d := 51) (v := (Z2O tx)) rfl (fun _ H' => (Z21 (e := 5) (s := tx) (by kernel_rfl) (by kernel_rfl) (by kernel_rfl) rfl (Z25 (ListAt.row (e := 5) (enc := ZN) (sz := 1) (v := tv) (n := tx.length) (xs := tx) ZE (by decide) (H'.at 1 rfl))))) ?_
 refine Zam 8 rfl (by kernel_rfl) (by kernel_rfl) (by kernel_rfl) (fun _ _ _ h => h) S40 (Zs rfl) rfl (d := 52) (v := (.agg ⟨(Z8e p (Z2O tx))⟩)) rfl (fun _ => (by kernel_rfl)) ?_
 refine Z3p 9 fun Kq kq => ?_
 refine Z3o 114 2 24 (.agg ⟨([(.int .i64 (0)), (Z2O ([] : List UInt8))] : List Value)⟩) [(0, (.agg ⟨(Z8e p (Z2O tx))⟩))] (Z8e p (Z2O tx)) H39 ?_
 intro b42 w43 H44
 have S45 := H44.pk [0, 2, 3, 4]
 refine kq _ _ S45 ?_
 clear kq Kq
 refine Z3p 10 fun Kq kq => ?_
 refine Z14 (T := 96) (e := 114) (size := 2) (bytes := 24) rfl H44 (by kernel_rfl) 1 5 rfl rfl rfl rfl (by kernel_rfl) (by omega) (by omega) ?_
 intro v47 w48 H49
 have H52 := H49.ct 1 rfl (ZH 114 2 v47 ((L ++ [(⟨p, tx⟩ : Signed)]).length) ((L ++ [(⟨p, tx⟩ : Signed)]).flatMap Z43)) ja
 obtain ⟨a50, c51, rfl⟩ := Z1 (H52.at 1 rfl)
 have S53 := H52.pk [0, 2, 3, 4]
 refine kq _ _ S53 ?_
 clear kq Kq
 refine zkp 11 S53 55 (pt r 0) ?_
 refine zkp 12 S53 56 (pt r 0) ?_
 refine Z30 13 (Sat w [ZH 5 1 tv tx.length (tx.flatMap ZN), Z6 w (Z0c (ZcK r a c L tv tx)).fp, Z0 b2 29 (Z6N)]) rfl (by kernel_rfl) (Zs rfl) rfl (fun Kq kq => ?_)
 refine Z2q (vs := (Z8d a50 ((L ++ [(⟨p, tx⟩ : Signed)]).length) c51)) rfl H52 0 rfl rfl rfl rfl (by kernel_rfl) (Nat.le_of_ble_eq_true (by kernel_rfl)) (Nat.le_of_ble_eq_true (by kernel_rfl)) (by kernel_rfl) ?_
 intro w55 H56
 have S58 := H56.pk [2, 3, 4]
 refine kq _ _ S58 ?_
 clear kq Kq
 refine zhf ?_
 apply ztn
 apply zsl
 refine wv 57 (.int .i64 (p)) ?_
 refine wv 58 (pt r 0) ?_
 refine wv 59 (pt r 0) ?_
 refine wv 60 (pt r 0) ?_
 refine zw1 61 (.slice a50 ((L ++ [(⟨p, tx⟩ : Signed)]).length) c51) (H56.cell 0 rfl rfl) ?_
 refine wv 62 (.int .i64 (((L ++ [(⟨p, tx⟩ : Signed)]).length : Int))) ?_
 refine wv 63 (.agg ⟨(Z4L p (((L ++ [(⟨p, tx⟩ : Signed)]).length : Int)))⟩) ?_
 refine zwd fun Kq kq => ?_
 refine Z2q (vs := (Z4L p (((L ++ [(⟨p, tx⟩ : Signed)]).length : Int)))) rfl H56 4 rfl rfl rfl rfl (by kernel_rfl) (Nat.le_of_ble_eq_true (by kernel_rfl)) (Nat.le_of_ble_eq_true (by kernel_rfl)) (by kernel_rfl) ?_
 intro w60 H61
 refine kq _ _ ?_
 clear kq Kq
 apply znt
 apply ZA
 refine Z6E rfl (Z0i (vs := (Z4L p (((L ++ [(⟨p, tx⟩ : Signed)]).length : Int)))) rfl (by kernel_rfl) (by kernel_rfl) (by exact Nat.le_of_ble_eq_true (by kernel_rfl)) (H61.at 4 rfl) (by kernel_rfl)) ?_
 have hno2 : (⟨p, tx⟩ : Signed) ∉ L := by rw [List.take_of_length_le (show L.length ≤ i by omega)] at hno; exact hno
 have hsl : Zk L (⟨p, tx⟩ : Signed) = L ++ [(⟨p, tx⟩ : Signed)] := by unfold Zk; rw [if_neg hno2]
 have hnd : (L ++ [(⟨p, tx⟩ : Signed)]).Nodup := by rw [List.nodup_append]; exact ⟨hn, by simp, fun x hx y hy => by rw [List.mem_singleton.1 hy]; exact fun e => hno2 (e ▸ hx)⟩
 have hat : (L ++ [(⟨p, tx⟩ : Signed)])[L.length]? = some (⟨p, tx⟩ : Signed) := by simp
 refine ⟨a50, c51, ?_, ?_⟩
 ·rw [hsl, Z4t hnd hat]; first | rfl | simp
 rw [hsl]; exact H61.pk [0, 1, 2, 3]
end Go.Proofs.YtoaifondpohniaaGreat
