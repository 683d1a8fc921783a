/- WHAT IS PROVED: contracts and plain laws of Make10M, Laid22, ItemsS, Eqs, Cmp10. Conditions: stated with each. -/
import Derived.Shelf.SlIterI.Nil
import Derived.Shelf.SlIterI.Sorted
import Derived.Shelf.SortM.Plain
import Derived.Shelf.SortM.SortNone
import Derived.Shelf.SlicesQ.IndexFunc
import Derived.Shelf.SlSortCmp.SmallK
import Derived.Shelf.Small.Bits
import Derived.ChangeKeysEq
import Derived.Test.YtgigjkjdmalmaaaGreatPY03
import Derived.Test.YtgigjkjdmalmaaaGreatPY04
import Derived.Test.YtgigjkjdmalmaaaGreatPY10
import Derived.Test.YtgigjkjdmalmaaaGreatPY11
set_option maxHeartbeats 4000000
set_option maxRecDepth 100000
namespace Go.Proofs.YtgigjkjdmalmaaaGreat
open Go.RowKit
def Z86 (F : Int) (x : Z0) (s : Zk) : Bool := inB F s.r && Z3x s x
def Z7Y (D : List Zk) (r : Int) : Bool := D.any fun o => decide (o.r = r)
def Z4B (F : Int) (x : Z0) (D : List Zk) (s : Zk) : List Zk := if (Z86 F x s && !Z7Y D s.r) = true then D ++ [s] else D
def Z6f (F : Int) (x : Z0) (L : List Zk) : List Zk := L.foldl (Z4B F x) []
def isR (x : Z0) (r : Int) (s : Zk) : Bool := decide (s.r = r) && Z3x s x
def Z1r (x : Z0) (L : List Zk) (r : Nat) : Option Zk := L.find? (isR x r)
def Z6Z (x : Z0) (L : List Zk) (n : Nat) : List Zk := (List.range n).filterMap (Z1r x L)
theorem Z3g (F : Int) (x : Z0) (L : List Zk) {i : Nat} (h : i < L.length) : Z6f F x (L.take (i + 1)) = Z4B F x (Z6f F x (L.take i)) (L.getD i Zr) := by
 unfold Z6f
 rw [List.take_add_one, List.getElem?_eq_getElem h, List.foldl_append, List.getD_eq_getElem?_getD, List.getElem?_eq_getElem h]
 rfl
theorem Zaa (F : Int) (x : Z0) (D : List Zk) (s : Zk) : (Z4B F x D s).length ≤ D.length + 1 := by
 unfold Z4B; split <;> simp
theorem Z89 (F : Int) (x : Z0) (L : List Zk) : (Z6f F x L).length ≤ L.length := by
 have : ∀ n, n ≤ L.length → (Z6f F x (L.take n)).length ≤ n := fun n => by
  induction n with
  | zero => intro _; simp [Z6f]
  | succ n ih => intro h; rw [Z3g F x L (by omega)]; have := Zaa F x (Z6f F x (L.take n)) (L.getD n Zr); have := ih (by omega); omega
 have := this L.length (Nat.le_refl _)
 rwa [List.take_length] at this
theorem Z5O {D : List Zk} {r : Int} : Z7Y D r = true ↔ ∃ o ∈ D, o.r = r := by simp [Z7Y]
structure Zal (F : Int) (x : Z0) (L D : List Zk) : Prop where
 mem : ∀ s, s ∈ D ↔ (0 ≤ s.r ∧ s.r < 3 * F + 1) ∧ Z1r x L s.r.toNat = some s
 dif : D.Pairwise fun a b => a.r ≠ b.r
theorem Z1L {x : Z0} {L : List Zk} {r : Nat} {s : Zk} (h : Z1r x L r = some s) : s.r = r ∧ Z3x s x = true ∧ s ∈ L := by
 have h1 := List.find?_some h
 have h2 := List.mem_of_find?_eq_some h
 simp only [isR, Bool.and_eq_true, decide_eq_true_eq] at h1
 exact ⟨h1.1, h1.2, h2⟩
theorem Z4g (x : Z0) (L : List Zk) (s : Zk) (r : Nat) : Z1r x (L ++ [s]) r = (Z1r x L r).or (if isR x r s = true then some s else none) := by
 unfold Z1r
 rw [List.find?_append]
 congr 1
 simp [List.find?_cons]
 split <;> simp_all
theorem Z8H {F : Int} {x : Z0} {L D : List Zk} (h : Zal F x L D) (s : Zk) : Zal F x (L ++ [s]) (Z4B F x D s) := by
 by_cases hc : (Z86 F x s && !Z7Y D s.r) = true
 ·have hD : Z4B F x D s = D ++ [s] := by unfold Z4B; rw [if_pos hc]
  rw [hD]
  simp only [Bool.and_eq_true, Bool.not_eq_true', Z86, inB, decide_eq_true_eq] at hc
  obtain ⟨⟨⟨h0, h1⟩, hs⟩, hn⟩ := hc
  have hnone : Z1r x L s.r.toNat = none := by
   cases hf : Z1r x L s.r.toNat with
   | none => rfl
   | some t =>
    exfalso
    obtain ⟨hr, _, _⟩ := Z1L hf
    have hr' : t.r = s.r := by omega
    have : t ∈ D := (h.mem t).2 ⟨by omega, by rw [hr']; exact hf⟩
    have := Z5O.2 ⟨t, this, hr'⟩
    rw [hn] at this; cases this
  refine ⟨fun t => ?_, ?_⟩
  ·rw [List.mem_append, List.mem_singleton, h.mem, Z4g]
   constructor
   ·rintro (⟨hb, hf⟩ | rfl)
    ·exact ⟨hb, by rw [hf]; rfl⟩
    ·refine ⟨⟨h0, h1⟩, ?_⟩
     rw [hnone, if_pos (by simp only [isR, Bool.and_eq_true, decide_eq_true_eq]; exact ⟨by omega, hs⟩)]; rfl
   ·rintro ⟨hb, hf⟩
    cases hq : Z1r x L t.r.toNat with
    | some u => rw [hq] at hf; exact .inl ⟨hb, by simpa using hf⟩
    | none =>
     rw [hq] at hf
     simp only [Option.none_or] at hf
     split at hf
     ·right; injection hf with hf; exact hf.symm
     ·cases hf
  ·refine List.pairwise_append.2 ⟨h.dif, by simp, fun a ha b hb => ?_⟩
   obtain rfl := List.mem_singleton.1 hb
   intro e
   have := Z5O.2 ⟨a, ha, e⟩
   rw [hn] at this; cases this
 ·have hD : Z4B F x D s = D := by unfold Z4B; rw [if_neg hc]
  rw [hD]
  refine ⟨fun t => ?_, h.dif⟩
  rw [h.mem, Z4g]
  constructor
  ·rintro ⟨hb, hf⟩; exact ⟨hb, by rw [hf]; rfl⟩
  ·rintro ⟨hb, hf⟩
   cases hq : Z1r x L t.r.toNat with
   | some u => rw [hq] at hf; exact ⟨hb, by simpa using hf⟩
   | none =>
    exfalso
    rw [hq] at hf
    simp only [Option.none_or] at hf
    split at hf
    ·rename_i hi
     injection hf with hf
     subst hf
     simp only [isR, Bool.and_eq_true, decide_eq_true_eq] at hi
     apply hc
     simp only [Z86, inB, Bool.and_eq_true, decide_eq_true_eq, Bool.not_eq_true']
     refine ⟨⟨⟨hb.1, hb.2⟩, hi.2⟩, ?_⟩
     rw [Bool.eq_false_iff]
     intro hh
     obtain ⟨o, ho, e⟩ := Z5O.1 hh
     have := ((h.mem o).1 ho).2
     rw [e, hq] at this; cases this
    ·cases hf
theorem Z4C (F : Int) (x : Z0) (L : List Zk) : Zal F x L (Z6f F x L) := by
 have : ∀ n, n ≤ L.length → Zal F x (L.take n) (Z6f F x (L.take n)) := fun n => by
  induction n with
  | zero => intro _; exact ⟨fun s => by simp [Z6f, Z1r], by simp [Z6f]⟩
  | succ n ih =>
   intro h
   rw [Z3g F x L (by omega)]
   have e : L.take (n + 1) = L.take n ++ [L.getD n Zr] := by
    rw [List.take_add_one, List.getElem?_eq_getElem (by omega), List.getD_eq_getElem?_getD, List.getElem?_eq_getElem (by omega)]; rfl
   rw [e]
   exact Z8H (ih (by omega)) _
 have := this L.length (Nat.le_refl _)
 rwa [List.take_length] at this
theorem Z66 {x : Z0} {L : List Zk} {n : Nat} {s : Zk} : s ∈ Z6Z x L n ↔ (0 ≤ s.r ∧ s.r < n) ∧ Z1r x L s.r.toNat = some s := by
 unfold Z6Z
 rw [List.mem_filterMap]
 constructor
 ·rintro ⟨r, hr, hf⟩
  have := List.mem_range.1 hr
  obtain ⟨e, _, _⟩ := Z1L hf
  exact ⟨by omega, by rw [show s.r.toNat = r by omega]; exact hf⟩
 ·rintro ⟨hb, hf⟩
  exact ⟨s.r.toNat, List.mem_range.2 (by omega), hf⟩
theorem Z9Z (x : Z0) (L : List Zk) (n : Nat) : Z6Z x L (n + 1) = Z6Z x L n ++ (Z1r x L n).toList := by
 unfold Z6Z
 rw [List.range_succ, List.filterMap_append]
 congr 1
theorem Z4t (x : Z0) (L : List Zk) (n : Nat) : (Z6Z x L n).Pairwise fun a b => a.r < b.r := by
 induction n with
 | zero => simp [Z6Z]
 | succ n ih =>
  rw [Z9Z]
  refine List.pairwise_append.2 ⟨ih, ?_, fun a ha b hb => ?_⟩
  ·cases Z1r x L n <;> simp
  ·have h1 := (Z66.1 ha).1
   cases hf : Z1r x L n with
   | none => rw [hf] at hb; simp at hb
   | some t =>
    rw [hf] at hb
    obtain rfl : b = t := by simpa using hb
    obtain ⟨e, _, _⟩ := Z1L hf
    omega
theorem Z7B : ∀ {A B : List Zk}, (A.Pairwise fun a b => a.r < b.r) → (B.Pairwise fun a b => a.r < b.r) → (∀ s, s ∈ A ↔ s ∈ B) → A = B
 | [], [], _, _, _ => rfl
 | [], b :: _, _, _, h => absurd ((h b).2 (by simp)) (by simp)
 | a :: _, [], _, _, h => absurd ((h a).1 (by simp)) (by simp)
 | a :: A, b :: B, hA, hB, h => by
  rw [List.pairwise_cons] at hA hB
  have hab : a = b := by
   rcases List.mem_cons.1 ((h a).1 (by simp)) with e | ha
   ·exact e
   ·rcases List.mem_cons.1 ((h b).2 (by simp)) with e | hb
    ·exact e.symm
    ·have := hB.1 a ha; have := hA.1 b hb; omega
  subst hab
  refine congrArg (a :: ·) (Z7B hA.2 hB.2 fun s => ?_)
  constructor
  ·intro hs
   rcases List.mem_cons.1 ((h s).1 (List.mem_cons_of_mem _ hs)) with e | hs'
   ·subst e; have := hA.1 s hs; omega
   ·exact hs'
  ·intro hs
   rcases List.mem_cons.1 ((h s).2 (List.mem_cons_of_mem _ hs)) with e | hs'
   ·subst e; have := hB.1 s hs; omega
   ·exact hs'
theorem Z5j {F : Int} {x : Z0} {L D : List Zk} {n : Nat} (hn : (n : Int) = 3 * F + 1) (hp : D.Perm (Z6f F x L)) (hs : D.Pairwise fun a b => a.r ≤ b.r) : D = Z6Z x L n := by
 have hT := Z4C F x L
 have hd : D.Pairwise fun a b => a.r ≠ b.r := (hp.symm.pairwise_iff (fun h => Ne.symm h)).1 hT.dif
 refine Z7B ((hs.and hd).imp fun h => by omega) (Z4t x L n) fun s => ?_
 rw [hp.mem_iff, hT.mem, Z66, hn]
theorem Zcb {F : Int} {x : Z0} {L : List Zk} {n : Nat} (hn : (n : Int) = 3 * F + 1) : (Z6f F x L).length = (Z6Z x L n).length := by
 have hT := Z4C F x L
 have h := Z5j (F := F) (L := L) (x := x) hn (List.mergeSort_perm (Z6f F x L) (fun a b => decide (a.r ≤ b.r))) ((List.pairwise_mergeSort (le := fun a b : Zk => decide (a.r ≤ b.r)) (fun a b c h1 h2 => by simp at *; omega) (fun a b => by simp; omega) _).imp fun h => by simpa using h)
 rw [← h, (List.mergeSort_perm _ _).length_eq]
end Go.Proofs.YtgigjkjdmalmaaaGreat
namespace Go.Proofs.YtgigjkjdmalmaaaGreat
open Go.RowKit Go.Shelf
def Z4y : Go.Shelf.Ren := ⟨fun | 6 => 59 | 8 => 78 | 9 => 79 | 11 => 100 | 13 => 102 | 12 => 101 | 23 => 125 | 24 => 126 | 14 => 116 | 15 => 117 | 16 => 118 | 17 => 119 | 18 => 120 | 19 => 121 | 20 => 122 | 21 => 123 | 22 => 124 | 25 => 141 | 26 => 142 | 27 => 143 | 28 => 144 | 29 => 145 | 30 => 146 | 31 => 152 | n => n, fun | 26 => 3 | 28 => 154 | 24 => 22 | 0 => 0 | 3 => 3 | 37 => 145 | 48 => 141 | 50 => 45 | 4 => 4 | 40 => 215 | 39 => 214 | 45 => 97 | 5 => 5 | 9 => 9 | 51 => 233 | 55 => 237 | 57 => 243 | 58 => 244 | 33 => 99 | n => n, fun | n => n⟩
theorem Zce : Go.Proofs.SlLaysZI.n6 Tryz.prog Z4y := {
 mixed := by kernel_rfl,
 f6 := ⟨Tryz.f59.name, by decide, Tryz.func59.trans (congrArg some (by kernel_rfl))⟩,
 f8 := ⟨Tryz.f78.name, by decide, Tryz.func78.trans (congrArg some (by kernel_rfl))⟩,
 f11 := ⟨Tryz.f100.name, by decide, Tryz.func100.trans (congrArg some (by kernel_rfl))⟩,
 t0 := Tryz.underlying0,
 a0 := Tryz.isAgg0,
 z0 := Tryz.sizeOf0,
 v0 := Tryz.zeroValue0,
 t24 := Tryz.underlying22,
 a24 := Tryz.isAgg22,
 z24 := Tryz.sizeOf22,
 v24 := Tryz.zeroValue22,
 t26 := Tryz.underlying3,
 a26 := Tryz.isAgg3,
 z26 := Tryz.sizeOf3,
 v26 := Tryz.zeroValue3,
 t28 := Tryz.underlying154,
 a28 := Tryz.isAgg154,
 z28 := Tryz.sizeOf154,
 v28 := Tryz.zeroValue154,
 i26 := by kernel_rfl }
def Z6P : Go.Shelf.Ren := ⟨fun | 7 => 60 | 10 => 80 | n => n, fun | 23 => 115 | 26 => 3 | 3 => 49 | 28 => 154 | 0 => 0 | 27 => 153 | 33 => 99 | 4 => 4 | n => n, fun | n => n⟩
theorem keysS : Go.Proofs.SlLaysZI.n7 Tryz.prog Z6P := {
 mixed := by kernel_rfl,
 f7 := ⟨Tryz.f60.name, by decide, Tryz.func60.trans (congrArg some (by kernel_rfl))⟩,
 f10 := ⟨Tryz.f80.name, by decide, Tryz.func80.trans (congrArg some (by kernel_rfl))⟩,
 t0 := Tryz.underlying0,
 a0 := Tryz.isAgg0,
 z0 := Tryz.sizeOf0,
 v0 := Tryz.zeroValue0,
 t4 := Tryz.underlying4,
 a4 := Tryz.isAgg4,
 z4 := Tryz.sizeOf4,
 v4 := Tryz.zeroValue4,
 t23 := Tryz.underlying115,
 a23 := Tryz.isAgg115,
 z23 := Tryz.sizeOf115,
 v23 := Tryz.zeroValue115,
 t26 := Tryz.underlying3,
 a26 := Tryz.isAgg3,
 z26 := Tryz.sizeOf3,
 v26 := Tryz.zeroValue3,
 t27 := Tryz.underlying153,
 a27 := Tryz.isAgg153,
 z27 := Tryz.sizeOf153,
 v27 := Tryz.zeroValue153,
 t28 := Tryz.underlying154,
 a28 := Tryz.isAgg154,
 z28 := Tryz.sizeOf154,
 v28 := Tryz.zeroValue154,
 t33 := Tryz.underlying99,
 a33 := Tryz.isAgg99,
 z33 := Tryz.sizeOf99,
 v33 := Tryz.zeroValue99 }
def Za6 : Go.Shelf.Ren := ⟨fun | 5 => 79 | 8 => 102 | 7 => 101 | 19 => 125 | 20 => 126 | 10 => 116 | 11 => 117 | 12 => 118 | 13 => 119 | 14 => 120 | 15 => 121 | 16 => 122 | 17 => 123 | 18 => 124 | 30 => 141 | 31 => 142 | 32 => 143 | 33 => 144 | 34 => 145 | 35 => 146 | 40 => 152 | n => n, fun | 23 => 22 | 25 => 3 | 3 => 3 | 32 => 145 | 22 => 22 | 0 => 0 | 44 => 141 | 46 => 45 | 4 => 4 | 36 => 215 | 35 => 214 | 41 => 97 | 5 => 5 | 9 => 9 | 53 => 233 | 57 => 237 | 63 => 243 | 64 => 244 | n => n, fun | n => n⟩
theorem sortA : Go.Proofs.SlLaysM.n5 Tryz.prog Za6 := {
 mixed := by kernel_rfl,
 f5 := ⟨Tryz.f79.name, by decide, Tryz.func79.trans (congrArg some (by kernel_rfl))⟩,
 f7 := ⟨Tryz.f101.name, by decide, Tryz.func101.trans (congrArg some (by kernel_rfl))⟩,
 f8 := Tryz.func102.trans (congrArg some (by kernel_rfl)),
 f10 := ⟨Tryz.f116.name, by decide, Tryz.func116.trans (congrArg some (by kernel_rfl))⟩,
 f11 := ⟨Tryz.f117.name, by decide, Tryz.func117.trans (congrArg some (by kernel_rfl))⟩,
 f12 := ⟨Tryz.f118.name, by decide, Tryz.func118.trans (congrArg some (by kernel_rfl))⟩,
 f13 := ⟨Tryz.f119.name, by decide, Tryz.func119.trans (congrArg some (by kernel_rfl))⟩,
 f14 := ⟨Tryz.f120.name, by decide, Tryz.func120.trans (congrArg some (by kernel_rfl))⟩,
 f15 := ⟨Tryz.f121.name, by decide, Tryz.func121.trans (congrArg some (by kernel_rfl))⟩,
 f16 := ⟨Tryz.f122.name, by decide, Tryz.func122.trans (congrArg some (by kernel_rfl))⟩,
 f17 := ⟨Tryz.f123.name, by decide, Tryz.func123.trans (congrArg some (by kernel_rfl))⟩,
 f18 := ⟨Tryz.f124.name, by decide, Tryz.func124.trans (congrArg some (by kernel_rfl))⟩,
 f19 := Tryz.func125.trans (congrArg some (by kernel_rfl)),
 f20 := Tryz.func126.trans (congrArg some (by kernel_rfl)),
 f30 := ⟨Tryz.f141.name, by decide, Tryz.func141.trans (congrArg some (by kernel_rfl))⟩,
 f31 := Tryz.func142.trans (congrArg some (by kernel_rfl)),
 f32 := Tryz.func143.trans (congrArg some (by kernel_rfl)),
 f33 := ⟨Tryz.f144.name, by decide, Tryz.func144.trans (congrArg some (by kernel_rfl))⟩,
 f34 := ⟨Tryz.f145.name, by decide, Tryz.func145.trans (congrArg some (by kernel_rfl))⟩,
 f35 := ⟨Tryz.f146.name, by decide, Tryz.func146.trans (congrArg some (by kernel_rfl))⟩,
 f40 := ⟨Tryz.f152.name, by decide, Tryz.func152.trans (congrArg some (by kernel_rfl))⟩,
 t0 := Tryz.underlying0,
 a0 := Tryz.isAgg0,
 z0 := Tryz.sizeOf0,
 v0 := Tryz.zeroValue0,
 t3 := Tryz.underlying3,
 a3 := Tryz.isAgg3,
 z3 := Tryz.sizeOf3,
 v3 := Tryz.zeroValue3,
 t4 := Tryz.underlying4,
 a4 := Tryz.isAgg4,
 z4 := Tryz.sizeOf4,
 v4 := Tryz.zeroValue4,
 t5 := Tryz.underlying5,
 a5 := Tryz.isAgg5,
 z5 := Tryz.sizeOf5,
 v5 := Tryz.zeroValue5,
 t9 := Tryz.underlying9,
 a9 := Tryz.isAgg9,
 z9 := Tryz.sizeOf9,
 v9 := Tryz.zeroValue9,
 t22 := Tryz.underlying22,
 a22 := Tryz.isAgg22,
 z22 := Tryz.sizeOf22,
 v22 := Tryz.zeroValue22,
 t23 := Tryz.underlying22,
 a23 := Tryz.isAgg22,
 z23 := Tryz.sizeOf22,
 v23 := Tryz.zeroValue22,
 t25 := Tryz.underlying3,
 a25 := Tryz.isAgg3,
 z25 := Tryz.sizeOf3,
 v25 := Tryz.zeroValue3,
 t32 := Tryz.underlying145,
 a32 := Tryz.isAgg145,
 z32 := Tryz.sizeOf145,
 v32 := Tryz.zeroValue145,
 t35 := Tryz.underlying214,
 a35 := Tryz.isAgg214,
 z35 := Tryz.sizeOf214,
 v35 := Tryz.zeroValue214,
 t36 := Tryz.underlying215,
 a36 := Tryz.isAgg215,
 z36 := Tryz.sizeOf215,
 v36 := Tryz.zeroValue215,
 t41 := Tryz.underlying97,
 a41 := Tryz.isAgg97,
 z41 := Tryz.sizeOf97,
 v41 := Tryz.zeroValue97,
 t44 := Tryz.underlying141,
 a44 := Tryz.isAgg141,
 z44 := Tryz.sizeOf141,
 v44 := Tryz.zeroValue141,
 t46 := Tryz.underlying45,
 a46 := Tryz.isAgg45,
 z46 := Tryz.sizeOf45,
 v46 := Tryz.zeroValue45,
 t53 := Tryz.underlying233,
 a53 := Tryz.isAgg233,
 z53 := Tryz.sizeOf233,
 v53 := Tryz.zeroValue233,
 t57 := Tryz.underlying237,
 a57 := Tryz.isAgg237,
 z57 := Tryz.sizeOf237,
 v57 := Tryz.zeroValue237,
 t63 := Tryz.underlying243,
 a63 := Tryz.isAgg243,
 z63 := Tryz.sizeOf243,
 v63 := Tryz.zeroValue243,
 t64 := Tryz.underlying244,
 a64 := Tryz.isAgg244,
 z64 := Tryz.sizeOf244,
 v64 := Tryz.zeroValue244 }
def Z5I : Go.Shelf.Ren := ⟨fun | 8 => 82 | 6 => 103 | n => n, fun | 22 => 55 | 23 => 49 | 25 => 177 | 4 => 4 | 3 => 3 | 0 => 0 | n => n, fun | n => n⟩
theorem Z92 : Go.Proofs.SlLaysH0.n8 Tryz.prog Z5I := {
 mixed := by kernel_rfl,
 f6 := ⟨Tryz.f103.name, by decide, Tryz.func103.trans (congrArg some (by kernel_rfl))⟩,
 f8 := ⟨Tryz.f82.name, by decide, Tryz.func82.trans (congrArg some (by kernel_rfl))⟩,
 t0 := Tryz.underlying0,
 a0 := Tryz.isAgg0,
 z0 := Tryz.sizeOf0,
 v0 := Tryz.zeroValue0,
 t3 := Tryz.underlying3,
 a3 := Tryz.isAgg3,
 z3 := Tryz.sizeOf3,
 v3 := Tryz.zeroValue3,
 t4 := Tryz.underlying4,
 a4 := Tryz.isAgg4,
 z4 := Tryz.sizeOf4,
 v4 := Tryz.zeroValue4,
 t22 := Tryz.underlying55,
 a22 := Tryz.isAgg55,
 z22 := Tryz.sizeOf55,
 v22 := Tryz.zeroValue55,
 t25 := Tryz.underlying177,
 a25 := Tryz.isAgg177,
 z25 := Tryz.sizeOf177,
 v25 := Tryz.zeroValue177 }
def sortL_ren : Go.Shelf.Ren := ⟨fun | 6 => 83 | 15 => 102 | 14 => 104 | 28 => 125 | 29 => 126 | 20 => 127 | 21 => 128 | 22 => 129 | 23 => 130 | 24 => 131 | 25 => 132 | 26 => 133 | 27 => 134 | 46 => 147 | 47 => 142 | 48 => 143 | 49 => 148 | 50 => 149 | 57 => 153 | n => n, fun | 22 => 55 | 24 => 49 | 25 => 180 | 3 => 3 | 39 => 145 | 0 => 0 | 53 => 141 | 55 => 45 | 4 => 4 | 46 => 215 | 45 => 214 | 50 => 97 | 5 => 5 | 9 => 9 | 66 => 233 | 70 => 237 | 76 => 243 | 77 => 244 | n => n, fun | n => n⟩
theorem sortL : Go.Proofs.SlLaysF0.n6 Tryz.prog sortL_ren := {
 mixed := by kernel_rfl,
 f6 := ⟨Tryz.f83.name, by decide, Tryz.func83.trans (congrArg some (by kernel_rfl))⟩,
 f14 := ⟨Tryz.f104.name, by decide, Tryz.func104.trans (congrArg some (by kernel_rfl))⟩,
 f15 := Tryz.func102.trans (congrArg some (by kernel_rfl)),
 f20 := ⟨Tryz.f127.name, by decide, Tryz.func127.trans (congrArg some (by kernel_rfl))⟩,
 f21 := ⟨Tryz.f128.name, by decide, Tryz.func128.trans (congrArg some (by kernel_rfl))⟩,
 f22 := ⟨Tryz.f129.name, by decide, Tryz.func129.trans (congrArg some (by kernel_rfl))⟩,
 f23 := ⟨Tryz.f130.name, by decide, Tryz.func130.trans (congrArg some (by kernel_rfl))⟩,
 f24 := ⟨Tryz.f131.name, by decide, Tryz.func131.trans (congrArg some (by kernel_rfl))⟩,
 f25 := ⟨Tryz.f132.name, by decide, Tryz.func132.trans (congrArg some (by kernel_rfl))⟩,
 f26 := ⟨Tryz.f133.name, by decide, Tryz.func133.trans (congrArg some (by kernel_rfl))⟩,
 f27 := ⟨Tryz.f134.name, by decide, Tryz.func134.trans (congrArg some (by kernel_rfl))⟩,
 f28 := Tryz.func125.trans (congrArg some (by kernel_rfl)),
 f29 := Tryz.func126.trans (congrArg some (by kernel_rfl)),
 f46 := ⟨Tryz.f147.name, by decide, Tryz.func147.trans (congrArg some (by kernel_rfl))⟩,
 f47 := Tryz.func142.trans (congrArg some (by kernel_rfl)),
 f48 := Tryz.func143.trans (congrArg some (by kernel_rfl)),
 f49 := ⟨Tryz.f148.name, by decide, Tryz.func148.trans (congrArg some (by kernel_rfl))⟩,
 f50 := ⟨Tryz.f149.name, by decide, Tryz.func149.trans (congrArg some (by kernel_rfl))⟩,
 f57 := ⟨Tryz.f153.name, by decide, Tryz.func153.trans (congrArg some (by kernel_rfl))⟩,
 t0 := Tryz.underlying0,
 a0 := Tryz.isAgg0,
 z0 := Tryz.sizeOf0,
 v0 := Tryz.zeroValue0,
 t3 := Tryz.underlying3,
 a3 := Tryz.isAgg3,
 z3 := Tryz.sizeOf3,
 v3 := Tryz.zeroValue3,
 t4 := Tryz.underlying4,
 a4 := Tryz.isAgg4,
 z4 := Tryz.sizeOf4,
 v4 := Tryz.zeroValue4,
 t5 := Tryz.underlying5,
 a5 := Tryz.isAgg5,
 z5 := Tryz.sizeOf5,
 v5 := Tryz.zeroValue5,
 t9 := Tryz.underlying9,
 a9 := Tryz.isAgg9,
 z9 := Tryz.sizeOf9,
 v9 := Tryz.zeroValue9,
 t22 := Tryz.underlying55,
 a22 := Tryz.isAgg55,
 z22 := Tryz.sizeOf55,
 v22 := Tryz.zeroValue55,
 t25 := Tryz.underlying180,
 a25 := Tryz.isAgg180,
 z25 := Tryz.sizeOf180,
 v25 := Tryz.zeroValue180,
 t39 := Tryz.underlying145,
 a39 := Tryz.isAgg145,
 z39 := Tryz.sizeOf145,
 v39 := Tryz.zeroValue145,
 t45 := Tryz.underlying214,
 a45 := Tryz.isAgg214,
 z45 := Tryz.sizeOf214,
 v45 := Tryz.zeroValue214,
 t46 := Tryz.underlying215,
 a46 := Tryz.isAgg215,
 z46 := Tryz.sizeOf215,
 v46 := Tryz.zeroValue215,
 t50 := Tryz.underlying97,
 a50 := Tryz.isAgg97,
 z50 := Tryz.sizeOf97,
 v50 := Tryz.zeroValue97,
 t53 := Tryz.underlying141,
 a53 := Tryz.isAgg141,
 z53 := Tryz.sizeOf141,
 v53 := Tryz.zeroValue141,
 t55 := Tryz.underlying45,
 a55 := Tryz.isAgg45,
 z55 := Tryz.sizeOf45,
 v55 := Tryz.zeroValue45,
 t66 := Tryz.underlying233,
 a66 := Tryz.isAgg233,
 z66 := Tryz.sizeOf233,
 v66 := Tryz.zeroValue233,
 t70 := Tryz.underlying237,
 a70 := Tryz.isAgg237,
 z70 := Tryz.sizeOf237,
 v70 := Tryz.zeroValue237,
 t76 := Tryz.underlying243,
 a76 := Tryz.isAgg243,
 z76 := Tryz.sizeOf243,
 v76 := Tryz.zeroValue243,
 t77 := Tryz.underlying244,
 a77 := Tryz.isAgg244,
 z77 := Tryz.sizeOf244,
 v77 := Tryz.zeroValue244 }
def Z8U : Go.Shelf.Ren := ⟨fun | 125 => 102 | 128 => 125 | 129 => 126 | n => n, fun | 3 => 3 | 4 => 4 | 5 => 5 | 9 => 9 | 46 => 145 | 51 => 141 | 53 => 45 | n => n, fun | n => n⟩
theorem bitsL : Go.Proofs.Lays.n125 Tryz.prog Z8U := {
 mixed := by kernel_rfl,
 f125 := Tryz.func102.trans (congrArg some (by kernel_rfl)),
 f128 := Tryz.func125.trans (congrArg some (by kernel_rfl)),
 f129 := Tryz.func126.trans (congrArg some (by kernel_rfl)),
 t3 := Tryz.underlying3,
 a3 := Tryz.isAgg3,
 z3 := Tryz.sizeOf3,
 v3 := Tryz.zeroValue3,
 t4 := Tryz.underlying4,
 a4 := Tryz.isAgg4,
 z4 := Tryz.sizeOf4,
 v4 := Tryz.zeroValue4,
 t5 := Tryz.underlying5,
 a5 := Tryz.isAgg5,
 z5 := Tryz.sizeOf5,
 v5 := Tryz.zeroValue5,
 t9 := Tryz.underlying9,
 a9 := Tryz.isAgg9,
 z9 := Tryz.sizeOf9,
 v9 := Tryz.zeroValue9,
 t46 := Tryz.underlying145,
 a46 := Tryz.isAgg145,
 z46 := Tryz.sizeOf145,
 v46 := Tryz.zeroValue145,
 t51 := Tryz.underlying141,
 a51 := Tryz.isAgg141,
 z51 := Tryz.sizeOf141,
 v51 := Tryz.zeroValue141,
 t53 := Tryz.underlying45,
 a53 := Tryz.isAgg45,
 z53 := Tryz.sizeOf45,
 v53 := Tryz.zeroValue45 }
end Go.Proofs.YtgigjkjdmalmaaaGreat
namespace Go.Proofs.YtgigjkjdmalmaaaGreat
open Go.RowKit Go.Maps Go.Sort Go.Shelf Go.WideElems Go.MapKept
def Z8j (_ : Value) : Option (DataW Unit × List MemPlace) := some (.nil, [])
def Z1t {ν : Type} (l : List (Int × ν)) : List Int := (l.map (·.1)).mergeSort fun x y => decide (x ≤ y)
def I64 (z : Int) : Prop := -9223372036854775808 ≤ z ∧ z ≤ 9223372036854775807
theorem Z3P : ∀ a b : List Int, a.map encZ = b.map encZ → a = b
 | [], [], _ => rfl
 | [], _ :: _, h => by simp at h
 | _ :: _, [], h => by simp at h
 | x :: a, y :: b, h => by
  simp only [List.map_cons, List.cons.injEq] at h
  rw [encZ_inj h.1, Z3P a b h.2]
theorem Z63 {P : Program} {k : TypeId} (hk : P.underlying k = some (.int .i64)) {w : World} {b : Nat} {ν : Type} {encV : ν → Value} {l : List (Int × ν)} (h : MapAt w b (Value.int .i64) encV l) (hl : l.length ≤ 1000000) (hs : ∀ x ∈ l, I64 x.1) :
  ∃ D0 : DataW Unit, w.ownsMap P k Z8j b l.length D0 ∧ Maps.size D0 = l.length ∧ ∀ ss : List Int, ss.Perm (intKeys D0) → ss.Perm (l.map (·.1)) := by
 obtain ⟨es, clock, hb, he, hn, hp, hc⟩ := h
 have hlen : es.toList.length = l.length := by have := congrArg List.length he; simpa using this
 have hkeys := MapAt.keys he
 have hread : ∀ x ∈ es.toList, ∃ s : Int, x.key = encZ s ∧ I64 s := fun x hx => by
  have h1 : x.key ∈ (l.map (·.1)).map encZ := by rw [← hkeys]; exact List.mem_map_of_mem hx
  obtain ⟨s, hs1, hs2⟩ := List.mem_map.1 h1
  obtain ⟨y, hy, rfl⟩ := List.mem_map.1 hs1
  exact ⟨_, hs2.symm, hs y hy⟩
 have hkey : ∀ s : Int, I64 s → keyOf P k (encZ s) = some (.int .i64 s) := fun s hs => by
  simp only [encZ, keyOf, hk, mapKey]
  rw [if_pos ⟨trivial, by simp only [Lit.wf, IntKind.min, IntKind.max, IntKind.signed, IntKind.bits, Bool.and_eq_true, decide_eq_true_eq]; exact hs⟩]
 have F : Fit P k Z8j es clock := ⟨by have : es.size = l.length := (by simpa using hlen); unfold maxLen; omega, (stamped_iff es clock).2 ⟨hc, hp.imp (fun h => Nat.ne_of_lt h), by
   have h2 : (es.toList.map (·.key)).Pairwise (· ≠ ·) := by rw [hkeys]; exact List.pairwise_map.2 (hn.imp fun h e => h (encZ_inj e))
   exact List.pairwise_map.1 h2⟩, fun x hx => by
  obtain ⟨s, h1, h2⟩ := hread x hx
  exact ⟨_, by unfold WideElems.rd; rw [h1, hkey s h2]; rfl⟩⟩
 refine ⟨.map ((es.toList.map (rg P k Z8j)).foldr DataW.insert []), ⟨es, clock, hb, F, by have : es.size = l.length := (by simpa using hlen); omega, rfl⟩, ?_, fun ss hss => hss.trans ?_⟩
 ·rw [size_eq, length_sorted, List.length_map, hlen]
 ·refine ((Go.WideShapes.sorted_perm _).map fun p => Go.intOf p.1).trans ?_
  have : (es.toList.map (rg P k Z8j)).map (fun p => Go.intOf p.1) = l.map (·.1) := by
   refine Z3P _ _ ?_
   rw [← hkeys, List.map_map, List.map_map]
   refine List.map_congr_left fun x hx => ?_
   obtain ⟨s, h1, h2⟩ := hread x hx
   have : WideElems.rd P k Z8j x = some (.int .i64 s, .nil) := by unfold WideElems.rd; rw [h1, hkey s h2]; rfl
   show encZ (Go.intOf (rg P k Z8j x).1) = x.key
   rw [rg_of this, h1]
   rfl
  rw [this]
theorem Zcf (m : Nat) : AnyZI.SortsIn Tryz.prog Z4y Fence.wide m :=
  ⟨fun blk off cap ss W hH hblk hsz => callsIn_wide.2 (AnyM.slices_Sort_int sortA blk off cap ss W hH hblk hsz),
   fun p cap W => callsIn_wide.2 (AnyM.slices_Sort_int_none sortA p cap W)⟩
def encI (x : Int) : List Value := [.int .i64 x]
theorem Zaz (x : Int) : (encI x).length = 1 := rfl
theorem Z8D (w : World) (b : Nat) : Calls Tryz.prog 60 #[.map (some b)] w fun e w' => e = .returned (.func (.func 80) #[] #[.pointer (some ⟨w.heap.size, 0, none⟩)]) ∧ w' = w.alloc (.cells #[.map (some b)] 115) :=
 callsIn_wide.1 (AnyZI.keys_in keysS Fence.wide 5 trivial rfl (some b) w)
theorem Z8E {ν : Type} {encV : ν → Value} (w : World) (b bx : Nat) (l : List (Int × ν)) (hbx : w.cell? ⟨bx, 0, none⟩ = some (.map (some b))) (hm : MapAt w b (Value.int .i64) encV l) (hl : l.length ≤ 1000000) (hs : ∀ x ∈ l, I64 x.1) :
  Calls Tryz.prog 59 #[.func (.func 80) #[] #[.pointer (some ⟨bx, 0, none⟩)]] w fun e w' => ∃ u, e = .returned u ∧ (Zc 3 1 u (Z1t l).length ((Z1t l).flatMap encI)).ok w' ∧ Upd [] w w' ∧ ∀ k, u.ownBlock = some k → w.heap.size ≤ k := by
 obtain ⟨D0, hown, hsz, hperm⟩ := Z63 Tryz.underlying3 hm hl hs
 have hseq := AnyZI.keys_gives (ρ := Z6P) { keysS with } Fence.wide 2 trivial rfl (by omega) bx b l.length D0 w (World.block_lt_of_cell? _ _ hbx) hbx hown
 have cS := AnyZI.sorted_in Zce Fence.wide 5 trivial trivial trivial trivial rfl (by omega) (Zcf _) (enters_of Tryz.func79 (by kernel_rfl) rfl) 80 #[.pointer (some ⟨bx, 0, none⟩)] trivial (enters_of Tryz.func80 (by kernel_rfl) rfl) _ _ (by rw [hsz]; unfold maxLen; omega) (by rw [hsz]; omega) w hseq
 change CallsIn _ _ Tryz.prog 59 _ _ _ at cS
 refine (callsIn_wide.1 cS).mono ?_
 rintro e w' ⟨v, ss, rfl, hS, hrow, _, hb⟩
 have h1 := hperm ss hS
 have h2 : ss.length = (Z1t l).length := by unfold Z1t; rw [List.length_mergeSort, h1.length_eq]
 have h3 : ss.mergeSort (fun x y => decide (x ≤ y)) = Z1t l := mergeSort_of_perm_i h1
 have h4 : (Z1t l).map encZ = (Z1t l).flatMap encI := by rw [List.map_eq_flatMap]; rfl
 rw [h2, h3, h4] at hrow
 refine ⟨v, rfl, ⟨hrow.1, ?_⟩, Below.upd hb, fun k hk => ?_⟩
 ·rcases hrow.2 with hn | ⟨g, cap, cur, hv, hb, rest⟩
  ·exact .inl hn
  ·exact .inr ⟨g, cap, cur, hv, Nat.zero_le _, rest⟩
 ·rcases hrow.2 with ⟨rfl, _⟩ | ⟨g, cap, cur, rfl, hg, _⟩
  ·simp [Value.ownBlock] at hk
  ·simp [Value.ownBlock] at hk; omega
theorem Z3y {ν : Type} (l : List (Int × ν)) : (Z1t l).Perm (l.map (·.1)) := List.mergeSort_perm _ _
theorem Z71 {ν : Type} (l : List (Int × ν)) : (Z1t l).length = l.length := by rw [(Z3y l).length_eq, List.length_map]
theorem Za7 {ν : Type} {l : List (Int × ν)} {x : Int} : x ∈ Z1t l ↔ x ∈ l.map (·.1) := (Z3y l).mem_iff
theorem Z7F {ν : Type} {l : List (Int × ν)} (h : (l.map (·.1)).Nodup) : (Z1t l).Nodup := (Z3y l).nodup_iff.2 h
theorem Zbe {ν : Type} (l : List (Int × ν)) : (Z1t l).Pairwise (· ≤ ·) := by
 have tr : ∀ a b c : Int, (decide (a ≤ b)) = true → (decide (b ≤ c)) = true → (decide (a ≤ c)) = true := fun a b c h1 h2 => by simp only [decide_eq_true_eq] at *; omega
 have to : ∀ a b : Int, (decide (a ≤ b) || decide (b ≤ a)) = true := fun a b => by simp only [Bool.or_eq_true, decide_eq_true_eq]; omega
 exact (List.pairwise_mergeSort tr to (l.map (·.1))).imp fun h => of_decide_eq_true h
theorem Zbf {ν : Type} {l : List (Int × ν)} (h : (l.map (·.1)).Nodup) : (Z1t l).Pairwise (· < ·) := by
 have h1 := Zbe l
 have h2 := Z7F h
 exact List.Pairwise.imp₂ (fun a b h3 h4 => by omega) h1 h2
end Go.Proofs.YtgigjkjdmalmaaaGreat
namespace Go.Proofs.YtgigjkjdmalmaaaGreat
open Go.RowKit
section
variable {P : Program} {t : TypeId} {X : Type} [DecidableEq X]
structure Flat (P : Program) (t : TypeId) (enc : X → List Value) : Prop where
 eq : ∀ (w : World) (x y : X), (Op.equalIn 10000 t (.agg ⟨enc x⟩) (.agg ⟨enc y⟩)).run P w = .ok (decide (x = y)) w
 held : P.eqGuardType P.depth t = false
variable {enc : X → List Value}
theorem Flat.e_eq (F : Flat P t enc) {n : Nat} {f : Nat → Value} {w : World} {dst : Option Tmp} {ty : TypeId} {pos : String} {aft : Array Edge} {gd : Option (Nat × Bool)} {x y : Operand} {T : TypeId} (a b : X) (hx : ev n f x = .agg ⟨enc a⟩) (hy : ev n f y = .agg ⟨enc b⟩) :
  (execOp (ev n f) ⟨dst, .binOp .eql t x y T, ty, pos, aft, gd⟩).run P w = .ok (.value (.bool (decide (a = b)))) w := by
 have h : (Op.equalIn 10000 t (.agg ⟨enc a⟩) (.agg ⟨enc b⟩)).run P w = .ok (decide (a = b)) w := F.eq w a b
 simp only [execOp, hx, hy]
 simp only [Sem.run_bind, run_eqGuard_agg w _ _ _ _ _ _ F.held, Result.andThen_ok, run_eql_struct, h, Sem.run_pure]
end
noncomputable instance : DecidableEq Zk := fun _ _ => Classical.propDecidable _
noncomputable instance : DecidableEq Z0 := fun _ _ => Classical.propDecidable _
theorem Zav {n : Nat} {f : Nat → Value} {w : World} {dst : Option Tmp} {ty : TypeId} {pos : String} {aft : Array Edge} {gd : Option (Nat × Bool)} {x y : Operand} {T : TypeId} (a b c d : Int) (hx : ev n f x = .agg ⟨[.int .i64 a, .int .i64 b]⟩) (hy : ev n f y = .agg ⟨[.int .i64 c, .int .i64 d]⟩) :
  (execOp (ev n f) ⟨dst, .binOp .eql 43 x y T, ty, pos, aft, gd⟩).run Tryz.prog w = .ok (.value (.bool (decide (a = c ∧ b = d)))) w := by
 simp only [execOp, hx, hy]
 simp [go_sem]
 by_cases h1 : a = c <;> by_cases h2 : b = d <;> simp_all
end Go.Proofs.YtgigjkjdmalmaaaGreat
