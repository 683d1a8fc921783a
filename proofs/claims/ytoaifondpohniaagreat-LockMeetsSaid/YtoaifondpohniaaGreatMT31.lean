/- WHAT IS PROVED: contracts and plain laws of Make10M. Conditions: stated with each. -/
import Derived.Test.YtoaifondpohniaaGreatMT12
set_option maxHeartbeats 4000000
set_option maxRecDepth 100000
namespace Go.Proofs.YtoaifondpohniaaGreat
open Go.RowKit
def isR (x : Zk) (r : Int) (s : Ze) : Bool := decide (s.r = r) && Z2n s x
def Z2D (x : Zk) (L : List Ze) (r : Nat) : Option Ze := L.find? (isR x r)
def Z4x (x : Zk) (L : List Ze) (n : Nat) : List Ze := (List.range n).filterMap (Z2D x L)
theorem Z23 {x : Zk} {L : List Ze} {r : Nat} {s : Ze} (h : Z2D x L r = some s) : s.r = r ∧ Z2n s x = true ∧ s ∈ L := by
 have h1 := List.find?_some h
 have h2 := List.mem_of_find?_eq_some h
 simp only [isR, Bool.and_eq_true, decide_eq_true_eq] at h1
 exact ⟨h1.1, h1.2, h2⟩
theorem Z5d {x : Zk} {L : List Ze} {n : Nat} {s : Ze} : s ∈ Z4x x L n ↔ (0 ≤ s.r ∧ s.r < n) ∧ Z2D x L s.r.toNat = some s := by
 unfold Z4x
 rw [List.mem_filterMap]
 constructor
 ·rintro ⟨r, hr, hf⟩
  have := List.mem_range.1 hr
  obtain ⟨e, _, _⟩ := Z23 hf
  exact ⟨by omega, by rw [show s.r.toNat = r by omega]; exact hf⟩
 ·rintro ⟨hb, hf⟩
  exact ⟨s.r.toNat, List.mem_range.2 (by omega), hf⟩
theorem Z5S (x : Zk) (L : List Ze) (n : Nat) : Z4x x L (n + 1) = Z4x x L n ++ (Z2D x L n).toList := by
 unfold Z4x
 rw [List.range_succ, List.filterMap_append]
 congr 1
theorem Z6k (x : Zk) (L : List Ze) (n : Nat) : (Z4x x L n).Pairwise fun a b => a.r < b.r := by
 induction n with
 | zero => simp [Z4x]
 | succ n ih =>
  rw [Z5S]
  refine List.pairwise_append.2 ⟨ih, ?_, fun a ha b hb => ?_⟩
  ·cases Z2D x L n <;> simp
  ·have h1 := (Z5d.1 ha).1
   cases hf : Z2D x L n with
   | none => rw [hf] at hb; simp at hb
   | some t =>
    rw [hf] at hb
    obtain rfl : b = t := by simpa using hb
    obtain ⟨e, _, _⟩ := Z23 hf
    omega
end Go.Proofs.YtoaifondpohniaaGreat
