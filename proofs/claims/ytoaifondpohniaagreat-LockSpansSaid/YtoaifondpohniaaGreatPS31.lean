/- WHAT IS PROVED: contracts and plain laws of Make10M. Conditions: stated with each. -/
import Derived.Test.YtoaifondpohniaaGreatPS12
set_option maxHeartbeats 4000000
set_option maxRecDepth 100000
namespace Go.Proofs.YtoaifondpohniaaGreat
open Go.RowKit
def isR (x : Zn) (r : Int) (s : Zd) : Bool := decide (s.r = r) && Z2p s x
def Z2I (x : Zn) (L : List Zd) (r : Nat) : Option Zd := L.find? (isR x r)
def Z8e (x : Zn) (L : List Zd) (n : Nat) : List Zd := (List.range n).filterMap (Z2I x L)
theorem Z2z {x : Zn} {L : List Zd} {r : Nat} {s : Zd} (h : Z2I x L r = some s) : s.r = r ∧ Z2p s x = true ∧ s ∈ L := by
 have h1 := List.find?_some h
 have h2 := List.mem_of_find?_eq_some h
 simp only [isR, Bool.and_eq_true, decide_eq_true_eq] at h1
 exact ⟨h1.1, h1.2, h2⟩
theorem Z84 {x : Zn} {L : List Zd} {n : Nat} {s : Zd} : s ∈ Z8e x L n ↔ (0 ≤ s.r ∧ s.r < n) ∧ Z2I x L s.r.toNat = some s := by
 unfold Z8e
 rw [List.mem_filterMap]
 constructor
 ·rintro ⟨r, hr, hf⟩
  have := List.mem_range.1 hr
  obtain ⟨e, _, _⟩ := Z2z hf
  exact ⟨by omega, by rw [show s.r.toNat = r by omega]; exact hf⟩
 ·rintro ⟨hb, hf⟩
  exact ⟨s.r.toNat, List.mem_range.2 (by omega), hf⟩
theorem Z6Q (x : Zn) (L : List Zd) (n : Nat) : Z8e x L (n + 1) = Z8e x L n ++ (Z2I x L n).toList := by
 unfold Z8e
 rw [List.range_succ, List.filterMap_append]
 congr 1
end Go.Proofs.YtoaifondpohniaaGreat
