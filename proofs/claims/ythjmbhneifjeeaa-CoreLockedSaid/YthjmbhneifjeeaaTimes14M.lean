/- WHAT IS PROVED: what a core does to which timers alone come. Conditions: stated with each. -/
import Derived.Test.YthjmbhneifjeeaaWakes14
namespace Go.Proofs.Ythjmbhneifjeeaa
open Go.RowKit
section
variable {F : Int} (hf : 1 ≤ F ∧ F ≤ 3)
include hf
theorem newOk14 : newOk F 1 0 (3 * F + 1 - 1) = true := by
  simp [newOk, confB, inB]; omega
theorem own_last (r : Int) (hr : 0 ≤ r ∧ r ≤ 2) : proposerV F 0 r ≠ 3 * F + 1 - 1 := by
  unfold proposerV
  rw [show max 0 (0 : Int) = 0 from rfl, show max 0 r = r by omega, Int.zero_emod, Int.zero_add, Int.emod_emod_of_dvd _ (Int.dvd_refl _), Int.emod_eq_of_lt (by omega) (by omega)]
  omega
end
def tD1 (F : Int) : CoreD := toD (newD F 1 0 (3 * F + 1 - 1)) 0
def tD2 (F : Int) : CoreD := ownV (tD1 F) 1 2 hash0
def tD3 (F : Int) : CoreD := ownV (tD2 F) 2 3 hash0
def tD4 (F : Int) : CoreD := toD (tD3 F) 1
theorem tL2 (F : Int) : (tD2 F).L.length ≤ 1 := by
  have := addV_len F [] ⟨1, 0, 3 * F + 1 - 1, hash0⟩
  exact this
theorem tL3 (F : Int) : (tD3 F).L.length ≤ 2 := by
  have := addV_len F (tD2 F).L ⟨2, 0, 3 * F + 1 - 1, hash0⟩
  have h := tL2 F
  exact Nat.le_trans this (by omega)
theorem addV_round {f : Int} {L : List VoteD} {v : VoteD} {r : Int} (h : ∀ u ∈ L, u.round ≤ r) (hv : v.round ≤ r) : ∀ u ∈ addV f L v, u.round ≤ r := by
  intro u hu
  unfold addV at hu
  split at hu
  · rcases List.mem_append.1 hu with hu | hu
    · exact h u hu
    · rw [List.mem_singleton.1 hu]; exact hv
  · exact h u hu
theorem tR2 (F : Int) : ∀ v ∈ (tD2 F).L, v.round ≤ 0 := addV_round (L := []) (by simp) (Int.le_refl 0)
theorem tR3 (F : Int) : ∀ v ∈ (tD3 F).L, v.round ≤ 0 := addV_round (tR2 F) (Int.le_refl 0)
theorem tS1 {F : Int} (hf : 1 ≤ F) : settleD (tD1 F) = (tD1 F, []) := settle_none (rule_quiet rfl hf (by simp [tD1, toD, newD]) (by simp [tD1, toD, newD]))
theorem tS2 {F : Int} (hf : 1 ≤ F) : settleD (tD2 F) = (tD2 F, []) := settle_none (rule_quiet rfl hf (by have := tL2 F; omega) (tR2 F))
theorem tS3 {F : Int} (hf : 1 ≤ F) : settleD (tD3 F) = (tD3 F, []) := settle_none (rule_quiet rfl hf (tL3 F) (tR3 F))
theorem tS4 {F : Int} (hf : 1 ≤ F) : settleD (tD4 F) = (tD4 F, []) := settle_none (rule_quiet rfl hf (tL3 F) (fun v hv => by have := tR3 F v hv; show v.round ≤ 1; omega))
theorem tE1 (F : Int) : timeD (newD F 1 0 (3 * F + 1 - 1)) 1 0 = (newD F 1 0 (3 * F + 1 - 1), []) := by
  rw [timeD_b, if_pos (show timeBad (newD F 1 0 (3 * F + 1 - 1)) 0 = true from rfl)]
theorem tE2 {F : Int} (hf : 1 ≤ F) : startD (newD F 1 0 (3 * F + 1 - 1)) = (tD1 F, enterA (newD F 1 0 (3 * F + 1 - 1)) 0) := by
  unfold startD
  rw [if_neg (by simp [newD, newS])]
  show ((settleD (tD1 F)).1, enterA _ 0 ++ (settleD (tD1 F)).2) = _
  rw [tS1 hf, List.append_nil]
theorem tE3 {F : Int} (k r : Int) (hr : r ≠ 0) : timeD (tD1 F) k r = (tD1 F, []) := by
  rw [timeD_b, if_pos (by simp [timeBad, tD1, toD, hr])]
theorem tE4 {F : Int} (hf : 1 ≤ F) : timeD (tD1 F) 1 0 = (tD2 F, [⟨2, 0, -1, hash0⟩]) := by
  rw [timeD_b, if_neg (by simp [timeBad, tD1, toD, newD, newS]), if_pos (by simp [tD1, toD])]
  show ((settleD (tD2 F)).1, ownA (tD1 F) 2 hash0 ++ (settleD (tD2 F)).2) = _
  rw [tS2 hf]; rfl
theorem tE5 {F : Int} (hf : 1 ≤ F) : timeD (tD2 F) 1 0 = (tD2 F, []) := by
  rw [timeD_b, if_neg (by simp [timeBad, tD2, ownV, tD1, toD, newD, newS]), if_neg (by simp [tD2, ownV]), if_neg (by simp), if_neg (by decide), tS2 hf]
theorem tE6 {F : Int} (hf : 1 ≤ F) : timeD (tD2 F) 2 0 = (tD3 F, [⟨3, 0, -1, hash0⟩]) := by
  rw [timeD_b, if_neg (by simp [timeBad, tD2, ownV, tD1, toD, newD, newS]), if_neg (by simp), if_pos (by simp [tD2, ownV])]
  show ((settleD (tD3 F)).1, ownA (tD2 F) 3 hash0 ++ (settleD (tD3 F)).2) = _
  rw [tS3 hf]; rfl
theorem tE7 {F : Int} (hf : 1 ≤ F) : timeD (tD3 F) 2 0 = (tD3 F, []) := by
  rw [timeD_b, if_neg (by simp [timeBad, tD3, tD2, ownV, tD1, toD, newD, newS]), if_neg (by simp), if_neg (by simp [tD3, ownV]), if_neg (by decide), tS3 hf]
theorem tE8 {F : Int} (hf : 1 ≤ F ∧ F ≤ 3) : timeD (tD3 F) 3 0 = (tD4 F, [⟨4, 1, 1, hash0⟩]) := by
  rw [timeD_b, if_neg (by simp [timeBad, tD3, tD2, ownV, tD1, toD, newD, newS]), if_neg (by simp), if_neg (by simp), if_pos rfl]
  have e : (tD3 F).s.round + 1 = 1 := rfl
  rw [e, show nextD (tD3 F) 1 = tD4 F from if_pos (by decide), show nextA (tD3 F) 1 = enterA (tD3 F) 1 from if_pos (by decide), tS4 hf.1]
  rw [show enterA (tD3 F) 1 = [⟨4, 1, 1, hash0⟩] from if_neg (own_last hf 1 (by omega))]
  rfl
end Go.Proofs.Ythjmbhneifjeeaa
