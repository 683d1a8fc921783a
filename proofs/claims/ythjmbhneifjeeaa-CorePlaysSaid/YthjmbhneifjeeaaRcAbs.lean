/- WHAT IS PROVED: what comes to the document's core, and that it goes as the program's. Conditions: stated with each. -/
import Derived.Test.YthjmbhneifjeeaaRcMem
namespace Go.Proofs.Ythjmbhneifjeeaa
open Go.RowKit
def argB (round valid : Int) (h : Hash) : Bool := decide (round < 0) || decide (round > 1048576) || decide (valid < -1) || decide (valid ≥ round) || decide (h = hash0)
noncomputable def refPropD (D : CoreD) (round valid : Int) (h : Hash) (ok : Bool) : CoreD × List ActD :=
  if argB round valid h = true then (D, []) else if hasP D.P round = true then (D, []) else settleD (putD D round valid h ok)
noncomputable def refVoteD (D : CoreD) (kind round replica : Int) (h : Hash) : CoreD × List ActD :=
  if okV D.f D.L kind round replica = false then (D, []) else settleD (addD D kind round replica h)
theorem CI.put2 {D : CoreD} (h : CI D) {round valid : Int} {x : Hash} {ok : Bool} (hb : argB round valid x = false) : CI (putD D round valid x ok) := by
  simp [argB] at hb
  refine ⟨h.f, h.ep, h.rp, h.rd, h.st, h.V, h.R, nodup_put h.pk _ _, ?_⟩
  rintro ⟨r, p⟩ hx
  rcases mem_put _ _ hx with ⟨rfl, rfl⟩ | hx
  · refine ⟨by omega, by omega, by show -1 ≤ valid; omega, by show valid < r; omega, hb.2⟩
  · exact h.pr _ hx
theorem propBad_eq (D : CoreD) (round valid : Int) (h : Hash) (hd : D.s.decided = false) : propBad D round valid h = (argB round valid h || hasP D.P round) := by
  unfold propBad argB
  rw [hd]
  cases hasP D.P round <;> simp
/-- a core of the program's and one of the document's: alike till they decide; then their states are -/
structure RelC (D R : CoreD) : Prop where
  ci : CI D
  cr : CI R
  s : R.s = D.s
  same : D.s.decided = false → R = D
  k : R.f = D.f ∧ R.epoch = D.epoch ∧ R.replica = D.replica
theorem RelC.refl {D : CoreD} (h : CI D) : RelC D D := ⟨h, h, rfl, fun _ => rfl, rfl, rfl, rfl⟩
theorem stop_of {D : CoreD} (h : D.s.decided = true) : settleD D = (D, []) := settle_stop (by simp [goesB, h])
section
variable {D R : CoreD}
theorem RelC.prop (h : RelC D R) (round valid : Int) (x : Hash) (ok : Bool) : (refPropD R round valid x ok).2 = (proposeD D round valid x ok).2 ∧ RelC (proposeD D round valid x ok).1 (refPropD R round valid x ok).1 := by
  cases hd : D.s.decided with
  | false =>
    have e := h.same hd
    subst e
    have : refPropD R round valid x ok = proposeD R round valid x ok := by
      unfold refPropD proposeD
      rw [propBad_eq R _ _ _ hd]
      cases argB round valid x <;> cases hasP R.P round <;> rfl
    rw [this]
    exact ⟨rfl, RelC.refl (h.ci.propose _ _ _ _)⟩
  | true =>
    have e1 : proposeD D round valid x ok = (D, []) := by
      unfold proposeD
      rw [if_pos (by simp [propBad, hd])]
    have hr : R.s.decided = true := by rw [h.s]; exact hd
    rw [e1]
    unfold refPropD
    split
    · exact ⟨rfl, h⟩
    · rename_i ha
      split
      · exact ⟨rfl, h⟩
      · rw [stop_of (D := putD R round valid x ok) hr]
        exact ⟨rfl, h.ci, h.cr.put2 (by simpa using ha), h.s, fun q => (by rw [hd] at q; cases q), h.k⟩
theorem RelC.vote (h : RelC D R) (kind round p : Int) (x : Hash) : (refVoteD R kind round p x).2 = (voteD' D kind round p x).2 ∧ RelC (voteD' D kind round p x).1 (refVoteD R kind round p x).1 := by
  cases hd : D.s.decided with
  | false =>
    have e := h.same hd
    subst e
    have : refVoteD R kind round p x = voteD' R kind round p x := by
      unfold refVoteD voteD'
      rw [hd]
      cases okV R.f R.L kind round p <;> rfl
    rw [this]
    exact ⟨rfl, RelC.refl (h.ci.vote _ _ _ _)⟩
  | true =>
    have e1 : voteD' D kind round p x = (D, []) := by
      unfold voteD'
      rw [if_pos (.inl hd)]
    have hr : R.s.decided = true := by rw [h.s]; exact hd
    rw [e1]
    unfold refVoteD
    split
    · exact ⟨rfl, h⟩
    · rw [stop_of (D := addD R kind round p x) hr]
      exact ⟨rfl, h.ci, h.cr.addD _ _ _ _, h.s, fun q => (by rw [hd] at q; cases q), h.k⟩
theorem RelC.time (h : RelC D R) (kind round : Int) : (timeD R kind round).2 = (timeD D kind round).2 ∧ RelC (timeD D kind round).1 (timeD R kind round).1 := by
  cases hd : D.s.decided with
  | false =>
    have e := h.same hd
    subst e
    exact ⟨rfl, RelC.refl (h.ci.time _ _)⟩
  | true =>
    have e1 : timeD D kind round = (D, []) := by
      unfold timeD
      rw [if_pos (.inr (.inl hd))]
    have e2 : timeD R kind round = (R, []) := by
      unfold timeD
      rw [if_pos (.inr (.inl (by rw [h.s]; exact hd)))]
    rw [e1, e2]
    exact ⟨rfl, h⟩
theorem RelC.start (h : RelC D R) : (startD R).2 = (startD D).2 ∧ RelC (startD D).1 (startD R).1 := by
  cases hd : D.s.decided with
  | false =>
    have e := h.same hd
    subst e
    exact ⟨rfl, RelC.refl h.ci.start⟩
  | true =>
    have hr : R.s.decided = true := by rw [h.s]; exact hd
    by_cases hs : 0 < D.s.step
    · have e1 : startD D = (D, []) := by unfold startD; rw [if_pos hs]
      have e2 : startD R = (R, []) := by unfold startD; rw [if_pos (by rw [h.s]; exact hs)]
      rw [e1, e2]
      exact ⟨rfl, h⟩
    · have e1 : startD D = (toD D 0, enterA D 0 ++ []) := by unfold startD; rw [if_neg hs, stop_of (D := toD D 0) hd]
      have e2 : startD R = (toD R 0, enterA R 0 ++ []) := by unfold startD; rw [if_neg (by rw [h.s]; exact hs), stop_of (D := toD R 0) hr]
      rw [e1, e2]
      refine ⟨?_, h.ci.to 0 (by omega), h.cr.to 0 (by omega), ?_, fun q => ?_, h.k⟩
      · show enterA R 0 ++ [] = enterA D 0 ++ []
        unfold enterA
        rw [h.s, h.k.1, h.k.2.1, h.k.2.2]
      · show ({ R.s with round := 0, step := 1 } : StD) = { D.s with round := 0, step := 1 }
        rw [h.s]
      · rw [show (toD D 0).s.decided = D.s.decided from rfl, hd] at q; cases q
end
end Go.Proofs.Ythjmbhneifjeeaa
