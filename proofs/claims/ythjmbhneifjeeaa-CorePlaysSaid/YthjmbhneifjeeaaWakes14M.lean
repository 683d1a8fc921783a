/- WHAT IS PROVED: what a core does that nobody has spoken to. Conditions: stated with each. -/
import Derived.Test.YthjmbhneifjeeaaCoreMem
namespace Go.Proofs.Ythjmbhneifjeeaa
open Go.RowKit
/-- few votes, no proposal: no rule holds -/
theorem rule_quiet {D : CoreD} (hP : D.P = []) (hf : 1 ≤ D.f) (hl : D.L.length ≤ 2) (hr : ∀ v ∈ D.L, v.round ≤ D.s.round) : ruleD D = none := by
  have hleast : leastV D.f D.L D.P = -1 := by rw [hP]; rfl
  have hfar : farV D.f D.L D.s.round (D.f + 1) = -1 := by
    unfold farV
    rw [show (D.L.map (·.round)).filter (farP D.f D.L D.s.round (D.f + 1)) = [] from by
      rw [List.filter_eq_nil_iff]
      intro r hr'
      obtain ⟨v, hv, rfl⟩ := List.mem_map.1 hr'
      have := hr v hv
      simp only [farP, Bool.and_eq_true, decide_eq_true_eq, not_and]
      omega]
    rfl
  have hhas : hasP D.P D.s.round = false := by rw [hP]; rfl
  have h1 := forV_bd D.L 1 D.s.round hash0
  have h2 := allV_bd D.L 1 D.s.round
  have h3 := allV_bd D.L 2 D.s.round
  rw [ruleD_b, if_neg (by rw [hleast]; omega), if_neg (by rw [hfar]; omega), if_neg (by simp [c3, hhas]), if_neg (by simp [c4, hhas]),
    if_neg (by simp only [c5, Bool.and_eq_true, decide_eq_true_eq]; omega), if_neg (by simp only [c6, Bool.and_eq_true, decide_eq_true_eq]; omega), if_neg (by simp only [c7, Bool.and_eq_true, decide_eq_true_eq]; omega)]
def wakesD : CoreD := toD (newD 1 1 0 0) 0
theorem wakesCI : CI (newD 1 1 0 0) := CI.new rfl
theorem wakesCI2 : CI wakesD := wakesCI.to 0 (by omega)
theorem wakes_start : startD (newD 1 1 0 0) = (wakesD, [⟨1, 0, -1, hash0⟩]) := by
  have hs : settleD wakesD = (wakesD, []) := settle_none (rule_quiet rfl (by decide) (by decide) (by simp [wakesD, toD, newD]))
  unfold startD
  rw [if_neg (by decide)]
  show ((settleD wakesD).1, enterA (newD 1 1 0 0) 0 ++ (settleD wakesD).2) = _
  rw [hs]
  rfl
end Go.Proofs.Ythjmbhneifjeeaa
