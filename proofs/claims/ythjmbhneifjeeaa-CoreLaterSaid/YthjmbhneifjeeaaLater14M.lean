/- WHAT IS PROVED: what a core does to which F + 1 precommits of a later round and its proposal come. Conditions: stated with each. -/
import Derived.Test.YthjmbhneifjeeaaTimes14M
import Derived.Test.YthjmbhneifjeeaaCoreRun
namespace Go.Proofs.Ythjmbhneifjeeaa
open Go.RowKit
/-- in round 0, with k of those votes -/
def lB (F : Int) (P : List (Int × PropD)) (k : Nat) : CoreD := ⟨F, 1, 0, 3 * F + 1 - 1, ⟨0, 1, -1, -1, hash0, hash0, false, hash0⟩, gv 2 2 hash0 k, P, false, false, false⟩
/-- in round 2 -/
def lT (F : Int) (P : List (Int × PropD)) (k : Nat) : CoreD := ⟨F, 1, 0, 3 * F + 1 - 1, ⟨2, 1, -1, -1, hash0, hash0, false, hash0⟩, gv 2 2 hash0 k, P, false, false, false⟩
def lP (x : Hash) (ok : Bool) : List (Int × PropD) := [(2, ⟨-1, x, ok⟩)]
section
variable {F : Int} {x : Hash} {ok : Bool} (hf : 1 ≤ F ∧ F ≤ 3)
include hf
omit hf in
theorem lP_ci (hx : x ≠ hash0) {P : List (Int × PropD)} (hP : P = [] ∨ P = lP x ok) : (P.map (·.1)).Nodup ∧ ∀ q ∈ P, 0 ≤ q.1 ∧ q.1 ≤ 1048576 ∧ -1 ≤ q.2.valid ∧ q.2.valid < q.1 ∧ q.2.h ≠ hash0 := by
  rcases hP with rfl | rfl
  · simp
  · simp [lP, hx]
theorem lB_ci (hx : x ≠ hash0) {P : List (Int × PropD)} (hP : P = [] ∨ P = lP x ok) (k : Nat) (hk : (k : Int) ≤ F + 1) : CI (lB F P k) := by
  have h := lP_ci (ok := ok) hx hP
  refine ⟨by simp [lB]; omega, by simp [lB], by simp [lB]; omega, by simp [lB], by simp [lB], gv_inv _ _ _ _ _ (by show (k : Int) ≤ 3 * F + 1; omega), ?_, h.1, h.2⟩
  intro v hv
  have := gv_mem hv
  omega
theorem lT_ci (hx : x ≠ hash0) {P : List (Int × PropD)} (hP : P = [] ∨ P = lP x ok) (k : Nat) (hk : (k : Int) ≤ F + 1) : CI (lT F P k) :=
  (lB_ci hf hx hP k hk).to 2 (by omega)
omit hf in
theorem l_for (hx : x ≠ hash0) (k : Nat) (r : Int) : forV (gv 2 2 hash0 k) 2 r x = 0 := forV_none (fun v hv => by
  have := gv_mem hv
  rintro ⟨_, _, e⟩
  exact hx (e ▸ this.2.2.1))
theorem lB_still (hx : x ≠ hash0) {P : List (Int × PropD)} (hP : P = [] ∨ P = lP x ok) (k : Nat) (hk : (k : Int) ≤ F) : Still (lB F P k) := by
  refine ⟨?_, ?_, ?_, ?_, ?_, ?_, ?_⟩
  · intro q hq _
    have hq : q ∈ P := hq
    rcases hP with rfl | rfl
    · simp at hq
    · simp only [lP, List.mem_singleton] at hq
      subst hq
      show forV (gv 2 2 hash0 k) 2 2 x < 2 * F + 1
      rw [l_for hx]; omega
  · intro v _ _
    have h1 := heard_le_count F (gv 2 2 hash0 k) v.round
    have h2 := List.countP_le_length (l := gv 2 2 hash0 k) (p := fun u => decide (v.round ≤ u.round))
    rw [gv_len] at h2
    show heardV F (gv 2 2 hash0 k) v.round < F + 1
    omega
  · intro _ hh
    rcases hP with rfl | rfl <;> simp [lB, hasP, lookM, lP] at hh
  · intro h; simp [lB] at h
  · intro h; simp [lB] at h
  · intro h; simp [lB] at h
  · intro _
    show allV (gv 2 2 hash0 k) 2 0 < 2 * F + 1
    rw [allV_none (fun v hv => by have := gv_mem hv; omega)]; omega
theorem lB_vote (hx : x ≠ hash0) {P : List (Int × PropD)} (hP : P = [] ∨ P = lP x ok) (k : Nat) (hk : (k : Int) < F) : voteD' (lB F P k) 2 2 (k : Int) hash0 = (lB F P (k + 1), []) := by
  have hok : okV F (gv 2 2 hash0 k) 2 2 (k : Int) = true := gv_ok (fun v hv _ _ => (gv_mem hv).2.2.2.2) (.inr rfl) (by omega) (by omega)
  unfold voteD'
  rw [if_neg (by show ¬ (false = true ∨ okV F (gv 2 2 hash0 k) 2 2 (k : Int) = false); rw [hok]; simp)]
  have e : addD (lB F P k) 2 2 (k : Int) hash0 = lB F P (k + 1) := by
    unfold addD lB
    rw [show addV F (gv 2 2 hash0 k) ⟨2, 2, k, hash0⟩ = gv 2 2 hash0 (k + 1) from by rw [gv_succ]; exact addV_yes (v := ⟨2, 2, k, hash0⟩) hok]
  rw [e]
  exact settle_none (lB_still hf hx hP (k + 1) (by omega)).none
theorem lB_votes (hx : x ≠ hash0) {P : List (Int × PropD)} (hP : P = [] ∨ P = lP x ok) : ∀ k : Nat, (k : Int) ≤ F → votesD (lB F P 0) 2 2 hash0 k = lB F P k ∧ votesA (lB F P 0) 2 2 hash0 k = []
  | 0, _ => ⟨rfl, rfl⟩
  | k + 1, hk => by
    obtain ⟨h1, h2⟩ := lB_votes hx hP k (by omega)
    have h3 := lB_vote hf hx hP k (by omega)
    simp only [votesD, votesA, h1, h2, h3, List.append_nil, and_self]
/-- the vote behind which there are enough: the round is entered -/
theorem lB_go (hx : x ≠ hash0) {P : List (Int × PropD)} (hP : P = [] ∨ P = lP x ok) (k : Nat) (hk : (k : Int) = F + 1) : ruleD (lB F P k) = some (lT F P k, [⟨4, 2, 1, hash0⟩]) := by
  have h1 : leastV F (gv 2 2 hash0 k) P = -1 := leastV_neg (fun q hq => by
    rcases hP with rfl | rfl
    · simp at hq
    · simp only [lP, List.mem_singleton] at hq
      subst hq
      unfold leastP
      rw [l_for hx]
      cases ok <;> simp; omega)
  have h2 : farV F (gv 2 2 hash0 k) 0 (F + 1) = 2 := by
    have hall := all_heard (gv_inv F 2 2 hash0 k (by omega)) 2 2
    rw [gv_all] at hall
    refine farV_eq (fun v hv _ => (gv_mem hv).2.1) ⟨⟨2, 2, ((0 : Nat) : Int), hash0⟩, List.mem_map.2 ⟨0, by rw [List.mem_range]; omega, rfl⟩, rfl⟩ (by omega) (by omega) (by omega)
  rw [ruleD_b]
  show (if leastV F (gv 2 2 hash0 k) P ≥ 0 then _ else if farV F (gv 2 2 hash0 k) 0 (F + 1) ≥ 0 then some (toD (lB F P k) (farV F (gv 2 2 hash0 k) 0 (F + 1)), enterA (lB F P k) (farV F (gv 2 2 hash0 k) 0 (F + 1))) else _) = _
  rw [if_neg (by rw [h1]; omega), if_pos (by rw [h2]; omega), h2]
  rw [show enterA (lB F P k) 2 = [⟨4, 2, 1, hash0⟩] from if_neg (own_last hf 2 (by omega))]
  rfl
theorem lT_still (k : Nat) (hk : (k : Int) = F + 1) : Still (lT F [] k) := by
  refine ⟨by simp [lT], ?_, ?_, ?_, ?_, ?_, ?_⟩
  · intro v hv hr
    have hv : v ∈ gv 2 2 hash0 k := hv
    have := gv_mem hv
    have hr : 2 < v.round := hr
    omega
  · intro _ hh; simp [lT, hasP, lookM] at hh
  · intro h; simp [lT] at h
  · intro h; simp [lT] at h
  · intro h; simp [lT] at h
  · intro _
    show allV (gv 2 2 hash0 k) 2 2 < 2 * F + 1
    rw [gv_all]; omega
def lU (F : Int) (x : Hash) (ok : Bool) (k : Nat) (want : Hash) : CoreD := ownV (lT F (lP x ok) k) 1 2 want
theorem lT_rule (hx : x ≠ hash0) (k : Nat) (hk : (k : Int) = F + 1) {want : Hash} (hw : want = if ok = true then x else hash0) : ruleD (lT F (lP x ok) k) = some (lU F x ok k want, [⟨2, 2, -1, want⟩]) := by
  have h1 : leastV F (gv 2 2 hash0 k) (lP x ok) = -1 := leastV_neg (fun q hq => by
    simp only [lP, List.mem_singleton] at hq
    subst hq
    unfold leastP
    rw [l_for hx]
    cases ok <;> simp; omega)
  have h2 : farV F (gv 2 2 hash0 k) 2 (F + 1) = -1 := farV_neg (fun v hv => by
    have := gv_mem hv
    simp [farP, this])
  have h3 : chooseD (lT F (lP x ok) k) ⟨-1, x, ok⟩ = (want, true) := by
    subst hw
    cases ok <;> simp [chooseD, mayB, lT]
  have hp : getP (lP x ok) 2 = ⟨-1, x, ok⟩ := by simp [getP, lookM, lP]
  rw [ruleD_b]
  show (if leastV F (gv 2 2 hash0 k) (lP x ok) ≥ 0 then _ else if farV F (gv 2 2 hash0 k) 2 (F + 1) ≥ 0 then _ else if (c3 (lT F (lP x ok) k) && (chooseD (lT F (lP x ok) k) (getP (lP x ok) 2)).2) = true then some (ownV (lT F (lP x ok) k) 1 2 (chooseD (lT F (lP x ok) k) (getP (lP x ok) 2)).1, ownA (lT F (lP x ok) k) 2 (chooseD (lT F (lP x ok) k) (getP (lP x ok) 2)).1) else _) = _
  rw [if_neg (by rw [h1]; omega), if_neg (by rw [h2]; omega), hp, h3, if_pos (by simp [c3, lT, hasP, lookM, lP])]
  rfl
theorem lU_still (hx : x ≠ hash0) (k : Nat) (hk : (k : Int) = F + 1) (want : Hash) : Still (lU F x ok k want) := by
  have hc := (lT_ci (ok := ok) hf hx (.inr rfl) k (by omega)).own 1 2 (by omega) want
  have h1 : ∀ r, allV (lU F x ok k want).L 1 r ≤ 1 := fun r => all_one hc.V 1 r (3 * F + 1 - 1) (fun v hv hk' _ => by
    rcases mem_addV hv with hv | rfl
    · have hv : v ∈ gv 2 2 hash0 k := hv
      have := gv_mem hv; omega
    · rfl)
  have h1' : ∀ r y, forV (lU F x ok k want).L 1 r y ≤ 1 := fun r y => Int.le_trans (forV_le_all _ _ _ _) (h1 r)
  have h2 : ∀ r y, forV (lU F x ok k want).L 2 r y = forV (gv 2 2 hash0 k) 2 r y := fun r y => by
    have e : (lU F x ok k want).L.filter (fun v => decide (v.kind = 2)) = (gv 2 2 hash0 k).filter (fun v => decide (v.kind = 2)) := by
      show (addV F (gv 2 2 hash0 k) _).filter _ = _
      unfold addV
      split
      · rw [List.filter_append]; simp
      · rfl
    rw [forV_filter, e, ← forV_filter]
  have h3 : allV (lU F x ok k want).L 2 2 ≤ F + 1 := by
    show allV (addV F (gv 2 2 hash0 k) _) 2 2 ≤ F + 1
    have : allV (gv 2 2 hash0 k) 2 2 = k := gv_all _ _ _ _
    unfold addV
    split
    · rw [allV_app, this, allV_none (by simp)]; omega
    · omega
  refine ⟨?_, ?_, ?_, ?_, ?_, ?_, ?_⟩
  · intro q hq _
    have hq : q ∈ lP x ok := hq
    simp only [lP, List.mem_singleton] at hq
    subst hq
    rw [h2, l_for hx]
    show (0 : Int) < 2 * F + 1
    omega
  · intro v hv hr
    have hr : 2 < v.round := hr
    rcases mem_addV hv with hv | rfl
    · have hv : v ∈ gv 2 2 hash0 k := hv
      have := gv_mem hv; omega
    · have : (2 : Int) < 2 := hr
      omega
  · intro h; simp [lU, ownV] at h
  · intro _ _ _ _; have := h1' 2 (getP (lP x ok) 2).h; show forV (lU F x ok k want).L 1 2 (getP (lP x ok) 2).h < 2 * F + 1; omega
  · intro _; have := h1' 2 hash0; show forV (lU F x ok k want).L 1 2 hash0 < 2 * F + 1; omega
  · intro _ _; have := h1 2; show allV (lU F x ok k want).L 1 2 < 2 * F + 1; omega
  · intro _; show allV (lU F x ok k want).L 2 2 < 2 * F + 1; omega
theorem lT_settle (hx : x ≠ hash0) (k : Nat) (hk : (k : Int) = F + 1) {want : Hash} (hw : want = if ok = true then x else hash0) : settleD (lT F (lP x ok) k) = (lU F x ok k want, [⟨2, 2, -1, want⟩]) :=
  settle_one (lT_ci hf hx (.inr rfl) k (by omega)) rfl (lT_rule hf hx k hk hw) (.inr (lU_still hf hx k hk want).none)
theorem lB_last {P : List (Int × PropD)} (k : Nat) (hk : (k : Int) = F) : voteD' (lB F P k) 2 2 (k : Int) hash0 = settleD (lB F P (k + 1)) := by
  have hok : okV F (gv 2 2 hash0 k) 2 2 (k : Int) = true := gv_ok (fun v hv _ _ => (gv_mem hv).2.2.2.2) (.inr rfl) (by omega) (by omega)
  unfold voteD'
  rw [if_neg (by show ¬ (false = true ∨ okV F (gv 2 2 hash0 k) 2 2 (k : Int) = false); rw [hok]; simp)]
  have e : addD (lB F P k) 2 2 (k : Int) hash0 = lB F P (k + 1) := by
    unfold addD lB
    rw [show addV F (gv 2 2 hash0 k) ⟨2, 2, k, hash0⟩ = gv 2 2 hash0 (k + 1) from by rw [gv_succ]; exact addV_yes (v := ⟨2, 2, k, hash0⟩) hok]
  rw [e]
theorem later_early (hx : x ≠ hash0) {want : Hash} (hw : want = if ok = true then x else hash0) (n : Nat) (hn : (n : Int) = F + 1) :
    proposeD (tD1 F) 2 (-1) x ok = (lB F (lP x ok) 0, []) ∧ LaterOk want (votesA (lB F (lP x ok) 0) 2 2 hash0 n) (votesD (lB F (lP x ok) 0) 2 2 hash0 n) := by
  obtain ⟨k, rfl⟩ : ∃ k, n = k + 1 := ⟨n - 1, by omega⟩
  obtain ⟨h1, h2⟩ := lB_votes (ok := ok) hf hx (.inr rfl) k (by omega)
  have h3 : settleD (lB F (lP x ok) (k + 1)) = (lU F x ok (k + 1) want, [⟨4, 2, 1, hash0⟩, ⟨2, 2, -1, want⟩]) := by
    rw [settle_step (lB_ci hf hx (.inr rfl) (k + 1) (by omega)) rfl (lB_go hf hx (.inr rfl) (k + 1) hn), lT_settle hf hx (k + 1) hn hw]
    rfl
  refine ⟨?_, ?_⟩
  · have hb : propBad (tD1 F) 2 (-1) x = false := by simp [propBad, tD1, toD, newD, newS, hasP, lookM, hx]
    unfold proposeD
    rw [if_neg (by rw [hb]; simp)]
    exact settle_none (lB_still hf hx (.inr rfl) 0 (by omega)).none
  · simp only [votesA, votesD, h1, h2, lB_last hf k (by omega), h3, List.nil_append]
    exact ⟨by simp, rfl, rfl, rfl⟩
theorem later_late (hx : x ≠ hash0) {want : Hash} (hw : want = if ok = true then x else hash0) (n : Nat) (hn : (n : Int) = F + 1) :
    LaterOk want (votesA (lB F [] 0) 2 2 hash0 n ++ (proposeD (votesD (lB F [] 0) 2 2 hash0 n) 2 (-1) x ok).2) (proposeD (votesD (lB F [] 0) 2 2 hash0 n) 2 (-1) x ok).1 := by
  obtain ⟨k, rfl⟩ : ∃ k, n = k + 1 := ⟨n - 1, by omega⟩
  obtain ⟨h1, h2⟩ := lB_votes (ok := ok) hf hx (.inl rfl) k (by omega)
  have h3 : settleD (lB F [] (k + 1)) = (lT F [] (k + 1), [⟨4, 2, 1, hash0⟩]) :=
    settle_one (lB_ci (ok := ok) hf hx (.inl rfl) (k + 1) (by omega)) rfl (lB_go (ok := ok) hf hx (.inl rfl) (k + 1) hn) (.inr (lT_still hf (k + 1) hn).none)
  have hb : propBad (lT F [] (k + 1)) 2 (-1) x = false := by simp [propBad, lT, hasP, lookM, hx]
  have h4 : proposeD (lT F [] (k + 1)) 2 (-1) x ok = (lU F x ok (k + 1) want, [⟨2, 2, -1, want⟩]) := by
    unfold proposeD
    rw [if_neg (by rw [hb]; simp)]
    exact lT_settle hf hx (k + 1) hn hw
  simp only [votesA, votesD, h1, h2, lB_last hf k (by omega), h3, h4, List.nil_append]
  exact ⟨by simp, rfl, rfl, rfl⟩
end
end Go.Proofs.Ythjmbhneifjeeaa
