/- WHAT IS PROVED: which round a core is in to which votes of two later rounds come. Conditions: stated with each. -/
import Derived.Test.YthjmbhneifjeeaaTimes14M
import Derived.Test.YthjmbhneifjeeaaCoreRun
namespace Go.Proofs.Ythjmbhneifjeeaa
open Go.RowKit
def skP (F : Int) (who : List Int) (k : Nat) : Int := withinV (who.getD k 0) (3 * F + 1 - 1)
noncomputable def skD (F R K : Int) (who : List Int) (D : CoreD) : Nat → CoreD
  | 0 => D
  | k + 1 => (voteD' (skD F R K who D k) K (R + (k : Int) % 2) (skP F who k) hash0).1
def skM (F : Int) (who : List Int) : Nat → List (Int × Bool)
  | 0 => []
  | k + 1 => putM (skM F who k) (skP F who k) true
theorem skCI {F R K : Int} {who : List Int} {D : CoreD} (h : CI D) : ∀ k, CI (skD F R K who D k)
  | 0 => h
  | k + 1 => (skCI h k).vote _ _ _ _
structure SkOk (F R : Int) (D : CoreD) (M : List (Int × Bool)) : Prop where
  r : (decide (D.s.round ≥ R) == decide ((M.length : Int) ≥ F + 1)) = true
  m : D.s.round ≤ R + 1
  l : D.s.lr = -1
/-- what holds all the way -/
structure SK (F R : Int) (M : List (Int × Bool)) (D : CoreD) : Prop where
  ci : CI D
  f : D.f = F
  P : D.P = []
  st : D.s.step = 1
  lr : D.s.lr = -1
  dec : D.s.decided = false
  L : ∀ v ∈ D.L, (v.round = R ∨ v.round = R + 1) ∧ v.replica ∈ M.map (·.1)
  K : ∀ p ∈ M.map (·.1), ∃ v ∈ D.L, v.replica = p
  nd : (M.map (·.1)).Nodup
  one : M ≠ [] → ∃ v ∈ D.L, v.round = R
  rd : D.s.round = 0 ∨ (R ≤ D.s.round ∧ D.s.round ≤ R + 1 ∧ F + 1 ≤ heardV F D.L R)
section
variable {F R : Int} {M : List (Int × Bool)} {D : CoreD}
theorem SK.heard (h : SK F R M D) : heardV F D.L R = M.length := by
  have hr : ∀ p ∈ M.map (·.1), 0 ≤ p ∧ p < 3 * F + 1 := fun p hp => by
    obtain ⟨v, hv, rfl⟩ := h.K p hp
    have := h.ci.V.rng v hv
    rw [h.f] at this
    simpa [inB] using this
  unfold heardV
  have e : ((List.range (3 * F + 1).toNat).filter fun (i : Nat) => D.L.any fun v => decide (v.replica = (i : Int) ∧ R ≤ v.round)).length = (((List.range (3 * F + 1).toNat).filter fun (i : Nat) => D.L.any fun v => decide (v.replica = (i : Int) ∧ R ≤ v.round)).map fun (i : Nat) => (i : Int)).length := by simp
  rw [e, show M.length = (M.map (·.1)).length by simp]
  congr 1
  refine nodup_len ?_ h.nd ?_
  · refine List.Pairwise.map _ ?_ (List.Pairwise.filter _ List.nodup_range)
    intro a b hab e
    exact hab (by omega)
  · intro p
    simp only [List.mem_map, List.mem_filter, List.mem_range, List.any_eq_true, decide_eq_true_eq]
    constructor
    · rintro ⟨i, ⟨_, v, hv, h1, _⟩, rfl⟩
      have := (h.L v hv).2
      rw [h1] at this
      simpa using this
    · intro hp
      have hp' : p ∈ M.map (·.1) := by simpa using hp
      obtain ⟨v, hv, h1⟩ := h.K p hp'
      have := hr p hp'
      have := (h.L v hv).1
      exact ⟨p.toNat, ⟨by omega, v, hv, by omega, by omega⟩, by omega⟩
theorem SK.rule (h : SK F R M D) {D' : CoreD} {A : List ActD} (hr : ruleD D = some (D', A)) : SK F R M D' := by
  have hc := h.ci.rule hr
  have hhas : ∀ r, hasP D.P r = false := fun r => by rw [h.P]; rfl
  unfold ruleD at hr
  split at hr
  · rename_i hl
    rw [leastV_neg (by rw [h.P]; simp)] at hl
    omega
  split at hr
  · simp only [Option.some.injEq, Prod.mk.injEq] at hr; obtain ⟨rfl, _⟩ := hr
    refine ⟨hc, h.f, h.P, rfl, h.lr, h.dec, h.L, h.K, h.nd, h.one, .inr ?_⟩
    rcases farV_spec D.f D.L D.s.round (D.f + 1) h.ci.rd.1 with ⟨h1, _⟩ | ⟨v, hv, h1, h2, _⟩
    · omega
    · have h3 := (h.L v hv).1
      simp only [farP, Bool.and_eq_true, decide_eq_true_eq] at h1
      have h4 := heard_mono D.f D.L R v.round (by omega)
      rw [h.f] at h1 h4
      rw [h2]
      exact ⟨by show R ≤ v.round; omega, by show v.round ≤ R + 1; omega, by show F + 1 ≤ heardV F D.L R; omega⟩
  split at hr
  · rename_i hc3; rw [hhas] at hc3; simp at hc3
  split at hr
  · rename_i hc4; rw [hhas] at hc4; simp at hc4
  split at hr
  · rename_i hc5; rw [h.st] at hc5; simp at hc5
  split at hr
  · rename_i hc6; rw [h.st] at hc6; simp at hc6
  split at hr
  · simp only [Option.some.injEq, Prod.mk.injEq] at hr; obtain ⟨rfl, _⟩ := hr
    exact ⟨hc, h.f, h.P, h.st, h.lr, h.dec, h.L, h.K, h.nd, h.one, h.rd⟩
  · cases hr
theorem SK.settle (h : SK F R M D) : SK F R M (settleD D).1 ∧ Still (settleD D).1 := by
  have h1 : SK F R M (settleD D).1 := settle_ind (fun _ _ D1 _ => SK F R M D1) h.ci [] (fun _ _ _ _ _ _ hr hp => hp.rule hr) h
  exact ⟨h1, settle_still h.ci h1.dec (by have := h1.st; omega)⟩
theorem keys_put (M : List (Int × Bool)) (p q : Int) : q ∈ (putM M p true).map (·.1) ↔ q = p ∨ q ∈ M.map (·.1) := by
  unfold putM
  split
  · rename_i hm
    have hm : p ∈ M.map (·.1) := hm
    have e : (M.map fun x => if x.1 = p then (p, true) else x).map (·.1) = M.map (·.1) := by
      rw [List.map_map]
      refine List.map_congr_left fun x _ => ?_
      simp only [Function.comp]
      split
      · rename_i e; exact e.symm
      · rfl
    rw [e]
    constructor
    · exact .inr
    · rintro (rfl | h)
      · exact hm
      · exact h
  · simp [or_comm]
theorem SK.vote (h : SK F R M D) (hs : Still D) (hR : 1 ≤ R ∧ R ≤ 21) {K r p : Int} (hK : K = 1 ∨ K = 2) (hr : r = R ∨ r = R + 1) (hp : 0 ≤ p ∧ p < 3 * F) (h0 : M = [] → r = R) : SK F R (putM M p true) (voteD' D K r p hash0).1 ∧ Still (voteD' D K r p hash0).1 := by
  have hne : ∀ q, q ∈ (putM M p true).map (·.1) ↔ q = p ∨ q ∈ M.map (·.1) := keys_put M p
  have hnd : ((putM M p true).map (·.1)).Nodup := nodup_put h.nd _ _
  cases hok : okV D.f D.L K r p
  · unfold voteD'
    rw [if_pos (.inr hok)]
    -- it has voted so
    have hv : ∃ v ∈ D.L, v.kind = K ∧ v.round = r ∧ v.replica = p := by
      rw [h.f] at hok
      simp only [okV, Bool.not_eq_false', Bool.or_eq_true, List.any_eq_true, decide_eq_true_eq, inB, Bool.and_eq_true, Bool.not_eq_true', decide_eq_false_iff_not] at hok
      rcases hok with (((hok | hok) | hok) | hok) | hok
      · omega
      · omega
      · omega
      · simp at hok; omega
      · exact hok
    obtain ⟨v, hv, _, h2, h3⟩ := hv
    refine ⟨⟨h.ci, h.f, h.P, h.st, h.lr, h.dec, fun u hu => ⟨(h.L u hu).1, (hne _).2 (.inr (h.L u hu).2)⟩, ?_, hnd, fun _ => ?_, h.rd⟩, hs⟩
    · intro q hq
      rcases (hne q).1 hq with rfl | hq
      · exact ⟨v, hv, h3⟩
      · exact h.K q hq
    · refine h.one fun e => ?_
      have := (h.L v hv).2
      rw [e] at this
      simp at this
  · unfold voteD'
    rw [if_neg (by rw [h.dec, hok]; simp)]
    have hL : (addD D K r p hash0).L = D.L ++ [⟨K, r, p, hash0⟩] := addV_yes (v := ⟨K, r, p, hash0⟩) hok
    refine SK.settle ⟨h.ci.addD _ _ _ _, h.f, h.P, h.st, h.lr, h.dec, ?_, ?_, hnd, ?_, ?_⟩
    · rw [hL]
      intro u hu
      rcases List.mem_append.1 hu with hu | hu
      · exact ⟨(h.L u hu).1, (hne _).2 (.inr (h.L u hu).2)⟩
      · rw [List.mem_singleton] at hu; subst hu; exact ⟨hr, (hne _).2 (.inl rfl)⟩
    · rw [hL]
      intro q hq
      rcases (hne q).1 hq with rfl | hq
      · exact ⟨⟨K, r, q, hash0⟩, by simp, rfl⟩
      · obtain ⟨v, hv, e⟩ := h.K q hq
        exact ⟨v, List.mem_append_left _ hv, e⟩
    · intro _
      rw [hL]
      by_cases hM : M = []
      · exact ⟨⟨K, r, p, hash0⟩, by simp, h0 hM⟩
      · obtain ⟨v, hv, e⟩ := h.one hM
        exact ⟨v, List.mem_append_left _ hv, e⟩
    · rcases h.rd with h1 | ⟨h1, h2, h3⟩
      · exact .inl h1
      · refine .inr ⟨h1, h2, Int.le_trans h3 ?_⟩
        rw [hL]
        unfold heardV
        rw [← List.countP_eq_length_filter, ← List.countP_eq_length_filter]
        have := List.countP_mono_left (l := List.range (3 * F + 1).toNat) (p := fun (i : Nat) => D.L.any fun v => decide (v.replica = (i : Int) ∧ R ≤ v.round)) (q := fun (i : Nat) => (D.L ++ [(⟨K, r, p, hash0⟩ : VoteD)]).any fun v => decide (v.replica = (i : Int) ∧ R ≤ v.round)) (fun i _ hi => by
          rw [List.any_append, hi]; rfl)
        omega
theorem SK.ok (h : SK F R M D) (hs : Still D) (hR : 1 ≤ R) (hM : M ≠ []) : SkOk F R D M := by
  refine ⟨?_, ?_, h.lr⟩
  · have hh := h.heard
    have e : D.s.round ≥ R ↔ ((M.length : Int) ≥ F + 1) := by
      constructor
      · intro hr
        rcases h.rd with h1 | h1
        · omega
        · omega
      · intro hm
        rcases h.rd with h1 | h1
        · obtain ⟨v, hv, e⟩ := h.one hM
          have := hs.far v hv (by omega)
          rw [h.f, e] at this
          omega
        · exact h1.1
    simp [e]
  · rcases h.rd with h1 | h1
    · omega
    · exact h1.2.1
theorem SK.all (hf : 1 ≤ F ∧ F ≤ 3) (hR : 1 ≤ R ∧ R ≤ 21) {K : Int} (hK : K = 1 ∨ K = 2) (who : List Int) : ∀ k, (SK F R (skM F who k) (skD F R K who (tD1 F) k) ∧ Still (skD F R K who (tD1 F) k)) ∧ (k ≠ 0 → skM F who k ≠ [])
  | 0 => by
    have hs := settle_still (D := tD1 F) ((CI.new (newOk14 hf)).to 0 (by omega)) (by rw [tS1 hf.1]; rfl) (by rw [tS1 hf.1]; show (0 : Int) < 1; decide)
    rw [tS1 hf.1] at hs
    exact ⟨⟨⟨(CI.new (newOk14 hf)).to 0 (by omega), rfl, rfl, rfl, rfl, rfl, by simp [skD, tD1, toD, newD], by simp [skM], by simp [skM], by simp [skM], .inl rfl⟩, hs⟩, fun h => absurd rfl h⟩
  | k + 1 => by
    obtain ⟨⟨h1, h2⟩, h3⟩ := SK.all hf hR hK who k
    have hp : 0 ≤ skP F who k ∧ skP F who k < 3 * F := by
      have := within_lim (who.getD k 0) (3 * F + 1 - 1) (by omega)
      unfold skP; omega
    refine ⟨h1.vote h2 hR hK (by omega) hp ?_, fun _ e => ?_⟩
    · intro hM
      rcases Nat.eq_zero_or_pos k with rfl | hk
      · simp
      · exact absurd hM (h3 (by omega))
    · have := (keys_put (skM F who k) (skP F who k) (skP F who k)).2 (.inl rfl)
      rw [show putM (skM F who k) (skP F who k) true = [] from e] at this
      simp at this
end
end Go.Proofs.Ythjmbhneifjeeaa
