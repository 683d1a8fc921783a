/- WHAT IS PROVED: what Most answers, said of the list of votes. Conditions: stated with each. -/
import Derived.Test.YtfhhljgjppcdlaaMost
namespace Go.Proofs.Ytfhhljgjppcdlaa
open Go.RowKit
/-- the hash with the most votes, the least of several; none: the hash 0 with 0 -/
def MostP (L : List VoteD) (kind round : Int) (h : Hash) (n : Int) : Prop :=
  (n = 0 ∧ h = hash0 ∧ ∀ g, forV L kind round g = 0) ∨
  (0 < n ∧ forV L kind round h = n ∧ ∀ g, forV L kind round g ≤ n ∧ (forV L kind round g = n → g ≠ h → LessH h g))
def MostI (kind round : Int) (seen : List (Choice × Int)) (s : Hash × Int) : Prop :=
  (s.2 = 0 ∧ s.1 = hash0 ∧ ∀ x n, (x, n) ∈ seen → ¬ (x.kind = kind ∧ x.round = round)) ∨
  (0 < s.2 ∧ (⟨kind, round, s.1⟩, s.2) ∈ seen ∧ ∀ x n, (x, n) ∈ seen → x.kind = kind → x.round = round → n ≤ s.2 ∧ (n = s.2 → x.h ≠ s.1 → LessH s.1 x.h))
theorem mostI_step (kind round : Int) (seen : List (Choice × Int)) (s : Hash × Int) (y : Choice × Int) (h : MostI kind round seen s) (hpos : y.1.kind = kind → y.1.round = round → 0 < y.2) : MostI kind round (seen ++ [y]) (mostStep kind round s y) := by
  obtain ⟨⟨k, r, g⟩, n⟩ := y
  obtain ⟨b, m⟩ := s
  simp only [MostI, mostStep] at *
  by_cases hm : k = kind ∧ r = round
  · obtain ⟨rfl, rfl⟩ := hm
    by_cases hc : n > m ∨ (n = m ∧ LessH g b)
    · have hcb : (decide (k = k) && decide (r = r) && (decide (n > m) || (decide (n = m) && lessB g b))) = true := by
        rcases hc with h1 | ⟨h1, h2⟩
        · simp [h1]
        · simp [h1, (lessB_iff g b).2 h2]
      rw [hcb]
      simp only [cond_true]
      refine .inr ⟨hpos rfl rfl, by simp, ?_⟩
      intro x q hx hk hr
      rcases List.mem_append.1 hx with hx | hx
      · rcases h with ⟨h1, h2, h3⟩ | ⟨h1, h2, h3⟩
        · exact absurd ⟨hk, hr⟩ (h3 x q hx)
        · obtain ⟨h4, h5⟩ := h3 x q hx hk hr
          rcases hc with hc | ⟨rfl, hc⟩
          · exact ⟨by omega, fun e => by omega⟩
          · refine ⟨h4, fun e hne => ?_⟩
            by_cases e2 : x.h = b
            · rw [e2]; exact hc
            · exact hc.trans (h5 e e2)
      · simp at hx
        obtain ⟨rfl, rfl⟩ := hx
        exact ⟨Int.le_refl _, fun _ hne => absurd rfl hne⟩
    · have hcb : (decide (k = k) && decide (r = r) && (decide (n > m) || (decide (n = m) && lessB g b))) = false := by
        rw [Bool.eq_false_iff]
        intro e
        simp [lessB_iff] at e
        exact hc e
      rw [hcb]
      simp only [cond_false]
      have hnm : n ≤ m := by
        rcases Int.lt_or_le m n with h1 | h1
        · exact absurd (.inl h1) hc
        · exact h1
      rcases h with ⟨h1, h2, h3⟩ | ⟨h1, h2, h3⟩
      · omega
      · refine .inr ⟨h1, List.mem_append_left _ h2, ?_⟩
        intro x q hx hk hr
        rcases List.mem_append.1 hx with hx | hx
        · exact h3 x q hx hk hr
        · simp at hx
          obtain ⟨rfl, rfl⟩ := hx
          refine ⟨hnm, fun e hne => ?_⟩
          rcases LessH.total hne with h4 | h4
          · exact absurd (.inr ⟨e, h4⟩) hc
          · exact h4
  · have hcb : (decide (k = kind) && decide (r = round) && (decide (n > m) || (decide (n = m) && lessB g b))) = false := by
      by_cases h1 : k = kind
      · have h2 : ¬ r = round := fun e => hm ⟨h1, e⟩
        simp [h2]
      · simp [h1]
    rw [hcb]
    simp only [cond_false]
    rcases h with ⟨h1, h2, h3⟩ | ⟨h1, h2, h3⟩
    · refine .inl ⟨h1, h2, fun x q hx => ?_⟩
      rcases List.mem_append.1 hx with hx | hx
      · exact h3 x q hx
      · simp at hx; obtain ⟨rfl, rfl⟩ := hx; exact hm
    · refine .inr ⟨h1, List.mem_append_left _ h2, fun x q hx hk hr => ?_⟩
      rcases List.mem_append.1 hx with hx | hx
      · exact h3 x q hx hk hr
      · simp at hx; obtain ⟨rfl, rfl⟩ := hx; exact absurd ⟨hk, hr⟩ hm
theorem mostI_fold (kind round : Int) : ∀ (rest seen : List (Choice × Int)) (s : Hash × Int), MostI kind round seen s → (∀ y ∈ rest, y.1.kind = kind → y.1.round = round → 0 < y.2) → MostI kind round (seen ++ rest) (rest.foldl (mostStep kind round) s)
  | [], seen, s, h, _ => by simpa using h
  | y :: rest, seen, s, h, hp => by
    have := mostI_fold kind round rest (seen ++ [y]) _ (mostI_step kind round seen s y h (hp y (by simp))) (fun z hz => hp z (List.mem_cons_of_mem _ hz))
    simpa using this
theorem Tal.most {T : TallyS} {L : List VoteD} (h : Tal T L) {l : List (Choice × Int)} (hp : T.count.Perm l) (kind round : Int) : MostP L kind round (mostF kind round l).1 (mostF kind round l).2 := by
  have hpos : ∀ y ∈ l, y.1.kind = kind → y.1.round = round → 0 < y.2 := fun y hy _ _ => h.cpos y.1 y.2 (hp.symm.subset hy)
  have hI := mostI_fold kind round l [] (hash0, 0) (.inl ⟨rfl, rfl, by simp⟩) hpos
  simp only [List.nil_append] at hI
  have hfor : ∀ g, forV L kind round g = (lookM T.count ⟨kind, round, g⟩).getD 0 := fun g => by rw [h.count]; rfl
  have hmem : ∀ x n, (x, n) ∈ l ↔ lookM T.count x = some n := fun x n => by rw [look_mem h.cnod]; exact ⟨fun q => hp.symm.subset q, fun q => hp.subset q⟩
  unfold mostF
  generalize l.foldl (mostStep kind round) (hash0, 0) = s at *
  rcases hI with ⟨h1, h2, h3⟩ | ⟨h1, h2, h3⟩
  · refine .inl ⟨h1, h2, fun g => ?_⟩
    rw [hfor]
    cases hl : lookM T.count ⟨kind, round, g⟩ with
    | none => rfl
    | some n => exact absurd ⟨rfl, rfl⟩ (h3 _ n ((hmem _ n).2 hl))
  · refine .inr ⟨h1, by rw [hfor, (hmem _ _).1 h2]; rfl, fun g => ?_⟩
    rw [hfor]
    cases hl : lookM T.count ⟨kind, round, g⟩ with
    | none => exact ⟨by simp; omega, fun e => by simp at e; omega⟩
    | some n =>
      obtain ⟨h4, h5⟩ := h3 _ n ((hmem _ n).2 hl) rfl rfl
      exact ⟨by simpa using h4, fun e hne => h5 (by simpa using e) hne⟩
theorem talMost_any (w : World) (t hb cb ab lb : Nat) (f c : Int) (L : List VoteD) (hT : (talC t hb cb ab lb f c L).ok w) (kind round : Int) :
    Calls Try.prog 17 #[.pointer (some ⟨t, 0, none⟩), .int .i64 kind, .int .i64 round] w fun e w' => ∃ h n, MostP L kind round h n ∧ e = .returned (.tuple #[.agg ⟨hc h⟩, .int .i64 n]) ∧ Upd [] w w' := by
  obtain ⟨T, rfl, rfl, h3, h4⟩ := hT
  refine (tallyMost_any w t hb cb ab lb T h4 kind round).mono ?_
  rintro e w' ⟨h, n, l, hp, hf, rfl, hu⟩
  have := h3.most hp kind round
  rw [hf] at this
  exact ⟨h, n, this, rfl, hu⟩
end Go.Proofs.Ytfhhljgjppcdlaa
