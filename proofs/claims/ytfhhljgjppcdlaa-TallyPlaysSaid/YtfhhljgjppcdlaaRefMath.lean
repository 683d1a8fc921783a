/- WHAT IS PROVED: what the document's tally gathers is what the program's answers. Conditions: stated with each. -/
import Derived.Test.YtfhhljgjppcdlaaRefDefs
import Derived.Test.YtfhhljgjppcdlaaVotesMath
namespace Go.Proofs.Ytfhhljgjppcdlaa
open Go.RowKit
theorem heardF_len {f : Int} {L : List VoteD} (h : VInv f L) (round : Int) : ((heardF round L).length : Int) = heardV f L round := by
  have hmem : ∀ y, y ∈ heardF round L ↔ ∃ x ∈ L, round ≤ x.round ∧ x.replica = y := fun y => by
    have := heardF_mem round y L []
    simpa [heardF] using this
  have hnd : (heardF round L).Nodup := heardF_nodup round L [] (by simp)
  have hrng : ∀ y ∈ heardF round L, 0 ≤ y ∧ y < 3 * f + 1 := fun y hy => by
    obtain ⟨x, hx, _, rfl⟩ := (hmem y).1 hy
    have := h.rng x hx
    simpa [inB] using this
  unfold heardV
  have h1 : ((heardF round L).map Int.toNat).length ≤ ((List.range (3 * f + 1).toNat).filter fun (i : Nat) => L.any fun v => decide (v.replica = (i : Int) ∧ round ≤ v.round)).length := by
    refine nodup_sub_len _ _ ?_ ?_
    · rw [List.nodup_iff_pairwise_ne, List.pairwise_map]
      refine List.Pairwise.imp_of_mem ?_ (List.nodup_iff_pairwise_ne.1 hnd)
      intro a b ha hb hab e
      have := hrng a ha
      have := hrng b hb
      exact hab (by omega)
    · intro y hy
      obtain ⟨z, hz, rfl⟩ := List.mem_map.1 hy
      have h2 := hrng z hz
      obtain ⟨x, hx, h3, h4⟩ := (hmem z).1 hz
      simp only [List.mem_filter, List.mem_range, List.any_eq_true, decide_eq_true_eq]
      exact ⟨by omega, x, hx, by omega, h3⟩
  have h2 : (((List.range (3 * f + 1).toNat).filter fun (i : Nat) => L.any fun v => decide (v.replica = (i : Int) ∧ round ≤ v.round)).map fun i : Nat => (i : Int)).length ≤ (heardF round L).length := by
    refine nodup_sub_len _ _ ?_ ?_
    · rw [List.nodup_iff_pairwise_ne, List.pairwise_map]
      refine List.Pairwise.imp ?_ (List.Pairwise.filter _ (List.nodup_iff_pairwise_ne.1 (List.nodup_range (n := (3 * f + 1).toNat))))
      intro a b hab e
      exact hab (by omega)
    · intro y hy
      obtain ⟨i, hi, rfl⟩ := List.mem_map.1 hy
      simp only [List.mem_filter, List.mem_range, List.any_eq_true, decide_eq_true_eq] at hi
      obtain ⟨_, x, hx, h3, h4⟩ := hi
      exact (hmem _).2 ⟨x, hx, h4, h3⟩
  simp only [List.length_map] at h1 h2
  omega
def chO (L : List VoteD) (kind round : Int) (x : VoteD) : Choice × Int := (⟨x.kind, x.round, x.h⟩, forV L kind round x.h)
theorem rmF_fold (L : List VoteD) (kind round : Int) : ∀ (M : List VoteD) (s : Hash × Int), M.foldl (rmStep L kind round) s = (M.map (chO L kind round)).foldl (mostStep kind round) s
  | [], _ => rfl
  | x :: M, s => by
    rw [List.foldl_cons, rmF_fold L kind round M]
    rfl
theorem rmF_most (L : List VoteD) (kind round : Int) : MostP L kind round (rmF L kind round L).1 (rmF L kind round L).2 := by
  have hpos : ∀ y ∈ L.map (chO L kind round), y.1.kind = kind → y.1.round = round → 0 < y.2 := by
    intro y hy h1 h2
    obtain ⟨x, hx, rfl⟩ := List.mem_map.1 hy
    simp only [chO] at h1 h2 ⊢
    have : 0 < L.countP fun v => decide (v.kind = kind ∧ v.round = round ∧ v.h = x.h) := List.countP_pos_iff.2 ⟨x, hx, by simp [h1, h2]⟩
    unfold forV
    omega
  have hI := mostI_fold kind round (L.map (chO L kind round)) [] (hash0, 0) (.inl ⟨rfl, rfl, by simp⟩) hpos
  rw [List.nil_append, ← rmF_fold] at hI
  unfold rmF
  generalize L.foldl (rmStep L kind round) (hash0, 0) = s at *
  have hno : ∀ g, (∀ x ∈ L, x.kind = kind → x.round = round → x.h ≠ g) → forV L kind round g = 0 := fun g hg => by
    unfold forV
    have : (L.countP fun v => decide (v.kind = kind ∧ v.round = round ∧ v.h = g)) = 0 := List.countP_eq_zero.2 fun x hx => by
      simp only [decide_eq_true_eq]
      exact fun q => hg x hx q.1 q.2.1 q.2.2
    omega
  rcases hI with ⟨h1, h2, h3⟩ | ⟨h1, h2, h3⟩
  · exact .inl ⟨h1, h2, fun g => hno g fun x hx a b => absurd ⟨a, b⟩ (h3 _ _ (List.mem_map.2 ⟨x, hx, rfl⟩))⟩
  · obtain ⟨x, hx, he⟩ := List.mem_map.1 h2
    simp only [chO, Prod.mk.injEq, Choice.mk.injEq] at he
    obtain ⟨⟨a1, a2, a3⟩, a4⟩ := he
    refine .inr ⟨h1, by rw [← a4, a3], fun g => ?_⟩
    by_cases hg : ∃ y ∈ L, y.kind = kind ∧ y.round = round ∧ y.h = g
    · obtain ⟨y, hy, b1, b2, rfl⟩ := hg
      exact h3 _ _ (List.mem_map.2 ⟨y, hy, rfl⟩) b1 b2
    · have h0 := hno g fun y hy c1 c2 c3 => hg ⟨y, hy, c1, c2, c3⟩
      exact ⟨by omega, fun e => by omega⟩
theorem mostP_uniq {L : List VoteD} {kind round : Int} {h g : Hash} {n m : Int} (h1 : MostP L kind round h n) (h2 : MostP L kind round g m) : h = g ∧ n = m := by
  rcases h1 with ⟨a1, a2, a3⟩ | ⟨a1, a2, a3⟩ <;> rcases h2 with ⟨b1, b2, b3⟩ | ⟨b1, b2, b3⟩
  · exact ⟨by rw [a2, b2], by omega⟩
  · have := a3 g; omega
  · have := b3 h; omega
  · have c1 := (a3 g).1
    have c2 := (b3 h).1
    have e : n = m := by omega
    refine ⟨Decidable.byContradiction fun hne => ?_, e⟩
    exact LessH.asymm ((a3 g).2 (by omega) (fun x => hne x.symm)) ((b3 h).2 (by omega) hne)
end Go.Proofs.Ytfhhljgjppcdlaa
