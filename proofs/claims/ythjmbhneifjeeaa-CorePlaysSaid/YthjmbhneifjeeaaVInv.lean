/- WHAT IS PROVED: plain laws on lists of votes that were counted. Conditions: stated with each. -/
import Derived.Test.YthjmbhneifjeeaaTallyAbs
namespace Go.Proofs.Ythjmbhneifjeeaa
open Go.RowKit
/-- each voted once a kind and round, and is a replica -/
structure VInv (f : Int) (L : List VoteD) : Prop where
  rng : ∀ v ∈ L, inB f v.replica = true
  one : L.Pairwise fun u v => ¬ (u.kind = v.kind ∧ u.round = v.round ∧ u.replica = v.replica)
theorem VInv.nil (f : Int) : VInv f [] := ⟨by simp, by simp⟩
theorem VInv.add {f : Int} {L : List VoteD} (h : VInv f L) (v : VoteD) : VInv f (addV f L v) := by
  unfold addV
  split
  · rename_i hok
    simp [okV] at hok
    obtain ⟨⟨_, h2⟩, h3⟩ := hok
    refine ⟨?_, List.pairwise_append.2 ⟨h.one, by simp, ?_⟩⟩
    · intro u hu
      rcases List.mem_append.1 hu with hu | hu
      · exact h.rng u hu
      · simp at hu; rw [hu]; exact h2
    · intro u hu x hx
      simp at hx
      subst hx
      rintro ⟨a, b, c⟩
      exact h3 u hu a b c
  · exact h
theorem addV_len (f : Int) (L : List VoteD) (v : VoteD) : (addV f L v).length ≤ L.length + 1 := by
  unfold addV; split <;> simp
theorem addV_no {f : Int} {L : List VoteD} {v : VoteD} (h : okV f L v.kind v.round v.replica = false) : addV f L v = L := by
  unfold addV; rw [h]; simp
theorem addV_yes {f : Int} {L : List VoteD} {v : VoteD} (h : okV f L v.kind v.round v.replica = true) : addV f L v = L ++ [v] := by
  unfold addV; rw [if_pos h]
/-- who has voted cannot vote again -/
theorem okV_again (f : Int) (L : List VoteD) (v : VoteD) : okV f (addV f L v) v.kind v.round v.replica = false := by
  cases h : okV f L v.kind v.round v.replica
  · rw [addV_no h]; exact h
  · rw [addV_yes h]
    simp [okV]
theorem addV_again (f : Int) (L : List VoteD) (v : VoteD) (h : Hash) : addV f (addV f L v) ⟨v.kind, v.round, v.replica, h⟩ = addV f L v := addV_no (v := ⟨v.kind, v.round, v.replica, h⟩) (okV_again f L v)
theorem allV_ok {f : Int} {L : List VoteD} {v : VoteD} (h : okV f L v.kind v.round v.replica = true) : allV (addV f L v) v.kind v.round = allV L v.kind v.round + 1 := by
  rw [addV_yes h]; unfold allV; simp [List.countP_append]
theorem allV_no {f : Int} {L : List VoteD} {v : VoteD} (h : okV f L v.kind v.round v.replica = false) : allV (addV f L v) v.kind v.round = allV L v.kind v.round := by rw [addV_no h]
theorem heard_le {f : Int} (hf : 0 ≤ 3 * f + 1) (L : List VoteD) (r : Int) : 0 ≤ heardV f L r ∧ heardV f L r ≤ 3 * f + 1 := by
  unfold heardV
  have := List.length_filter_le (fun (i : Nat) => L.any fun v => decide (v.replica = (i : Int) ∧ r ≤ v.round)) (List.range (3 * f + 1).toNat)
  simp only [List.length_range] at this
  omega
theorem heard_mono (f : Int) (L : List VoteD) (r s : Int) (h : r ≤ s) : heardV f L s ≤ heardV f L r := by
  unfold heardV
  rw [← List.countP_eq_length_filter, ← List.countP_eq_length_filter]
  have := List.countP_mono_left (l := List.range (3 * f + 1).toNat) (p := fun (i : Nat) => L.any fun v => decide (v.replica = (i : Int) ∧ s ≤ v.round)) (q := fun (i : Nat) => L.any fun v => decide (v.replica = (i : Int) ∧ r ≤ v.round)) (fun i _ hi => by
    simp only [List.any_eq_true, decide_eq_true_eq] at hi ⊢
    obtain ⟨v, hv, h1, h2⟩ := hi
    exact ⟨v, hv, h1, by omega⟩)
  omega
theorem all_heard {f : Int} {L : List VoteD} (h : VInv f L) (k r : Int) : allV L k r ≤ heardV f L r := by
  unfold allV heardV
  rw [List.countP_eq_length_filter]
  have h1 : ((L.filter fun v => decide (v.kind = k ∧ v.round = r)).map fun v => v.replica.toNat).length ≤ ((List.range (3 * f + 1).toNat).filter fun (i : Nat) => L.any fun v => decide (v.replica = (i : Int) ∧ r ≤ v.round)).length := by
    refine nodup_sub_len _ _ ?_ ?_
    · rw [List.nodup_iff_pairwise_ne, List.pairwise_map]
      refine List.Pairwise.imp_of_mem ?_ (List.Pairwise.filter _ h.one)
      intro a b ha hb hab e
      simp only [List.mem_filter, decide_eq_true_eq] at ha hb
      have p1 := h.rng a ha.1
      have p2 := h.rng b hb.1
      simp [inB] at p1 p2
      exact hab ⟨by rw [ha.2.1, hb.2.1], by rw [ha.2.2, hb.2.2], by omega⟩
    · intro x hx
      obtain ⟨v, hv, rfl⟩ := List.mem_map.1 hx
      simp only [List.mem_filter, decide_eq_true_eq] at hv
      have p1 := h.rng v hv.1
      simp [inB] at p1
      simp only [List.mem_filter, List.mem_range, List.any_eq_true, decide_eq_true_eq]
      exact ⟨by omega, v, hv.1, by omega, by omega⟩
  simp only [List.length_map] at h1
  omega
theorem forV_nonneg (L : List VoteD) (k r : Int) (h : Hash) : 0 ≤ forV L k r h := by unfold forV; omega
theorem forV_bd (L : List VoteD) (k r : Int) (h : Hash) : 0 ≤ forV L k r h ∧ forV L k r h ≤ L.length := by
  unfold forV
  have := List.countP_le_length (l := L) (p := fun v => decide (v.kind = k ∧ v.round = r ∧ v.h = h))
  omega
theorem allV_bd (L : List VoteD) (k r : Int) : 0 ≤ allV L k r ∧ allV L k r ≤ L.length := by
  unfold allV
  have := List.countP_le_length (l := L) (p := fun v => decide (v.kind = k ∧ v.round = r))
  omega
theorem within_self (v n : Int) (h1 : 0 ≤ v) (h2 : v < n) : withinV v n = v := by
  unfold withinV; rw [if_neg (by omega)]; exact Int.emod_eq_of_lt h1 h2
end Go.Proofs.Ythjmbhneifjeeaa
