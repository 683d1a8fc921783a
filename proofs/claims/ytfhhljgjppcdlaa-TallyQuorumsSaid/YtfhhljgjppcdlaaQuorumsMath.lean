/- WHAT IS PROVED: the plain law of TallyQuorums: whoever votes both ways, two hashes never have a quorum each. Conditions: stated with each. -/
import Derived.Test.YtfhhljgjppcdlaaWakes13
namespace Go.Proofs.Ytfhhljgjppcdlaa
open Go.RowKit
section
variable (F l : Int) (vs : List Int) (A B : Hash)
def quX (k : Nat) : Hash := if ((k : Int) + l) % (3 * F + 1) < F then A else if Int.tmod (vs.getD k 0) 2 = 0 then A else B
def quY (k : Nat) : Hash := if ((k : Int) + l) % (3 * F + 1) < F then B else if Int.tmod (vs.getD k 0) 2 = 0 then A else B
def quL (x : Nat → Hash) : Nat → List VoteD
  | 0 => []
  | k + 1 => addV F (quL x k) ⟨1, 3, (k : Int), x k⟩
variable {F l vs A B}
theorem quL_eq (x : Nat → Hash) : ∀ k : Nat, (k : Int) ≤ 3 * F + 1 → quL F x k = (List.range k).map fun i => ⟨1, 3, (i : Int), x i⟩
  | 0, _ => rfl
  | k + 1, h => by
    have ih := quL_eq x k (by omega)
    unfold quL addV
    have hok : okV F (quL F x k) 1 3 (k : Int) = true := by
      rw [ih]
      simp only [okV, inB, List.any_map, Bool.not_eq_true', Bool.or_eq_false_iff]
      refine ⟨⟨⟨⟨by decide, by decide⟩, by decide⟩, ?_⟩, ?_⟩
      · simp; omega
      · rw [List.any_eq_false]
        intro i hi
        simp only [List.mem_range] at hi
        simp
        omega
    rw [if_pos hok, ih, List.range_succ, List.map_append]
    rfl
theorem qu_len (x : Nat → Hash) (k : Nat) (h : (k : Int) ≤ 3 * F + 1) : (quL F x k).length = k := by rw [quL_eq x k h]; simp
theorem qu_all (x : Nat → Hash) (k : Nat) (h : (k : Int) = 3 * F + 1) : allV (quL F x k) 1 3 = 3 * F + 1 := by
  rw [quL_eq x k (by omega)]
  unfold allV
  rw [List.countP_eq_length.2 (by intro v hv; obtain ⟨i, _, rfl⟩ := List.mem_map.1 hv; simp)]
  simp; omega
theorem qu_heard (hF : 1 ≤ F ∧ F ≤ 21) (x : Nat → Hash) (k : Nat) (h : (k : Int) = 3 * F + 1) : heardV F (quL F x k) 0 = 3 * F + 1 := by
  rw [quL_eq x k (by omega)]
  unfold heardV
  rw [List.filter_eq_self.2 (by
    intro i hi
    simp only [List.mem_range] at hi
    simp only [List.any_map, List.any_eq_true, List.mem_range]
    exact ⟨i, by omega, by simp⟩)]
  simp; omega
theorem qu_for (x : Nat → Hash) (k : Nat) (h : (k : Int) ≤ 3 * F + 1) (C : Hash) : forV (quL F x k) 1 3 C = (((List.range k).countP fun i => decide (x i = C) : Nat) : Int) := by
  rw [quL_eq x k h]
  unfold forV
  rw [List.countP_map]
  congr 2
  funext i
  simp
theorem qu_liars (hF : 1 ≤ F ∧ F ≤ 21) (k : Nat) (h : (k : Int) = 3 * F + 1) : ((List.range k).countP fun (i : Nat) => decide (((i : Int) + l) % (3 * F + 1) < F)) ≤ F.toNat := by
  rw [List.countP_eq_length_filter]
  have h1 : (((List.range k).filter fun (i : Nat) => decide (((i : Int) + l) % (3 * F + 1) < F)).map fun (i : Nat) => (((i : Int) + l) % (3 * F + 1)).toNat).length ≤ (List.range F.toNat).length := by
    refine nodup_sub_len _ _ ?_ ?_
    · rw [List.nodup_iff_pairwise_ne, List.pairwise_map]
      refine List.Pairwise.imp_of_mem ?_ (List.Pairwise.filter _ (List.nodup_iff_pairwise_ne.1 List.nodup_range))
      intro a b ha hb hab e
      simp only [List.mem_filter, List.mem_range] at ha hb
      have p1 := Int.emod_nonneg ((a : Int) + l) (show (3 * F + 1) ≠ 0 by omega)
      have p2 := Int.emod_nonneg ((b : Int) + l) (show (3 * F + 1) ≠ 0 by omega)
      have e2 : ((a : Int) + l) % (3 * F + 1) = ((b : Int) + l) % (3 * F + 1) := by omega
      have e3 := Int.emod_emod_of_dvd ((a : Int) + l) (Int.dvd_refl (3 * F + 1))
      have d : (3 * F + 1) ∣ (((a : Int) + l) - ((b : Int) + l)) := Int.dvd_of_emod_eq_zero (Int.emod_eq_emod_iff_emod_sub_eq_zero.1 e2)
      obtain ⟨c, hc⟩ := d
      have hc' : (a : Int) - b = (3 * F + 1) * c := by omega
      have : c = 0 := by
        rcases Int.lt_trichotomy c 0 with h0 | h0 | h0
        · have : (3 * F + 1) * c ≤ (3 * F + 1) * (-1) := Int.mul_le_mul_of_nonneg_left (by omega) (by omega)
          omega
        · exact h0
        · have : (3 * F + 1) * 1 ≤ (3 * F + 1) * c := Int.mul_le_mul_of_nonneg_left (by omega) (by omega)
          omega
      subst this
      simp at hc'
      omega
    · intro y hy
      obtain ⟨i, hi, rfl⟩ := List.mem_map.1 hy
      simp only [List.mem_filter, List.mem_range, decide_eq_true_eq] at hi
      have p1 := Int.emod_nonneg ((i : Int) + l) (show (3 * F + 1) ≠ 0 by omega)
      simp only [List.mem_range]
      omega
  simpa using h1
theorem count_split (n : Nat) (p : Nat → Bool) (hA : A ≠ B) (hp : ∀ i, p i = decide (((i : Int) + l) % (3 * F + 1) < F)) : ((List.range n).countP fun i => decide (quX F l vs A B i = A)) + ((List.range n).countP fun i => decide (quY F l vs A B i = B)) = n + (List.range n).countP p := by
  induction n with
  | zero => simp
  | succ n ih =>
    rw [List.range_succ, List.countP_append, List.countP_append, List.countP_append]
    have : ([n].countP fun i => decide (quX F l vs A B i = A)) + ([n].countP fun i => decide (quY F l vs A B i = B)) = 1 + [n].countP p := by
      simp only [List.countP_cons, List.countP_nil, quX, quY, hp]
      by_cases h1 : ((n : Int) + l) % (3 * F + 1) < F
      · simp [h1]
      · by_cases h2 : Int.tmod (vs.getD n 0) 2 = 0
        · simp only [h1, h2, if_true, if_false]; simp [hA]
        · simp only [h1, h2, if_false]; simp [Ne.symm hA]
    omega
theorem qu_final (hF : 1 ≤ F ∧ F ≤ 21) (hA : A ≠ B) (k : Nat) (h : (k : Int) = 3 * F + 1) (h1 : forV (quL F (quX F l vs A B) k) 1 3 A ≥ 2 * F + 1) : ¬ forV (quL F (quY F l vs A B) k) 1 3 B ≥ 2 * F + 1 := by
  rw [qu_for _ k (by omega)] at h1 ⊢
  have h2 := count_split (F := F) (l := l) (vs := vs) k _ hA (fun _ => rfl)
  have h3 := qu_liars (l := l) hF k h
  omega
end
end Go.Proofs.Ytfhhljgjppcdlaa
