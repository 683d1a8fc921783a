/- WHAT IS PROVED: plain laws on the middle one of an odd number of times. Conditions: stated with each. -/
import Derived.Test.YtenihpghfdcpkaaSortMath
namespace Go.Proofs.Ytenihpghfdcpkaa
def cLt (xs : List Int) (m : Int) : Nat := xs.countP fun x => decide (x < m)
def cLe (xs : List Int) (m : Int) : Nat := xs.countP fun x => decide (x ≤ m)
/-- the middle one: at most half of them are less, more than half are at most it -/
structure MedP (xs : List Int) (m : Int) : Prop where
  mem : m ∈ xs
  lt : cLt xs m ≤ xs.length / 2
  le : xs.length / 2 < cLe xs m
theorem cLe_mono {xs : List Int} {a b : Int} (h : a < b) : cLe xs a ≤ cLt xs b := List.countP_mono_left fun x _ hx => by simp at hx ⊢; omega
theorem MedP.uniq {xs : List Int} {a b : Int} (ha : MedP xs a) (hb : MedP xs b) : a = b := by
  rcases Int.lt_trichotomy a b with h | h | h
  · have := cLe_mono (xs := xs) h; have := ha.le; have := hb.lt; omega
  · exact h
  · have := cLe_mono (xs := xs) h; have := hb.le; have := ha.lt; omega
theorem MedP.perm {xs ys : List Int} {a : Int} (h : MedP xs a) (hp : xs.Perm ys) : MedP ys a := by
  refine ⟨hp.mem_iff.1 h.mem, ?_, ?_⟩
  · unfold cLt; rw [← hp.countP_eq, ← hp.length_eq]; exact h.lt
  · unfold cLe; rw [← hp.countP_eq, ← hp.length_eq]; exact h.le
/-- of a list that rises it is the one in the middle -/
theorem MedP.of_srt {B : List Int} {m : Int} (hs : Srt (fun x y : Int => decide (x < y)) 0 B.length B) (hm : B[B.length / 2]? = some m) : MedP B m := by
  have hlt := (List.getElem?_eq_some_iff.1 hm).1
  have hsplit : B = B.take (B.length / 2) ++ B.drop (B.length / 2) := (List.take_append_drop _ _).symm
  have hsplit2 : B = B.take (B.length / 2 + 1) ++ B.drop (B.length / 2 + 1) := (List.take_append_drop _ _).symm
  refine ⟨List.mem_of_getElem? hm, ?_, ?_⟩
  · have h0 : (B.drop (B.length / 2)).countP (fun x => decide (x < m)) = 0 := by
      rw [List.countP_eq_zero]
      intro x hx
      obtain ⟨i, hi, rfl⟩ := List.mem_iff_getElem.1 hx
      rw [List.length_drop] at hi
      rw [List.getElem_drop]
      simp only [decide_eq_true_eq, Int.not_lt]
      by_cases e : i = 0
      · subst e
        have := (List.getElem?_eq_some_iff.1 hm).2
        simp only [Nat.add_zero, this]; exact Int.le_refl _
      · have := hs (B.length / 2) (B.length / 2 + i) m _ (Nat.zero_le _) (by omega) (by omega) hm (List.getElem?_eq_getElem (by omega))
        simpa using this
    have h1 : cLt B m = (B.take (B.length / 2)).countP (fun x => decide (x < m)) := by
      unfold cLt
      conv => lhs; rw [hsplit]
      rw [List.countP_append, h0, Nat.add_zero]
    rw [h1]
    exact Nat.le_trans List.countP_le_length (by rw [List.length_take]; omega)
  · have h0 : (B.take (B.length / 2 + 1)).countP (fun x => decide (x ≤ m)) = (B.take (B.length / 2 + 1)).length := by
      rw [List.countP_eq_length]
      intro x hx
      obtain ⟨i, hi, rfl⟩ := List.mem_iff_getElem.1 hx
      rw [List.length_take] at hi
      rw [List.getElem_take]
      simp only [decide_eq_true_eq]
      by_cases e : i = B.length / 2
      · subst e
        exact Int.le_of_eq (List.getElem?_eq_some_iff.1 hm).2
      · have := hs i (B.length / 2) _ m (Nat.zero_le _) (by omega) (by omega) (List.getElem?_eq_getElem (by omega)) hm
        simpa using this
    have h1 : (B.take (B.length / 2 + 1)).countP (fun x => decide (x ≤ m)) ≤ cLe B m := by
      unfold cLe
      conv => rhs; rw [hsplit2]
      rw [List.countP_append]; omega
    rw [h0, List.length_take] at h1
    omega
theorem med_ex {xs : List Int} (h : xs.length % 2 = 1) : ∃ m, MedP xs m := by
  obtain ⟨B, hB⟩ : ∃ B, xs.mergeSort (fun a b => decide (a ≤ b)) = B := ⟨_, rfl⟩
  have hp : B.Perm xs := hB ▸ List.mergeSort_perm xs _
  have hs : B.Pairwise fun a b => decide (a ≤ b) = true := hB ▸ List.pairwise_mergeSort (by simp; omega) (by simp; omega) xs
  have hl := hp.length_eq
  have hlt : B.length / 2 < B.length := by omega
  refine ⟨B[B.length / 2], (MedP.of_srt (B := B) ?_ (List.getElem?_eq_getElem hlt)).perm hp⟩
  intro i j x y _ hij hj hx hy
  obtain ⟨h1, rfl⟩ := List.getElem?_eq_some_iff.1 hx
  obtain ⟨h2, rfl⟩ := List.getElem?_eq_some_iff.1 hy
  have := List.pairwise_iff_getElem.1 hs i j h1 h2 hij
  simp at this ⊢; omega
/-- the median; 0 where there is none -/
noncomputable def medV (xs : List Int) : Int := open Classical in if h : xs.length % 2 = 1 then Classical.choose (med_ex h) else 0
theorem medV_p {xs : List Int} (h : xs.length % 2 = 1) : MedP xs (medV xs) := by
  unfold medV; rw [dif_pos h]; exact Classical.choose_spec (med_ex h)
theorem medV_eq {xs : List Int} {m : Int} (h : xs.length % 2 = 1) (hm : MedP xs m) : medV xs = m := (medV_p h).uniq hm
theorem medV_even {xs : List Int} (h : xs.length % 2 = 0) : medV xs = 0 := by
  unfold medV; rw [dif_neg (by omega)]
theorem medV_perm {xs ys : List Int} (hp : xs.Perm ys) : medV xs = medV ys := by
  rcases Nat.mod_two_eq_zero_or_one xs.length with h | h
  · rw [medV_even h, medV_even (by rw [← hp.length_eq]; exact h)]
  · exact medV_eq h ((medV_p (by rw [← hp.length_eq]; exact h)).perm hp.symm)
theorem countP_set {p : Int → Bool} {xs : List Int} {i : Nat} {x y : Int} (hx : xs[i]? = some x) (h : p y = true → p x = true) : (xs.set i y).countP p ≤ xs.countP p := by
  obtain ⟨hi, rfl⟩ := List.getElem?_eq_some_iff.1 hx
  induction xs generalizing i with
  | nil => simp at hi
  | cons a xs ih =>
    cases i with
    | zero =>
      simp only [List.set_cons_zero, List.countP_cons]
      simp only [List.getElem_cons_zero] at h
      cases e1 : p y
      · simp
      · rw [h e1]; exact Nat.le_refl _
    | succ i =>
      simp only [List.set_cons_succ, List.countP_cons]
      have := ih (i := i) (by simpa using hi) (by simp) h
      omega
/-- where one rises the median never falls -/
theorem medV_rise {xs : List Int} {i : Nat} {x y : Int} (h : xs.length % 2 = 1) (hx : xs[i]? = some x) (hxy : x ≤ y) : medV xs ≤ medV (xs.set i y) := by
  have h1 := medV_p h
  have h2 := medV_p (xs := xs.set i y) (by rw [List.length_set]; exact h)
  rcases Int.lt_or_le (medV (xs.set i y)) (medV xs) with h3 | h3
  · have h4 := h2.le
    have h5 : cLe (xs.set i y) (medV (xs.set i y)) ≤ cLe xs (medV (xs.set i y)) := countP_set hx (fun q => by simp at q ⊢; omega)
    have h6 := cLe_mono (xs := xs) h3
    have h7 := h1.lt
    rw [List.length_set] at h4
    omega
  · exact h3
/-- f + 1 of 2 f + 1 between two bounds: so is the median -/
theorem medV_between {hs ls : List Int} {f : Nat} {lo hi : Int} (h1 : hs.length = f + 1) (h2 : ls.length = f) (hb : ∀ x ∈ hs, lo ≤ x ∧ x ≤ hi) : lo ≤ medV (hs ++ ls) ∧ medV (hs ++ ls) ≤ hi := by
  have hl : (hs ++ ls).length = 2 * f + 1 := by rw [List.length_append]; omega
  have hm := medV_p (xs := hs ++ ls) (by omega)
  have ha := hm.lt
  have hc := hm.le
  rw [hl, show (2 * f + 1) / 2 = f by omega] at ha hc
  unfold cLt at ha
  unfold cLe at hc
  rw [List.countP_append] at ha hc
  generalize medV (hs ++ ls) = m at *
  constructor
  · rcases Int.lt_or_le m lo with h | h
    · have : hs.countP (fun x => decide (x ≤ m)) = 0 := List.countP_eq_zero.2 fun x hx => by have := hb x hx; simp; omega
      have := List.countP_le_length (l := ls) (p := fun x => decide (x ≤ m))
      omega
    · exact h
  · rcases Int.lt_or_le hi m with h | h
    · have : hs.countP (fun x => decide (x < m)) = hs.length := List.countP_eq_length.2 fun x hx => by have := hb x hx; simp; omega
      omega
    · exact h
def cEq (xs : List Int) (m : Int) : Nat := xs.countP fun x => decide (x = m)
theorem cLe_split (xs : List Int) (m : Int) : cLe xs m = cLt xs m + cEq xs m := by
  unfold cLe cLt cEq
  induction xs with
  | nil => rfl
  | cons x xs ih =>
    simp only [List.countP_cons, ih]
    rcases Int.lt_trichotomy x m with h | h | h
    · have a : x ≤ m := by omega
      have b : ¬ x = m := by omega
      simp [h, a, b]; omega
    · subst h; simp; omega
    · have a : ¬ x ≤ m := by omega
      have b : ¬ x = m := by omega
      have c : ¬ x < m := by omega
      simp [a, b, c]
theorem take_cnt (p : Int → Bool) (xs : List Int) (k : Nat) (h : k < xs.length) : (xs.take (k + 1)).countP p = (xs.take k).countP p + if p (xs.getD k 0) = true then 1 else 0 := by
  rw [List.getD_eq_getElem?_getD, List.getElem?_eq_getElem h, List.take_add_one, List.getElem?_eq_getElem h, List.countP_append]
  simp only [Option.toList_some, List.countP_singleton, Option.getD_some]
theorem cLt_le (xs : List Int) (m : Int) : cLt xs m ≤ xs.length := List.countP_le_length
theorem cEq_le (xs : List Int) (m : Int) : cEq xs m ≤ xs.length := List.countP_le_length
theorem cnt_take_le (p : Int → Bool) (xs : List Int) (k : Nat) : (xs.take k).countP p ≤ k := by
  have := List.countP_le_length (p := p) (l := xs.take k)
  rw [List.length_take] at this; omega
/-- the thing at place j is not the middle one -/
def NotMed (xs : List Int) (j : Nat) : Prop := ¬ (cLt xs (xs.getD j 0) ≤ xs.length / 2 ∧ xs.length / 2 < cLt xs (xs.getD j 0) + cEq xs (xs.getD j 0))
theorem getD_mem0 {xs : List Int} {j : Nat} (h : j < xs.length) : xs.getD j 0 ∈ xs := by
  rw [List.getD_eq_getElem?_getD, List.getElem?_eq_getElem h]; exact List.getElem_mem h
theorem medV_at {xs : List Int} {j : Nat} (h : xs.length % 2 = 1) (hj : j < xs.length) (h1 : cLt xs (xs.getD j 0) ≤ xs.length / 2) (h2 : xs.length / 2 < cLt xs (xs.getD j 0) + cEq xs (xs.getD j 0)) : medV xs = xs.getD j 0 :=
  medV_eq h ⟨getD_mem0 hj, h1, by rw [cLe_split]; exact h2⟩
theorem medV_no {xs : List Int} (h : xs.length % 2 = 1) (hn : ∀ j, j < xs.length → NotMed xs j) : False := by
  have hm := medV_p h
  obtain ⟨j, hj, he⟩ := List.mem_iff_getElem.1 hm.mem
  refine hn j hj ?_
  have : xs.getD j 0 = medV xs := by rw [List.getD_eq_getElem?_getD, List.getElem?_eq_getElem hj]; exact he
  rw [this, ← cLe_split]
  exact ⟨hm.lt, hm.le⟩
theorem notMed_step {xs : List Int} {i : Nat} (h : ∀ j, j < i → NotMed xs j) (hn : NotMed xs i) : ∀ j, j < i + 1 → NotMed xs j := fun j hj => by
  rcases Nat.lt_or_ge j i with h1 | h1
  · exact h j h1
  · obtain rfl : j = i := by omega
    exact hn
theorem srt_le {B : List Int} (h : Srt (fun x y : Int => decide (x < y)) 0 B.length B) {m : Int} (hm : B[B.length / 2]? = some m) : MedP B m := MedP.of_srt h hm
end Go.Proofs.Ytenihpghfdcpkaa
