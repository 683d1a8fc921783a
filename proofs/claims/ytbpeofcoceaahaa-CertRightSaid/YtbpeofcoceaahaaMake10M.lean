/- WHAT IS PROVED: of stamps: which a certificate takes; sorted they are those that the document names. Conditions: stated with each. -/
import Derived.Test.YtbpeofcoceaahaaRightD
namespace Go.Proofs.Ytbpeofcoceaahaa
open Go.RowKit
def mayS (F : Int) (x : CommitD) (s : StampD) : Bool := inB F s.r && sameN s x
def hasR (D : List StampD) (r : Int) : Bool := D.any fun o => decide (o.r = r)
def takeS (F : Int) (x : CommitD) (D : List StampD) (s : StampD) : List StampD := if (mayS F x s && !hasR D s.r) = true then D ++ [s] else D
def outS (F : Int) (x : CommitD) (L : List StampD) : List StampD := L.foldl (takeS F x) []
def isR (x : CommitD) (r : Int) (s : StampD) : Bool := decide (s.r = r) && sameN s x
def firstR (x : CommitD) (L : List StampD) (r : Nat) : Option StampD := L.find? (isR x r)
def refS (x : CommitD) (L : List StampD) (n : Nat) : List StampD := (List.range n).filterMap (firstR x L)
theorem outS_step (F : Int) (x : CommitD) (L : List StampD) {i : Nat} (h : i < L.length) : outS F x (L.take (i + 1)) = takeS F x (outS F x (L.take i)) (L.getD i stamp0) := by
  unfold outS
  rw [List.take_add_one, List.getElem?_eq_getElem h, List.foldl_append, List.getD_eq_getElem?_getD, List.getElem?_eq_getElem h]
  rfl
theorem takeS_len (F : Int) (x : CommitD) (D : List StampD) (s : StampD) : (takeS F x D s).length ≤ D.length + 1 := by
  unfold takeS; split <;> simp
theorem outS_len (F : Int) (x : CommitD) (L : List StampD) : (outS F x L).length ≤ L.length := by
  have : ∀ n, n ≤ L.length → (outS F x (L.take n)).length ≤ n := fun n => by
    induction n with
    | zero => intro _; simp [outS]
    | succ n ih => intro h; rw [outS_step F x L (by omega)]; have := takeS_len F x (outS F x (L.take n)) (L.getD n stamp0); have := ih (by omega); omega
  have := this L.length (Nat.le_refl _)
  rwa [List.take_length] at this
theorem hasR_iff {D : List StampD} {r : Int} : hasR D r = true ↔ ∃ o ∈ D, o.r = r := by simp [hasR]
/-- what is known of those that were taken -/
structure Taken (F : Int) (x : CommitD) (L D : List StampD) : Prop where
  mem : ∀ s, s ∈ D ↔ (0 ≤ s.r ∧ s.r < 3 * F + 1) ∧ firstR x L s.r.toNat = some s
  dif : D.Pairwise fun a b => a.r ≠ b.r
theorem firstR_some {x : CommitD} {L : List StampD} {r : Nat} {s : StampD} (h : firstR x L r = some s) : s.r = r ∧ sameN s x = true ∧ s ∈ L := by
  have h1 := List.find?_some h
  have h2 := List.mem_of_find?_eq_some h
  simp only [isR, Bool.and_eq_true, decide_eq_true_eq] at h1
  exact ⟨h1.1, h1.2, h2⟩
theorem firstR_snoc (x : CommitD) (L : List StampD) (s : StampD) (r : Nat) : firstR x (L ++ [s]) r = (firstR x L r).or (if isR x r s = true then some s else none) := by
  unfold firstR
  rw [List.find?_append]
  congr 1
  simp [List.find?_cons]
  split <;> simp_all
theorem taken_snoc {F : Int} {x : CommitD} {L D : List StampD} (h : Taken F x L D) (s : StampD) : Taken F x (L ++ [s]) (takeS F x D s) := by
  by_cases hc : (mayS F x s && !hasR D s.r) = true
  · have hD : takeS F x D s = D ++ [s] := by unfold takeS; rw [if_pos hc]
    rw [hD]
    simp only [Bool.and_eq_true, Bool.not_eq_true', mayS, inB, decide_eq_true_eq] at hc
    obtain ⟨⟨⟨h0, h1⟩, hs⟩, hn⟩ := hc
    have hnone : firstR x L s.r.toNat = none := by
      cases hf : firstR x L s.r.toNat with
      | none => rfl
      | some t =>
        exfalso
        obtain ⟨hr, _, _⟩ := firstR_some hf
        have hr' : t.r = s.r := by omega
        have : t ∈ D := (h.mem t).2 ⟨by omega, by rw [hr']; exact hf⟩
        have := hasR_iff.2 ⟨t, this, hr'⟩
        rw [hn] at this; cases this
    refine ⟨fun t => ?_, ?_⟩
    · rw [List.mem_append, List.mem_singleton, h.mem, firstR_snoc]
      constructor
      · rintro (⟨hb, hf⟩ | rfl)
        · exact ⟨hb, by rw [hf]; rfl⟩
        · refine ⟨⟨h0, h1⟩, ?_⟩
          rw [hnone, if_pos (by simp only [isR, Bool.and_eq_true, decide_eq_true_eq]; exact ⟨by omega, hs⟩)]; rfl
      · rintro ⟨hb, hf⟩
        cases hq : firstR x L t.r.toNat with
        | some u => rw [hq] at hf; exact .inl ⟨hb, by simpa using hf⟩
        | none =>
          rw [hq] at hf
          simp only [Option.none_or] at hf
          split at hf
          · right; injection hf with hf; exact hf.symm
          · cases hf
    · refine List.pairwise_append.2 ⟨h.dif, by simp, fun a ha b hb => ?_⟩
      obtain rfl := List.mem_singleton.1 hb
      intro e
      have := hasR_iff.2 ⟨a, ha, e⟩
      rw [hn] at this; cases this
  · have hD : takeS F x D s = D := by unfold takeS; rw [if_neg hc]
    rw [hD]
    refine ⟨fun t => ?_, h.dif⟩
    rw [h.mem, firstR_snoc]
    constructor
    · rintro ⟨hb, hf⟩; exact ⟨hb, by rw [hf]; rfl⟩
    · rintro ⟨hb, hf⟩
      cases hq : firstR x L t.r.toNat with
      | some u => rw [hq] at hf; exact ⟨hb, by simpa using hf⟩
      | none =>
        exfalso
        rw [hq] at hf
        simp only [Option.none_or] at hf
        split at hf
        · rename_i hi
          injection hf with hf
          subst hf
          simp only [isR, Bool.and_eq_true, decide_eq_true_eq] at hi
          apply hc
          simp only [mayS, inB, Bool.and_eq_true, decide_eq_true_eq, Bool.not_eq_true']
          refine ⟨⟨⟨hb.1, hb.2⟩, hi.2⟩, ?_⟩
          rw [Bool.eq_false_iff]
          intro hh
          obtain ⟨o, ho, e⟩ := hasR_iff.1 hh
          have := ((h.mem o).1 ho).2
          rw [e, hq] at this; cases this
        · cases hf
theorem taken_all (F : Int) (x : CommitD) (L : List StampD) : Taken F x L (outS F x L) := by
  have : ∀ n, n ≤ L.length → Taken F x (L.take n) (outS F x (L.take n)) := fun n => by
    induction n with
    | zero => intro _; exact ⟨fun s => by simp [outS, firstR], by simp [outS]⟩
    | succ n ih =>
      intro h
      rw [outS_step F x L (by omega)]
      have e : L.take (n + 1) = L.take n ++ [L.getD n stamp0] := by
        rw [List.take_add_one, List.getElem?_eq_getElem (by omega), List.getD_eq_getElem?_getD, List.getElem?_eq_getElem (by omega)]; rfl
      rw [e]
      exact taken_snoc (ih (by omega)) _
  have := this L.length (Nat.le_refl _)
  rwa [List.take_length] at this
theorem refS_mem {x : CommitD} {L : List StampD} {n : Nat} {s : StampD} : s ∈ refS x L n ↔ (0 ≤ s.r ∧ s.r < n) ∧ firstR x L s.r.toNat = some s := by
  unfold refS
  rw [List.mem_filterMap]
  constructor
  · rintro ⟨r, hr, hf⟩
    have := List.mem_range.1 hr
    obtain ⟨e, _, _⟩ := firstR_some hf
    exact ⟨by omega, by rw [show s.r.toNat = r by omega]; exact hf⟩
  · rintro ⟨hb, hf⟩
    exact ⟨s.r.toNat, List.mem_range.2 (by omega), hf⟩
theorem refS_step (x : CommitD) (L : List StampD) (n : Nat) : refS x L (n + 1) = refS x L n ++ (firstR x L n).toList := by
  unfold refS
  rw [List.range_succ, List.filterMap_append]
  congr 1
theorem refS_sorted (x : CommitD) (L : List StampD) (n : Nat) : (refS x L n).Pairwise fun a b => a.r < b.r := by
  induction n with
  | zero => simp [refS]
  | succ n ih =>
    rw [refS_step]
    refine List.pairwise_append.2 ⟨ih, ?_, fun a ha b hb => ?_⟩
    · cases firstR x L n <;> simp
    · have h1 := (refS_mem.1 ha).1
      cases hf : firstR x L n with
      | none => rw [hf] at hb; simp at hb
      | some t =>
        rw [hf] at hb
        obtain rfl : b = t := by simpa using hb
        obtain ⟨e, _, _⟩ := firstR_some hf
        omega
/-- lists that rise and have the same things are the same -/
theorem rise_eq : ∀ {A B : List StampD}, (A.Pairwise fun a b => a.r < b.r) → (B.Pairwise fun a b => a.r < b.r) → (∀ s, s ∈ A ↔ s ∈ B) → A = B
  | [], [], _, _, _ => rfl
  | [], b :: _, _, _, h => absurd ((h b).2 (by simp)) (by simp)
  | a :: _, [], _, _, h => absurd ((h a).1 (by simp)) (by simp)
  | a :: A, b :: B, hA, hB, h => by
    rw [List.pairwise_cons] at hA hB
    have hab : a = b := by
      rcases List.mem_cons.1 ((h a).1 (by simp)) with e | ha
      · exact e
      · rcases List.mem_cons.1 ((h b).2 (by simp)) with e | hb
        · exact e.symm
        · have := hB.1 a ha; have := hA.1 b hb; omega
    subst hab
    refine congrArg (a :: ·) (rise_eq hA.2 hB.2 fun s => ?_)
    constructor
    · intro hs
      rcases List.mem_cons.1 ((h s).1 (List.mem_cons_of_mem _ hs)) with e | hs'
      · subst e; have := hA.1 s hs; omega
      · exact hs'
    · intro hs
      rcases List.mem_cons.1 ((h s).2 (List.mem_cons_of_mem _ hs)) with e | hs'
      · subst e; have := hB.1 s hs; omega
      · exact hs'
/-- sorted, those that were taken are the document's -/
theorem sorted_ref {F : Int} {x : CommitD} {L D : List StampD} {n : Nat} (hn : (n : Int) = 3 * F + 1) (hp : D.Perm (outS F x L)) (hs : D.Pairwise fun a b => a.r ≤ b.r) : D = refS x L n := by
  have hT := taken_all F x L
  have hd : D.Pairwise fun a b => a.r ≠ b.r := (hp.symm.pairwise_iff (fun h => Ne.symm h)).1 hT.dif
  refine rise_eq ((hs.and hd).imp fun h => by omega) (refS_sorted x L n) fun s => ?_
  rw [hp.mem_iff, hT.mem, refS_mem, hn]
theorem ref_len {F : Int} {x : CommitD} {L : List StampD} {n : Nat} (hn : (n : Int) = 3 * F + 1) : (outS F x L).length = (refS x L n).length := by
  have hT := taken_all F x L
  have h := sorted_ref (F := F) (L := L) (x := x) hn (List.mergeSort_perm (outS F x L) (fun a b => decide (a.r ≤ b.r))) ((List.pairwise_mergeSort (le := fun a b : StampD => decide (a.r ≤ b.r)) (fun a b c h1 h2 => by simp at *; omega) (fun a b => by simp; omega) _).imp fun h => by simpa using h)
  rw [← h, (List.mergeSort_perm _ _).length_eq]
/-- a part of the document's list is its beginning -/
theorem refS_prefix (x : CommitD) (L : List StampD) {r n : Nat} (h : r ≤ n) : (refS x L n).take (refS x L r).length = refS x L r := by
  have : ∃ t, refS x L n = refS x L r ++ t := by
    induction n with
    | zero =>
      obtain rfl : r = 0 := by omega
      exact ⟨[], by simp⟩
    | succ n ih =>
      by_cases e : r = n + 1
      · subst e; exact ⟨[], by simp⟩
      · obtain ⟨t, ht⟩ := ih (by omega)
        exact ⟨t ++ (firstR x L n).toList, by rw [refS_step, ht, List.append_assoc]⟩
  obtain ⟨t, ht⟩ := this
  rw [ht, List.take_left']; rfl
theorem refS_len_le (x : CommitD) (L : List StampD) {r n : Nat} (h : r ≤ n) : (refS x L r).length ≤ (refS x L n).length := by
  have := congrArg List.length (refS_prefix x L h)
  rw [List.length_take] at this; omega
end Go.Proofs.Ytbpeofcoceaahaa
