/- WHAT IS PROVED: the document's registry as a list by rising names; plain laws on it beside the program's. Conditions: stated with each. -/
import Derived.Test.YtjlbabikogdknaaItems18
namespace Go.Proofs.Ytjlbabikogdknaa
open Go.RowKit
def encO (x : List UInt8 × Int) : List Value := [strV x.1, .int .i64 x.2]
theorem encO_len (x : List UInt8 × Int) : (encO x).length = 2 := rfl
theorem encO_one (x : List UInt8 × Int) : (encO x).all (·.oneCell') = true := rfl
def rrL (r : Nat) (a : Option Addr) (c : Nat) (L : RegL) : List Ck := [cellC r 46 [.slice a L.length c], rowC 61 2 (.slice a L.length c) L.length (L.flatMap encO)]
def rrC (r : Nat) (a : Option Addr) (c : Nat) (L : RegL) : Ck := sepC (rrL r a c L)
def SrtK (L : RegL) : Prop := L.Pairwise fun x y => x.1 < y.1
section
variable {M L : RegL} {s : List UInt8} {c : Int}
theorem SrtK.nodup (h : SrtK L) : (L.map (·.1)).Nodup := List.pairwise_map.2 (h.imp fun q e => by rw [e] at q; exact List.lt_irrefl _ q)
theorem nodup_perm (h : M.Perm L) (hL : (L.map (·.1)).Nodup) : (M.map (·.1)).Nodup := (h.map (·.1)).nodup_iff.2 hL
theorem lookM_iff (hn : (L.map (·.1)).Nodup) (v : Int) : lookM L s = some v ↔ (s, v) ∈ L := by
  constructor
  · intro h
    have hm : s ∈ L.map (·.1) := by
      refine Decidable.not_not.1 fun hc => ?_
      rw [lookM_notin hc] at h; cases h
    obtain ⟨v', h1, h2⟩ := lookM_mem hm
    rw [h1] at h; cases h; exact h2
  · intro h
    obtain ⟨v', h1, h2⟩ := lookM_mem (List.mem_map.2 ⟨_, h, rfl⟩ : s ∈ L.map (·.1))
    have : v' = v := by
      obtain ⟨i, hi, e1⟩ := List.mem_iff_getElem.1 h
      obtain ⟨j, hj, e2⟩ := List.mem_iff_getElem.1 h2
      have hij : i = j := by
        have hp := List.pairwise_iff_getElem.1 hn
        rcases Nat.lt_trichotomy i j with q | q | q
        · exact (hp i j (by simpa using hi) (by simpa using hj) q (by simp [e1, e2])).elim
        · exact q
        · exact (hp j i (by simpa using hj) (by simpa using hi) q (by simp [e1, e2])).elim
      subst hij
      rw [e1] at e2
      exact (Prod.mk.inj e2).2.symm
    rw [h1, this]
theorem lookM_perm (h : M.Perm L) (hL : SrtK L) : lookM M s = lookM L s := by
  have h1 := lookM_iff (L := M) (s := s) (nodup_perm h hL.nodup)
  have h2 := lookM_iff (L := L) (s := s) hL.nodup
  cases e1 : lookM M s with
  | some v => exact ((h2 v).2 (h.mem_iff.1 ((h1 v).1 e1))).symm
  | none =>
    cases e2 : lookM L s with
    | none => rfl
    | some v => rw [(h1 v).2 (h.mem_iff.2 ((h2 v).1 e2))] at e1; cases e1
theorem resE_perm (h : M.Perm L) (hL : SrtK L) : resE M s c = resE L s c := by unfold resE; rw [lookM_perm h hL, h.length_eq]
theorem relE_perm (h : M.Perm L) (hL : SrtK L) : relE M s c = relE L s c := by unfold relE; rw [lookM_perm h hL]
theorem cnt_perm (h : M.Perm L) : cntL M c = cntL L c := by unfold cntL; rw [h.countP_eq]
theorem sortK_perm (h : M.Perm L) (hL : SrtK L) : sortK M = L.map (·.1) := by
  unfold sortK
  have h1 := Go.mergeSort_of_perm (h.map (·.1))
  have h2 : (L.map (·.1)).mergeSort (fun x y => decide (x ≤ y)) = L.map (·.1) := List.mergeSort_of_pairwise (List.pairwise_map.2 (hL.imp fun q => by simpa using List.le_of_lt q))
  exact h1.trans h2
theorem resL_perm (h : M.Perm L) (hL : SrtK L) : (resL M s c).Perm (resL L s c) := by
  unfold resL
  rw [resE_perm h hL]
  split
  · rename_i h0
    have q := (resE_zero h0).2.1
    rw [putM_notin (lookM_none q), putM_notin (lookM_none (by rw [lookM_perm h hL]; exact q))]
    exact h.append_right _
  · exact h
theorem idx_cons {α : Type} [DecidableEq α] (x s : α) (l : List α) : List.idxOf? s (x :: l) = if x = s then some 0 else (List.idxOf? s l).map (· + 1) := by
  simp [List.idxOf?_cons]
theorem delM_filter : ∀ {L : RegL}, (L.map (·.1)).Nodup → delM L s = L.filter fun x => decide (x.1 ≠ s)
  | [], _ => rfl
  | x :: L, hn => by
    obtain ⟨h1, h2⟩ := List.nodup_cons.1 hn
    by_cases e : x.1 = s
    · subst e
      obtain ⟨a, v⟩ := x
      rw [delM_head, List.filter_cons_of_neg (by simp)]
      refine (List.filter_eq_self.2 fun y hy => ?_).symm
      simp only [decide_eq_true_eq]
      intro e; exact h1 (List.mem_map.2 ⟨y, hy, e⟩)
    · rw [List.filter_cons_of_pos (by simpa using e), ← delM_filter h2]
      unfold delM
      simp only [List.map_cons, idx_cons, if_neg e]
      cases hq : @List.idxOf? _ instBEqOfDecidableEq s (L.map (·.1)) <;> rfl
theorem relL_perm (h : M.Perm L) (hL : SrtK L) : (relL M s c).Perm (relL L s c) := by
  unfold relL
  rw [relE_perm h hL]
  split
  · rw [delM_filter hL.nodup, delM_filter (nodup_perm h hL.nodup)]; exact h.filter _
  · exact h
/-- where s is put -/
def insL (L : RegL) (k : Nat) (s : List UInt8) (c : Int) : RegL := L.take k ++ ([(s, c)] ++ L.drop k)
theorem insL_perm (h : (lookM L s).isSome = false) (k : Nat) : (insL L k s c).Perm (putM L s c) := by
  rw [putM_notin (lookM_none h)]
  unfold insL
  have h1 : (L.take k ++ ([(s, c)] ++ L.drop k)).Perm (L.take k ++ (L.drop k ++ [(s, c)])) := (List.perm_append_comm).append_left _
  have e : L.take k ++ (L.drop k ++ [(s, c)]) = L ++ [(s, c)] := by rw [← List.append_assoc, List.take_append_drop]
  rw [e] at h1; exact h1
theorem insL_srt (hL : SrtK L) (h : (lookM L s).isSome = false) {k : Nat} (hk : k ≤ L.length) (h1 : ∀ j x, k ≤ j → L[j]? = some x → s < x.1) (h2 : k = 0 ∨ ∃ x, L[k - 1]? = some x ∧ ¬ s < x.1) : SrtK (insL L k s c) := by
  have hn := lookM_none h
  have hlt : ∀ x ∈ L.take k, x.1 < s := by
    intro x hx
    obtain ⟨i, hi, e⟩ := List.mem_iff_getElem.1 hx
    rw [List.length_take] at hi
    rw [List.getElem_take] at e
    rcases h2 with h2 | ⟨y, hy, hns⟩
    · omega
    · obtain ⟨hy1, hy2⟩ := List.getElem?_eq_some_iff.1 hy
      have hys : y.1 < s := by
        exact (List.le_iff_lt_or_eq.1 (List.not_lt.1 hns)).resolve_right fun e => hn (List.mem_map.2 ⟨y, List.mem_of_getElem? hy, e⟩)
      by_cases hik : i = k - 1
      · subst hik; rw [hy2] at e; rw [← e]; exact hys
      · have := List.pairwise_iff_getElem.1 hL i (k - 1) (by omega) hy1 (by omega)
        rw [e, hy2] at this
        exact List.lt_trans this hys
  have hgt : ∀ x ∈ L.drop k, s < x.1 := by
    intro x hx
    obtain ⟨i, hi, e⟩ := List.mem_iff_getElem.1 hx
    rw [List.length_drop] at hi
    rw [List.getElem_drop] at e
    exact h1 (k + i) x (by omega) (by rw [List.getElem?_eq_getElem (by omega), e])
  unfold SrtK insL
  refine List.pairwise_append.2 ⟨hL.sublist (List.take_sublist _ _), List.pairwise_append.2 ⟨by simp, hL.sublist (List.drop_sublist _ _), fun x hx y hy => ?_⟩, fun x hx y hy => ?_⟩
  · rw [List.mem_singleton.1 hx]; exact hgt y hy
  · rcases List.mem_append.1 hy with hy | hy
    · rw [List.mem_singleton.1 hy]; exact hlt x hx
    · exact List.lt_trans (hlt x hx) (hgt y hy)
theorem look_step {i : Nat} {x : List UInt8 × Int} (hx : L[i]? = some x) (hne : ¬ x.1 = s) (h : s ∉ (L.take i).map (·.1)) : s ∉ (L.take (i + 1)).map (·.1) := by
  rw [List.take_add_one, hx, List.map_append, List.mem_append]
  rintro (q | q)
  · exact h q
  · simp at q; exact hne q.symm
theorem look_here {i : Nat} {x : List UInt8 × Int} (hx : L[i]? = some x) (he : x.1 = s) (h : s ∉ (L.take i).map (·.1)) : lookM L s = some x.2 := by
  obtain ⟨hi, e⟩ := List.getElem?_eq_some_iff.1 hx
  have hsplit : L = L.take i ++ x :: L.drop (i + 1) := by rw [← e]; simp
  have h2 := lookM_notin h
  unfold lookM at h2 ⊢
  rw [Option.map_eq_none_iff] at h2
  rw [hsplit, List.find?_append, h2]
  simp [he]
end
end Go.Proofs.Ytjlbabikogdknaa
