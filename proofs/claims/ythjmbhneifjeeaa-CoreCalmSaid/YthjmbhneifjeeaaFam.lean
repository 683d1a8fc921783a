/- WHAT IS PROVED: a family of pieces of one kind, of which one is taken out, turned and put back. Conditions: stated with each. -/
import Derived.Test.YthjmbhneifjeeaaObj
namespace Go.Proofs.Ythjmbhneifjeeaa
open Go.RowKit
section
variable {α β : Type} {ck : α → β → Ck} {w0 w w' : World} {G E : List Ck}
/-- the pieces of the blocks bs and the things ds, one of each -/
def famL (ck : α → β → Ck) (bs : List α) (ds : List β) : List Ck := (bs.zip ds).map fun x => ck x.1 x.2
def famC (ck : α → β → Ck) (bs : List α) (ds : List β) : Ck where
  fp b := bs.length = ds.length ∧ (sepC (famL ck bs ds)).fp b
  ok w := bs.length = ds.length ∧ (sepC (famL ck bs ds)).ok w
  stay h hb := ⟨h.1, (sepC _).stay h.2 fun b q => hb b ⟨h.1, q⟩⟩
  lt h b q := (sepC _).lt h.2 b q.2
theorem zip_get {bs : List α} {ds : List β} {i : Nat} {b : α} {d : β} (hb : bs[i]? = some b) (hd : ds[i]? = some d) : (bs.zip ds)[i]? = some (b, d) := by
  rw [List.getElem?_zip_eq_some]; exact ⟨hb, hd⟩
theorem famL_get {bs : List α} {ds : List β} {i : Nat} {b : α} {d : β} (hb : bs[i]? = some b) (hd : ds[i]? = some d) : (famL ck bs ds)[i]? = some (ck b d) := by
  unfold famL; rw [List.getElem?_map, zip_get hb hd]; rfl
theorem famL_set {bs : List α} {ds : List β} {i : Nat} {b : α} (hb : bs[i]? = some b) (d : β) : famL ck bs (ds.set i d) = (famL ck bs ds).set i (ck b d) := by
  refine List.ext_getElem? fun j => ?_
  unfold famL
  rw [List.getElem?_set]
  by_cases hj : i = j
  · subst hj
    simp only [if_true]
    by_cases hl : i < ds.length
    · have h2 : i < bs.length := (List.getElem?_eq_some_iff.1 hb).1
      rw [List.getElem?_map, zip_get hb (d := d) (by simp [hl])]
      have h3 : i < (List.map (fun x : α × β => ck x.1 x.2) (bs.zip ds)).length := by simp; omega
      rw [if_pos h3]; rfl
    · rw [List.getElem?_eq_none (by simp; omega)]
      split
      · rename_i h; simp at h; omega
      · rfl
  · rw [if_neg hj, List.getElem?_map, List.getElem?_map]
    congr 1
    rcases hB : bs[j]? with _ | x
    · rw [List.getElem?_eq_none_iff] at hB
      rw [List.getElem?_eq_none (by simp; omega), List.getElem?_eq_none (by simp; omega)]
    · rcases hD : ds[j]? with _ | y
      · rw [List.getElem?_eq_none_iff] at hD
        rw [List.getElem?_eq_none (by simp; omega), List.getElem?_eq_none (by simp; omega)]
      · rw [zip_get hB hD, zip_get hB (d := y)]
        rw [List.getElem?_set, if_neg hj]; exact hD
theorem famC_at {bs : List α} {ds : List β} {i : Nat} {b : α} {d : β} (h : (famC ck bs ds).ok w) (hb : bs[i]? = some b) (hd : ds[i]? = some d) : (ck b d).ok w := h.2.1 _ (List.mem_of_getElem? (famL_get hb hd))
theorem famC_len {bs : List α} {ds : List β} (h : (famC ck bs ds).ok w) : bs.length = ds.length := h.1
/-- one of them was turned by a call, which made new pieces -/
theorem famC_turn {bs : List α} {ds : List β} {i : Nat} {b : α} {d d' : β} (h : (famC ck bs ds).ok w) (hb : bs[i]? = some b) (hd : ds[i]? = some d) (hS : Sat w ([ck b d'] ++ E ++ [restC w (ck b d).fp]) w') :
    Sat w ([famC ck bs (ds.set i d')] ++ E ++ [restC w (famC ck bs ds).fp]) w' := by
  have hg := famL_get (ck := ck) hb hd
  obtain ⟨hil, hie⟩ := List.getElem?_eq_some_iff.1 hg
  have hokx : (ck b d).ok w := famC_at h hb hd
  have hpw := List.pairwise_iff_getElem.1 h.2.2
  have hlen : bs.length = (ds.set i d').length := by rw [List.length_set]; exact h.1
  have hxf : ∀ k, (ck b d).fp k → (famC ck bs ds).fp k := fun k hk => ⟨h.1, _, List.mem_of_getElem? hg, hk⟩
  have far : ∀ j (hj : j < (famL ck bs ds).length), j ≠ i → ∀ k, (famL ck bs ds)[j].fp k → k < w.heap.size ∧ ¬ (ck b d).fp k := by
    intro j hj hji k hk
    refine ⟨((famL ck bs ds)[j]).lt (h.2.1 _ (List.getElem_mem hj)) k hk, fun hk2 => ?_⟩
    rcases Nat.lt_or_ge j i with h1 | h1
    · exact hpw j i hj hil h1 k hk (hie ▸ hk2)
    · exact hpw i j hil hj (by omega) k (hie ▸ hk2) hk
  obtain ⟨p1, p2, p3⟩ := List.pairwise_append.1 hS.dis
  obtain ⟨q1, q2, q3⟩ := List.pairwise_append.1 p1
  have hrest : (restC w (ck b d).fp).ok w' := hS.all _ (by simp)
  have hnew : (ck b d').ok w' := hS.all _ (by simp)
  have newrest : ∀ k, (ck b d').fp k → ¬ (k < w.heap.size ∧ ¬ (ck b d).fp k) := fun k hk => p3 _ (by simp) _ (List.mem_singleton.2 rfl) k hk
  -- the new family
  have hok : (famC ck bs (ds.set i d')).ok w' := by
    refine ⟨hlen, ?_, ?_⟩
    · intro A hA
      rw [famL_set hb] at hA
      obtain ⟨j, hj, rfl⟩ := List.mem_iff_getElem.1 hA
      rw [List.getElem_set]
      split
      · exact hnew
      · rename_i hne
        have hj' : j < (famL ck bs ds).length := by simpa using hj
        refine ((famL ck bs ds)[j]).stay (h.2.1 _ (List.getElem_mem hj')) fun k hk => ?_
        have := far j hj' (Ne.symm hne) k hk
        exact hrest k this.1 this.2
    · rw [famL_set hb]
      refine List.pairwise_iff_getElem.2 fun x y hx hy hxy k => ?_
      rw [List.getElem_set, List.getElem_set]
      have hx' : x < (famL ck bs ds).length := by simpa using hx
      have hy' : y < (famL ck bs ds).length := by simpa using hy
      split
      · split
        · omega
        · rename_i hne
          exact fun h1 h2 => newrest k h1 (far y hy' (Ne.symm hne) k h2)
      · rename_i hne
        split
        · exact fun h1 h2 => newrest k h2 (far x hx' (Ne.symm hne) k h1)
        · exact hpw x y hx' hy' hxy k
  -- where its blocks lie
  have hfp : ∀ k, (famC ck bs (ds.set i d')).fp k → (ck b d').fp k ∨ (k < w.heap.size ∧ ¬ (ck b d).fp k ∧ (famC ck bs ds).fp k) := by
    rintro k ⟨_, A, hA, hk⟩
    rw [famL_set hb] at hA
    obtain ⟨j, hj, rfl⟩ := List.mem_iff_getElem.1 hA
    rw [List.getElem_set] at hk
    split at hk
    · exact .inl hk
    · rename_i hne
      have hj' : j < (famL ck bs ds).length := by simpa using hj
      have := far j hj' (Ne.symm hne) k hk
      exact .inr ⟨this.1, this.2, h.1, _, List.getElem_mem hj', hk⟩
  have hE : ∀ A ∈ E, ∀ k, A.fp k → ¬ (k < w.heap.size ∧ ¬ (ck b d).fp k) := fun A hA k hk => p3 A (by simp [hA]) _ (List.mem_singleton.2 rfl) k hk
  refine ⟨hS.ext, ?_, ?_⟩
  · intro A hA
    simp only [List.mem_append, List.mem_singleton] at hA
    rcases hA with (rfl | hA) | rfl
    · exact hok
    · exact hS.all A (by simp [hA])
    · exact fun k h1 h2 => hrest k h1 fun h3 => h2 (hxf k h3)
  · refine List.pairwise_append.2 ⟨List.pairwise_append.2 ⟨by simp, q2, ?_⟩, by simp, ?_⟩
    · intro A hA B hB k h1 h2
      obtain rfl := List.mem_singleton.1 hA
      rcases hfp k h1 with h3 | h3
      · exact q3 _ (by simp) B hB k h3 h2
      · exact hE B hB k h2 ⟨h3.1, h3.2.1⟩
    · intro A hA B hB k h1 h2
      obtain rfl := List.mem_singleton.1 hB
      rcases List.mem_append.1 hA with hA | hA
      · obtain rfl := List.mem_singleton.1 hA
        rcases hfp k h1 with h3 | h3
        · exact newrest k h3 ⟨h2.1, fun h4 => h2.2 (hxf k h4)⟩
        · exact h2.2 h3.2.2
      · exact hE A hA k h1 ⟨h2.1, fun h4 => h2.2 (hxf k h4)⟩
/-- the empty family -/
theorem Sat.famNil (H : Sat w0 G w) : Sat w0 (G ++ [famC ck [] []]) w := by
  refine ⟨H.ext, ?_, List.pairwise_append.2 ⟨H.dis, by simp, ?_⟩⟩
  · intro A hA
    rcases List.mem_append.1 hA with hA | hA
    · exact H.all A hA
    · obtain rfl := List.mem_singleton.1 hA
      exact ⟨rfl, by simp [famL], by simp [famL]⟩
  · intro A _ B hB k _ h2
    obtain rfl := List.mem_singleton.1 hB
    obtain ⟨_, C, hC, _⟩ := h2
    simp [famL] at hC
/-- one more -/
theorem Sat.famSnoc {bs : List α} {ds : List β} (b : α) (d : β) (H : Sat w0 (famC ck bs ds :: ck b d :: G) w) : Sat w0 (famC ck (bs ++ [b]) (ds ++ [d]) :: G) w := by
  have hf := H.all _ (List.mem_cons_self ..)
  have hn := H.all _ (List.mem_cons_of_mem _ (List.mem_cons_self ..))
  obtain ⟨p1, p2⟩ := List.pairwise_cons.1 H.dis
  obtain ⟨q1, q2⟩ := List.pairwise_cons.1 p2
  have hL : famL ck (bs ++ [b]) (ds ++ [d]) = famL ck bs ds ++ [ck b d] := by
    unfold famL; rw [List.zip_append hf.1]; simp
  have hl2 : (bs ++ [b]).length = (ds ++ [d]).length := by simp [hf.1]
  refine ⟨H.ext, ?_, List.pairwise_cons.2 ⟨?_, q2⟩⟩
  · intro A hA
    rcases List.mem_cons.1 hA with rfl | hA
    · refine ⟨hl2, ?_, ?_⟩
      · rw [hL]; intro B hB
        rcases List.mem_append.1 hB with hB | hB
        · exact hf.2.1 B hB
        · obtain rfl := List.mem_singleton.1 hB; exact hn
      · rw [hL]
        refine List.pairwise_append.2 ⟨hf.2.2, by simp, ?_⟩
        intro B hB C hC k h1 h2
        obtain rfl := List.mem_singleton.1 hC
        exact p1 _ (List.mem_cons_self ..) k ⟨hf.1, B, hB, h1⟩ h2
    · exact H.all A (List.mem_cons_of_mem _ (List.mem_cons_of_mem _ hA))
  · rintro A hA k ⟨_, B, hB, hk⟩ h2
    rw [hL] at hB
    rcases List.mem_append.1 hB with hB | hB
    · exact p1 A (List.mem_cons_of_mem _ hA) k ⟨hf.1, B, hB, hk⟩ h2
    · obtain rfl := List.mem_singleton.1 hB
      exact q1 A hA k hk h2
end
section
variable {P : Program} {n : Nat} {f : Nat → Value} {w : World}
theorem e_tdiv {o : Oper} {k : IntKind} {a b : Int} (hr : (execOp (ev n f) o).run P w = (Op.intDiv .quo k a b >>= fun v => pure (Next.value v)).run P w) (h : b ≠ 0) (hw : k.wrap (a.tdiv b) = a.tdiv b) : (execOp (ev n f) o).run P w = .ok (.value (.int k (a.tdiv b))) w := by
  rw [hr]
  simp [Op.intDiv, h, hw]
end
theorem tdiv_i64 {a b : Int} (ha : -9223372036854775808 ≤ a ∧ a ≤ 9223372036854775807) (hb : 2 ≤ b) : IntKind.i64.wrap (a.tdiv b) = a.tdiv b := by
  have key : ∀ c : Int, 0 ≤ c → 0 ≤ c.tdiv b ∧ 2 * c.tdiv b ≤ c := fun c hc => by
    rw [Int.tdiv_eq_ediv_of_nonneg hc]
    have h1 := Int.ediv_nonneg hc (show 0 ≤ b by omega)
    have h2 := Int.mul_ediv_add_emod c b
    have h3 := Int.emod_nonneg c (show b ≠ 0 by omega)
    have h4 : 2 * (c / b) ≤ b * (c / b) := Int.mul_le_mul_of_nonneg_right hb h1
    omega
  refine IntWalk.i64_in _ ?_
  rcases Int.le_total 0 a with h | h
  · have := key a h; omega
  · have h1 := key (-a) (by omega)
    rw [Int.neg_tdiv] at h1
    omega
end Go.Proofs.Ythjmbhneifjeeaa
