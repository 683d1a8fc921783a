/- WHAT IS PROVED: a region that draws its order, some of whose loads read what its last stores turn: what only reads is taken first as long as no such store can have come up. Conditions: stated with each. -/
import Derived.Test.YtenihpghfdcpkaaSat
namespace Go.Proofs.Ytenihpghfdcpkaa
open Go.RowKit
section
variable {P : Program} {ops : Array Oper} {Q : Exit → Act → World → Prop} {md : Region.Mode} {S : World → Prop} {B : Nat → Bool}
/-- whatever order is picked from here on: S holds behind every operation but those of B; behind one of these another condition does, to the end -/
def wpAnyK (P : Program) (md : Region.Mode) (ops : Array Oper) (Q : Exit → Act → World → Prop) (S : World → Prop) (B : Nat → Bool) : Nat → Array Bool → Act → World → Prop
  | 0, listed, a, w => Region.ready md ops listed = [] ∧ Q .normal a w
  | fuel + 1, listed, a, w =>
    (Region.ready md ops listed = [] → Q .normal a w) ∧
    ∀ i ∈ Region.ready md ops listed, wpOp P ops Q i (fun a' w' => if B i = true then ∃ S2 : World → Prop, S2 w' ∧ wpAnyH P md ops Q S2 fuel (listed.setIfInBounds i true) a' w' else S w' ∧ wpAnyK P md ops Q S B fuel (listed.setIfInBounds i true) a' w') a w
theorem wpAny_of_K : ∀ (fuel : Nat) (listed : Array Bool) (a : Act) (w : World), wpAnyK P md ops Q S B fuel listed a w → wpAny P md ops Q fuel listed a w
  | 0, _, _, _, h => h
  | fuel + 1, _, _, _, h => ⟨h.1, fun i hi => wpOp_mono (fun a' w' h' => by
      split at h'
      · obtain ⟨S2, _, h2⟩ := h'; exact wpAny_of_held fuel _ a' w' h2
      · exact wpAny_of_K fuel _ a' w' h'.2) (h.2 i hi)⟩
theorem wpAnyK_first {i : Nat} {oi : Oper} {v : Value} (hi : ops[i]? = some oi) (hsel : ∀ (j : Nat) (o : Oper) cs b, ops[j]? = some o → o.op ≠ .select cs b)
    (hQ : ∀ c a w, Q (.panic c) (a.put oi.dst v) w → Q (.panic c) a w) (hiB : B i = false) (hB : ∀ j oj, B j = true → ops[j]? = some oj → ∃ e ∈ oj.after, Region.binds md e = true ∧ e.on = i) :
    ∀ (fuel : Nat) (listed : Array Bool) (a : Act) (w : World),
      (∀ j oj, ops[j]? = some oj → j ≠ i → listed.getD j true = false → (∀ e ∈ oj.after, Region.binds md e = true → e.on ≠ i) → oi.apart ops oj = true) →
      i ∈ Region.ready md ops listed → YieldsIf P ops S oi v a → S w →
      wpAnyK P md ops Q S B fuel (listed.setIfInBounds i true) (a.put oi.dst v) w → wpAnyK P md ops Q S B (fuel + 1) listed a w := by
  intro fuel
  induction fuel with
  | zero =>
    intro listed a w _ hr hy hS H
    refine ⟨fun h => (by rw [h] at hr; cases hr), fun j hj => ?_⟩
    by_cases hji : j = i
    · subst hji; exact hy.wpOp hi hS (by rw [if_neg (by rw [hiB]; simp)]; exact ⟨hS, H⟩)
    · have := ready_mono hj hji
      rw [H.1] at this
      cases this
  | succ fuel ih =>
    intro listed a w hfree hr hy hS H
    refine ⟨fun h => (by rw [h] at hr; cases hr), fun j hj => ?_⟩
    by_cases hji : j = i
    · subst hji; exact hy.wpOp hi hS (by rw [if_neg (by rw [hiB]; simp)]; exact ⟨hS, H⟩)
    · have h1 := H.2 j (ready_mono hj hji)
      obtain ⟨hjun, oj, hoj, hall⟩ := mem_ready.1 hj
      have hnot : ∀ e ∈ oj.after, Region.binds md e = true → e.on ≠ i := fun e he hb heq => by
        have h1 := hall e he hb
        have h0 := (mem_ready.1 hr).1
        rw [heq] at h1
        rcases Nat.lt_or_ge i listed.size with h' | h'
        · simp [h'] at h0 h1; rw [h0] at h1; cases h1
        · simp [Array.getElem?_eq_none h'] at h1
      have hjB : ¬ B j = true := fun hjb => by
        obtain ⟨e, he, hb, hon⟩ := hB j oj hjb hoj
        exact hnot e he hb hon
      have h2 := wpOp_putIf hoj (hfree j oj hoj hji hjun hnot) (fun cs b => hsel i oi cs b hi) (fun cs b => hsel j oj cs b hoj) hQ hy h1
      have hfree' : ∀ k ok, ops[k]? = some ok → k ≠ i → (listed.setIfInBounds j true).getD k true = false →
          (∀ e ∈ ok.after, Region.binds md e = true → e.on ≠ i) → oi.apart ops ok = true := fun k ok hk hki hun hno => by
        refine hfree k ok hk hki ?_ hno
        by_cases hjk : j = k
        · subst hjk; exact hjun
        · rw [getD_set_ne true hjk] at hun; exact hun
      refine wpOp_mono (fun a' w' h3 => ?_) h2
      have h4 := h3.2
      rw [if_neg hjB] at h4 ⊢
      refine ⟨h4.1, ih (listed.setIfInBounds j true) a' w' hfree' (ready_mono hr (Ne.symm hji)) h3.1 h4.1 ?_⟩
      rw [Array.setIfInBounds_comm _ _ hji]
      exact h4.2
theorem wpAnyK_firstP {i : Nat} {oi : Oper} {v : Value} (hi : ops[i]? = some oi) (hsel : ∀ (j : Nat) (o : Oper) cs b, ops[j]? = some o → o.op ≠ .select cs b)
    (hQ : ∀ c a w, Q (.panic c) (a.put oi.dst v) w → Q (.panic c) a w) (hiB : B i = false) :
    ∀ (fuel : Nat) (listed : Array Bool) (a : Act) (w : World),
      (∀ j oj, ops[j]? = some oj → j ≠ i → listed.getD j true = false → (∀ e ∈ oj.after, Region.binds md e = true → e.on ≠ i) → oi.apart ops oj = true) →
      i ∈ Region.ready md ops listed → YieldsIf P ops (fun _ => True) oi v a → S w →
      wpAnyK P md ops Q S B fuel (listed.setIfInBounds i true) (a.put oi.dst v) w → wpAnyK P md ops Q S B (fuel + 1) listed a w := by
  intro fuel
  induction fuel with
  | zero =>
    intro listed a w _ hr hy hS H
    refine ⟨fun h => (by rw [h] at hr; cases hr), fun j hj => ?_⟩
    by_cases hji : j = i
    · subst hji; exact hy.wpOp hi trivial (by rw [if_neg (by rw [hiB]; simp)]; exact ⟨hS, H⟩)
    · have := ready_mono hj hji
      rw [H.1] at this
      cases this
  | succ fuel ih =>
    intro listed a w hfree hr hy hS H
    refine ⟨fun h => (by rw [h] at hr; cases hr), fun j hj => ?_⟩
    by_cases hji : j = i
    · subst hji; exact hy.wpOp hi trivial (by rw [if_neg (by rw [hiB]; simp)]; exact ⟨hS, H⟩)
    · have h1 := H.2 j (ready_mono hj hji)
      obtain ⟨hjun, oj, hoj, hall⟩ := mem_ready.1 hj
      have hnot : ∀ e ∈ oj.after, Region.binds md e = true → e.on ≠ i := fun e he hb heq => by
        have h1 := hall e he hb
        have h0 := (mem_ready.1 hr).1
        rw [heq] at h1
        rcases Nat.lt_or_ge i listed.size with h' | h'
        · simp [h'] at h0 h1; rw [h0] at h1; cases h1
        · simp [Array.getElem?_eq_none h'] at h1
      have h2 := wpOp_putIf hoj (hfree j oj hoj hji hjun hnot) (fun cs b => hsel i oi cs b hi) (fun cs b => hsel j oj cs b hoj) hQ hy h1
      have hfree' : ∀ k ok, ops[k]? = some ok → k ≠ i → (listed.setIfInBounds j true).getD k true = false →
          (∀ e ∈ ok.after, Region.binds md e = true → e.on ≠ i) → oi.apart ops ok = true := fun k ok hk hki hun hno => by
        refine hfree k ok hk hki ?_ hno
        by_cases hjk : j = k
        · subst hjk; exact hjun
        · rw [getD_set_ne true hjk] at hun; exact hun
      refine wpOp_mono (fun a' w' h3 => ?_) h2
      have h4 := h3.2
      by_cases hjB : B j = true
      · rw [if_pos hjB] at h4 ⊢
        obtain ⟨S2, hS2, h5⟩ := h4
        refine ⟨S2, hS2, wpAnyH_first hi hsel hQ fuel (listed.setIfInBounds j true) a' w' hfree' (ready_mono hr (Ne.symm hji)) (h3.1.imp (fun ⟨q1, q2⟩ => ⟨q1, fun w _ => q2 w trivial⟩) id) hS2 ?_⟩
        rw [Array.setIfInBounds_comm _ _ hji]
        exact h5
      · rw [if_neg hjB] at h4 ⊢
        refine ⟨h4.1, ih (listed.setIfInBounds j true) a' w' hfree' (ready_mono hr (Ne.symm hji)) h3.1 h4.1 ?_⟩
        rw [Array.setIfInBounds_comm _ _ hji]
        exact h4.2
end
structure WK (P : Program) (ops : Array Oper) (Q : Exit → Act → World → Prop) (S : World → Prop) (B : Nat → Bool) (fuel : Nat) (listed : Array Bool) (n : Nat) (f : Nat → Value) (w : World) : Prop where
  h : wpAnyK P .any ops Q S B fuel listed (fr n f) w
/-- every operation of B waits for number i -/
def waitB (ops : Array Oper) (B : List Nat) (i : Nat) : Bool := B.all fun j => match ops[j]? with
  | some oj => oj.after.any fun e => Region.binds .any e && Nat.beq e.on i
  | none => true
theorem waitB_spec {ops : Array Oper} {B : List Nat} {i : Nat} (h : waitB ops B i = true) : ∀ j oj, memN B j = true → ops[j]? = some oj → ∃ e ∈ oj.after, Region.binds .any e = true ∧ e.on = i := by
  intro j oj hj ho
  have := List.all_eq_true.1 h j ((memN_iff B j).1 hj)
  rw [ho] at this
  simp only [Array.any_eq_true', Bool.and_eq_true] at this
  obtain ⟨e, he, h1, h2⟩ := this
  exact ⟨e, he, h1, Nat.eq_of_beq_eq_true h2⟩
section
variable {P : Program} {ops : Array Oper} {S : World → Prop} {B : List Nat} {Q : Exit → Act → World → Prop} {n : Nat} {f : Nat → Value} {w0 w w' : World} {o : Oper} {G : List Ck} {listed : Array Bool} {fuel : Nat}
theorem k_start {id : Nat} {l : List Oper} (H : Sat w0 G w) (Gs : List Ck) (B : List Nat) (m : Nat) (hl : l.length = m) (hm : P.follows .mixedOrders = true) (hs : Sat w0 G w.drew → Sat w0 Gs w.drew) (k : ∀ w1, Sat w0 G w1 → Sat w0 Gs w1 → WK P l.toArray Q (Sat w0 Gs) (memN B) m (Array.replicate m false) n f w1) :
    WC P (Code.region id l.toArray true) Q n f w := by
  subst hl
  exact ⟨wp_region_any hm (wpAny_of_K (S := Sat w0 Gs) (B := memN B) _ _ _ _ (by simpa using (k w.drew H.drew (hs H.drew)).h))⟩
theorem k_val {v : Value} (i : Nat) (hi : ops[i]? = some o) (hs : Region.noSelect ops = true) (hf : Region.free .any ops listed i = true) (hr : (Region.ready .any ops listed).contains i = true) (hQ : ∀ c a w, Q (.panic c) (a.put o.dst v) w → Q (.panic c) a w) (HS : S w)
    (hw : Wants ops o n f true) (hiB : memN B i = false) (hB : waitB ops B i = true) {d : Nat} (hd : o.dst = some d) (he : ∀ w, S w → (execOp (ev n f) o).run P w = .ok (.value v) w) (k : WK P ops Q S (memN B) fuel (listed.setIfInBounds i true) n (upd f d v) w) :
    WK P ops Q S (memN B) (fuel + 1) listed n f w :=
  ⟨wpAnyK_first hi (Region.noSelect_spec hs) hQ hiB (waitB_spec hB) fuel listed _ w (Region.free_spec hi hf) (by simpa using hr) (.inl ⟨hw.h, by rw [fr_eval]; exact he⟩) HS (by rw [hd, fr_put]; exact k.h)⟩
theorem k_pure {v : Value} (i : Nat) (hi : ops[i]? = some o) (hs : Region.noSelect ops = true) (hf : Region.free .any ops listed i = true) (hr : (Region.ready .any ops listed).contains i = true) (hQ : ∀ c a w, Q (.panic c) (a.put o.dst v) w → Q (.panic c) a w) (HS : S w)
    (hw : Wants ops o n f true) (hiB : memN B i = false) {d : Nat} (hd : o.dst = some d) (he : ∀ w, (execOp (ev n f) o).run P w = .ok (.value v) w) (k : WK P ops Q S (memN B) fuel (listed.setIfInBounds i true) n (upd f d v) w) :
    WK P ops Q S (memN B) (fuel + 1) listed n f w :=
  ⟨wpAnyK_firstP hi (Region.noSelect_spec hs) hQ hiB fuel listed _ w (Region.free_spec hi hf) (by simpa using hr) (.inl ⟨hw.h, by rw [fr_eval]; exact fun w _ => he w⟩) HS (by rw [hd, fr_put]; exact k.h)⟩
theorem k_pass (i : Nat) (hi : ops[i]? = some o) (hs : Region.noSelect ops = true) (hf : Region.free .any ops listed i = true) (hr : (Region.ready .any ops listed).contains i = true) (hQ : ∀ c a w, Q (.panic c) (a.put o.dst undef) w → Q (.panic c) a w) (HS : S w)
    (hw : Wants ops o n f false) (hiB : memN B i = false) (hB : waitB ops B i = true) {d : Nat} (hd : o.dst = some d) (k : WK P ops Q S (memN B) fuel (listed.setIfInBounds i true) n (upd f d undef) w) :
    WK P ops Q S (memN B) (fuel + 1) listed n f w :=
  ⟨wpAnyK_first hi (Region.noSelect_spec hs) hQ hiB (waitB_spec hB) fuel listed _ w (Region.free_spec hi hf) (by simpa using hr) (.inr ⟨hw.h, rfl⟩) HS (by rw [hd, fr_put]; exact k.h)⟩
theorem k_know (d : Nat) (v : Value) (h : f d = v) (k : WK P ops Q S (memN B) fuel listed n (upd f d v) w) : WK P ops Q S (memN B) fuel listed n f w := by rwa [know h] at k
/-- the one that may come up -/
theorem k_do (i : Nat) (hi : ops[i]? = some o) (hr : Region.ready .any ops listed = [i]) (hw : Wants ops o n f true) (hiB : memN B i = false)
    (k : ∀ K : Act → World → Prop, (∀ g w', S w' → (WK P ops Q S (memN B) fuel (listed.setIfInBounds i true) n g w') → K (fr n g) w') → WO P o K Q n f w) : WK P ops Q S (memN B) (fuel + 1) listed n f w := by
  refine ⟨⟨fun h0 => absurd (hr ▸ h0) (by simp), fun j hj => ?_⟩⟩
  rw [hr] at hj
  obtain rfl := List.mem_singleton.1 hj
  refine wpOp_step hi fun K' hK => ?_
  rw [if_pos hw.h]
  exact (k K' fun g w' hS hk => hK _ _ (by rw [if_neg (by rw [hiB]; simp)]; exact ⟨hS, hk.h⟩)).h
theorem k_brk (i : Nat) (S2 : World → Prop) (hi : ops[i]? = some o) (hr : Region.ready .any ops listed = [i]) (hw : Wants ops o n f true) (hiB : memN B i = true)
    (k : ∀ K : Act → World → Prop, (∀ g w', S2 w' → (WH P ops Q S2 fuel (listed.setIfInBounds i true) n g w') → K (fr n g) w') → WO P o K Q n f w) : WK P ops Q S (memN B) (fuel + 1) listed n f w := by
  refine ⟨⟨fun h0 => absurd (hr ▸ h0) (by simp), fun j hj => ?_⟩⟩
  rw [hr] at hj
  obtain rfl := List.mem_singleton.1 hj
  refine wpOp_step hi fun K' hK => ?_
  rw [if_pos hw.h]
  exact (k K' fun g w' hS hk => hK _ _ (by rw [if_pos hiB]; exact ⟨S2, hS, hk.h⟩)).h
end
end Go.Proofs.Ytenihpghfdcpkaa
