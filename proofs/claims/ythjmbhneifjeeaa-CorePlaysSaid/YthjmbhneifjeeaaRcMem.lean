/- WHAT IS PROVED: the document's core in memory, as the same data as the program's; plain laws that its walk needs. Conditions: stated with each. -/
import Derived.Test.YthjmbhneifjeeaaRefDefs14
import Derived.Test.YthjmbhneifjeeaaCoreMem
namespace Go.Proofs.Ythjmbhneifjeeaa
open Go.RowKit
set_option maxRecDepth 100000
def encQ (x : Int × PropD) : List Value := [.int .i64 x.1, .int .i64 x.2.valid] ++ hc x.2.h ++ [.bool x.2.ok]
theorem encQ_len (x : Int × PropD) : (encQ x).length = 35 := by simp [encQ]
theorem encQ_one (x : Int × PropD) : (encQ x).all (·.oneCell') = true := by
  simp only [encQ, List.all_append, hc_eq]
  simp [Value.oneCell', byteV]
def rcL (t : Nat) (u : Value) (D : CoreD) : List Value :=
  [.int .i64 D.f, .int .i64 D.c, .int .i64 D.epoch, .int .i64 D.replica, .int .i64 D.s.round, .int .i64 D.s.step, .int .i64 D.s.lr, .int .i64 D.s.vr] ++ hc D.s.locked ++ hc D.s.valid ++ [.bool D.s.decided] ++ hc D.s.decision ++ [.pointer (some ⟨t, 0, none⟩), u, .bool D.wv, .bool D.sp, .bool D.sc]
def rcG (p t : Nat) (v u : Value) (D : CoreD) : List Ck := [cellC p 83 (rcL t u D), cellC t 101 [.int .i64 D.f, .int .i64 D.c, v], rowC 143 35 v D.L.length (D.L.flatMap encV), rowC 129 35 u D.P.length (D.P.flatMap encQ)]
def rcC (p t : Nat) (v u : Value) (D : CoreD) : Ck := sepC (rcG p t v u D)
theorem rcC_parts {p t : Nat} {v u : Value} {D : CoreD} {w : World} (h : (rcC p t v u D).ok w) :
    w.heap[p]? = some (.cells ⟨rcL t u D⟩ 83 (0, 0)) ∧ (rtC t v D.f D.c D.L).ok w ∧ (rowC 143 35 v D.L.length (D.L.flatMap encV)).ok w ∧ (rowC 129 35 u D.P.length (D.P.flatMap encQ)).ok w :=
  ⟨h.1 _ (List.mem_cons_self ..), ⟨fun A hA => h.1 A (List.mem_cons_of_mem _ (by
    rcases List.mem_cons.1 hA with rfl | hA
    · exact List.mem_cons_self ..
    · obtain rfl := List.mem_singleton.1 hA; exact List.mem_cons_of_mem _ (List.mem_cons_self ..))), by
    have := (List.pairwise_cons.1 h.2).2
    have q := (List.pairwise_cons.1 this).1
    simp only [List.pairwise_cons, List.mem_singleton, List.not_mem_nil, false_implies, implies_true, List.Pairwise.nil, and_true, forall_eq]
    exact fun b => q _ (List.mem_cons_self ..) b⟩, h.1 _ (List.mem_cons_of_mem _ (List.mem_cons_of_mem _ (List.mem_cons_self ..))), h.1 _ (List.mem_cons_of_mem _ (List.mem_cons_of_mem _ (List.mem_cons_of_mem _ (List.mem_cons_self ..))))⟩
/-- a call that turned the tally -/
theorem rt_sat {t : Nat} {v u : Value} {f c : Int} {L M : List VoteD} {w w' : World} (hT : (rtC t v f c L).ok w) (h : (rtC t u f c M).ok w') (hu : Upd [t] w w') (hf : ∀ b, (rtC t u f c M).fp b → (rtC t v f c L).fp b ∨ w.heap.size ≤ b) :
    Sat w [cellC t 101 [.int .i64 f, .int .i64 c, u], rowC 143 35 u M.length (M.flatMap encV), restC w (sepC [cellC t 101 [.int .i64 f, .int .i64 c, v], rowC 143 35 v L.length (L.flatMap encV)]).fp] w' := by
  have H0 : Sat w [rtC t v f c L, restC w (rtC t v f c L).fp] w := Sat.start [rtC t v f c L] (by
    refine ⟨fun A hA => ?_, by simp⟩
    obtain rfl := List.mem_singleton.1 hA; exact hT) |>.cast (by
      have : (sepC [rtC t v f c L]).fp = (rtC t v f c L).fp := by
        funext b
        exact propext ⟨fun ⟨B, hB, hb⟩ => by rw [List.mem_singleton] at hB; rw [hB] at hb; exact hb, fun hb => ⟨_, by simp, hb⟩⟩
      rw [this]; rfl)
  have H1 : Sat w [rtC t u f c M, restC w (rtC t v f c L).fp] w' := H0.setU hu 0 rfl (fun b hb => by obtain rfl := List.mem_singleton.1 hb; exact ⟨_, List.mem_cons_self .., rfl⟩) h hf
  exact H1.open 0 rfl
theorem props_few {D : CoreD} (h : CI D) : D.P.length ≤ 1048577 := by
  have h1 : ((D.P.map (·.1)).map Int.toNat).length ≤ (List.range 1048577).length := by
    refine nodup_sub_len _ _ ?_ ?_
    · rw [List.nodup_iff_pairwise_ne, List.pairwise_map]
      refine List.Pairwise.imp_of_mem ?_ (List.nodup_iff_pairwise_ne.1 h.pk)
      intro a b ha hb hab e
      obtain ⟨x, hx, rfl⟩ := List.mem_map.1 ha
      obtain ⟨y, hy, rfl⟩ := List.mem_map.1 hb
      have := h.pr x hx
      have := h.pr y hy
      exact hab (by omega)
    · intro a ha
      obtain ⟨b, hb, rfl⟩ := List.mem_map.1 ha
      obtain ⟨x, hx, rfl⟩ := List.mem_map.1 hb
      have := h.pr x hx
      rw [List.mem_range]
      omega
  simpa using h1
/-! proposals, asked one after the other -/
def zP (P : List (Int × PropD)) (r : Int) : Int := if hasP P r then r else 0
theorem prop_at {D : CoreD} (h : CI D) {i : Nat} {x : Int × PropD} (hx : D.P[i]? = some x) : getP D.P x.1 = x.2 ∧ hasP D.P x.1 = true ∧ zP D.P x.1 = x.1 := by
  have e : lookM D.P x.1 = some x.2 := (look_mem h.pk _ _).2 (List.mem_of_getElem? hx)
  have e2 : hasP D.P x.1 = true := by unfold hasP; rw [e]; rfl
  exact ⟨by unfold getP; rw [e]; rfl, e2, if_pos e2⟩
theorem prop_no {D : CoreD} (h : CI D) {r : Int} (hn : ∀ x ∈ D.P, x.1 ≠ r) : getP D.P r = ⟨0, hash0, false⟩ ∧ hasP D.P r = false ∧ zP D.P r = 0 := by
  have e : lookM D.P r = none := by
    cases q : lookM D.P r with
    | none => rfl
    | some p => exact absurd rfl (hn _ ((look_mem h.pk r p).1 q))
  have e2 : hasP D.P r = false := by unfold hasP; rw [e]; rfl
  exact ⟨by unfold getP; rw [e]; rfl, e2, if_neg (by rw [e2]; simp)⟩
theorem take_no {D : CoreD} {i : Nat} {x : Int × PropD} {r : Int} (h : ∀ y ∈ D.P.take i, y.1 ≠ r) (hx : D.P[i]? = some x) (hr : ¬ x.1 = r) : ∀ y ∈ D.P.take (i + 1), y.1 ≠ r := by
  intro y hy
  rw [List.take_add_one, hx] at hy
  rcases List.mem_append.1 hy with hy | hy
  · exact h y hy
  · have : y = x := by simpa using hy
    rw [this]; exact hr
theorem put_at_end {P : List (Int × PropD)} {r : Int} (p : PropD) (h : hasP P r = false) : putM P r p = P ++ [(r, p)] := by
  unfold putM
  rw [if_neg]
  intro hm
  have : (lookM P r).isSome = true := by
    obtain ⟨x, hx, rfl⟩ := List.mem_map.1 hm
    cases q : lookM P x.1 with
    | some y => rfl
    | none =>
      rw [lookM_idx] at q
      obtain ⟨i, hi⟩ : ∃ i, (P.map (·.1)).idxOf? x.1 = some i := by
        cases q2 : (P.map (·.1)).idxOf? x.1 with
        | some i => exact ⟨i, rfl⟩
        | none => rw [List.idxOf?_eq_none_iff] at q2; exact absurd hm q2
      rw [hi] at q
      have hl : i < P.length := by
        have := List.of_findIdx?_eq_some (by simpa [List.idxOf?] using hi)
        by_cases hl : i < P.length
        · exact hl
        · rw [List.getElem?_eq_none (by simpa using hl)] at this; simp at this
      rw [Option.bind_some, List.getElem?_eq_getElem hl] at q
      simp at q
  rw [show hasP P r = (lookM P r).isSome from rfl, this] at h
  cases h
/-- the place of the least round so far of which there are enough precommits -/
def LeastI (D : CoreD) (i : Nat) (z : Int) : Prop := (z = -1 ∧ leastV D.f D.L (D.P.take i) = -1) ∨ (0 ≤ z ∧ z < i ∧ ∃ x, D.P[z.toNat]? = some x ∧ leastV D.f D.L (D.P.take i) = x.1 ∧ 0 ≤ x.1)
section
variable {D : CoreD} {i : Nat} {z : Int} {x y : Int × PropD}
theorem LeastI.zero (D : CoreD) : LeastI D 0 (-1) := .inl ⟨rfl, rfl⟩
theorem LeastI.lim (h : LeastI D i z) : -1 ≤ z ∧ z < i ∨ z = -1 := by
  rcases h with h | h
  · exact .inr h.1
  · exact .inl ⟨by omega, h.2.1⟩
theorem LeastI.neg (h : LeastI D i z) (hz : z < 0) : leastV D.f D.L (D.P.take i) = -1 := by
  rcases h with h | h
  · exact h.2
  · omega
theorem LeastI.pos (h : LeastI D i z) (hz : ¬ z < 0) (hx : D.P[z.toNat]? = some x) : leastV D.f D.L (D.P.take i) = x.1 ∧ 0 ≤ x.1 := by
  rcases h with h | ⟨_, _, y, hy, h2, h3⟩
  · omega
  · rw [hx] at hy
    obtain rfl := Option.some.inj hy
    exact ⟨h2, h3⟩
theorem least_take (hy : D.P[i]? = some y) : leastV D.f D.L (D.P.take (i + 1)) = bif y.2.ok && (decide (leastV D.f D.L (D.P.take i) < 0) || decide (y.1 < leastV D.f D.L (D.P.take i))) && decide (forV D.L 2 y.1 y.2.h ≥ 2 * D.f + 1) then y.1 else leastV D.f D.L (D.P.take i) := by
  rw [List.take_add_one, hy]
  exact least_snoc _ _ _ _
theorem LeastI.no (h : LeastI D i z) (hy : D.P[i]? = some y) (b : (y.2.ok && (decide (leastV D.f D.L (D.P.take i) < 0) || decide (y.1 < leastV D.f D.L (D.P.take i))) && decide (forV D.L 2 y.1 y.2.h ≥ 2 * D.f + 1)) = false) : LeastI D (i + 1) z := by
  have e := least_take hy
  rw [b] at e
  unfold LeastI
  rw [show leastV D.f D.L (D.P.take (i + 1)) = leastV D.f D.L (D.P.take i) from e]
  rcases h with h | ⟨a, b, c⟩
  · exact .inl h
  · exact .inr ⟨a, by omega, c⟩
theorem LeastI.yes (hC : CI D) (hy : D.P[i]? = some y) (b : (y.2.ok && (decide (leastV D.f D.L (D.P.take i) < 0) || decide (y.1 < leastV D.f D.L (D.P.take i))) && decide (forV D.L 2 y.1 y.2.h ≥ 2 * D.f + 1)) = true) : LeastI D (i + 1) (i : Int) := by
  have e := least_take hy
  rw [b] at e
  exact .inr ⟨by omega, by omega, y, by simpa using hy, e, (hC.pr y (List.mem_of_getElem? hy)).1⟩
theorem LeastI.end (h : LeastI D i z) (hi : ¬ i < D.P.length) : (z < 0 → leastV D.f D.L D.P = -1) ∧ (¬ z < 0 → ∀ x, D.P[z.toNat]? = some x → leastV D.f D.L D.P = x.1 ∧ 0 ≤ x.1) := by
  have e : D.P.take i = D.P := List.take_of_length_le (by omega)
  refine ⟨fun hz => ?_, fun hz x hx => ?_⟩
  · have := h.neg hz; rwa [e] at this
  · have := h.pos hz hx; rwa [e] at this
/-- the greatest round far ahead so far -/
def farW (D : CoreD) (l : List VoteD) : Int := l.foldl (fun a v => if a < v.round ∧ D.f + 1 ≤ ((heardF v.round D.L).length : Int) then v.round else a) D.s.round
theorem farW_take {v : VoteD} (hv : D.L[i]? = some v) : farW D (D.L.take (i + 1)) = if v.round > farW D (D.L.take i) ∧ ((heardF v.round D.L).length : Int) ≥ D.f + 1 then v.round else farW D (D.L.take i) := by
  unfold farW
  rw [List.take_add_one, hv, List.foldl_append]
  rfl
theorem farW_all (D : CoreD) : ∀ (l : List VoteD) (a : Int), a ≤ (l.foldl (fun a v => if a < v.round ∧ D.f + 1 ≤ ((heardF v.round D.L).length : Int) then v.round else a) a) ∧
    ((l.foldl (fun a v => if a < v.round ∧ D.f + 1 ≤ ((heardF v.round D.L).length : Int) then v.round else a) a) = a ∨ ∃ v ∈ l, a < v.round ∧ D.f + 1 ≤ ((heardF v.round D.L).length : Int) ∧ v.round = (l.foldl (fun a v => if a < v.round ∧ D.f + 1 ≤ ((heardF v.round D.L).length : Int) then v.round else a) a)) ∧
    ∀ v ∈ l, D.f + 1 ≤ ((heardF v.round D.L).length : Int) → v.round ≤ (l.foldl (fun a v => if a < v.round ∧ D.f + 1 ≤ ((heardF v.round D.L).length : Int) then v.round else a) a)
  | [], a => ⟨Int.le_refl _, .inl rfl, by simp⟩
  | x :: l, a => by
    rw [List.foldl_cons]
    obtain ⟨h1, h2, h3⟩ := farW_all D l (if a < x.round ∧ D.f + 1 ≤ ((heardF x.round D.L).length : Int) then x.round else a)
    generalize (l.foldl (fun a v => if a < v.round ∧ D.f + 1 ≤ ((heardF v.round D.L).length : Int) then v.round else a) (if a < x.round ∧ D.f + 1 ≤ ((heardF x.round D.L).length : Int) then x.round else a)) = m at *
    refine ⟨?_, ?_, ?_⟩
    · split at h1 <;> omega
    · rcases h2 with h2 | ⟨v, hv, q1, q2, q3⟩
      · split at h2
        · rename_i q
          exact .inr ⟨x, by simp, q.1, q.2, h2.symm⟩
        · exact .inl h2
      · refine .inr ⟨v, List.mem_cons_of_mem _ hv, ?_, q2, q3⟩
        split at q1 <;> omega
    · intro v hv hq
      rcases List.mem_cons.1 hv with rfl | hv
      · split at h1
        · exact h1
        · rename_i q
          have : ¬ a < v.round := fun hl => q ⟨hl, hq⟩
          omega
      · exact h3 v hv hq
theorem farW_end (h : CI D) : farW D D.L = if 0 ≤ farV D.f D.L D.s.round (D.f + 1) then farV D.f D.L D.s.round (D.f + 1) else D.s.round := by
  obtain ⟨h1, h2, h3⟩ := farW_all D D.L D.s.round
  have hm := maxR_mem ((D.L.map (·.round)).filter (farP D.f D.L D.s.round (D.f + 1))) (-1)
  have hg := maxR_ge ((D.L.map (·.round)).filter (farP D.f D.L D.s.round (D.f + 1))) (-1)
  unfold farW farV maxR
  generalize List.foldl (fun a r => if a < r then r else a) (-1) ((D.L.map (·.round)).filter (farP D.f D.L D.s.round (D.f + 1))) = m at *
  generalize (D.L.foldl (fun a v => if a < v.round ∧ D.f + 1 ≤ ((heardF v.round D.L).length : Int) then v.round else a) D.s.round) = k at *
  have hrd := h.rd
  have key : ∀ v : VoteD, (D.f + 1 ≤ ((heardF v.round D.L).length : Int)) ↔ D.f + 1 ≤ heardV D.f D.L v.round := fun v => by rw [heardF_len h.V]
  by_cases hm0 : 0 ≤ m
  · rw [if_pos hm0]
    rcases hm with hm | hm
    · omega
    · obtain ⟨q1, q2⟩ := List.mem_filter.1 hm
      obtain ⟨v, hv, rfl⟩ := List.mem_map.1 q1
      simp only [farP, Bool.and_eq_true, decide_eq_true_eq] at q2
      have a := h3 v hv ((key v).2 q2.2)
      rcases h2 with h2 | ⟨u, hu, b1, b2, b3⟩
      · omega
      · have := hg.2 u.round (List.mem_filter.2 ⟨List.mem_map.2 ⟨u, hu, rfl⟩, by simp only [farP, Bool.and_eq_true, decide_eq_true_eq]; exact ⟨b1, (key u).1 b2⟩⟩)
        omega
  · rw [if_neg hm0]
    rcases h2 with h2 | ⟨u, hu, b1, b2, b3⟩
    · exact h2
    · have := hg.2 u.round (List.mem_filter.2 ⟨List.mem_map.2 ⟨u, hu, rfl⟩, by simp only [farP, Bool.and_eq_true, decide_eq_true_eq]; exact ⟨b1, (key u).1 b2⟩⟩)
      omega
theorem farW_no (h : CI D) (hf : ¬ farW D D.L > D.s.round) : ¬ farV D.f D.L D.s.round (D.f + 1) ≥ 0 := by
  intro q
  have e := farW_end h
  rw [if_pos q] at e
  have hm := maxR_mem ((D.L.map (·.round)).filter (farP D.f D.L D.s.round (D.f + 1))) (-1)
  unfold farV maxR at *
  generalize List.foldl (fun a r => if a < r then r else a) (-1) ((D.L.map (·.round)).filter (farP D.f D.L D.s.round (D.f + 1))) = m at *
  rcases hm with hm | hm
  · omega
  · have := (List.mem_filter.1 hm).2
    simp only [farP, Bool.and_eq_true, decide_eq_true_eq] at this
    omega
theorem farW_yes (h : CI D) (hf : farW D D.L > D.s.round) : farV D.f D.L D.s.round (D.f + 1) ≥ 0 ∧ farW D D.L = farV D.f D.L D.s.round (D.f + 1) := by
  have e := farW_end h
  by_cases q : 0 ≤ farV D.f D.L D.s.round (D.f + 1)
  · rw [if_pos q] at e; exact ⟨q, e⟩
  · rw [if_neg q] at e; omega
end
end Go.Proofs.Ythjmbhneifjeeaa
