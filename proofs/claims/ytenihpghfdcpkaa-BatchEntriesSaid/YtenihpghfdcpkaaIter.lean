/- WHAT IS PROVED: rules for a range over a map, whichever order the tape says. Conditions: stated with each. -/
import Derived.Test.YtenihpghfdcpkaaSat
import Derived.Maps.RangeRun
namespace Go.Proofs.Ytenihpghfdcpkaa
open Go.RowKit
open Go.ChangeMaps (setBlock)
theorem setBlock_same {w : World} {r : Nat} {o' o : Obj} (h : w.heap[r]? = some o') : (setBlock w r o).heap[r]? = some o := by
  have := heap_lt h
  simp [setBlock, this]
theorem setBlock_other {w : World} {r k : Nat} {o : Obj} (h : r ≠ k) : (setBlock w r o).heap[k]? = w.heap[k]? := by
  simp [setBlock, h]
section
variable {κ ν : Type} {encK : κ → Value} {encV : ν → Value}
/-- an iterator over a map's block, and the map: 'seen' has come up, in that order -/
def IterAt (w : World) (r b : Nat) (encK : κ → Value) (encV : ν → Value) (l seen : List (κ × ν)) : Prop :=
  r ≠ b ∧ ∃ (es : Array MapEntry) (clock c0 : Nat) (ps sp rp : List (MapEntry × (κ × ν))), w.heap[b]? = some (.map es clock) ∧ w.heap[r]? = some (.mapIter (some b) clock (sp.map (·.1.born)).toArray c0) ∧ clock ≤ c0 ∧
    ps.map (·.1) = es.toList ∧ ps.map (·.2) = l ∧ (∀ p ∈ ps, p.1.key = encK p.2.1 ∧ p.1.val = encV p.2.2) ∧ (l.map (·.1)).Nodup ∧
    (es.toList.map (·.born)).Pairwise (· < ·) ∧ (∀ e ∈ es.toList, e.born < clock) ∧ ps.Perm (sp ++ rp) ∧ sp.map (·.2) = seen
/-- .. the last step's entry can be read -/
def IterAtE (w : World) (r b : Nat) (encK : κ → Value) (encV : ν → Value) (l seen : List (κ × ν)) : Prop :=
  r ≠ b ∧ ∃ (es : Array MapEntry) (clock : Nat) (ps sp rp : List (MapEntry × (κ × ν))), w.heap[b]? = some (.map es clock) ∧ w.heap[r]? = some (.mapIter (some b) clock (sp.map (·.1.born)).toArray clock) ∧
    ps.map (·.1) = es.toList ∧ ps.map (·.2) = l ∧ (∀ p ∈ ps, p.1.key = encK p.2.1 ∧ p.1.val = encV p.2.2) ∧ (l.map (·.1)).Nodup ∧
    (es.toList.map (·.born)).Pairwise (· < ·) ∧ (∀ e ∈ es.toList, e.born < clock) ∧ ps.Perm (sp ++ rp) ∧ sp.map (·.2) = seen
theorem IterAtE.it {w : World} {r b : Nat} {l seen : List (κ × ν)} (h : IterAtE w r b encK encV l seen) : IterAt w r b encK encV l seen := by
  obtain ⟨hne, es, clock, ps, sp, rp, h1, h2, rest⟩ := h
  exact ⟨hne, es, clock, clock, ps, sp, rp, h1, h2, Nat.le_refl _, rest⟩
theorem IterAt.perm {w : World} {r b : Nat} {l seen : List (κ × ν)} (h : IterAt w r b encK encV l seen) : ∃ rest, l.Perm (seen ++ rest) := by
  obtain ⟨_, es, clock, c0, ps, sp, rp, _, _, _, _, h2, _, _, _, _, hp, rfl⟩ := h
  exact ⟨rp.map (·.2), by rw [← h2, ← List.map_append]; exact hp.map _⟩
def iterC (r b : Nat) (encK : κ → Value) (encV : ν → Value) (l seen : List (κ × ν)) : Ck where
  fp k := k = r ∨ k = b
  ok w := IterAtE w r b encK encV l seen
  stay h hb := by
    obtain ⟨hne, es, clock, ps, sp, rp, h1, h2, rest⟩ := h
    exact ⟨hne, es, clock, ps, sp, rp, (hb b (.inr rfl)).trans h1, (hb r (.inl rfl)).trans h2, rest⟩
  lt h k hk := by
    obtain ⟨hne, es, clock, ps, sp, rp, h1, h2, rest⟩ := h
    rcases hk with rfl | rfl
    · exact heap_lt h2
    · exact heap_lt h1
theorem MapAt.pairs {w : World} {b : Nat} {l : List (κ × ν)} (h : MapAt w b encK encV l) : ∃ (es : Array MapEntry) (clock : Nat) (ps : List (MapEntry × (κ × ν))), w.heap[b]? = some (.map es clock) ∧ ps.map (·.1) = es.toList ∧ ps.map (·.2) = l ∧ (∀ p ∈ ps, p.1.key = encK p.2.1 ∧ p.1.val = encV p.2.2) ∧ (l.map (·.1)).Nodup ∧
    (es.toList.map (·.born)).Pairwise (· < ·) ∧ (∀ e ∈ es.toList, e.born < clock) := by
  obtain ⟨es, clock, hb, he, hn, hp, hc⟩ := h
  have hl : es.toList.length = l.length := by have := congrArg List.length he; simpa using this
  refine ⟨es, clock, es.toList.zip l, hb, List.map_fst_zip (by omega), List.map_snd_zip (by omega), ?_, hn, hp, hc⟩
  intro p hp
  obtain ⟨i, hi, rfl⟩ := List.mem_iff_getElem.1 hp
  simp only [List.length_zip] at hi
  have := congrArg (fun m => m[i]?) he
  simp only [List.getElem?_map, List.getElem?_eq_getElem (show i < es.toList.length by omega), List.getElem?_eq_getElem (show i < l.length by omega), Option.map_some, Option.some.injEq, Prod.mk.injEq] at this
  simpa using this
theorem IterAt.map {w : World} {r b : Nat} {l seen : List (κ × ν)} (h : IterAt w r b encK encV l seen) : MapAt w b encK encV l := by
  obtain ⟨_, es, clock, c0, ps, sp, rp, h1, _, _, h3, h4, h5, h6, h7, h8, _⟩ := h
  refine ⟨es, clock, h1, ?_, h6, h7, h8⟩
  rw [← h3, ← h4, List.map_map, List.map_map]
  refine List.map_congr_left fun p hp => ?_
  obtain ⟨ha, hb⟩ := h5 p hp
  simp [ha, hb]
section
variable {P : Program} {n : Nat} {f : Nat → Value} {w0 w w' : World} {G : List Ck} {dst : Option Tmp} {ty : TypeId} {pos : String} {aft : Array Edge} {gd : Option (Nat × Bool)} {K : Act → World → Prop} {Q : Exit → Act → World → Prop} {b r : Nat} {l seen : List (κ × ν)}
theorem d_range {T kt et : TypeId} {x : Operand} {d : Nat} (hd : dst = some d) (H : Sat w0 G w) (i : Nat) (hi : G[i]? = some (mapC b encK encV l)) (hT : P.underlying T = some (.map kt et)) (hx : ev n f x = .map (some b))
    (k : ∀ r w', Sat w0 (G.set i (iterC r b encK encV l [])) w' → K (fr n (upd f d (.pointer (some ⟨r, 0, none⟩)))) w') : WO P ⟨dst, .range T x, ty, pos, aft, gd⟩ K Q n f w := by
  obtain ⟨es, clock, ps, hb, h1, h2, h3, h4, h5, h6⟩ := (H.at i hi).pairs
  have hr : (execOp (ev n f) ⟨dst, .range T x, ty, pos, aft, gd⟩).run P w = .ok (.value (.pointer (some ⟨w.heap.size, 0, none⟩))) (w.alloc (.mapIter (some b) clock #[] clock)) := by
    simp only [execOp, hx]
    simp [run_range_map w T kt et b es clock hT hb, Result.andThen]
  refine d_val hd hr (k _ _ ?_)
  have hlt := heap_lt hb
  refine H.set i hi ⟨rfl, rfl, rfl, by simp⟩ (fun k hk _ => Below.heap_alloc w _ k hk) ⟨by omega, es, clock, ps, [], ps, heap_alloc_of hb _, heap_alloc_at w _, h1, h2, h3, h4, h5, h6, by simp, rfl⟩ ?_
  rintro k (rfl | rfl)
  · exact .inr (Nat.le_refl _)
  · exact .inl rfl
theorem d_next {x : Operand} {d : Nat} (hd : dst = some d) (H : Sat w0 G w) (i : Nat) (hi : G[i]? = some (iterC r b encK encV l seen)) (hx : ev n f x = .pointer (some ⟨r, 0, none⟩))
    (k0 : l.Perm seen → K (fr n (upd f d (.tuple #[.bool false]))) w)
    (k1 : ∀ (y : κ × ν) (rest : List (κ × ν)) w', l.Perm ((seen ++ [y]) ++ rest) → Sat w0 (G.set i (iterC r b encK encV l (seen ++ [y]))) w' → K (fr n (upd f d (.tuple #[.bool true, encK y.1, encV y.2]))) w') : WO P ⟨dst, .next x false, ty, pos, aft, gd⟩ K Q n f w := by
  obtain ⟨hne, es, clock, ps, sp, rp, h1, h2, h3, h4, h5, h6, h7, h8, hp, rfl⟩ := H.at i hi
  have hbn : (es.toList.map (·.born)).Nodup := List.Pairwise.imp (fun h => Nat.ne_of_lt h) h7
  have hbn2 : ((sp ++ rp).map (·.1.born)).Nodup := by
    have : (ps.map (·.1.born)).Nodup := by
      have e : ps.map (·.1.born) = es.toList.map (·.born) := by rw [← h3, List.map_map]; rfl
      rw [e]; exact hbn
    exact (hp.map _).nodup_iff.1 this
  rcases run_next_at (P := P) w ty r b clock clock (sp.map (·.1.born)).toArray es clock h2 h1 h8 (Nat.le_refl _) with ⟨h0, hr⟩ | ⟨e, he, w1, hw1, hr⟩
  · have hrp : rp = [] := by
      rcases rp with _ | ⟨p, rp⟩
      · rfl
      · exfalso
        have hpm : p ∈ ps := hp.symm.subset (by simp)
        have hem : p.1 ∈ es.toList := by rw [← h3]; exact List.mem_map_of_mem hpm
        have hns : p.1.born ∉ sp.map (·.1.born) := by
          rw [List.map_append, List.nodup_append] at hbn2
          intro hx
          exact hbn2.2.2 _ hx p.1.born (by simp) rfl
        have : p.1 ∈ (leftOf es (sp.map (·.1.born)).toArray).toList := by
          simp only [leftOf, Array.toList_filter, List.mem_filter]
          refine ⟨hem, ?_⟩
          simpa using fun a c hac => fun e => hns (List.mem_map.2 ⟨(a, c), hac, e⟩)
        have h0' : (leftOf es (sp.map (·.1.born)).toArray).toList = [] := by simpa using h0
        rw [h0'] at this; cases this
    subst hrp
    have hr' : (execOp (ev n f) ⟨dst, .next x false, ty, pos, aft, gd⟩).run P w = .ok (.value (.tuple #[.bool false])) w := by
      simp only [execOp, hx]
      simp [hr, Result.andThen]
    refine d_val hd hr' (k0 ?_)
    rw [← h4]
    simpa using hp.map (·.2)
  · have hr' : (execOp (ev n f) ⟨dst, .next x false, ty, pos, aft, gd⟩).run P w = .ok (.value (.tuple #[.bool true, e.key, e.val])) (setBlock w1 r (.mapIter (some b) clock ((sp.map (·.1.born)).toArray.push e.born) clock)) := by
      simp only [execOp, hx]
      simp [hr, Result.andThen]
    simp only [leftOf, Array.toList_filter, List.mem_filter] at he
    obtain ⟨hem, hns⟩ := he
    rw [← h3] at hem
    obtain ⟨p, hpm, rfl⟩ := List.mem_map.1 hem
    have hpr : p ∈ rp := by
      rcases List.mem_append.1 (hp.subset hpm) with h | h
      · exfalso
        simp only [List.contains_toArray, Bool.not_eq_true', List.contains_eq_mem, decide_eq_false_iff_not] at hns
        exact hns (List.mem_map.2 ⟨p, h, rfl⟩)
      · exact h
    obtain ⟨s, t, rfl⟩ := List.append_of_mem hpr
    have hp2 : ps.Perm ((sp ++ [p]) ++ (s ++ t)) := by
      refine hp.trans ?_
      rw [List.append_assoc]
      exact List.Perm.append_left _ (List.perm_middle)
    obtain ⟨ek, evv⟩ := h5 p hpm
    rw [ek, evv] at hr'
    have hw1h : w1.heap = w.heap := by rcases hw1 with rfl | rfl <;> rfl
    have hr1 : w1.heap[r]? = some (.mapIter (some b) clock (sp.map (·.1.born)).toArray clock) := by rw [hw1h]; exact h2
    refine d_val hd hr' (k1 p.2 ((s ++ t).map (·.2)) _ ?_ ?_)
    · rw [← h4]
      simpa using hp2.map (·.2)
    · refine H.set i hi ?_ ?_ ?_ (fun k hk => .inl hk)
      · rcases hw1 with rfl | rfl <;> exact ⟨rfl, rfl, rfl, by simp [setBlock]⟩
      · intro k _ hk
        rw [setBlock_other (fun e => hk (.inl e.symm)), hw1h]
      · refine ⟨hne, es, clock, ps, sp ++ [p], s ++ t, ?_, ?_, h3, h4, h5, h6, h7, h8, hp2, by simp⟩
        · rw [setBlock_other hne, hw1h]; exact h1
        · rw [setBlock_same hr1]
          simp
theorem e_entry {x : Operand} {y : κ × ν} (h : IterAtE w r b encK encV l (seen ++ [y])) (hx : ev n f x = .pointer (some ⟨r, 0, none⟩)) :
    (execOp (ev n f) ⟨dst, .entry x, ty, pos, aft, gd⟩).run P w = .ok (.value (.tuple #[encK y.1, encV y.2])) w := by
  obtain ⟨hne, es, clock, ps, sp, rp, h1, h2, h3, h4, h5, h6, h7, h8, hp, hs⟩ := h
  have hbn : (es.toList.map (·.born)).Nodup := List.Pairwise.imp (fun h => Nat.ne_of_lt h) h7
  obtain ⟨sp', p, rfl⟩ : ∃ sp' p, sp = sp' ++ [p] := by
    rcases List.eq_nil_or_concat sp with rfl | ⟨a, c, rfl⟩
    · simp at hs
    · exact ⟨a, c, by simp⟩
  simp only [List.map_append, List.map_cons, List.map_nil] at hs
  have hpy : p.2 = y := by have := List.append_inj_right' hs rfl; simpa using this
  have hpm : p ∈ ps := hp.symm.subset (by simp)
  have hem : p.1 ∈ es.toList := by rw [← h3]; exact List.mem_map_of_mem hpm
  obtain ⟨ek, evv⟩ := h5 p hpm
  have h2' : w.heap[r]? = some (.mapIter (some b) clock ((sp'.map (·.1.born)).toArray.push p.1.born) clock) := by
    rw [h2]; simp
  have := run_entry_at (P := P) w r b clock _ es clock p.1 h2' h1 hem hbn
  rw [ek, evv, hpy] at this
  simp only [execOp, hx]
  simp [this, Result.andThen]
end
theorem Sat.iter_end {w0 w : World} {G : List Ck} {r b : Nat} {l seen : List (κ × ν)} (H : Sat w0 G w) (i : Nat) (hi : G[i]? = some (iterC r b encK encV l seen)) : Sat w0 (G.set i (mapC b encK encV l)) w :=
  H.conv i hi (fun h => h.it.map) (fun _ hb => .inr hb)

/-! the same over a map that nobody turns: it stands as it stood in a world W -/
def IterR (W w : World) (r b : Nat) (encK : κ → Value) (encV : ν → Value) (l seen : List (κ × ν)) : Prop :=
  r ≠ b ∧ ∃ (es : Array MapEntry) (clock : Nat) (ps sp rp : List (MapEntry × (κ × ν))), W.heap[b]? = some (.map es clock) ∧ w.heap[r]? = some (.mapIter (some b) clock (sp.map (·.1.born)).toArray clock) ∧
    ps.map (·.1) = es.toList ∧ ps.map (·.2) = l ∧ (∀ p ∈ ps, p.1.key = encK p.2.1 ∧ p.1.val = encV p.2.2) ∧ (l.map (·.1)).Nodup ∧
    (es.toList.map (·.born)).Pairwise (· < ·) ∧ (∀ e ∈ es.toList, e.born < clock) ∧ ps.Perm (sp ++ rp) ∧ sp.map (·.2) = seen
def iterR (W : World) (r b : Nat) (encK : κ → Value) (encV : ν → Value) (l seen : List (κ × ν)) : Ck where
  fp k := k = r
  ok w := IterR W w r b encK encV l seen
  stay h hb := by
    obtain ⟨hne, es, clock, ps, sp, rp, h1, h2, rest⟩ := h
    exact ⟨hne, es, clock, ps, sp, rp, h1, (hb r rfl).trans h2, rest⟩
  lt h k hk := by
    obtain ⟨hne, es, clock, ps, sp, rp, h1, h2, rest⟩ := h
    exact hk ▸ heap_lt h2
theorem Sat.ro {w0 w : World} {G : List Ck} (H : Sat w0 G w) {W : World} {D : Nat → Prop} (i : Nat) (hi : G[i]? = some (restC W D)) {b : Nat} (hb : b < W.heap.size) (hD : ¬ D b) : w.heap[b]? = W.heap[b]? := H.at i hi b hb hD
theorem Sat.roMap {w0 w : World} {G : List Ck} (H : Sat w0 G w) {W : World} {D : Nat → Prop} (i : Nat) (hi : G[i]? = some (restC W D)) {b : Nat} {l : List (κ × ν)} (hm : MapAt W b encK encV l) (hD : ¬ D b) : MapAt w b encK encV l := hm.stay (H.ro i hi hm.lt hD)
theorem Sat.roCells {w0 w : World} {G : List Ck} (H : Sat w0 G w) {W : World} {D : Nat → Prop} (i : Nat) (hi : G[i]? = some (restC W D)) {b : Nat} {o : Obj} (hm : W.heap[b]? = some o) (hD : ¬ D b) : w.heap[b]? = some o := (H.ro i hi (heap_lt hm) hD).trans hm
theorem Sat.roCell {w0 w : World} {G : List Ck} (H : Sat w0 G w) {W : World} {D : Nat → Prop} (i : Nat) (hi : G[i]? = some (restC W D)) {b o : Nat} {T : TypeId} {cs : List Value} {v : Value} (hm : W.heap[b]? = some (.cells ⟨cs⟩ T (0, 0))) (hD : ¬ D b) (hv : cs[o]? = some v) : w.cell? ⟨b, o, none⟩ = some v := by
  rw [cell_of_heap (H.roCells i hi hm hD) o]; simpa using hv
section
variable {P : Program} {n : Nat} {f : Nat → Value} {w0 w w' W : World} {D : Nat → Prop} {G : List Ck} {dst : Option Tmp} {ty : TypeId} {pos : String} {aft : Array Edge} {gd : Option (Nat × Bool)} {K : Act → World → Prop} {Q : Exit → Act → World → Prop} {b r : Nat} {l seen : List (κ × ν)}
theorem d_rangeR {T kt et : TypeId} {x : Operand} {d : Nat} (hd : dst = some d) (H : Sat w0 G w) (j : Nat) (hj : G[j]? = some (restC W D)) (hm : MapAt W b encK encV l) (hD : ¬ D b) (hT : P.underlying T = some (.map kt et)) (hx : ev n f x = .map (some b))
    (k : ∀ r w', Sat w0 (G ++ [iterR W r b encK encV l []]) w' → K (fr n (upd f d (.pointer (some ⟨r, 0, none⟩)))) w') : WO P ⟨dst, .range T x, ty, pos, aft, gd⟩ K Q n f w := by
  obtain ⟨es, clock, ps, hW, h1, h2, h3, h4, h5, h6⟩ := hm.pairs
  have hb := H.roCells j hj hW hD
  have hr : (execOp (ev n f) ⟨dst, .range T x, ty, pos, aft, gd⟩).run P w = .ok (.value (.pointer (some ⟨w.heap.size, 0, none⟩))) (w.alloc (.mapIter (some b) clock #[] clock)) := by
    simp only [execOp, hx]
    simp [run_range_map w T kt et b es clock hT hb, Result.andThen]
  refine d_val hd hr (k _ _ ?_)
  have hlt := heap_lt hb
  exact H.add ⟨rfl, rfl, rfl, by simp⟩ (fun k hk => Below.heap_alloc w _ k hk) ⟨by omega, es, clock, ps, [], ps, hW, heap_alloc_at w _, h1, h2, h3, h4, h5, h6, by simp, rfl⟩ (fun k hk => Nat.le_of_eq hk.symm)
theorem d_nextR {x : Operand} {d : Nat} (hd : dst = some d) (H : Sat w0 G w) (i : Nat) (hi : G[i]? = some (iterR W r b encK encV l seen)) (j : Nat) (hj : G[j]? = some (restC W D)) (hD : ¬ D b) (hx : ev n f x = .pointer (some ⟨r, 0, none⟩))
    (k0 : l.Perm seen → K (fr n (upd f d (.tuple #[.bool false]))) w)
    (k1 : ∀ (y : κ × ν) (rest : List (κ × ν)) w', l.Perm ((seen ++ [y]) ++ rest) → Sat w0 (G.set i (iterR W r b encK encV l (seen ++ [y]))) w' → K (fr n (upd f d (.tuple #[.bool true, encK y.1, encV y.2]))) w') : WO P ⟨dst, .next x false, ty, pos, aft, gd⟩ K Q n f w := by
  obtain ⟨hne, es, clock, ps, sp, rp, hW, h2, h3, h4, h5, h6, h7, h8, hp, rfl⟩ := H.at i hi
  have h1 := H.roCells j hj hW hD
  have hbn : (es.toList.map (·.born)).Nodup := List.Pairwise.imp (fun h => Nat.ne_of_lt h) h7
  have hbn2 : ((sp ++ rp).map (·.1.born)).Nodup := by
    have : (ps.map (·.1.born)).Nodup := by
      have e : ps.map (·.1.born) = es.toList.map (·.born) := by rw [← h3, List.map_map]; rfl
      rw [e]; exact hbn
    exact (hp.map _).nodup_iff.1 this
  rcases run_next_at (P := P) w ty r b clock clock (sp.map (·.1.born)).toArray es clock h2 h1 h8 (Nat.le_refl _) with ⟨h0, hr⟩ | ⟨e, he, w1, hw1, hr⟩
  · have hrp : rp = [] := by
      rcases rp with _ | ⟨p, rp⟩
      · rfl
      · exfalso
        have hpm : p ∈ ps := hp.symm.subset (by simp)
        have hem : p.1 ∈ es.toList := by rw [← h3]; exact List.mem_map_of_mem hpm
        have hns : p.1.born ∉ sp.map (·.1.born) := by
          rw [List.map_append, List.nodup_append] at hbn2
          intro hx
          exact hbn2.2.2 _ hx p.1.born (by simp) rfl
        have : p.1 ∈ (leftOf es (sp.map (·.1.born)).toArray).toList := by
          simp only [leftOf, Array.toList_filter, List.mem_filter]
          refine ⟨hem, ?_⟩
          simpa using fun a c hac => fun e => hns (List.mem_map.2 ⟨(a, c), hac, e⟩)
        have h0' : (leftOf es (sp.map (·.1.born)).toArray).toList = [] := by simpa using h0
        rw [h0'] at this; cases this
    subst hrp
    have hr' : (execOp (ev n f) ⟨dst, .next x false, ty, pos, aft, gd⟩).run P w = .ok (.value (.tuple #[.bool false])) w := by
      simp only [execOp, hx]
      simp [hr, Result.andThen]
    refine d_val hd hr' (k0 ?_)
    rw [← h4]
    simpa using hp.map (·.2)
  · have hr' : (execOp (ev n f) ⟨dst, .next x false, ty, pos, aft, gd⟩).run P w = .ok (.value (.tuple #[.bool true, e.key, e.val])) (setBlock w1 r (.mapIter (some b) clock ((sp.map (·.1.born)).toArray.push e.born) clock)) := by
      simp only [execOp, hx]
      simp [hr, Result.andThen]
    simp only [leftOf, Array.toList_filter, List.mem_filter] at he
    obtain ⟨hem, hns⟩ := he
    rw [← h3] at hem
    obtain ⟨p, hpm, rfl⟩ := List.mem_map.1 hem
    have hpr : p ∈ rp := by
      rcases List.mem_append.1 (hp.subset hpm) with h | h
      · exfalso
        simp only [List.contains_toArray, Bool.not_eq_true', List.contains_eq_mem, decide_eq_false_iff_not] at hns
        exact hns (List.mem_map.2 ⟨p, h, rfl⟩)
      · exact h
    obtain ⟨s, t, rfl⟩ := List.append_of_mem hpr
    have hp2 : ps.Perm ((sp ++ [p]) ++ (s ++ t)) := by
      refine hp.trans ?_
      rw [List.append_assoc]
      exact List.Perm.append_left _ (List.perm_middle)
    obtain ⟨ek, evv⟩ := h5 p hpm
    rw [ek, evv] at hr'
    have hw1h : w1.heap = w.heap := by rcases hw1 with rfl | rfl <;> rfl
    have hr1 : w1.heap[r]? = some (.mapIter (some b) clock (sp.map (·.1.born)).toArray clock) := by rw [hw1h]; exact h2
    refine d_val hd hr' (k1 p.2 ((s ++ t).map (·.2)) _ ?_ ?_)
    · rw [← h4]
      simpa using hp2.map (·.2)
    · refine H.set i hi ?_ ?_ ?_ (fun k hk => .inl hk)
      · rcases hw1 with rfl | rfl <;> exact ⟨rfl, rfl, rfl, by simp [setBlock]⟩
      · intro k _ hk
        rw [setBlock_other (fun e => hk e.symm), hw1h]
      · refine ⟨hne, es, clock, ps, sp ++ [p], s ++ t, hW, ?_, h3, h4, h5, h6, h7, h8, hp2, by simp⟩
        rw [setBlock_same hr1]
        simp
theorem e_entryR {x : Operand} {y : κ × ν} (h : IterR W w r b encK encV l (seen ++ [y])) (hWw : w.heap[b]? = W.heap[b]?) (hx : ev n f x = .pointer (some ⟨r, 0, none⟩)) :
    (execOp (ev n f) ⟨dst, .entry x, ty, pos, aft, gd⟩).run P w = .ok (.value (.tuple #[encK y.1, encV y.2])) w := by
  obtain ⟨hne, es, clock, ps, sp, rp, hW, h2, h3, h4, h5, h6, h7, h8, hp, hs⟩ := h
  have h1 := hWw.trans hW
  have hbn : (es.toList.map (·.born)).Nodup := List.Pairwise.imp (fun h => Nat.ne_of_lt h) h7
  obtain ⟨sp', p, rfl⟩ : ∃ sp' p, sp = sp' ++ [p] := by
    rcases List.eq_nil_or_concat sp with rfl | ⟨a, c, rfl⟩
    · simp at hs
    · exact ⟨a, c, by simp⟩
  simp only [List.map_append, List.map_cons, List.map_nil] at hs
  have hpy : p.2 = y := by have := List.append_inj_right' hs rfl; simpa using this
  have hpm : p ∈ ps := hp.symm.subset (by simp)
  have hem : p.1 ∈ es.toList := by rw [← h3]; exact List.mem_map_of_mem hpm
  obtain ⟨ek, evv⟩ := h5 p hpm
  have h2' : w.heap[r]? = some (.mapIter (some b) clock ((sp'.map (·.1.born)).toArray.push p.1.born) clock) := by
    rw [h2]; simp
  have := run_entry_at (P := P) w r b clock _ es clock p.1 h2' h1 hem hbn
  rw [ek, evv, hpy] at this
  simp only [execOp, hx]
  simp [this, Result.andThen]
theorem Sat.entryR (H : Sat w0 G w) {x : Operand} {y : κ × ν} (i : Nat) (hi : G[i]? = some (iterR W r b encK encV l (seen ++ [y]))) (j : Nat) (hj : G[j]? = some (restC W D)) (hD : ¬ D b) (hx : ev n f x = .pointer (some ⟨r, 0, none⟩)) :
    (execOp (ev n f) ⟨dst, .entry x, ty, pos, aft, gd⟩).run P w = .ok (.value (.tuple #[encK y.1, encV y.2])) w := by
  have h := H.at i hi
  obtain ⟨hne, es, clock, ps, sp, rp, hW, _⟩ := id h
  exact e_entryR h (H.ro j hj (heap_lt hW) hD) hx
end
end
end Go.Proofs.Ytenihpghfdcpkaa
