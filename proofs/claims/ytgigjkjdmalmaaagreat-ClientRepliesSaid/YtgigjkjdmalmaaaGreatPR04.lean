/- WHAT IS PROVED: contracts and plain laws of Break, Lists, StrB, Obj, RowSt. Conditions: stated with each. -/
import Derived.Test.YtgigjkjdmalmaaaGreatPR02
import Derived.Test.YtgigjkjdmalmaaaGreatPR03
set_option maxHeartbeats 4000000
set_option maxRecDepth 100000
namespace Go.Proofs.YtgigjkjdmalmaaaGreat
open Go.RowKit
section
variable {P : Program} {ops : Array Oper} {Q : Exit → Act → World → Prop} {md : Region.Mode} {S : World → Prop} {B : Nat → Bool}
def Z2F (P : Program) (md : Region.Mode) (ops : Array Oper) (Q : Exit → Act → World → Prop) (S : World → Prop) (B : Nat → Bool) : Nat → Array Bool → Act → World → Prop
 | 0, listed, a, w => Region.ready md ops listed = [] ∧ Q .normal a w
 | fuel + 1, listed, a, w =>
  (Region.ready md ops listed = [] → Q .normal a w) ∧
  ∀ i ∈ Region.ready md ops listed, wpOp P ops Q i (fun a' w' => if B i = true then ∃ S2 : World → Prop, S2 w' ∧ wpAnyH P md ops Q S2 fuel (listed.setIfInBounds i true) a' w' else S w' ∧ Z2F P md ops Q S B fuel (listed.setIfInBounds i true) a' w') a w
theorem Z32 : ∀ (fuel : Nat) (listed : Array Bool) (a : Act) (w : World), Z2F P md ops Q S B fuel listed a w → wpAny P md ops Q fuel listed a w
 | 0, _, _, _, h => h
 | fuel + 1, _, _, _, h => ⟨h.1, fun i hi => wpOp_mono (fun a' w' h' => by
   split at h'
   ·obtain ⟨S2, _, h2⟩ := h'; exact wpAny_of_held fuel _ a' w' h2
   ·exact Z32 fuel _ a' w' h'.2) (h.2 i hi)⟩
theorem Z41 {i : Nat} {oi : Oper} {v : Value} (hi : ops[i]? = some oi) (hsel : ∀ (j : Nat) (o : Oper) cs b, ops[j]? = some o → o.op ≠ .select cs b)
  (hQ : ∀ c a w, Q (.panic c) (a.put oi.dst v) w → Q (.panic c) a w) (hiB : B i = false) (hB : ∀ j oj, B j = true → ops[j]? = some oj → ∃ e ∈ oj.after, Region.binds md e = true ∧ e.on = i) :
  ∀ (fuel : Nat) (listed : Array Bool) (a : Act) (w : World),
   (∀ j oj, ops[j]? = some oj → j ≠ i → listed.getD j true = false → (∀ e ∈ oj.after, Region.binds md e = true → e.on ≠ i) → oi.apart ops oj = true) →
   i ∈ Region.ready md ops listed → YieldsIf P ops S oi v a → S w →
   Z2F P md ops Q S B fuel (listed.setIfInBounds i true) (a.put oi.dst v) w → Z2F P md ops Q S B (fuel + 1) listed a w := by
 intro fuel
 induction fuel with
 | zero =>
  intro listed a w _ hr hy hS H
  refine ⟨fun h => (by rw [h] at hr; cases hr), fun j hj => ?_⟩
  by_cases hji : j = i
  ·subst hji; exact hy.wpOp hi hS (by rw [if_neg (by rw [hiB]; simp)]; exact ⟨hS, H⟩)
  ·have := ready_mono hj hji
   rw [H.1] at this
   cases this
 | succ fuel ih =>
  intro listed a w hfree hr hy hS H
  refine ⟨fun h => (by rw [h] at hr; cases hr), fun j hj => ?_⟩
  by_cases hji : j = i
  ·subst hji; exact hy.wpOp hi hS (by rw [if_neg (by rw [hiB]; simp)]; exact ⟨hS, H⟩)
  ·have h1 := H.2 j (ready_mono hj hji)
   obtain ⟨hjun, oj, hoj, hall⟩ := mem_ready.1 hj
   have hnot : ∀ e ∈ oj.after, Region.binds md e = true → e.on ≠ i := fun e he hb heq => by
    have h1 := hall e he hb
    have h0 := (mem_ready.1 hr).1
    rw [heq] at h1
    rcases Nat.lt_or_ge i listed.size with h' | h'
    ·simp [h'] at h0 h1; rw [h0] at h1; cases h1
    ·simp [Array.getElem?_eq_none h'] at h1
   have hjB : ¬ B j = true := fun hjb => by
    obtain ⟨e, he, hb, hon⟩ := hB j oj hjb hoj
    exact hnot e he hb hon
   have h2 := wpOp_putIf hoj (hfree j oj hoj hji hjun hnot) (fun cs b => hsel i oi cs b hi) (fun cs b => hsel j oj cs b hoj) hQ hy h1
   have hfree' : ∀ k ok, ops[k]? = some ok → k ≠ i → (listed.setIfInBounds j true).getD k true = false →
     (∀ e ∈ ok.after, Region.binds md e = true → e.on ≠ i) → oi.apart ops ok = true := fun k ok hk hki hun hno => by
    refine hfree k ok hk hki ?_ hno
    by_cases hjk : j = k
    ·subst hjk; exact hjun
    ·rw [getD_set_ne true hjk] at hun; exact hun
   refine wpOp_mono (fun a' w' h3 => ?_) h2
   have h4 := h3.2
   rw [if_neg hjB] at h4 ⊢
   refine ⟨h4.1, ih (listed.setIfInBounds j true) a' w' hfree' (ready_mono hr (Ne.symm hji)) h3.1 h4.1 ?_⟩
   rw [Array.setIfInBounds_comm _ _ hji]
   exact h4.2
theorem Z3t {i : Nat} {oi : Oper} {v : Value} (hi : ops[i]? = some oi) (hsel : ∀ (j : Nat) (o : Oper) cs b, ops[j]? = some o → o.op ≠ .select cs b)
  (hQ : ∀ c a w, Q (.panic c) (a.put oi.dst v) w → Q (.panic c) a w) (hiB : B i = false) :
  ∀ (fuel : Nat) (listed : Array Bool) (a : Act) (w : World),
   (∀ j oj, ops[j]? = some oj → j ≠ i → listed.getD j true = false → (∀ e ∈ oj.after, Region.binds md e = true → e.on ≠ i) → oi.apart ops oj = true) →
   i ∈ Region.ready md ops listed → YieldsIf P ops (fun _ => True) oi v a → S w →
   Z2F P md ops Q S B fuel (listed.setIfInBounds i true) (a.put oi.dst v) w → Z2F P md ops Q S B (fuel + 1) listed a w := by
 intro fuel
 induction fuel with
 | zero =>
  intro listed a w _ hr hy hS H
  refine ⟨fun h => (by rw [h] at hr; cases hr), fun j hj => ?_⟩
  by_cases hji : j = i
  ·subst hji; exact hy.wpOp hi trivial (by rw [if_neg (by rw [hiB]; simp)]; exact ⟨hS, H⟩)
  ·have := ready_mono hj hji
   rw [H.1] at this
   cases this
 | succ fuel ih =>
  intro listed a w hfree hr hy hS H
  refine ⟨fun h => (by rw [h] at hr; cases hr), fun j hj => ?_⟩
  by_cases hji : j = i
  ·subst hji; exact hy.wpOp hi trivial (by rw [if_neg (by rw [hiB]; simp)]; exact ⟨hS, H⟩)
  ·have h1 := H.2 j (ready_mono hj hji)
   obtain ⟨hjun, oj, hoj, hall⟩ := mem_ready.1 hj
   have hnot : ∀ e ∈ oj.after, Region.binds md e = true → e.on ≠ i := fun e he hb heq => by
    have h1 := hall e he hb
    have h0 := (mem_ready.1 hr).1
    rw [heq] at h1
    rcases Nat.lt_or_ge i listed.size with h' | h'
    ·simp [h'] at h0 h1; rw [h0] at h1; cases h1
    ·simp [Array.getElem?_eq_none h'] at h1
   have h2 := wpOp_putIf hoj (hfree j oj hoj hji hjun hnot) (fun cs b => hsel i oi cs b hi) (fun cs b => hsel j oj cs b hoj) hQ hy h1
   have hfree' : ∀ k ok, ops[k]? = some ok → k ≠ i → (listed.setIfInBounds j true).getD k true = false →
     (∀ e ∈ ok.after, Region.binds md e = true → e.on ≠ i) → oi.apart ops ok = true := fun k ok hk hki hun hno => by
    refine hfree k ok hk hki ?_ hno
    by_cases hjk : j = k
    ·subst hjk; exact hjun
    ·rw [getD_set_ne true hjk] at hun; exact hun
   refine wpOp_mono (fun a' w' h3 => ?_) h2
   have h4 := h3.2
   by_cases hjB : B j = true
   ·rw [if_pos hjB] at h4 ⊢
    obtain ⟨S2, hS2, h5⟩ := h4
    refine ⟨S2, hS2, wpAnyH_first hi hsel hQ fuel (listed.setIfInBounds j true) a' w' hfree' (ready_mono hr (Ne.symm hji)) (h3.1.imp (fun ⟨q1, q2⟩ => ⟨q1, fun w _ => q2 w trivial⟩) id) hS2 ?_⟩
    rw [Array.setIfInBounds_comm _ _ hji]
    exact h5
   ·rw [if_neg hjB] at h4 ⊢
    refine ⟨h4.1, ih (listed.setIfInBounds j true) a' w' hfree' (ready_mono hr (Ne.symm hji)) h3.1 h4.1 ?_⟩
    rw [Array.setIfInBounds_comm _ _ hji]
    exact h4.2
end
structure WK (P : Program) (ops : Array Oper) (Q : Exit → Act → World → Prop) (S : World → Prop) (B : Nat → Bool) (fuel : Nat) (listed : Array Bool) (n : Nat) (f : Nat → Value) (w : World) : Prop where
 h : Z2F P .any ops Q S B fuel listed (fr n f) w
def Z6K (ops : Array Oper) (B : List Nat) (i : Nat) : Bool := B.all fun j => match ops[j]? with
 | some oj => oj.after.any fun e => Region.binds .any e && Nat.beq e.on i
 | none => true
theorem Z4W {ops : Array Oper} {B : List Nat} {i : Nat} (h : Z6K ops B i = true) : ∀ j oj, Z1f B j = true → ops[j]? = some oj → ∃ e ∈ oj.after, Region.binds .any e = true ∧ e.on = i := by
 intro j oj hj ho
 have := List.all_eq_true.1 h j ((Z4w B j).1 hj)
 rw [ho] at this
 simp only [Array.any_eq_true', Bool.and_eq_true] at this
 obtain ⟨e, he, h1, h2⟩ := this
 exact ⟨e, he, h1, Nat.eq_of_beq_eq_true h2⟩
section
variable {P : Program} {ops : Array Oper} {S : World → Prop} {B : List Nat} {Q : Exit → Act → World → Prop} {n : Nat} {f : Nat → Value} {w0 w w' : World} {o : Oper} {G : List Ck} {listed : Array Bool} {fuel : Nat}
theorem Z0P {id : Nat} {l : List Oper} (H : Sat w0 G w) (Gs : List Ck) (B : List Nat) (m : Nat) (hl : l.length = m) (hm : P.follows .mixedOrders = true) (hs : Sat w0 G w.drew → Sat w0 Gs w.drew) (k : ∀ w1, Sat w0 G w1 → Sat w0 Gs w1 → WK P l.toArray Q (Sat w0 Gs) (Z1f B) m (Array.replicate m false) n f w1) :
  WC P (Code.region id l.toArray true) Q n f w := by
 subst hl
 exact ⟨wp_region_any hm (Z32 (S := Sat w0 Gs) (B := Z1f B) _ _ _ _ (by simpa using (k w.drew H.drew (hs H.drew)).h))⟩
theorem Z18 {v : Value} (i : Nat) (hi : ops[i]? = some o) (hs : Region.noSelect ops = true) (hf : Region.free .any ops listed i = true) (hr : (Region.ready .any ops listed).contains i = true) (hQ : ∀ c a w, Q (.panic c) (a.put o.dst v) w → Q (.panic c) a w) (HS : S w)
  (hw : Z15 ops o n f true) (hiB : Z1f B i = false) (hB : Z6K ops B i = true) {d : Nat} (hd : o.dst = some d) (he : ∀ w, S w → (execOp (ev n f) o).run P w = .ok (.value v) w) (k : WK P ops Q S (Z1f B) fuel (listed.setIfInBounds i true) n (upd f d v) w) :
  WK P ops Q S (Z1f B) (fuel + 1) listed n f w :=
 ⟨Z41 hi (Region.noSelect_spec hs) hQ hiB (Z4W hB) fuel listed _ w (Region.free_spec hi hf) (by simpa using hr) (.inl ⟨hw.h, by rw [Z16]; exact he⟩) HS (by rw [hd, Z1V]; exact k.h)⟩
theorem ZU {v : Value} (i : Nat) (hi : ops[i]? = some o) (hs : Region.noSelect ops = true) (hf : Region.free .any ops listed i = true) (hr : (Region.ready .any ops listed).contains i = true) (hQ : ∀ c a w, Q (.panic c) (a.put o.dst v) w → Q (.panic c) a w) (HS : S w)
  (hw : Z15 ops o n f true) (hiB : Z1f B i = false) {d : Nat} (hd : o.dst = some d) (he : ∀ w, (execOp (ev n f) o).run P w = .ok (.value v) w) (k : WK P ops Q S (Z1f B) fuel (listed.setIfInBounds i true) n (upd f d v) w) :
  WK P ops Q S (Z1f B) (fuel + 1) listed n f w :=
 ⟨Z3t hi (Region.noSelect_spec hs) hQ hiB fuel listed _ w (Region.free_spec hi hf) (by simpa using hr) (.inl ⟨hw.h, by rw [Z16]; exact fun w _ => he w⟩) HS (by rw [hd, Z1V]; exact k.h)⟩
theorem Z2L (i : Nat) (hi : ops[i]? = some o) (hr : Region.ready .any ops listed = [i]) (hw : Z15 ops o n f true) (hiB : Z1f B i = false)
  (k : ∀ K : Act → World → Prop, (∀ g w', S w' → (WK P ops Q S (Z1f B) fuel (listed.setIfInBounds i true) n g w') → K (fr n g) w') → WO P o K Q n f w) : WK P ops Q S (Z1f B) (fuel + 1) listed n f w := by
 refine ⟨⟨fun h0 => absurd (hr ▸ h0) (by simp), fun j hj => ?_⟩⟩
 rw [hr] at hj
 obtain rfl := List.mem_singleton.1 hj
 refine wpOp_step hi fun K' hK => ?_
 rw [if_pos hw.h]
 exact (k K' fun g w' hS hk => hK _ _ (by rw [if_neg (by rw [hiB]; simp)]; exact ⟨hS, hk.h⟩)).h
theorem Z1W (i : Nat) (S2 : World → Prop) (hi : ops[i]? = some o) (hr : Region.ready .any ops listed = [i]) (hw : Z15 ops o n f true) (hiB : Z1f B i = true)
  (k : ∀ K : Act → World → Prop, (∀ g w', S2 w' → (WH P ops Q S2 fuel (listed.setIfInBounds i true) n g w') → K (fr n g) w') → WO P o K Q n f w) : WK P ops Q S (Z1f B) (fuel + 1) listed n f w := by
 refine ⟨⟨fun h0 => absurd (hr ▸ h0) (by simp), fun j hj => ?_⟩⟩
 rw [hr] at hj
 obtain rfl := List.mem_singleton.1 hj
 refine wpOp_step hi fun K' hK => ?_
 rw [if_pos hw.h]
 exact (k K' fun g w' hS hk => hK _ _ (by rw [if_pos hiB]; exact ⟨S2, hS, hk.h⟩)).h
end
def Z2M (P : Program) (T e : TypeId) (size bytes : Nat) : Bool :=
  (match P.underlying T with
   | some (.slice e') => Nat.beq e' e
   | _ => false) &&
  (match P.info? e with
   | some i => Nat.beq i.size size && Nat.beq i.bytes bytes && (match i.zero with
     | some z => Nat.beq z.cells.size size
     | none => false)
   | none => false) && Nat.blt 0 size
theorem Z2r {P : Program} {T e : TypeId} {size bytes : Nat} (h : Z2M P T e size bytes = true) : ∃ i z, P.underlying T = some (.slice e) ∧ P.info? e = some i ∧ i.zero = some z ∧ i.size = size ∧ i.bytes = bytes ∧ z.cells.size = size ∧ 0 < size := by
 unfold Z2M at h
 simp only [Bool.and_eq_true] at h
 obtain ⟨⟨h1, h2⟩, h3⟩ := h
 split at h1
 ·rename_i e' hu
  obtain rfl := Nat.eq_of_beq_eq_true h1
  split at h2
  ·rename_i i hi
   simp only [Bool.and_eq_true] at h2
   obtain ⟨⟨h4, h5⟩, h6⟩ := h2
   split at h6
   ·rename_i z hz
    exact ⟨i, z, hu, hi, hz, Nat.eq_of_beq_eq_true h4, Nat.eq_of_beq_eq_true h5, Nat.eq_of_beq_eq_true h6, by simpa [Nat.blt_eq] using h3⟩
   ·cases h6
  ·cases h2
 ·cases h1
theorem Z2u {P : Program} (w : World) (t ty e : TypeId) (i : TypeInfo) (ht : P.underlying t = some (.slice e)) (hi : P.info? e = some i) {v : Value} {n : Nat} {xs : List Value} {size : Nat} (h : w.ownsRow 0 e size v n xs) :
  (Builtin.append_ #[t, t] ty #[v, .slice none 0 0]).run P w = .ok v w := by
 rcases h.2 with ⟨rfl, rfl⟩ | ⟨g, cap, cur, rfl, hb, hgg, hc, hm, hcs, htake⟩
 ·simp [Builtin.append_, run_underlying ht, sizeOf, typeInfo, hi, Builtin.lenOf, Builtin.firstCells, Result.andThen]
 ·have hst : ∀ a : Addr, (storeCells a [] 0).run P w = .ok () w := fun a => by simp [storeCells]
  simp [Builtin.append_, run_underlying ht, sizeOf, typeInfo, hi, Builtin.lenOf, Builtin.firstCells, Result.andThen, hc, hst]
theorem Z1U {w w' : World} {r : Option Nat} (h : w.grownBy w' r) : Ext w w' := ⟨h.os, h.tape, h.output, h.size⟩
section
variable {P : Program} {n : Nat} {f : Nat → Value} {w w' : World} {dst : Option Tmp} {ty : TypeId} {pos : String} {aft : Array Edge} {gd : Option (Nat × Bool)} {w0 : World} {G : List Ck} {K : Act → World → Prop} {Q : Exit → Act → World → Prop}
theorem Z2Q {T e : TypeId} {size bytes : Nat} (hR : Z2M P T e size bytes = true) {v u : Value} {k m : Nat} {xs ys : List Value} (hv : w.ownsRow 0 e size v k xs) (hu : w.ownsRow 0 e size u m ys) (h1 : ys.all (·.oneCell') = true) (hb : (k + m) * bytes ≤ 140737488355328) (h63 : k + m ≤ 140737488355328) :
  ∃ v' w', (Builtin.append_ #[T, T] ty #[v, u]).run P w = .ok v' w' ∧ w'.ownsRow 0 e size v' (k + m) (xs ++ ys) ∧ w.grownBy w' v.ownBlock ∧ ∀ b, v'.ownBlock = some b → v.ownBlock = some b ∨ w.heap.size ≤ b := by
 obtain ⟨i, z, ht, hi, hz, hs, hby, hzs, h0⟩ := Z2r hR
 have hu2 := hu
 rcases hu2.2 with ⟨rfl, rfl⟩ | ⟨g, cap, cur, rfl, hbg, hgg, hc, hm, hcs, htake⟩
 ·obtain rfl : ys = [] := List.eq_nil_of_length_eq_zero (by simpa using hu.1)
  exact ⟨v, w, Z2u w T ty e i ht hi hv, by simpa using hv, ⟨rfl, rfl, rfl, Nat.le_refl _, fun _ _ _ => rfl⟩, fun b h => .inl h⟩
 ·exact Z2P w 0 T ty e i z size bytes ht hi hz hs hby hzs h0 v k xs hv ⟨g, 0, none⟩ m cap ys hu.1 (hu.cells (g := g) rfl) (fun x hx => List.all_eq_true.1 h1 x hx) (by unfold maxLen; omega) hb (Nat.zero_le _)
theorem Z2p {T : TypeId} {x y : Operand} {v u v' : Value} (hx : ev n f x = v) (hy : ev n f y = u) (h : (Builtin.append_ #[T, T] ty #[v, u]).run P w = .ok v' w') :
  (execOp (ev n f) ⟨dst, .call { callee := .builtin .append, args := #[x, y], argTypes := #[T, T] }, ty, pos, aft, gd⟩).run P w = .ok (.value v') w' := by
 simp [execOp, resolve, invoke, builtin, hx, hy, h, Result.andThen]
theorem Z0q {T e : TypeId} {size bytes : Nat} {x y : Operand} {d : Nat} (hd : dst = some d) (H : Sat w0 G w) (hR : Z2M P T e size bytes = true) (i j : Nat) {v u : Value} {k m : Nat} {xs ys : List Value} (hi : G[i]? = some (Ze e size v k xs)) (hj : G[j]? = some (Ze e size u m ys))
  (hx : ev n f x = v) (hy : ev n f y = u) (h1 : ys.all (·.oneCell') = true) (hb : (k + m) * bytes ≤ 140737488355328) (h63 : k + m ≤ 140737488355328)
  (kk : ∀ v' w', Sat w0 (G.set i (Ze e size v' (k + m) (xs ++ ys))) w' → K (fr n (upd f d v')) w') : WO P ⟨dst, .call { callee := .builtin .append, args := #[x, y], argTypes := #[T, T] }, ty, pos, aft, gd⟩ K Q n f w := by
 obtain ⟨v', w', hr, ho, hg, hn⟩ := Z2Q (ty := ty) hR (H.at i hi) (H.at j hj) h1 hb h63
 exact Z22 hd (Z2p hx hy hr) (kk v' w' (H.set i hi (Z1U hg) (fun b hb hne => hg.block b hb fun e => hne e.symm) ho hn))
theorem Z4f {T e : TypeId} {size bytes : Nat} {x y : Operand} {d : Nat} (hd : dst = some d) (H : Sat w0 G w) (hR : Z2M P T e size bytes = true) {u : Value} {m : Nat} {ys : List Value} (hj : (Ze e size u m ys).ok w)
  (hx : ev n f x = .slice none 0 0) (hy : ev n f y = u) (h1 : ys.all (·.oneCell') = true) (hb : m * bytes ≤ 140737488355328) (h63 : m ≤ 140737488355328)
  (kk : ∀ v' w', Sat w0 (G ++ [Ze e size v' m ys]) w' → K (fr n (upd f d v')) w') : WO P ⟨dst, .call { callee := .builtin .append, args := #[x, y], argTypes := #[T, T] }, ty, pos, aft, gd⟩ K Q n f w := by
 obtain ⟨v', w', hr, ho, hg, hn⟩ := Z2Q (ty := ty) hR (World.ownsRow_nil w 0 e size) hj h1 (by simpa using hb) (by simpa using h63)
 simp only [Nat.zero_add, List.nil_append] at ho
 refine Z22 hd (Z2p hx hy hr) (kk v' w' (H.add (Z1U hg) (fun b hb => hg.block b hb (by simp [Value.ownBlock])) ho fun b hb => ?_))
 rcases hn b hb with h | h
 ·simp [Value.ownBlock] at h
 ·exact h
theorem Sat.roCk {W : World} {D : Nat → Prop} {A : Ck} (H : Sat w0 G w) (i : Nat) (hi : G[i]? = some (Zb W D)) (h : A.ok W) (hD : ∀ b, A.fp b → ¬ D b) : A.ok w := A.stay h fun b hb => H.at i hi b (A.lt h b hb) (hD b hb)
theorem Sat.addNil (H : Sat w0 G w) (e : TypeId) (size : Nat) : Sat w0 (G ++ [Ze e size (.slice none 0 0) 0 []]) w :=
 H.add (Ext.refl w) (fun _ _ => rfl) (World.ownsRow_nil w 0 e size) (fun b hb => by simp [Ze, Value.ownBlock] at hb)
theorem Z02 {T e : TypeId} {size bytes N : Nat} {parts : Array (Nat × Operand)} {d : Nat} (hd : dst = some d) (H : Sat w0 G w) (hR : Z2M P T e size bytes = true) {z : Value} (hz : (P.info? e).bind (·.zero) = some z) {pvs : List (Nat × Value)} {vs : List Value}
  (hp : (parts.map fun q => (q.1, ev n f q.2)).toList = pvs) (hf : Instr.fill (fun j => some (j * size, size)) ((Array.range (N * size)).map fun q => z.cells[q % z.cells.size]!) pvs = some ⟨vs⟩) (hl : Nat.beq vs.length (N * size) = true) (hN : Nat.blt 0 N = true) (hsz : Nat.ble (N * size) 16777216 = true)
  (kk : ∀ b w', Sat w0 (G ++ [Ze e size (.slice (some ⟨b, 0, none⟩) N N) N vs]) w' → K (fr n (upd f d (.slice (some ⟨b, 0, none⟩) N N))) w') : WO P ⟨dst, .buildSlice T N parts, ty, pos, aft, gd⟩ K Q n f w := by
 obtain ⟨i, z', ht, hi, hz', hs, hby, hzs, h0⟩ := Z2r hR
 have hl := Nat.eq_of_beq_eq_true hl
 have hsz := Nat.le_of_ble_eq_true hsz
 have hN : 0 < N := by simpa [Nat.blt_eq] using hN
 have hpos : 0 < N * size := Nat.mul_pos hN h0
 have hr : (execOp (ev n f) ⟨dst, .buildSlice T N parts, ty, pos, aft, gd⟩).run P w = .ok (.value (.slice (some ⟨w.heap.size, 0, none⟩) N N)) (w.alloc (.cells ⟨vs⟩ e (0, 0))) := by
  have hp2 : (parts.map fun q => (q.1, ev n f q.2)).toList = pvs := hp
  simp only [execOp, Instr.buildSlice]
  have hzv := Z1Z (P := P) (w := w) hz
  have h1 : ¬ 16777216 < N * size := by omega
  have h2 : ¬ N * size = 0 := by omega
  simp only [hp2]
  simp [run_underlying ht, sizeOf, typeInfo, hi, hs, Result.andThen, h1, h2, hzv, hf, newRow]
 refine Z22 hd hr (kk _ _ (H.add ⟨rfl, rfl, rfl, by simp⟩ (fun b hb => Below.heap_alloc w _ b hb) ?_ (fun b hb => ?_)))
 ·refine ⟨hl, .inr ⟨w.heap.size, N, ⟨vs⟩, rfl, Nat.zero_le _, Z0N w _, Nat.le_refl _, ?_, by simpa using hl, ?_⟩⟩
  ·have := Nat.le_mul_of_pos_right N h0
   unfold maxLen; omega
  ·rw [← hl]; simp
 ·simp [Ze, Value.ownBlock] at hb; omega
theorem Z4C {e size : Nat} {v : Value} {k : Nat} {xs : List Value} {g o c : Nat} (h : (Ze e size v k xs).ok w) (hv : v = .slice (some ⟨g, 0, none⟩) k c) {u : Value} (hu : xs[o]? = some u) : w.cell? ⟨g, o, none⟩ = some u := by
 have := World.ownsRow.cells h (g := g) (by rw [hv]; rfl) o u hu
 rw [Addr.add_lit] at this
 simpa using this
theorem Z19 {e size : Nat} {v : Value} {k : Nat} {xs : List Value} (h : (Ze e size v k xs).ok w) (hk : 0 < k) : ∃ g c, v = .slice (some ⟨g, 0, none⟩) k c := by
 rcases h.2 with ⟨_, h0⟩ | ⟨g, cap, _, hv, _⟩
 ·omega
 ·exact ⟨g, cap, hv⟩
end
theorem Z2q {α : Type} (enc : α → List Value) (size : Nat) (hs : ∀ x, (enc x).length = size) : ∀ (L : List α) (i j : Nat) (x : α), L[i]? = some x → j < size → (L.flatMap enc)[i * size + j]? = (enc x)[j]?
 | [], i, j, x, h, _ => by simp at h
 | y :: L, 0, j, x, h, hj => by
  simp at h; subst h
  simp only [List.flatMap_cons, Nat.zero_mul, Nat.zero_add]
  rw [List.getElem?_append_left (by rw [hs]; exact hj)]
 | y :: L, i + 1, j, x, h, hj => by
  simp only [List.getElem?_cons_succ] at h
  simp only [List.flatMap_cons]
  rw [List.getElem?_append_right (by rw [hs, Nat.succ_mul]; omega), hs]
  have e : (i + 1) * size + j - size = i * size + j := by rw [Nat.succ_mul]; omega
  rw [e]
  exact Z2q enc size hs L i j x h hj
theorem Z1F {α : Type} (enc : α → List Value) (size : Nat) (hs : ∀ x, (enc x).length = size) (L : List α) : (L.flatMap enc).length = L.length * size := by
 induction L with
 | nil => simp
 | cons y L ih => simp only [List.flatMap_cons, List.length_append, hs, ih, List.length_cons, Nat.succ_mul]; omega
theorem Z0g {α : Type} (enc : α → List Value) (h : ∀ x, (enc x).all (·.oneCell') = true) (L : List α) : (L.flatMap enc).all (·.oneCell') = true := by
 rw [List.all_eq_true]
 intro v hv
 obtain ⟨x, _, hx⟩ := List.mem_flatMap.1 hv
 exact List.all_eq_true.1 (h x) v hx
def Z1t (w : World) (a : Addr) (vs : List Value) : Prop := ∀ j v, vs[j]? = some v → w.cell? (a.add j) = some v
section
variable {P : Program} {n : Nat} {f : Nat → Value} {w : World} {dst : Option Tmp} {ty : TypeId} {pos : String} {aft : Array Edge} {gd : Option (Nat × Bool)}
theorem Z0E {T : TypeId} {x : Operand} {p : Addr} {vs : List Value} (hx : ev n f x = .pointer (some p)) (hT : Z42 P T = true) (hN : P.cellsOf T = vs.length) (h0 : 0 < vs.length) (hc : Z1t w p vs) :
  (execOp (ev n f) ⟨dst, .load T x, ty, pos, aft, gd⟩).run P w = .ok (.value (.agg ⟨vs⟩)) w := by
 have hl : (loadCells p vs.length).run P w = .ok vs.toArray w := run_loadCells_list w p vs hc
 simp only [execOp, Instr.loadAt, hx, Instr.sureAddr, loadVar]
 simp [Z1q hT, Z0e hN h0, hl, Result.andThen]
theorem Z1w {T E : TypeId} {x y : Operand} {v : Value} {b len cap sz : Nat} {k : IntKind} {z : Int} (hT : P.underlying T = some (.slice E)) (hs : P.cellsOf E = sz) (h0 : 0 < sz) (hx : ev n f x = v) (hv : v = .slice (some ⟨b, 0, none⟩) len cap) (hy : ev n f y = .int k z) (h1 : 0 ≤ z) (h2 : z < len) :
  (execOp (ev n f) ⟨dst, .indexAddr T x y, ty, pos, aft, gd⟩).run P w = .ok (.value (.pointer (some ⟨b, 0 + z.toNat * sz, none⟩))) w :=
 Z0G hT hs h0 (hx.trans hv) hy h1 h2
end
section
variable {α : Type} {enc : α → List Value} {size : Nat} {w : World} {e g o c i : Nat} {v : Value} {L : List α} {x : α}
theorem Z01 (h : (Ze e size v L.length (L.flatMap enc)).ok w) (hv : v = .slice (some ⟨g, 0, none⟩) L.length c) (hs : ∀ x, (enc x).length = size) (hx : L[i]? = some x) (j : Nat) (hj : Nat.blt j size = true) (ho : o = i * size + j) {u : Value} (hu : (enc x)[j]? = some u) : w.cell? ⟨g, o, none⟩ = some u := by
 refine Z4C h hv ?_
 rw [ho, Z2q enc size hs L i j x hx (by simpa [Nat.blt_eq] using hj)]
 exact hu
theorem Z1a (h : (Ze e size v L.length (L.flatMap enc)).ok w) (hv : v = .slice (some ⟨g, 0, none⟩) L.length c) (hs : ∀ x, (enc x).length = size) (hx : L[i]? = some x) (j : Nat) (ho : o = i * size + j) {us : List Value} (hj : Nat.ble (j + us.length) size = true) (hu : ((enc x).drop j).take us.length = us) : Z1t w ⟨g, o, none⟩ us := by
 intro q u hq
 have hj := Nat.le_of_ble_eq_true hj
 have hql : q < us.length := (List.getElem?_eq_some_iff.1 hq).1
 rw [Addr.add_lit]
 refine Z01 h hv hs hx (j + q) (by simp [Nat.blt_eq]; omega) (by omega) ?_
 rw [← hu, List.getElem?_take, if_pos hql, List.getElem?_drop] at hq
 exact hq
end
theorem Z5e {α : Type} {L : List α} {i : Nat} (h : i < L.length) : ∃ x, L[i]? = some x := ⟨L[i], List.getElem?_eq_getElem h⟩
section
variable {P : Program} {ops : Array Oper} {S : World → Prop} {B : List Nat} {Q : Exit → Act → World → Prop} {n : Nat} {f : Nat → Value} {w : World} {listed : Array Bool} {fuel : Nat}
end
section
variable {P : Program} {n : Nat} {f : Nat → Value} {w : World} {dst : Option Tmp} {ty : TypeId} {pos : String} {aft : Array Edge} {gd : Option (Nat × Bool)}
theorem Z2y {S D e : TypeId} {x : Operand} {v : Value} {s : List UInt8} (hs : P.underlying S = some (.slice e)) (he : P.underlying e = some (.int .u8)) (hd : P.underlying D = some .string) (hx : ev n f x = v) (hb : BytesAt w v s) :
  (execOp (ev n f) ⟨dst, .convert S D x, ty, pos, aft, gd⟩).run P w = .ok (.value (Zt s)) w := by
 simp [execOp, hx, Z2l hb hs he hd, Result.andThen]
theorem Z4h {T U : TypeId} {x y : Operand} (a b : List UInt8) (hx : ev n f x = Zt a) (hy : ev n f y = Zt b) :
  (execOp (ev n f) ⟨dst, .binOp .eql T x y U, ty, pos, aft, gd⟩).run P w = .ok (.value (.bool (decide (a = b)))) w := by
 have : Op.stringOp .eql ⟨a.toArray⟩ ⟨b.toArray⟩ = pure (.bool (decide (a = b))) := by
  simp only [Op.stringOp, ByteArray.toList_mk]
  congr 2
  rw [Bool.eq_iff_iff]; simp
 simp [execOp, hx, hy, Zt, binOp, eqGuard, this]
end
section
variable {w0 w w' : World} {G G' L L' R : List Ck}
theorem Sat.cast (H : Sat w0 G w) (h : G = G') : Sat w0 G' w := h ▸ H
theorem Sat.turnL (H : Sat w0 G w) (is js : List Nat) (hn : (is ++ js).Pairwise (fun a b => Nat.beq a b = false)) (hi : (is.filterMap fun i => G[i]?) = L) (hj : (js.filterMap fun i => G[i]?) = R)
  (h : Sat w (L' ++ [Zb w (ZF L).fp]) w') : Sat w0 (L' ++ R) w' := by
 have H1 : Sat w0 (L ++ R) w := by
  have := H.pick (is ++ js) hn
  rwa [List.filterMap_append, hi, hj] at this
 have hr : (Zb w (ZF L).fp).ok w' := h.all _ (by simp)
 have hd1 := List.pairwise_append.1 H1.dis
 have hd2 := List.pairwise_append.1 h.dis
 have far : ∀ B ∈ R, ∀ b, B.fp b → b < w.heap.size ∧ ¬ (ZF L).fp b := by
  intro B hB b hb
  refine ⟨B.lt (H1.all B (List.mem_append_right _ hB)) b hb, ?_⟩
  rintro ⟨A, hA, hf⟩
  exact hd1.2.2 A hA B hB b hf hb
 refine ⟨H.ext.trans h.ext, ?_, List.pairwise_append.2 ⟨hd2.1, hd1.2.1, ?_⟩⟩
 ·intro B hB
  rcases List.mem_append.1 hB with hB | hB
  ·exact h.all B (List.mem_append_left _ hB)
  ·refine B.stay (H1.all B (List.mem_append_right _ hB)) fun b hb => ?_
   have := far B hB b hb
   exact hr b this.1 this.2
 ·intro A hA B hB b h1 h2
  exact hd2.2.2 A hA _ (List.mem_singleton.2 rfl) b h1 (far B hB b h2)
theorem Sat.ok (H : Sat w0 G w) (is : List Nat) (hn : is.Pairwise (fun a b => Nat.beq a b = false)) (hi : (is.filterMap fun i => G[i]?) = L) : (ZF L).ok w := H.fin is hn hi
theorem Sat.own (H : Sat w0 G w) (is : List Nat) (hn : is.Pairwise (fun a b => Nat.beq a b = false)) (hi : (is.filterMap fun i => G[i]?) = L) : Sat w (L ++ [Zb w (ZF L).fp]) w := Sat.start L (H.fin is hn hi)
end
section
variable {P : Program} {Q : Exit → Act → World → Prop} {n : Nat} {f : Nat → Value} {w0 w w' : World} {G : List Ck} {dst : Option Tmp} {ty : TypeId} {pos : String} {aft : Array Edge} {gd : Option (Nat × Bool)} {K : Act → World → Prop}
theorem ZV {T : TypeId} {x y : Operand} (hd : dst = none) (H : Sat w0 G w) (i : Nat) {b q : Nat} {E : TypeId} {cs vs cs' : List Value} {u : Value}
  (hi : G[i]? = some (Z6 b E cs)) (hx : ev n f x = .pointer (some ⟨b, q, none⟩)) (hy : ev n f y = u) (hu : u.cells = ⟨vs⟩) (hN : P.cellsOf T = vs.length) (h0 : 0 < vs.length) (ho : q + vs.length ≤ cs.length) (h1 : vs.all (·.oneCell') = true) (hs : Z0x cs q vs = cs')
  (k : ∀ w', Sat w0 (G.set i (Z6 b E cs')) w' → K (fr n f) w') : WO P ⟨dst, .store T x y, ty, pos, aft, gd⟩ K Q n f w := Z1P hd H i hi hx hy hu hN h0 ho h1 (by rw [hs]; exact k)
end
section
variable {P : Program} {n : Nat} {f : Nat → Value} {w w' : World} {dst : Option Tmp} {ty : TypeId} {pos : String} {aft : Array Edge} {gd : Option (Nat × Bool)} {w0 : World} {G : List Ck} {K : Act → World → Prop} {Q : Exit → Act → World → Prop}
theorem Z31 (cs : List Value) (o : Nat) (vs : List Value) (h : o + vs.length ≤ cs.length) : (Z0x cs o vs).length = cs.length := by
 simp only [Z0x, List.length_append, List.length_take, List.length_drop]; omega
theorem Z4r (cs : List Value) (o : Nat) (vs : List Value) (m : Nat) (h : o + vs.length ≤ m) (hm : m ≤ cs.length) : (Z0x cs o vs).take m = Z0x (cs.take m) o vs := by
 unfold Z0x
 rw [List.take_append, List.take_of_length_le (by rw [List.length_append, List.length_take]; omega), List.take_take, Nat.min_eq_left (by omega), List.length_append, List.length_take, Nat.min_eq_left (by omega), List.drop_take]
theorem Z5y {e size k c g o : Nat} {v : Value} {xs vs : List Value} (h : (Ze e size v k xs).ok w) (hv : v = .slice (some ⟨g, 0, none⟩) k c) {T : TypeId} {x y : Operand} {u : Value} (hx : ev n f x = .pointer (some ⟨g, o, none⟩)) (hy : ev n f y = u) (hu : u.cells = ⟨vs⟩) (hN : P.cellsOf T = vs.length) (h0 : 0 < vs.length) (ho : o + vs.length ≤ xs.length) (h1 : vs.all (·.oneCell') = true) :
  ∃ w', (execOp (ev n f) ⟨dst, .store T x y, ty, pos, aft, gd⟩).run P w = .ok .skip w' ∧ (Ze e size v k (Z0x xs o vs)).ok w' ∧ Ext w w' ∧ ∀ b, b ≠ g → w'.heap[b]? = w.heap[b]? := by
 obtain ⟨hl, h⟩ := h
 rcases h with ⟨h2, _⟩ | ⟨g', cap, cur, h2, hb, hg, hc, hm, hcs, ht⟩
 ·rw [hv] at h2; cases h2
 rw [hv] at h2
 obtain ⟨rfl, rfl⟩ : g = g' ∧ c = cap := by simpa using h2
 have hxl : xs.length ≤ cur.toList.length := by rw [← ht, List.length_take]; exact Nat.min_le_right ..
 obtain ⟨w', hr, hb', he, hk⟩ := Z3b (P := P) (dst := dst) (ty := ty) (pos := pos) (aft := aft) (gd := gd) (cs := cur.toList) hx hy hu hN h0 (by simpa using hg) (by omega) (fun v hv => List.all_eq_true.1 h1 v hv)
 refine ⟨w', hr, ⟨by rw [Z31 _ _ _ ho]; exact hl, .inr ⟨g, c, _, hv, hb, hb', hc, hm, ?_, ?_⟩⟩, he, hk⟩
 ·show (Z0x cur.toList o vs).length = _
  rw [Z31 _ _ _ (by omega)]; simpa using hcs
 ·show (Z0x cur.toList o vs).take (k * size) = _
  rw [Z4r _ _ _ _ (by omega) (by rw [← hl]; exact hxl), ht]
theorem Z4K {e size k c g o : Nat} {v : Value} {xs vs : List Value} {T : TypeId} {x y : Operand} {u : Value} (hd : dst = none) (H : Sat w0 G w) (i : Nat) (hi : G[i]? = some (Ze e size v k xs)) (hv : v = .slice (some ⟨g, 0, none⟩) k c) (hx : ev n f x = .pointer (some ⟨g, o, none⟩)) (hy : ev n f y = u) (hu : u.cells = ⟨vs⟩) (hN : P.cellsOf T = vs.length) (h0 : 0 < vs.length) (ho : o + vs.length ≤ xs.length) (h1 : vs.all (·.oneCell') = true)
  {xs' : List Value} (hxs : Z0x xs o vs = xs') (k' : ∀ w', Sat w0 (G.set i (Ze e size v k xs')) w' → K (fr n f) w') : WO P ⟨dst, .store T x y, ty, pos, aft, gd⟩ K Q n f w := by
 obtain ⟨w', hr, hok, he, hk⟩ := Z5y (P := P) (dst := dst) (ty := ty) (pos := pos) (aft := aft) (gd := gd) (H.at i hi) hv hx hy hu hN h0 ho h1
 subst hxs
 refine Z3F hd hr (k' w' (H.set i hi he (fun b _ hb => hk b fun e => hb ?_) hok fun b hb => .inl hb))
 show v.ownBlock = some b
 rw [hv, e]; rfl
end
end Go.Proofs.YtgigjkjdmalmaaaGreat
