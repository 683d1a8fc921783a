/- WHAT IS PROVED: stores into rows of a call's own, parts of lists as lists. Conditions: stated with each. -/
import Derived.Test.YtenihpghfdcpkaaLists
import Derived.Test.YtenihpghfdcpkaaObj
namespace Go.Proofs.Ytenihpghfdcpkaa
open Go.RowKit
section
variable {P : Program} {n : Nat} {f : Nat → Value} {w w' : World} {dst : Option Tmp} {ty : TypeId} {pos : String} {aft : Array Edge} {gd : Option (Nat × Bool)} {w0 : World} {G : List Ck} {K : Act → World → Prop} {Q : Exit → Act → World → Prop}
theorem wo_know {o : Oper} (d : Nat) (v : Value) (h : f d = v) (k : WO P o K Q n (upd f d v) w) : WO P o K Q n f w := by rwa [know h] at k
theorem splice_len (cs : List Value) (o : Nat) (vs : List Value) (h : o + vs.length ≤ cs.length) : (splice cs o vs).length = cs.length := by
  simp only [splice, List.length_append, List.length_take, List.length_drop]; omega
theorem splice_take (cs : List Value) (o : Nat) (vs : List Value) (m : Nat) (h : o + vs.length ≤ m) (hm : m ≤ cs.length) : (splice cs o vs).take m = splice (cs.take m) o vs := by
  unfold splice
  rw [List.take_append, List.take_of_length_le (by rw [List.length_append, List.length_take]; omega), List.take_take, Nat.min_eq_left (by omega), List.length_append, List.length_take, Nat.min_eq_left (by omega), List.drop_take]
/-- a store into a row of the call's own -/
theorem row_store {e size k c g o : Nat} {v : Value} {xs vs : List Value} (h : (rowC e size v k xs).ok w) (hv : v = .slice (some ⟨g, 0, none⟩) k c) {T : TypeId} {x y : Operand} {u : Value} (hx : ev n f x = .pointer (some ⟨g, o, none⟩)) (hy : ev n f y = u) (hu : u.cells = ⟨vs⟩) (hN : P.cellsOf T = vs.length) (h0 : 0 < vs.length) (ho : o + vs.length ≤ xs.length) (h1 : vs.all (·.oneCell') = true) :
    ∃ w', (execOp (ev n f) ⟨dst, .store T x y, ty, pos, aft, gd⟩).run P w = .ok .skip w' ∧ (rowC e size v k (splice xs o vs)).ok w' ∧ Ext w w' ∧ ∀ b, b ≠ g → w'.heap[b]? = w.heap[b]? := by
  obtain ⟨hl, h⟩ := h
  rcases h with ⟨h2, _⟩ | ⟨g', cap, cur, h2, hb, hg, hc, hm, hcs, ht⟩
  · rw [hv] at h2; cases h2
  rw [hv] at h2
  obtain ⟨rfl, rfl⟩ : g = g' ∧ c = cap := by simpa using h2
  have hxl : xs.length ≤ cur.toList.length := by rw [← ht, List.length_take]; exact Nat.min_le_right ..
  obtain ⟨w', hr, hb', he, hk⟩ := e_store (P := P) (dst := dst) (ty := ty) (pos := pos) (aft := aft) (gd := gd) (cs := cur.toList) hx hy hu hN h0 (by simpa using hg) (by omega) (fun v hv => List.all_eq_true.1 h1 v hv)
  refine ⟨w', hr, ⟨by rw [splice_len _ _ _ ho]; exact hl, .inr ⟨g, c, _, hv, hb, hb', hc, hm, ?_, ?_⟩⟩, he, hk⟩
  · show (splice cur.toList o vs).length = _
    rw [splice_len _ _ _ (by omega)]; simpa using hcs
  · show (splice cur.toList o vs).take (k * size) = _
    rw [splice_take _ _ _ _ (by omega) (by rw [← hl]; exact hxl), ht]
theorem d_storeRow {e size k c g o : Nat} {v : Value} {xs vs : List Value} {T : TypeId} {x y : Operand} {u : Value} (hd : dst = none) (H : Sat w0 G w) (i : Nat) (hi : G[i]? = some (rowC e size v k xs)) (hv : v = .slice (some ⟨g, 0, none⟩) k c) (hx : ev n f x = .pointer (some ⟨g, o, none⟩)) (hy : ev n f y = u) (hu : u.cells = ⟨vs⟩) (hN : P.cellsOf T = vs.length) (h0 : 0 < vs.length) (ho : o + vs.length ≤ xs.length) (h1 : vs.all (·.oneCell') = true)
    {xs' : List Value} (hxs : splice xs o vs = xs') (k' : ∀ w', Sat w0 (G.set i (rowC e size v k xs')) w' → K (fr n f) w') : WO P ⟨dst, .store T x y, ty, pos, aft, gd⟩ K Q n f w := by
  obtain ⟨w', hr, hok, he, hk⟩ := row_store (P := P) (dst := dst) (ty := ty) (pos := pos) (aft := aft) (gd := gd) (H.at i hi) hv hx hy hu hN h0 ho h1
  subst hxs
  refine d_skip hd hr (k' w' (H.set i hi he (fun b _ hb => hk b fun e => hb ?_) hok fun b hb => .inl hb))
  show v.ownBlock = some b
  rw [hv, e]; rfl
/-- x[lo:hi] -/
theorem run_sliceHi {T E : TypeId} {a : Option Addr} {len cap : Nat} {k : IntKind} {z : Int} {i : TypeInfo} (hT : P.underlying T = some (.slice E)) (hi : P.info? E = some i) (h1 : 0 ≤ z) (h2 : z ≤ cap) :
    (Instr.slice T (.slice a len cap) none (some (.int k z)) none).run P w = .ok (.slice a z.toNat cap) w := by
  have e0 : a.map (·.add (0 * i.size)) = a := by cases a <;> simp [Addr.add]
  simp [Instr.slice, run_underlying hT, Instr.sliceBounds, Instr.sliceBound, asIntOf, h1, h2, Result.andThen, sizeOf, typeInfo, hi]
  intro _
  cases a <;> simp [Addr.add]
theorem run_sliceLo {T E : TypeId} {b o : Nat} {len cap : Nat} {k : IntKind} {z : Int} {i : TypeInfo} (hT : P.underlying T = some (.slice E)) (hi : P.info? E = some i) (h1 : 0 ≤ z) (h2 : z ≤ len) :
    (Instr.slice T (.slice (some ⟨b, o, none⟩) len cap) (some (.int k z)) none none).run P w = .ok (.slice (some (if cap = z.toNat then ⟨b, o, none⟩ else ⟨b, o + z.toNat * i.size, none⟩)) (len - z.toNat) (cap - z.toNat)) w := by
  simp [Instr.slice, run_underlying hT, Instr.sliceBounds, Instr.sliceBound, asIntOf, h1, h2, Result.andThen, sizeOf, typeInfo, hi]
  split <;> simp [Addr.add]
end
/-- a thing of a row is another one -/
theorem flat_set {α : Type} (enc : α → List Value) (size : Nat) (hs : ∀ x, (enc x).length = size) : ∀ (L : List α) (i : Nat) (x : α), i < L.length → splice (L.flatMap enc) (i * size) (enc x) = (L.set i x).flatMap enc
  | [], i, x, h => by simp at h
  | y :: L, 0, x, _ => by
    simp only [List.flatMap_cons, Nat.zero_mul, splice, List.take_zero, List.nil_append, Nat.zero_add, List.set_cons_zero]
    rw [hs, List.drop_append, List.drop_of_length_le (by rw [hs]; exact Nat.le_refl _), hs]
    simp
  | y :: L, i + 1, x, h => by
    have ih := flat_set enc size hs L i x (by simpa using h)
    simp only [List.flatMap_cons, List.set_cons_succ, ← ih, splice]
    have e : (i + 1) * size = (enc y).length + i * size := by rw [hs, Nat.succ_mul, Nat.add_comm]
    rw [e, List.take_append, List.take_of_length_le (by omega), Nat.add_sub_cancel_left, List.drop_append, List.drop_of_length_le (by omega), List.nil_append, List.append_assoc, List.append_assoc, List.append_assoc]
    rw [show (enc y).length + i * size + (enc x).length - (enc y).length = i * size + (enc x).length by omega]
end Go.Proofs.Ytenihpghfdcpkaa
