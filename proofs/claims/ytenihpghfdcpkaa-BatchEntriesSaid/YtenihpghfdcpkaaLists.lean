/- WHAT IS PROVED: rows of a call's own in memory: what an append makes, what a list in brackets makes, what is read of them. Conditions: stated with each. -/
import Derived.Test.YtenihpghfdcpkaaSep
import Derived.Test.YtenihpghfdcpkaaBreak
namespace Go.Proofs.Ytenihpghfdcpkaa
open Go.RowKit
/-- T is the type of lists of e, whose cells and bytes are so many -/
def rowTy (P : Program) (T e : TypeId) (size bytes : Nat) : Bool :=
  (match P.underlying T with
   | some (.slice e') => Nat.beq e' e
   | _ => false) &&
  (match P.info? e with
   | some i => Nat.beq i.size size && Nat.beq i.bytes bytes && (match i.zero with
     | some z => Nat.beq z.cells.size size
     | none => false)
   | none => false) && Nat.blt 0 size
theorem rowTy_at {P : Program} {T e : TypeId} {size bytes : Nat} (h : rowTy P T e size bytes = true) : ∃ i z, P.underlying T = some (.slice e) ∧ P.info? e = some i ∧ i.zero = some z ∧ i.size = size ∧ i.bytes = bytes ∧ z.cells.size = size ∧ 0 < size := by
  unfold rowTy at h
  simp only [Bool.and_eq_true] at h
  obtain ⟨⟨h1, h2⟩, h3⟩ := h
  split at h1
  · rename_i e' hu
    obtain rfl := Nat.eq_of_beq_eq_true h1
    split at h2
    · rename_i i hi
      simp only [Bool.and_eq_true] at h2
      obtain ⟨⟨h4, h5⟩, h6⟩ := h2
      split at h6
      · rename_i z hz
        exact ⟨i, z, hu, hi, hz, Nat.eq_of_beq_eq_true h4, Nat.eq_of_beq_eq_true h5, Nat.eq_of_beq_eq_true h6, by simpa [Nat.blt_eq] using h3⟩
      · cases h6
    · cases h2
  · cases h1
theorem append_none {P : Program} (w : World) (t ty e : TypeId) (i : TypeInfo) (ht : P.underlying t = some (.slice e)) (hi : P.info? e = some i) {v : Value} {n : Nat} {xs : List Value} {size : Nat} (h : w.ownsRow 0 e size v n xs) :
    (Builtin.append_ #[t, t] ty #[v, .slice none 0 0]).run P w = .ok v w := by
  rcases h.2 with ⟨rfl, rfl⟩ | ⟨g, cap, cur, rfl, hb, hgg, hc, hm, hcs, htake⟩
  · simp [Builtin.append_, run_underlying ht, sizeOf, typeInfo, hi, Builtin.lenOf, Builtin.firstCells, Result.andThen]
  · have hst : ∀ a : Addr, (storeCells a [] 0).run P w = .ok () w := fun a => by simp [storeCells]
    simp [Builtin.append_, run_underlying ht, sizeOf, typeInfo, hi, Builtin.lenOf, Builtin.firstCells, Result.andThen, hc, hst]
theorem ext_grown {w w' : World} {r : Option Nat} (h : w.grownBy w' r) : Ext w w' := ⟨h.os, h.tape, h.output, h.size⟩
section
variable {P : Program} {n : Nat} {f : Nat → Value} {w w' : World} {dst : Option Tmp} {ty : TypeId} {pos : String} {aft : Array Edge} {gd : Option (Nat × Bool)} {w0 : World} {G : List Ck} {K : Act → World → Prop} {Q : Exit → Act → World → Prop}
theorem append_row {T e : TypeId} {size bytes : Nat} (hR : rowTy P T e size bytes = true) {v u : Value} {k m : Nat} {xs ys : List Value} (hv : w.ownsRow 0 e size v k xs) (hu : w.ownsRow 0 e size u m ys) (h1 : ys.all (·.oneCell') = true) (hb : (k + m) * bytes ≤ 140737488355328) (h63 : k + m ≤ 140737488355328) :
    ∃ v' w', (Builtin.append_ #[T, T] ty #[v, u]).run P w = .ok v' w' ∧ w'.ownsRow 0 e size v' (k + m) (xs ++ ys) ∧ w.grownBy w' v.ownBlock ∧ ∀ b, v'.ownBlock = some b → v.ownBlock = some b ∨ w.heap.size ≤ b := by
  obtain ⟨i, z, ht, hi, hz, hs, hby, hzs, h0⟩ := rowTy_at hR
  have hu2 := hu
  rcases hu2.2 with ⟨rfl, rfl⟩ | ⟨g, cap, cur, rfl, hbg, hgg, hc, hm, hcs, htake⟩
  · obtain rfl : ys = [] := List.eq_nil_of_length_eq_zero (by simpa using hu.1)
    exact ⟨v, w, append_none w T ty e i ht hi hv, by simpa using hv, ⟨rfl, rfl, rfl, Nat.le_refl _, fun _ _ _ => rfl⟩, fun b h => .inl h⟩
  · exact append_own w 0 T ty e i z size bytes ht hi hz hs hby hzs h0 v k xs hv ⟨g, 0, none⟩ m cap ys hu.1 (hu.cells (g := g) rfl) (fun x hx => List.all_eq_true.1 h1 x hx) (by unfold maxLen; omega) hb (Nat.zero_le _)
theorem e_append {T : TypeId} {x y : Operand} {v u v' : Value} (hx : ev n f x = v) (hy : ev n f y = u) (h : (Builtin.append_ #[T, T] ty #[v, u]).run P w = .ok v' w') :
    (execOp (ev n f) ⟨dst, .call { callee := .builtin .append, args := #[x, y], argTypes := #[T, T] }, ty, pos, aft, gd⟩).run P w = .ok (.value v') w' := by
  simp [execOp, resolve, invoke, builtin, hx, hy, h, Result.andThen]
/-- append to a row of the call's own -/
theorem d_append {T e : TypeId} {size bytes : Nat} {x y : Operand} {d : Nat} (hd : dst = some d) (H : Sat w0 G w) (hR : rowTy P T e size bytes = true) (i j : Nat) {v u : Value} {k m : Nat} {xs ys : List Value} (hi : G[i]? = some (rowC e size v k xs)) (hj : G[j]? = some (rowC e size u m ys))
    (hx : ev n f x = v) (hy : ev n f y = u) (h1 : ys.all (·.oneCell') = true) (hb : (k + m) * bytes ≤ 140737488355328) (h63 : k + m ≤ 140737488355328)
    (kk : ∀ v' w', Sat w0 (G.set i (rowC e size v' (k + m) (xs ++ ys))) w' → K (fr n (upd f d v')) w') : WO P ⟨dst, .call { callee := .builtin .append, args := #[x, y], argTypes := #[T, T] }, ty, pos, aft, gd⟩ K Q n f w := by
  obtain ⟨v', w', hr, ho, hg, hn⟩ := append_row (ty := ty) hR (H.at i hi) (H.at j hj) h1 hb h63
  exact d_val hd (e_append hx hy hr) (kk v' w' (H.set i hi (ext_grown hg) (fun b hb hne => hg.block b hb fun e => hne e.symm) ho hn))
/-- append to none: a row in new memory -/
theorem d_appendNil {T e : TypeId} {size bytes : Nat} {x y : Operand} {d : Nat} (hd : dst = some d) (H : Sat w0 G w) (hR : rowTy P T e size bytes = true) {u : Value} {m : Nat} {ys : List Value} (hj : (rowC e size u m ys).ok w)
    (hx : ev n f x = .slice none 0 0) (hy : ev n f y = u) (h1 : ys.all (·.oneCell') = true) (hb : m * bytes ≤ 140737488355328) (h63 : m ≤ 140737488355328)
    (kk : ∀ v' w', Sat w0 (G ++ [rowC e size v' m ys]) w' → K (fr n (upd f d v')) w') : WO P ⟨dst, .call { callee := .builtin .append, args := #[x, y], argTypes := #[T, T] }, ty, pos, aft, gd⟩ K Q n f w := by
  obtain ⟨v', w', hr, ho, hg, hn⟩ := append_row (ty := ty) hR (World.ownsRow_nil w 0 e size) hj h1 (by simpa using hb) (by simpa using h63)
  simp only [Nat.zero_add, List.nil_append] at ho
  refine d_val hd (e_append hx hy hr) (kk v' w' (H.add (ext_grown hg) (fun b hb => hg.block b hb (by simp [Value.ownBlock])) ho fun b hb => ?_))
  rcases hn b hb with h | h
  · simp [Value.ownBlock] at h
  · exact h
/-- a piece of the old memory that nobody turns -/
theorem Sat.roCk {W : World} {D : Nat → Prop} {A : Ck} (H : Sat w0 G w) (i : Nat) (hi : G[i]? = some (restC W D)) (h : A.ok W) (hD : ∀ b, A.fp b → ¬ D b) : A.ok w := A.stay h fun b hb => H.at i hi b (A.lt h b hb) (hD b hb)
/-- no list is a row of no cells -/
theorem Sat.addNil (H : Sat w0 G w) (e : TypeId) (size : Nat) : Sat w0 (G ++ [rowC e size (.slice none 0 0) 0 []]) w :=
  H.add (Ext.refl w) (fun _ _ => rfl) (World.ownsRow_nil w 0 e size) (fun b hb => by simp [rowC, Value.ownBlock] at hb)
/-- '[]T{x, ..}' -/
theorem d_buildSlice {T e : TypeId} {size bytes N : Nat} {parts : Array (Nat × Operand)} {d : Nat} (hd : dst = some d) (H : Sat w0 G w) (hR : rowTy P T e size bytes = true) {z : Value} (hz : (P.info? e).bind (·.zero) = some z) {pvs : List (Nat × Value)} {vs : List Value}
    (hp : (parts.map fun q => (q.1, ev n f q.2)).toList = pvs) (hf : Instr.fill (fun j => some (j * size, size)) ((Array.range (N * size)).map fun q => z.cells[q % z.cells.size]!) pvs = some ⟨vs⟩) (hl : Nat.beq vs.length (N * size) = true) (hN : Nat.blt 0 N = true) (hsz : Nat.ble (N * size) 16777216 = true)
    (kk : ∀ b w', Sat w0 (G ++ [rowC e size (.slice (some ⟨b, 0, none⟩) N N) N vs]) w' → K (fr n (upd f d (.slice (some ⟨b, 0, none⟩) N N))) w') : WO P ⟨dst, .buildSlice T N parts, ty, pos, aft, gd⟩ K Q n f w := by
  obtain ⟨i, z', ht, hi, hz', hs, hby, hzs, h0⟩ := rowTy_at hR
  have hl := Nat.eq_of_beq_eq_true hl
  have hsz := Nat.le_of_ble_eq_true hsz
  have hN : 0 < N := by simpa [Nat.blt_eq] using hN
  have hpos : 0 < N * size := Nat.mul_pos hN h0
  have hr : (execOp (ev n f) ⟨dst, .buildSlice T N parts, ty, pos, aft, gd⟩).run P w = .ok (.value (.slice (some ⟨w.heap.size, 0, none⟩) N N)) (w.alloc (.cells ⟨vs⟩ e (0, 0))) := by
    have hp2 : (parts.map fun q => (q.1, ev n f q.2)).toList = pvs := hp
    simp only [execOp, Instr.buildSlice]
    have hzv := run_zeroValue (P := P) (w := w) hz
    have h1 : ¬ 16777216 < N * size := by omega
    have h2 : ¬ N * size = 0 := by omega
    simp only [hp2]
    simp [run_underlying ht, sizeOf, typeInfo, hi, hs, Result.andThen, h1, h2, hzv, hf, newRow]
  refine d_val hd hr (kk _ _ (H.add ⟨rfl, rfl, rfl, by simp⟩ (fun b hb => Below.heap_alloc w _ b hb) ?_ (fun b hb => ?_)))
  · refine ⟨hl, .inr ⟨w.heap.size, N, ⟨vs⟩, rfl, Nat.zero_le _, heap_alloc_at w _, Nat.le_refl _, ?_, by simpa using hl, ?_⟩⟩
    · have := Nat.le_mul_of_pos_right N h0
      unfold maxLen; omega
    · rw [← hl]; simp
  · simp [rowC, Value.ownBlock] at hb; omega
/-- what is read of a row -/
theorem row_cell {e size : Nat} {v : Value} {k : Nat} {xs : List Value} {g o c : Nat} (h : (rowC e size v k xs).ok w) (hv : v = .slice (some ⟨g, 0, none⟩) k c) {u : Value} (hu : xs[o]? = some u) : w.cell? ⟨g, o, none⟩ = some u := by
  have := World.ownsRow.cells h (g := g) (by rw [hv]; rfl) o u hu
  rw [Addr.add_lit] at this
  simpa using this
theorem row_shape {e size : Nat} {v : Value} {k : Nat} {xs : List Value} (h : (rowC e size v k xs).ok w) (hk : 0 < k) : ∃ g c, v = .slice (some ⟨g, 0, none⟩) k c := by
  rcases h.2 with ⟨_, h0⟩ | ⟨g, cap, _, hv, _⟩
  · omega
  · exact ⟨g, cap, hv⟩
end
/-- cells of things, one behind the other -/
theorem flat_get {α : Type} (enc : α → List Value) (size : Nat) (hs : ∀ x, (enc x).length = size) : ∀ (L : List α) (i j : Nat) (x : α), L[i]? = some x → j < size → (L.flatMap enc)[i * size + j]? = (enc x)[j]?
  | [], i, j, x, h, _ => by simp at h
  | y :: L, 0, j, x, h, hj => by
    simp at h; subst h
    simp only [List.flatMap_cons, Nat.zero_mul, Nat.zero_add]
    rw [List.getElem?_append_left (by rw [hs]; exact hj)]
  | y :: L, i + 1, j, x, h, hj => by
    simp only [List.getElem?_cons_succ] at h
    simp only [List.flatMap_cons]
    rw [List.getElem?_append_right (by rw [hs, Nat.succ_mul]; omega), hs]
    have e : (i + 1) * size + j - size = i * size + j := by rw [Nat.succ_mul]; omega
    rw [e]
    exact flat_get enc size hs L i j x h hj
theorem flat_len {α : Type} (enc : α → List Value) (size : Nat) (hs : ∀ x, (enc x).length = size) (L : List α) : (L.flatMap enc).length = L.length * size := by
  induction L with
  | nil => simp
  | cons y L ih => simp only [List.flatMap_cons, List.length_append, hs, ih, List.length_cons, Nat.succ_mul]; omega
theorem flat_one {α : Type} (enc : α → List Value) (h : ∀ x, (enc x).all (·.oneCell') = true) (L : List α) : (L.flatMap enc).all (·.oneCell') = true := by
  rw [List.all_eq_true]
  intro v hv
  obtain ⟨x, _, hx⟩ := List.mem_flatMap.1 hv
  exact List.all_eq_true.1 (h x) v hx
/-- a run of cells somewhere -/
def RunAt (w : World) (a : Addr) (vs : List Value) : Prop := ∀ j v, vs[j]? = some v → w.cell? (a.add j) = some v
section
variable {P : Program} {n : Nat} {f : Nat → Value} {w : World} {dst : Option Tmp} {ty : TypeId} {pos : String} {aft : Array Edge} {gd : Option (Nat × Bool)}
theorem e_loadRun {T : TypeId} {x : Operand} {p : Addr} {vs : List Value} (hx : ev n f x = .pointer (some p)) (hT : aggTy P T = true) (hN : P.cellsOf T = vs.length) (h0 : 0 < vs.length) (hc : RunAt w p vs) :
    (execOp (ev n f) ⟨dst, .load T x, ty, pos, aft, gd⟩).run P w = .ok (.value (.agg ⟨vs⟩)) w := by
  have hl : (loadCells p vs.length).run P w = .ok vs.toArray w := run_loadCells_list w p vs hc
  simp only [execOp, Instr.loadAt, hx, Instr.sureAddr, loadVar]
  simp [run_isAgg_agg hT, run_sizeOf_cells hN h0, hl, Result.andThen]
theorem e_indexAddrV {T E : TypeId} {x y : Operand} {v : Value} {b len cap sz : Nat} {k : IntKind} {z : Int} (hT : P.underlying T = some (.slice E)) (hs : P.cellsOf E = sz) (h0 : 0 < sz) (hx : ev n f x = v) (hv : v = .slice (some ⟨b, 0, none⟩) len cap) (hy : ev n f y = .int k z) (h1 : 0 ≤ z) (h2 : z < len) :
    (execOp (ev n f) ⟨dst, .indexAddr T x y, ty, pos, aft, gd⟩).run P w = .ok (.value (.pointer (some ⟨b, 0 + z.toNat * sz, none⟩))) w :=
  e_indexAddr hT hs h0 (hx.trans hv) hy h1 h2
theorem e_lenRow {w1 : World} {T E e size : Nat} {x : Operand} {v : Value} {k : Nat} {xs : List Value} (hT : P.underlying T = some (.slice E)) (h : (rowC e size v k xs).ok w1) (hx : ev n f x = v) :
    (execOp (ev n f) ⟨dst, .call { callee := .builtin .len, args := #[x], argTypes := #[T] }, ty, pos, aft, gd⟩).run P w = .ok (.value (.int .i64 (k : Int))) w := by
  rcases h.2 with ⟨rfl, rfl⟩ | ⟨g, cap, _, rfl, _⟩
  · simp [execOp, resolve, invoke, builtin, hx, Builtin.len_, run_underlying hT, Result.andThen]
    rfl
  · simp [execOp, resolve, invoke, builtin, hx, Builtin.len_, run_underlying hT, Result.andThen]
    rfl
end
section
variable {α : Type} {enc : α → List Value} {size : Nat} {w : World} {e g o c i : Nat} {v : Value} {L : List α} {x : α}
/-- a cell of the i-th thing of a row -/
theorem rows_cell (h : (rowC e size v L.length (L.flatMap enc)).ok w) (hv : v = .slice (some ⟨g, 0, none⟩) L.length c) (hs : ∀ x, (enc x).length = size) (hx : L[i]? = some x) (j : Nat) (hj : Nat.blt j size = true) (ho : o = i * size + j) {u : Value} (hu : (enc x)[j]? = some u) : w.cell? ⟨g, o, none⟩ = some u := by
  refine row_cell h hv ?_
  rw [ho, flat_get enc size hs L i j x hx (by simpa [Nat.blt_eq] using hj)]
  exact hu
theorem rows_run (h : (rowC e size v L.length (L.flatMap enc)).ok w) (hv : v = .slice (some ⟨g, 0, none⟩) L.length c) (hs : ∀ x, (enc x).length = size) (hx : L[i]? = some x) (j : Nat) (ho : o = i * size + j) {us : List Value} (hj : Nat.ble (j + us.length) size = true) (hu : ((enc x).drop j).take us.length = us) : RunAt w ⟨g, o, none⟩ us := by
  intro q u hq
  have hj := Nat.le_of_ble_eq_true hj
  have hql : q < us.length := (List.getElem?_eq_some_iff.1 hq).1
  rw [Addr.add_lit]
  refine rows_cell h hv hs hx (j + q) (by simp [Nat.blt_eq]; omega) (by omega) ?_
  rw [← hu, List.getElem?_take, if_pos hql, List.getElem?_drop] at hq
  exact hq
theorem take_count {p : α → Bool} (hx : L[i]? = some x) : (L.take (i + 1)).countP p = (L.take i).countP p + bif p x then 1 else 0 := by
  obtain ⟨h1, h2⟩ := List.getElem?_eq_some_iff.1 hx
  rw [List.take_add_one, hx]
  simp [List.countP_append]
end
theorem take_count_le {α : Type} (L : List α) (i : Nat) (p : α → Bool) : (L.take i).countP p ≤ L.length := Nat.le_trans List.countP_le_length (by rw [List.length_take]; omega)
theorem get_at {α : Type} {L : List α} {i : Nat} (h : i < L.length) : ∃ x, L[i]? = some x := ⟨L[i], List.getElem?_eq_getElem h⟩
section
variable {P : Program} {ops : Array Oper} {S : World → Prop} {B : List Nat} {Q : Exit → Act → World → Prop} {n : Nat} {f : Nat → Value} {w : World} {listed : Array Bool} {fuel : Nat}
/-- two may come up -/
theorem k_do2 {o1 o2 : Oper} (i j : Nat) (hi : ops[i]? = some o1) (hj : ops[j]? = some o2) (hr : Region.ready .any ops listed = [i, j]) (hw1 : Wants ops o1 n f true) (hw2 : Wants ops o2 n f true) (hb1 : memN B i = false) (hb2 : memN B j = false)
    (k1 : ∀ K : Act → World → Prop, (∀ g w', S w' → (WK P ops Q S (memN B) fuel (listed.setIfInBounds i true) n g w') → K (fr n g) w') → WO P o1 K Q n f w)
    (k2 : ∀ K : Act → World → Prop, (∀ g w', S w' → (WK P ops Q S (memN B) fuel (listed.setIfInBounds j true) n g w') → K (fr n g) w') → WO P o2 K Q n f w) : WK P ops Q S (memN B) (fuel + 1) listed n f w := by
  refine ⟨⟨fun h0 => absurd (hr ▸ h0) (by simp), fun q hq => ?_⟩⟩
  rw [hr] at hq
  rcases List.mem_cons.1 hq with rfl | hq
  · refine wpOp_step hi fun K' hK => ?_
    rw [if_pos hw1.h]
    exact (k1 K' fun g w' hS hk => hK _ _ (by rw [if_neg (by rw [hb1]; simp)]; exact ⟨hS, hk.h⟩)).h
  · obtain rfl := List.mem_singleton.1 hq
    refine wpOp_step hj fun K' hK => ?_
    rw [if_pos hw2.h]
    exact (k2 K' fun g w' hS hk => hK _ _ (by rw [if_neg (by rw [hb2]; simp)]; exact ⟨hS, hk.h⟩)).h
end
end Go.Proofs.Ytenihpghfdcpkaa
