/- WHAT IS PROVED: contracts and plain laws of Lists, Obj, Sh2, ClM. Conditions: stated with each. -/
import Derived.Test.YtgigjkjdmalmaaaGreatPC03
set_option maxHeartbeats 4000000
set_option maxRecDepth 100000
namespace Go.Proofs.YtgigjkjdmalmaaaGreat
open Go.RowKit
def Z3w (P : Program) (T e : TypeId) (size bytes : Nat) : Bool :=
  (match P.underlying T with
   | some (.slice e') => Nat.beq e' e
   | _ => false) &&
  (match P.info? e with
   | some i => Nat.beq i.size size && Nat.beq i.bytes bytes && (match i.zero with
     | some z => Nat.beq z.cells.size size
     | none => false)
   | none => false) && Nat.blt 0 size
theorem Z2X {P : Program} {T e : TypeId} {size bytes : Nat} (h : Z3w P T e size bytes = true) : ∃ i z, P.underlying T = some (.slice e) ∧ P.info? e = some i ∧ i.zero = some z ∧ i.size = size ∧ i.bytes = bytes ∧ z.cells.size = size ∧ 0 < size := by
 unfold Z3w at h
 simp only [Bool.and_eq_true] at h
 obtain ⟨⟨h1, h2⟩, h3⟩ := h
 split at h1
 ·rename_i e' hu
  obtain rfl := Nat.eq_of_beq_eq_true h1
  split at h2
  ·rename_i i hi
   simp only [Bool.and_eq_true] at h2
   obtain ⟨⟨h4, h5⟩, h6⟩ := h2
   split at h6
   ·rename_i z hz
    exact ⟨i, z, hu, hi, hz, Nat.eq_of_beq_eq_true h4, Nat.eq_of_beq_eq_true h5, Nat.eq_of_beq_eq_true h6, by simpa [Nat.blt_eq] using h3⟩
   ·cases h6
  ·cases h2
 ·cases h1
theorem Z31 {P : Program} (w : World) (t ty e : TypeId) (i : TypeInfo) (ht : P.underlying t = some (.slice e)) (hi : P.info? e = some i) {v : Value} {n : Nat} {xs : List Value} {size : Nat} (h : w.ownsRow 0 e size v n xs) :
  (Builtin.append_ #[t, t] ty #[v, .slice none 0 0]).run P w = .ok v w := by
 rcases h.2 with ⟨rfl, rfl⟩ | ⟨g, cap, cur, rfl, hb, hgg, hc, hm, hcs, htake⟩
 ·simp [Builtin.append_, run_underlying ht, sizeOf, typeInfo, hi, Builtin.lenOf, Builtin.firstCells, Result.andThen]
 ·have hst : ∀ a : Addr, (storeCells a [] 0).run P w = .ok () w := fun a => by simp [storeCells]
  simp [Builtin.append_, run_underlying ht, sizeOf, typeInfo, hi, Builtin.lenOf, Builtin.firstCells, Result.andThen, hc, hst]
theorem Z2j {w w' : World} {r : Option Nat} (h : w.grownBy w' r) : Ext w w' := ⟨h.os, h.tape, h.output, h.size⟩
section
variable {P : Program} {n : Nat} {f : Nat → Value} {w w' : World} {dst : Option Tmp} {ty : TypeId} {pos : String} {aft : Array Edge} {gd : Option (Nat × Bool)} {w0 : World} {G : List Ck} {K : Act → World → Prop} {Q : Exit → Act → World → Prop}
theorem Z3A {T e : TypeId} {size bytes : Nat} (hR : Z3w P T e size bytes = true) {v u : Value} {k m : Nat} {xs ys : List Value} (hv : w.ownsRow 0 e size v k xs) (hu : w.ownsRow 0 e size u m ys) (h1 : ys.all (·.oneCell') = true) (hb : (k + m) * bytes ≤ 140737488355328) (h63 : k + m ≤ 140737488355328) :
  ∃ v' w', (Builtin.append_ #[T, T] ty #[v, u]).run P w = .ok v' w' ∧ w'.ownsRow 0 e size v' (k + m) (xs ++ ys) ∧ w.grownBy w' v.ownBlock ∧ ∀ b, v'.ownBlock = some b → v.ownBlock = some b ∨ w.heap.size ≤ b := by
 obtain ⟨i, z, ht, hi, hz, hs, hby, hzs, h0⟩ := Z2X hR
 have hu2 := hu
 rcases hu2.2 with ⟨rfl, rfl⟩ | ⟨g, cap, cur, rfl, hbg, hgg, hc, hm, hcs, htake⟩
 ·obtain rfl : ys = [] := List.eq_nil_of_length_eq_zero (by simpa using hu.1)
  exact ⟨v, w, Z31 w T ty e i ht hi hv, by simpa using hv, ⟨rfl, rfl, rfl, Nat.le_refl _, fun _ _ _ => rfl⟩, fun b h => .inl h⟩
 ·exact Z3z w 0 T ty e i z size bytes ht hi hz hs hby hzs h0 v k xs hv ⟨g, 0, none⟩ m cap ys hu.1 (hu.cells (g := g) rfl) (fun x hx => List.all_eq_true.1 h1 x hx) (by unfold maxLen; omega) hb (Nat.zero_le _)
theorem Z2V {T : TypeId} {x y : Operand} {v u v' : Value} (hx : ev n f x = v) (hy : ev n f y = u) (h : (Builtin.append_ #[T, T] ty #[v, u]).run P w = .ok v' w') :
  (execOp (ev n f) ⟨dst, .call { callee := .builtin .append, args := #[x, y], argTypes := #[T, T] }, ty, pos, aft, gd⟩).run P w = .ok (.value v') w' := by
 simp [execOp, resolve, invoke, builtin, hx, hy, h, Result.andThen]
theorem Z0z {T e : TypeId} {size bytes : Nat} {x y : Operand} {d : Nat} (hd : dst = some d) (H : Sat w0 G w) (hR : Z3w P T e size bytes = true) (i j : Nat) {v u : Value} {k m : Nat} {xs ys : List Value} (hi : G[i]? = some (Ze e size v k xs)) (hj : G[j]? = some (Ze e size u m ys))
  (hx : ev n f x = v) (hy : ev n f y = u) (h1 : ys.all (·.oneCell') = true) (hb : (k + m) * bytes ≤ 140737488355328) (h63 : k + m ≤ 140737488355328)
  (kk : ∀ v' w', Sat w0 (G.set i (Ze e size v' (k + m) (xs ++ ys))) w' → K (fr n (upd f d v')) w') : WO P ⟨dst, .call { callee := .builtin .append, args := #[x, y], argTypes := #[T, T] }, ty, pos, aft, gd⟩ K Q n f w := by
 obtain ⟨v', w', hr, ho, hg, hn⟩ := Z3A (ty := ty) hR (H.at i hi) (H.at j hj) h1 hb h63
 exact Z36 hd (Z2V hx hy hr) (kk v' w' (H.set i hi (Z2j hg) (fun b hb hne => hg.block b hb fun e => hne e.symm) ho hn))
theorem Z50 {T e : TypeId} {size bytes : Nat} {x y : Operand} {d : Nat} (hd : dst = some d) (H : Sat w0 G w) (hR : Z3w P T e size bytes = true) {u : Value} {m : Nat} {ys : List Value} (hj : (Ze e size u m ys).ok w)
  (hx : ev n f x = .slice none 0 0) (hy : ev n f y = u) (h1 : ys.all (·.oneCell') = true) (hb : m * bytes ≤ 140737488355328) (h63 : m ≤ 140737488355328)
  (kk : ∀ v' w', Sat w0 (G ++ [Ze e size v' m ys]) w' → K (fr n (upd f d v')) w') : WO P ⟨dst, .call { callee := .builtin .append, args := #[x, y], argTypes := #[T, T] }, ty, pos, aft, gd⟩ K Q n f w := by
 obtain ⟨v', w', hr, ho, hg, hn⟩ := Z3A (ty := ty) hR (World.ownsRow_nil w 0 e size) hj h1 (by simpa using hb) (by simpa using h63)
 simp only [Nat.zero_add, List.nil_append] at ho
 refine Z36 hd (Z2V hx hy hr) (kk v' w' (H.add (Z2j hg) (fun b hb => hg.block b hb (by simp [Value.ownBlock])) ho fun b hb => ?_))
 rcases hn b hb with h | h
 ·simp [Value.ownBlock] at h
 ·exact h
theorem Sat.roCk {W : World} {D : Nat → Prop} {A : Ck} (H : Sat w0 G w) (i : Nat) (hi : G[i]? = some (Za W D)) (h : A.ok W) (hD : ∀ b, A.fp b → ¬ D b) : A.ok w := A.stay h fun b hb => H.at i hi b (A.lt h b hb) (hD b hb)
theorem Sat.addNil (H : Sat w0 G w) (e : TypeId) (size : Nat) : Sat w0 (G ++ [Ze e size (.slice none 0 0) 0 []]) w :=
 H.add (Ext.refl w) (fun _ _ => rfl) (World.ownsRow_nil w 0 e size) (fun b hb => by simp [Ze, Value.ownBlock] at hb)
theorem ZY {T e : TypeId} {size bytes N : Nat} {parts : Array (Nat × Operand)} {d : Nat} (hd : dst = some d) (H : Sat w0 G w) (hR : Z3w P T e size bytes = true) {z : Value} (hz : (P.info? e).bind (·.zero) = some z) {pvs : List (Nat × Value)} {vs : List Value}
  (hp : (parts.map fun q => (q.1, ev n f q.2)).toList = pvs) (hf : Instr.fill (fun j => some (j * size, size)) ((Array.range (N * size)).map fun q => z.cells[q % z.cells.size]!) pvs = some ⟨vs⟩) (hl : Nat.beq vs.length (N * size) = true) (hN : Nat.blt 0 N = true) (hsz : Nat.ble (N * size) 16777216 = true)
  (kk : ∀ b w', Sat w0 (G ++ [Ze e size (.slice (some ⟨b, 0, none⟩) N N) N vs]) w' → K (fr n (upd f d (.slice (some ⟨b, 0, none⟩) N N))) w') : WO P ⟨dst, .buildSlice T N parts, ty, pos, aft, gd⟩ K Q n f w := by
 obtain ⟨i, z', ht, hi, hz', hs, hby, hzs, h0⟩ := Z2X hR
 have hl := Nat.eq_of_beq_eq_true hl
 have hsz := Nat.le_of_ble_eq_true hsz
 have hN : 0 < N := by simpa [Nat.blt_eq] using hN
 have hpos : 0 < N * size := Nat.mul_pos hN h0
 have hr : (execOp (ev n f) ⟨dst, .buildSlice T N parts, ty, pos, aft, gd⟩).run P w = .ok (.value (.slice (some ⟨w.heap.size, 0, none⟩) N N)) (w.alloc (.cells ⟨vs⟩ e (0, 0))) := by
  have hp2 : (parts.map fun q => (q.1, ev n f q.2)).toList = pvs := hp
  simp only [execOp, Instr.buildSlice]
  have hzv := Z2s (P := P) (w := w) hz
  have h1 : ¬ 16777216 < N * size := by omega
  have h2 : ¬ N * size = 0 := by omega
  simp only [hp2]
  simp [run_underlying ht, sizeOf, typeInfo, hi, hs, Result.andThen, h1, h2, hzv, hf, newRow]
 refine Z36 hd hr (kk _ _ (H.add ⟨rfl, rfl, rfl, by simp⟩ (fun b hb => Below.heap_alloc w _ b hb) ?_ (fun b hb => ?_)))
 ·refine ⟨hl, .inr ⟨w.heap.size, N, ⟨vs⟩, rfl, Nat.zero_le _, Z16 w _, Nat.le_refl _, ?_, by simpa using hl, ?_⟩⟩
  ·have := Nat.le_mul_of_pos_right N h0
   unfold maxLen; omega
  ·rw [← hl]; simp
 ·simp [Ze, Value.ownBlock] at hb; omega
theorem Z5s {e size : Nat} {v : Value} {k : Nat} {xs : List Value} {g o c : Nat} (h : (Ze e size v k xs).ok w) (hv : v = .slice (some ⟨g, 0, none⟩) k c) {u : Value} (hu : xs[o]? = some u) : w.cell? ⟨g, o, none⟩ = some u := by
 have := World.ownsRow.cells h (g := g) (by rw [hv]; rfl) o u hu
 rw [Addr.add_lit] at this
 simpa using this
theorem Z0R {e size : Nat} {v : Value} {k : Nat} {xs : List Value} (h : (Ze e size v k xs).ok w) (hk : 0 < k) : ∃ g c, v = .slice (some ⟨g, 0, none⟩) k c := by
 rcases h.2 with ⟨_, h0⟩ | ⟨g, cap, _, hv, _⟩
 ·omega
 ·exact ⟨g, cap, hv⟩
end
theorem Z2k {α : Type} (enc : α → List Value) (size : Nat) (hs : ∀ x, (enc x).length = size) : ∀ (L : List α) (i j : Nat) (x : α), L[i]? = some x → j < size → (L.flatMap enc)[i * size + j]? = (enc x)[j]?
 | [], i, j, x, h, _ => by simp at h
 | y :: L, 0, j, x, h, hj => by
  simp at h; subst h
  simp only [List.flatMap_cons, Nat.zero_mul, Nat.zero_add]
  rw [List.getElem?_append_left (by rw [hs]; exact hj)]
 | y :: L, i + 1, j, x, h, hj => by
  simp only [List.getElem?_cons_succ] at h
  simp only [List.flatMap_cons]
  rw [List.getElem?_append_right (by rw [hs, Nat.succ_mul]; omega), hs]
  have e : (i + 1) * size + j - size = i * size + j := by rw [Nat.succ_mul]; omega
  rw [e]
  exact Z2k enc size hs L i j x h hj
theorem Z1t {α : Type} (enc : α → List Value) (size : Nat) (hs : ∀ x, (enc x).length = size) (L : List α) : (L.flatMap enc).length = L.length * size := by
 induction L with
 | nil => simp
 | cons y L ih => simp only [List.flatMap_cons, List.length_append, hs, ih, List.length_cons, Nat.succ_mul]; omega
theorem Z0m {α : Type} (enc : α → List Value) (h : ∀ x, (enc x).all (·.oneCell') = true) (L : List α) : (L.flatMap enc).all (·.oneCell') = true := by
 rw [List.all_eq_true]
 intro v hv
 obtain ⟨x, _, hx⟩ := List.mem_flatMap.1 hv
 exact List.all_eq_true.1 (h x) v hx
def Z1L (w : World) (a : Addr) (vs : List Value) : Prop := ∀ j v, vs[j]? = some v → w.cell? (a.add j) = some v
section
variable {P : Program} {n : Nat} {f : Nat → Value} {w : World} {dst : Option Tmp} {ty : TypeId} {pos : String} {aft : Array Edge} {gd : Option (Nat × Bool)}
theorem Z0P {T : TypeId} {x : Operand} {p : Addr} {vs : List Value} (hx : ev n f x = .pointer (some p)) (hT : Z4Q P T = true) (hN : P.cellsOf T = vs.length) (h0 : 0 < vs.length) (hc : Z1L w p vs) :
  (execOp (ev n f) ⟨dst, .load T x, ty, pos, aft, gd⟩).run P w = .ok (.value (.agg ⟨vs⟩)) w := by
 have hl : (loadCells p vs.length).run P w = .ok vs.toArray w := run_loadCells_list w p vs hc
 simp only [execOp, Instr.loadAt, hx, Instr.sureAddr, loadVar]
 simp [Z1C hT, Z0q hN h0, hl, Result.andThen]
theorem Z0O {T E : TypeId} {x y : Operand} {v : Value} {b len cap sz : Nat} {k : IntKind} {z : Int} (hT : P.underlying T = some (.slice E)) (hs : P.cellsOf E = sz) (h0 : 0 < sz) (hx : ev n f x = v) (hv : v = .slice (some ⟨b, 0, none⟩) len cap) (hy : ev n f y = .int k z) (h1 : 0 ≤ z) (h2 : z < len) :
  (execOp (ev n f) ⟨dst, .indexAddr T x y, ty, pos, aft, gd⟩).run P w = .ok (.value (.pointer (some ⟨b, 0 + z.toNat * sz, none⟩))) w :=
 Z18 hT hs h0 (hx.trans hv) hy h1 h2
end
section
variable {α : Type} {enc : α → List Value} {size : Nat} {w : World} {e g o c i : Nat} {v : Value} {L : List α} {x : α}
theorem Z0y (h : (Ze e size v L.length (L.flatMap enc)).ok w) (hv : v = .slice (some ⟨g, 0, none⟩) L.length c) (hs : ∀ x, (enc x).length = size) (hx : L[i]? = some x) (j : Nat) (hj : Nat.blt j size = true) (ho : o = i * size + j) {u : Value} (hu : (enc x)[j]? = some u) : w.cell? ⟨g, o, none⟩ = some u := by
 refine Z5s h hv ?_
 rw [ho, Z2k enc size hs L i j x hx (by simpa [Nat.blt_eq] using hj)]
 exact hu
theorem Z1u (h : (Ze e size v L.length (L.flatMap enc)).ok w) (hv : v = .slice (some ⟨g, 0, none⟩) L.length c) (hs : ∀ x, (enc x).length = size) (hx : L[i]? = some x) (j : Nat) (ho : o = i * size + j) {us : List Value} (hj : Nat.ble (j + us.length) size = true) (hu : ((enc x).drop j).take us.length = us) : Z1L w ⟨g, o, none⟩ us := by
 intro q u hq
 have hj := Nat.le_of_ble_eq_true hj
 have hql : q < us.length := (List.getElem?_eq_some_iff.1 hq).1
 rw [Addr.add_lit]
 refine Z0y h hv hs hx (j + q) (by simp [Nat.blt_eq]; omega) (by omega) ?_
 rw [← hu, List.getElem?_take, if_pos hql, List.getElem?_drop] at hq
 exact hq
end
theorem Z3C {α : Type} {L : List α} {i : Nat} (h : i < L.length) : ∃ x, L[i]? = some x := ⟨L[i], List.getElem?_eq_getElem h⟩
section
variable {P : Program} {ops : Array Oper} {S : World → Prop} {B : List Nat} {Q : Exit → Act → World → Prop} {n : Nat} {f : Nat → Value} {w : World} {listed : Array Bool} {fuel : Nat}
end
section
variable {w0 w w' : World} {G G' L L' R : List Ck}
theorem Sat.cast (H : Sat w0 G w) (h : G = G') : Sat w0 G' w := h ▸ H
theorem Sat.turnL (H : Sat w0 G w) (is js : List Nat) (hn : (is ++ js).Pairwise (fun a b => Nat.beq a b = false)) (hi : (is.filterMap fun i => G[i]?) = L) (hj : (js.filterMap fun i => G[i]?) = R)
  (h : Sat w (L' ++ [Za w (ZP L).fp]) w') : Sat w0 (L' ++ R) w' := by
 have H1 : Sat w0 (L ++ R) w := by
  have := H.pick (is ++ js) hn
  rwa [List.filterMap_append, hi, hj] at this
 have hr : (Za w (ZP L).fp).ok w' := h.all _ (by simp)
 have hd1 := List.pairwise_append.1 H1.dis
 have hd2 := List.pairwise_append.1 h.dis
 have far : ∀ B ∈ R, ∀ b, B.fp b → b < w.heap.size ∧ ¬ (ZP L).fp b := by
  intro B hB b hb
  refine ⟨B.lt (H1.all B (List.mem_append_right _ hB)) b hb, ?_⟩
  rintro ⟨A, hA, hf⟩
  exact hd1.2.2 A hA B hB b hf hb
 refine ⟨H.ext.trans h.ext, ?_, List.pairwise_append.2 ⟨hd2.1, hd1.2.1, ?_⟩⟩
 ·intro B hB
  rcases List.mem_append.1 hB with hB | hB
  ·exact h.all B (List.mem_append_left _ hB)
  ·refine B.stay (H1.all B (List.mem_append_right _ hB)) fun b hb => ?_
   have := far B hB b hb
   exact hr b this.1 this.2
 ·intro A hA B hB b h1 h2
  exact hd2.2.2 A hA _ (List.mem_singleton.2 rfl) b h1 (far B hB b h2)
theorem Sat.ok (H : Sat w0 G w) (is : List Nat) (hn : is.Pairwise (fun a b => Nat.beq a b = false)) (hi : (is.filterMap fun i => G[i]?) = L) : (ZP L).ok w := H.fin is hn hi
theorem Sat.own (H : Sat w0 G w) (is : List Nat) (hn : is.Pairwise (fun a b => Nat.beq a b = false)) (hi : (is.filterMap fun i => G[i]?) = L) : Sat w (L ++ [Za w (ZP L).fp]) w := Sat.start L (H.fin is hn hi)
end
section
variable {P : Program} {Q : Exit → Act → World → Prop} {n : Nat} {f : Nat → Value} {w0 w w' : World} {G : List Ck} {dst : Option Tmp} {ty : TypeId} {pos : String} {aft : Array Edge} {gd : Option (Nat × Bool)} {K : Act → World → Prop}
theorem Z01 {T : TypeId} {x y : Operand} (hd : dst = none) (H : Sat w0 G w) (i : Nat) {b q : Nat} {E : TypeId} {cs vs cs' : List Value} {u : Value}
  (hi : G[i]? = some (Z3 b E cs)) (hx : ev n f x = .pointer (some ⟨b, q, none⟩)) (hy : ev n f y = u) (hu : u.cells = ⟨vs⟩) (hN : P.cellsOf T = vs.length) (h0 : 0 < vs.length) (ho : q + vs.length ≤ cs.length) (h1 : vs.all (·.oneCell') = true) (hs : Z0I cs q vs = cs')
  (k : ∀ w', Sat w0 (G.set i (Z3 b E cs')) w' → K (fr n f) w') : WO P ⟨dst, .store T x y, ty, pos, aft, gd⟩ K Q n f w := Z28 hd H i hi hx hy hu hN h0 ho h1 (by rw [hs]; exact k)
end
section
variable {P : Program} {Q Q' : Exit → Act → World → Prop} {n : Nat} {f : Nat → Value} {w w0 w' : World} {G : List Ck} {o : Oper} {ops : Array Oper}
theorem ztn {y : Code} (h : WC P y Q' n f w) : Exit.then (y.wp P Q') Q .normal (fr n f) w := h.h
theorem znt {y : Code} (h : WC P y Q' n f w) : WL P ops (Exit.then (y.wp P Q') Q) [] n f w := Zr h.h
theorem zsl {id : Nat} {l : List Oper} {y : Code} (h : WL P l.toArray (Exit.then (y.wp P Q) Q) l n f w) : WC P (Code.seq (Code.region id l.toArray false) y) Q n f w := Zh (Zs h)
theorem Z1J {id : Nat} {l : List Oper} {y : Code} (h : WL P l.toArray (Exit.then (y.wp P Q') Q') l n f w) : WL P ops (Exit.then ((Code.seq (Code.region id l.toArray false) y).wp P Q') Q) [] n f w := znt (zsl h)
theorem zwd {rest : List Oper} (k : ∀ K : Act → World → Prop, (∀ g w', WL P ops Q rest n g w' → K (fr n g) w') → WO P o K Q n f w) (hg : o.guard = none := by exact rfl) : WL P ops Q (o :: rest) n f w := ZQ (Z2 hg) k
theorem zxb {next : Act → World → Prop} {ws : List Nat} {F : Nat → Value} {R : (Nat → Value) → World → Nat → Prop} {m : Nat} {id : Nat} (h : Q .normal (fr n f) w) : WC P (Code.exit id) (Exit.then next (Back n ws F R m (Exit.inBlock id Q))) n f w := Z3T (Z1z (Z1x (Z2w h)))
theorem Z2v {d : Nat} {x y : Code} (b : Bool) (hb : b = true) (k : WC P x Q n (upd f d (.bool true)) w) (hf : f d = .bool b := by exact rfl) (he : ev n (upd f d (.bool true)) (.tmp d) = .bool true := by exact rfl) : WC P (Code.cond (.tmp d) x y) Q n f w := Zy d (.bool true) (hf.trans (congrArg Value.bool hb)) (Z1j he k)
theorem Z1K {d : Nat} {x y : Code} (b : Bool) (hb : b = false) (k : WC P y Q n (upd f d (.bool false)) w) (hf : f d = .bool b := by exact rfl) (he : ev n (upd f d (.bool false)) (.tmp d) = .bool false := by exact rfl) : WC P (Code.cond (.tmp d) x y) Q n f w := Zy d (.bool false) (hf.trans (congrArg Value.bool hb)) (Z0o he k)
end
section
variable {P : Program} {ops : Array Oper} {S : World → Prop} {Q : Exit → Act → World → Prop} {n : Nat} {f : Nat → Value} {w0 w w' : World} {o : Oper} {G : List Ck} {listed : Array Bool} {fuel : Nat} {B : List Nat}
theorem Z0L (i : Nat) (k : ∀ K : Act → World → Prop, (∀ g w', S w' → (WH P ops Q S fuel (listed.setIfInBounds i true) n g w') → K (fr n g) w') → WO P o K Q n f w) (hi : ops[i]? = some o := by exact rfl) (hr : Region.ready .any ops listed = [i] := by kernel_rfl) (hg : o.guard = none := by exact rfl) : WH P ops Q S (fuel + 1) listed n f w := Z13 i hi hr (Z2 hg) k
theorem zhf (h : Q .normal (fr n f) w) (hr : Region.ready .any ops listed = [] := by kernel_rfl) : WH P ops Q S fuel listed n f w := Z0M hr h
theorem zkp (i : Nat) (HS : S w) (d : Nat) (v : Value) (k : WK P ops Q S (Z1w B) fuel (listed.setIfInBounds i true) n (upd f d v) w) (hi : ops[i]? = some o := by exact rfl) (hs : Region.noSelect ops = true := by kernel_rfl) (hf : Region.free .any ops listed i = true := by kernel_rfl) (hr : (Region.ready .any ops listed).contains i = true := by kernel_rfl) (hQ : ∀ c a w, Q (.panic c) (a.put o.dst v) w → Q (.panic c) a w := by exact fun _ _ _ h => h)
  (hg : o.guard = none := by exact rfl) (hiB : Z1w B i = false := by exact rfl) (hd : o.dst = some d := by exact rfl) (he : ∀ w, (execOp (ev n f) o).run P w = .ok (.value v) w := by exact fun _ => by kernel_rfl) : WK P ops Q S (Z1w B) (fuel + 1) listed n f w := ZZ i hi hs hf hr hQ HS (Z2 hg) hiB hd he k
theorem zkv (i : Nat) (HS : S w) (d : Nat) (v : Value) (k : WK P ops Q S (Z1w B) fuel (listed.setIfInBounds i true) n (upd f d v) w) (hi : ops[i]? = some o := by exact rfl) (hs : Region.noSelect ops = true := by kernel_rfl) (hf : Region.free .any ops listed i = true := by kernel_rfl) (hr : (Region.ready .any ops listed).contains i = true := by kernel_rfl) (hQ : ∀ c a w, Q (.panic c) (a.put o.dst v) w → Q (.panic c) a w := by exact fun _ _ _ h => h)
  (hg : o.guard = none := by exact rfl) (hiB : Z1w B i = false := by exact rfl) (hB : Z85 ops B i = true := by kernel_rfl) (hd : o.dst = some d := by exact rfl) (he : ∀ w, S w → (execOp (ev n f) o).run P w = .ok (.value v) w := by exact fun _ _ => by kernel_rfl) : WK P ops Q S (Z1w B) (fuel + 1) listed n f w := Z1q i hi hs hf hr hQ HS (Z2 hg) hiB hB hd he k
theorem Z7y (i : Nat) (k : ∀ K : Act → World → Prop, (∀ g w', S w' → (WK P ops Q S (Z1w B) fuel (listed.setIfInBounds i true) n g w') → K (fr n g) w') → WO P o K Q n f w) (hi : ops[i]? = some o := by exact rfl) (hr : Region.ready .any ops listed = [i] := by kernel_rfl) (hg : o.guard = none := by exact rfl) (hiB : Z1w B i = false := by exact rfl) : WK P ops Q S (Z1w B) (fuel + 1) listed n f w := Z3u i hi hr (Z2 hg) hiB k
theorem zqs {Q : Exit → Act → World → Prop} {id : Nat} {l : List Oper} (H : Sat w0 G w) (k : WQ P l.toArray (Sat w0 G) (fun a' => ∀ w', Sat w0 G w' → Q .normal a' w') l n f) (hm : P.follows .mixedOrders = true := by kernel_rfl) (hB : Region.lexB .any l.toArray = true := by kernel_rfl) : WC P (Code.region id l.toArray true) Q n f w := Z49 H hm hB k
end
section
variable {P : Program} {Q : Exit → Act → World → Prop} {n : Nat} {f : Nat → Value} {w0 w w' : World} {G : List Ck} {dst : Option Tmp} {ty : TypeId} {pos : String} {aft : Array Edge} {gd : Option (Nat × Bool)} {K : Act → World → Prop} {o : Oper} {ops : Array Oper} {rest : List Oper}
theorem zds {T : TypeId} {x y : Operand} {b q : Nat} {E : TypeId} {cs : List Value} {u : Value} (vs cs' : List Value) (H : Sat w0 G w) (i : Nat) (k : ∀ w', Sat w0 (G.set i (Z3 b E cs')) w' → K (fr n f) w') (hi : G[i]? = some (Z3 b E cs) := by exact rfl) (hx : ev n f x = .pointer (some ⟨b, q, none⟩) := by exact rfl) (hy : ev n f y = u := by exact rfl) (hu : u.cells = ⟨vs⟩ := by exact rfl) (hd : dst = none := by exact rfl) (hN : P.cellsOf T = vs.length := by kernel_rfl) (h0 : 0 < vs.length := by exact Nat.le_of_ble_eq_true (by kernel_rfl)) (ho : q + vs.length ≤ cs.length := by exact Nat.le_of_ble_eq_true (by kernel_rfl)) (h1 : vs.all (·.oneCell') = true := by kernel_rfl) (hs : Z0I cs q vs = cs' := by kernel_rfl) :
  WO P ⟨dst, .store T x y, ty, pos, aft, gd⟩ K Q n f w := Z01 hd H i hi hx hy hu hN h0 ho h1 hs k
theorem Z4P {T : TypeId} {x y : Operand} {b q : Nat} {E : TypeId} {cs : List Value} {u : Value} (vs : List Value) (H : Sat w0 G w) (i : Nat) (k : ∀ w', Sat w0 (G.set i (Z3 b E vs)) w' → K (fr n f) w') (hi : G[i]? = some (Z3 b E cs) := by exact rfl) (hx : ev n f x = .pointer (some ⟨b, q, none⟩) := by exact rfl) (hy : ev n f y = u := by exact rfl) (hu : u.cells = ⟨vs⟩ := by exact rfl) (hd : dst = none := by exact rfl) (hN : P.cellsOf T = vs.length := by kernel_rfl) (h0 : 0 < vs.length := by exact Nat.le_of_ble_eq_true (by kernel_rfl)) (ho : q + vs.length ≤ cs.length := by exact Nat.le_of_ble_eq_true (by kernel_rfl)) (h1 : vs.all (·.oneCell') = true := by kernel_rfl) (hs : Z0I cs q vs = vs := by kernel_rfl) :
  WO P ⟨dst, .store T x y, ty, pos, aft, gd⟩ K Q n f w := Z01 hd H i hi hx hy hu hN h0 ho h1 hs k
theorem zda {T : TypeId} {d : Nat} (zs : List Value) (H : Sat w0 G w) (k : ∀ b w', Sat w0 (G ++ [Z3 b T zs]) w' → K (fr n (upd f d (.pointer (some ⟨b, 0, none⟩)))) w') (hz : (P.info? T).bind (·.zero) = some (.agg ⟨zs⟩) := by kernel_rfl) (hd : dst = some d := by exact rfl) : WO P ⟨dst, .alloc T, ty, pos, aft, gd⟩ K Q n f w := Z0V hd H hz rfl k
theorem zdb {T : TypeId} {x : Operand} {v : Value} {d : Nat} (vs : List Value) (H : Sat w0 G w) (k : ∀ b w', Sat w0 (G ++ [Z3 b T vs]) w' → K (fr n (upd f d (.pointer (some ⟨b, 0, none⟩)))) w') (hx : ev n f x = v := by exact rfl) (hvs : v.cells = ⟨vs⟩ := by exact rfl) (hd : dst = some d := by exact rfl) : WO P ⟨dst, .box T x, ty, pos, aft, gd⟩ K Q n f w := Z0N hd H hx hvs k
theorem Z5y {T : TypeId} {N : Nat} {parts : Array (Nat × Operand)} {d : Nat} (e size bytes : Nat) (z : Value) (pvs : List (Nat × Value)) (vs : List Value) (H : Sat w0 G w) (kk : ∀ b w', Sat w0 (G ++ [Ze e size (.slice (some ⟨b, 0, none⟩) N N) N vs]) w' → K (fr n (upd f d (.slice (some ⟨b, 0, none⟩) N N))) w') (hd : dst = some d := by exact rfl) (hR : Z3w P T e size bytes = true := by kernel_rfl) (hz : (P.info? e).bind (·.zero) = some z := by kernel_rfl)
  (hp : (parts.map fun q => (q.1, ev n f q.2)).toList = pvs := by kernel_rfl) (hf : Instr.fill (fun j => some (j * size, size)) ((Array.range (N * size)).map fun q => z.cells[q % z.cells.size]!) pvs = some ⟨vs⟩ := by kernel_rfl) (hl : Nat.beq vs.length (N * size) = true := by kernel_rfl) (hN : Nat.blt 0 N = true := by exact rfl) (hsz : Nat.ble (N * size) 16777216 = true := by exact rfl) : WO P ⟨dst, .buildSlice T N parts, ty, pos, aft, gd⟩ K Q n f w := ZY hd H hR hz hp hf hl hN hsz kk
theorem zdc {g : FuncId} {args : Array Value} {R : Ending → World → Prop} (d : Nat) (hc : Calls P g args w R) (k : ∀ e w'', R e w'' → ∃ v, e = .returned v ∧ K (fr n (upd f d v)) w'') (hd : o.dst = some d := by exact rfl) (hr : (execOp (ev n f) o).run P w = .ok (.enter g args) w := by kernel_rfl) : WO P o K Q n f w := ZJ hd hr hc k
theorem zdq {g : FuncId} {args : Array Value} {v : Value} (d : Nat) (hc : Calls P g args w fun e w'' => e = .returned v ∧ Upd [] w w'') (H : Sat w0 G w) (k : ∀ w'', Sat w0 G w'' → K (fr n (upd f d v)) w'') (hd : o.dst = some d := by exact rfl) (hr : (execOp (ev n f) o).run P w = .ok (.enter g args) w := by kernel_rfl) : WO P o K Q n f w := ZJ hd hr hc fun e w'' h => ⟨v, h.1, k w'' (H.keepU h.2)⟩
theorem zwN {b t : Nat} {cs : List Value} {E : TypeId} {fz : Nat × Nat} {T : TypeId} {x : Operand} (d : Nat) (vs : List Value) (hb : w.heap[b]? = some (.cells ⟨cs⟩ E fz)) (k : WL P ops Q rest n (upd f d (.agg ⟨vs⟩)) w) (hx : ev n f x = .pointer (some ⟨b, t, none⟩) := by exact rfl) (hT : Z4Q P T = true := by kernel_rfl) (hN : P.cellsOf T = vs.length := by kernel_rfl) (h0 : 0 < vs.length := by exact Nat.le_of_ble_eq_true (by kernel_rfl)) (hv : (cs.drop t).take vs.length = vs := by kernel_rfl) (hg : gd = none := by exact rfl) (hd : dst = some d := by exact rfl) : WL P ops Q (⟨dst, .load T x, ty, pos, aft, gd⟩ :: rest) n f w := Z5 (Z2 hg) hd (ZE hx hT hN h0 hb hv) k
theorem zwi {o : Oper} (d : Nat) (z : Int) (k : WL P ops Q rest n (upd f d (.int .i64 z)) w) (h : -9223372036854775808 ≤ z ∧ z ≤ 9223372036854775807 := by omega) (hr : (execOp (ev n f) o).run P w = .ok (.value (.int .i64 (IntKind.i64.wrap z))) w := by kernel_rfl) (hg : o.guard = none := by exact rfl) (hd : o.dst = some d := by exact rfl) : WL P ops Q (o :: rest) n f w := Z5 (Z2 hg) hd (Z0h hr (IntWalk.i64_in _ h)) k
theorem zw1 {p : Addr} {T : TypeId} {x : Operand} (d : Nat) (v : Value) (hc : w.cell? p = some v) (k : WL P ops Q rest n (upd f d v) w) (hx : ev n f x = .pointer (some p) := by exact rfl) (hT : Z4h P T = true := by kernel_rfl) (hg : gd = none := by exact rfl) (hd : dst = some d := by exact rfl) : WL P ops Q (⟨dst, .load T x, ty, pos, aft, gd⟩ :: rest) n f w := Z5 (Z2 hg) hd (Zi hx hT hc) k
end
section
variable {P : Program} {fn : Func} {R : Ending → World → Prop} {n : Nat} {f : Nat → Value} {w : World}
theorem ze1 {t : Nat} (v : Value) (h : R (.returned v) w) (hr : fn.results = #[.tmp t] := by exact rfl) (h1 : ev n f (.tmp t) = v := by exact rfl) : bodyPost P fn R .ret (fr n f) w := Z0T hr (ZK h1) h
end
theorem ja {A : Sort _} {a b : A} (h : a = b := by simp only [List.length_append, List.flatMap_append] <;> rfl) : a = b := h
theorem Sat.ct {w0 w : World} {G : List Ck} {Y : Ck} (H : Sat w0 G w) (i : Nat) (hi : G[i]? = some Y) (X : Ck) (e : Y = X) : Sat w0 (G.set i X) w := by
 have h : G.set i X = G := by
  subst e
  refine List.ext_getElem? fun j => ?_
  rw [List.getElem?_set]
  split
  ·rename_i hj
   subst hj
   obtain ⟨h1, _⟩ := List.getElem?_eq_some_iff.1 hi
   rw [if_pos h1, hi]
  ·rfl
 rw [h]; exact H
theorem zs {ws : List Nat} {f F : Nat → Value} (h : Z60 ws f F := by repeat (first | exact Z0B | exact Z1D | refine Z6 rfl ?_ | refine Z3h rfl ?_)) : Z60 ws f F := h
section
variable {w0 w w' : World} {G L : List Ck}
theorem Sat.pk (h : Sat w0 G w) (is : List Nat) (hn : is.Pairwise (fun a b => Nat.beq a b = false) := by decide) : Sat w0 (is.filterMap fun i => G[i]?) w := h.pick is hn
theorem Sat.fn (H : Sat w0 G w) (is : List Nat) (hn : is.Pairwise (fun a b => Nat.beq a b = false) := by decide) (hL : (is.filterMap fun i => G[i]?) = L := by rfl) : (ZP L).ok w := H.fin is hn hL
theorem Sat.tl (H : Sat w0 G w) (L' : List Ck) (is js : List Nat) (h : Sat w (L' ++ [Za w (ZP L).fp]) w') (ps : List Nat) (hn : (is ++ js).Pairwise (fun a b => Nat.beq a b = false) := by decide) (hi : (is.filterMap fun i => G[i]?) = L := by kernel_rfl) (hp : ps.Pairwise (fun a b => Nat.beq a b = false) := by decide) : Sat w0 (ps.filterMap fun i => (L' ++ (js.filterMap fun i => G[i]?))[i]?) w' := (Sat.turnL (L' := L') H is js hn hi rfl h).pick ps hp
end
section
variable {κ ν : Type} [DecidableEq κ] {l : List (κ × ν)} {a : κ}
theorem Z6x {x : ν} (h : Z0f l a = some x) : (a, x) ∈ l := by
 unfold Z0f at h
 obtain ⟨y, hy, rfl⟩ := Option.map_eq_some_iff.1 h
 have h1 := List.find?_some hy
 have h2 := List.mem_of_find?_eq_some hy
 have h3 : y.1 = a := by simpa using h1
 rw [← h3]; exact h2
theorem Z2F : Z0f l a = none ↔ a ∉ l.map (·.1) := by
 unfold Z0f
 rw [Option.map_eq_none_iff, List.find?_eq_none]
 constructor
 ·intro h hm
  obtain ⟨y, hy, rfl⟩ := List.mem_map.1 hm
  exact h y hy (by simp)
 ·intro h y hy he
  have h3 : y.1 = a := by simpa using he
  exact h (List.mem_map.2 ⟨y, hy, h3⟩)
end
section
set_option linter.unusedSectionVars false
variable {β γ : Type} [DecidableEq β] [DecidableEq γ] {l : List (Int × β)} {k : Int} {v d x : β} {n : Nat}
def Z1k (l : List (Int × β)) (k : Int) (v : β) : List (Int × β) := if k ∈ l.map (·.1) then l else l ++ [(k, v)]
theorem Z61 (h : k ∈ l.map (·.1)) : Z1k l k v = l := if_pos h
theorem Z5e (h : k ∉ l.map (·.1)) : Z1k l k v = l ++ [(k, v)] := if_neg h
theorem Z5D (h : (l.map (·.1)).Nodup) : ((Z1k l k v).map (·.1)).Nodup := by
 unfold Z1k; split
 ·exact h
 ·rename_i hn
  rw [List.map_append, List.nodup_append]
  exact ⟨h, by simp, fun a ha b hb e => by
   simp only [List.map_cons, List.map_nil, List.mem_singleton] at hb
   exact hn (hb ▸ e ▸ ha)⟩
theorem Z7l (h : k ∉ l.map (·.1)) : Z2q l k v = Z1k l k v := by rw [Z5e h]; unfold Z2q; rw [if_neg h]
theorem Z7Q (h : k ∈ l.map (·.1)) : (k, (Z0f l k).getD d) ∈ l := by
 cases e : Z0f l k with
 | none => exact absurd h (Z2F.1 e)
 | some v => exact Z6x e
variable {f : β → γ}
end
end Go.Proofs.YtgigjkjdmalmaaaGreat
