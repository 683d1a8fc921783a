/- WHAT IS PROVED: contracts and plain laws of Sat. Conditions: stated with each. -/
import Derived.Test.YtgigjkjdmalmaaaGreatPY01
set_option maxHeartbeats 4000000
set_option maxRecDepth 100000
namespace Go.Proofs.YtgigjkjdmalmaaaGreat
open Go.RowKit
structure Ck where
 fp : Nat → Prop
 ok : World → Prop
 stay : ∀ {w w' : World}, ok w → (∀ b, fp b → w'.heap[b]? = w.heap[b]?) → ok w'
 lt : ∀ {w : World}, ok w → ∀ b, fp b → b < w.heap.size
def Ext (w0 w : World) : Prop := w.os = w0.os ∧ w.tape = w0.tape ∧ w.output = w0.output ∧ w0.heap.size ≤ w.heap.size
theorem Ext.refl (w : World) : Ext w w := ⟨rfl, rfl, rfl, Nat.le_refl _⟩
theorem Ext.trans {a b c : World} (h : Ext a b) (k : Ext b c) : Ext a c := ⟨k.1.trans h.1, k.2.1.trans h.2.1, k.2.2.1.trans h.2.2.1, Nat.le_trans h.2.2.2 k.2.2.2⟩
theorem Upd.ext {D : List Nat} {w w' : World} (h : Upd D w w') : Ext w w' := ⟨h.os, h.tape, h.output, h.size⟩
structure Sat (w0 : World) (G : List Ck) (w : World) : Prop where
 ext : Ext w0 w
 all : ∀ A ∈ G, A.ok w
 dis : G.Pairwise fun A B => ∀ b, A.fp b → ¬ B.fp b
def Z3 (b : Nat) (T : TypeId) (cs : List Value) : Ck where
 fp k := k = b
 ok w := w.heap[b]? = some (.cells ⟨cs⟩ T (0, 0))
 stay h hb := (hb b rfl).trans h
 lt h _ hk := hk ▸ Z0J h
def ZI {κ ν : Type} (b : Nat) (encK : κ → Value) (encV : ν → Value) (l : List (κ × ν)) : Ck where
 fp k := k = b
 ok w := MapAt w b encK encV l
 stay h hb := h.stay (hb b rfl)
 lt h _ hk := hk ▸ h.lt
def Zc (e size : Nat) (v : Value) (n : Nat) (xs : List Value) : Ck where
 fp k := v.ownBlock = some k
 ok w := w.ownsRow 0 e size v n xs
 stay {w w'} h hb := by
  refine ⟨h.1, ?_⟩
  rcases h.2 with hn | ⟨g, cap, cur, rfl, hb', hgg, rest⟩
  ·exact .inl hn
  ·exact .inr ⟨g, cap, cur, rfl, hb', (hb g rfl).trans hgg, rest⟩
 lt h k hk := (h.lt k hk).2
def Z7 (W : World) (D : Nat → Prop) : Ck where
 fp k := k < W.heap.size ∧ ¬ D k
 ok w := ∀ b, b < W.heap.size → ¬ D b → w.heap[b]? = W.heap[b]?
 stay h hb b h1 h2 := (hb b ⟨h1, h2⟩).trans (h b h1 h2)
 lt {w} h k hk := by
  have := h k hk.1 hk.2
  rw [Array.getElem?_eq_getElem hk.1] at this
  exact Z0J this
section
variable {w0 w w' : World} {G : List Ck} {A A' : Ck}
theorem Sat.at (h : Sat w0 G w) (i : Nat) (hi : G[i]? = some A) : A.ok w := h.all A (List.mem_of_getElem? hi)
theorem Sat.set (h : Sat w0 G w) (i : Nat) (hi : G[i]? = some A) (he : Ext w w') (hb : ∀ b, b < w.heap.size → ¬ A.fp b → w'.heap[b]? = w.heap[b]?) (hA : A'.ok w') (hf : ∀ b, A'.fp b → A.fp b ∨ w.heap.size ≤ b) : Sat w0 (G.set i A') w' := by
 obtain ⟨hil, hie⟩ := List.getElem?_eq_some_iff.1 hi
 have hd := List.pairwise_iff_getElem.1 h.dis
 have far : ∀ j (hj : j < G.length), j ≠ i → ∀ b, G[j].fp b → ¬ A.fp b := fun j hj hji b hb1 hb2 => by
  rcases Nat.lt_or_ge j i with h1 | h1
  ·exact hd j i hj hil h1 b hb1 (hie ▸ hb2)
  ·exact hd i j hil hj (by omega) b (hie ▸ hb2) hb1
 refine ⟨h.ext.trans he, ?_, ?_⟩
 ·intro B hB
  obtain ⟨j, hj, rfl⟩ := List.mem_iff_getElem.1 hB
  rw [List.getElem_set]
  split
  ·exact hA
  ·rename_i hne
   have hj' : j < G.length := by simpa using hj
   have hok := h.all G[j] (List.getElem_mem hj')
   exact G[j].stay hok fun b hfp => hb b (G[j].lt hok b hfp) (far j hj' (Ne.symm hne) b hfp)
 ·refine List.pairwise_iff_getElem.2 fun a c ha hc hac b => ?_
  have ha' : a < G.length := by simpa using ha
  have hc' : c < G.length := by simpa using hc
  rw [List.getElem_set, List.getElem_set]
  have lts : ∀ j (hj : j < G.length) b, G[j].fp b → b < w.heap.size := fun j hj b hfp => G[j].lt (h.all _ (List.getElem_mem hj)) b hfp
  split
  ·split
   ·omega
   ·rename_i hne
    intro h1 h2
    rcases hf b h1 with h3 | h3
    ·exact far c hc' (by omega) b h2 h3
    ·have := lts c hc' b h2; omega
  ·split
   ·rename_i hne
    intro h1 h2
    rcases hf b h2 with h3 | h3
    ·exact far a ha' (by omega) b h1 h3
    ·have := lts a ha' b h1; omega
   ·exact hd a c ha' hc' hac b
theorem Sat.keep (h : Sat w0 G w) (he : Ext w w') (hb : ∀ b, b < w.heap.size → w'.heap[b]? = w.heap[b]?) : Sat w0 G w' :=
 ⟨h.ext.trans he, fun B hB => B.stay (h.all B hB) fun b hfp => hb b (B.lt (h.all B hB) b hfp), h.dis⟩
theorem Sat.add (h : Sat w0 G w) (he : Ext w w') (hb : ∀ b, b < w.heap.size → w'.heap[b]? = w.heap[b]?) (hA : A'.ok w') (hf : ∀ b, A'.fp b → w.heap.size ≤ b) : Sat w0 (G ++ [A']) w' := by
 have h2 := h.keep he hb
 refine ⟨h2.ext, ?_, ?_⟩
 ·intro B hB
  rcases List.mem_append.1 hB with h3 | h3
  ·exact h2.all B h3
  ·obtain rfl := List.mem_singleton.1 h3; exact hA
 ·refine List.pairwise_append.2 ⟨h.dis, by simp, ?_⟩
  intro B hB C hC b h3 h4
  obtain rfl := List.mem_singleton.1 hC
  have h5 := B.lt (h.all B hB) b h3
  have := hf b h4
  omega
theorem Sat.keepU (h : Sat w0 G w) (hu : Upd [] w w') : Sat w0 G w' := h.keep hu.ext fun b hb => hu.block b hb (by simp)
theorem Sat.addU (h : Sat w0 G w) (hu : Upd [] w w') (hA : A'.ok w') (hf : ∀ b, A'.fp b → w.heap.size ≤ b) : Sat w0 (G ++ [A']) w' := h.add hu.ext (fun b hb => hu.block b hb (by simp)) hA hf
theorem Sat.setU (h : Sat w0 G w) {D : List Nat} (hu : Upd D w w') (i : Nat) (hi : G[i]? = some A) (hD : ∀ b ∈ D, A.fp b) (hA : A'.ok w') (hf : ∀ b, A'.fp b → A.fp b ∨ w.heap.size ≤ b) : Sat w0 (G.set i A') w' :=
 h.set i hi hu.ext (fun b hb hn => hu.block b hb fun hd => hn (hD b hd)) hA hf
theorem Sat.drew (h : Sat w0 G w) : Sat w0 G w.drew := ⟨h.ext, fun B hB => B.stay (h.all B hB) fun _ _ => rfl, h.dis⟩
theorem Sat.pick (h : Sat w0 G w) (is : List Nat) (hn : is.Pairwise (fun a b => Nat.beq a b = false)) : Sat w0 (is.filterMap fun i => G[i]?) w := by
 have hd := List.pairwise_iff_getElem.1 h.dis
 refine ⟨h.ext, fun B hB => ?_, ?_⟩
 ·obtain ⟨i, _, hi⟩ := List.mem_filterMap.1 hB
  exact h.at i hi
 ·refine List.Pairwise.filterMap _ ?_ hn
  intro i j hij B hB C hC b h1 h2
  have hB' : G[i]? = some B := hB
  have hC' : G[j]? = some C := hC
  obtain ⟨hil, hie⟩ := List.getElem?_eq_some_iff.1 hB'
  obtain ⟨hjl, hje⟩ := List.getElem?_eq_some_iff.1 hC'
  have hne : i ≠ j := fun e => by subst e; simp at hij
  rcases Nat.lt_or_ge i j with h3 | h3
  ·exact hd i j hil hjl h3 b (hie ▸ h1) (hje ▸ h2)
  ·exact hd j i hjl hil (by omega) b (hje ▸ h2) (hie ▸ h1)
theorem Sat.conv (h : Sat w0 G w) (i : Nat) (hi : G[i]? = some A) (hA : A.ok w → A'.ok w) (hf : ∀ b, A'.fp b → A.fp b) : Sat w0 (G.set i A') w :=
 h.set i hi (Ext.refl w) (fun _ _ _ => rfl) (hA (h.at i hi)) (fun b hb => .inl (hf b hb))
theorem Sat.apart (h : Sat w0 G w) (i j : Nat) {B : Ck} (hi : G[i]? = some A) (hj : G[j]? = some B) (hne : Nat.beq i j = false) (b : Nat) (h1 : A.fp b) : ¬ B.fp b := by
 have hd := List.pairwise_iff_getElem.1 h.dis
 obtain ⟨hil, hie⟩ := List.getElem?_eq_some_iff.1 hi
 obtain ⟨hjl, hje⟩ := List.getElem?_eq_some_iff.1 hj
 have hne : i ≠ j := fun e => by subst e; simp at hne
 intro h2
 rcases Nat.lt_or_ge i j with h3 | h3
 ·exact hd i j hil hjl h3 b (hie ▸ h1) (hje ▸ h2)
 ·exact hd j i hjl hil (by omega) b (hje ▸ h2) (hie ▸ h1)
theorem Sat.cellR {W : World} {D : Nat → Prop} (h : Sat w0 G w) (i : Nat) (hi : G[i]? = some (Z7 W D)) {p : Addr} {v : Value} (hc : W.cell? p = some v) (hD : ¬ D p.block) : w.cell? p = some v :=
 (World.cell?_of_block (h.at i hi p.block (World.block_lt_of_cell? W p hc) hD)).trans hc
theorem Sat.start1 {A : Ck} (h : A.ok w) : Sat w [A, Z7 w A.fp] w := by
 refine ⟨Ext.refl w, ?_, ?_⟩
 ·intro B hB
  rcases List.mem_cons.1 hB with rfl | hB
  ·exact h
  ·obtain rfl := List.mem_singleton.1 hB; exact fun b _ _ => rfl
 ·simp only [List.pairwise_cons, List.mem_singleton, List.not_mem_nil, false_implies, implies_true, List.Pairwise.nil, and_true]
  rintro B rfl b h1 h2
  exact h2.2 h1
theorem Sat.start0 (w : World) : Sat w [Z7 w (fun _ => False)] w :=
 ⟨Ext.refl w, fun B hB => by obtain rfl := List.mem_singleton.1 hB; exact fun b _ _ => rfl, by simp⟩
theorem Sat.upd {D : Nat → Prop} (h : Sat w0 G w) (i : Nat) (hi : G[i]? = some (Z7 w0 D)) (L : List Nat) (hD : ∀ b, D b → b ∈ L) : Upd L w0 w :=
 ⟨h.ext.1, h.ext.2.1, h.ext.2.2.1, h.ext.2.2.2, fun k hk hkL => h.at i hi k hk fun hd => hkL (hD k hd)⟩
end
def Z6i (P : Program) (T : TypeId) : Bool :=
 match P.underlying T with
 | some (.struct _) | some (.array _ _) | none => false
 | some _ => true
def Z7b (P : Program) (T : TypeId) : Bool :=
 match P.underlying T with
 | some (.struct _) | some (.array _ _) => true
 | _ => false
section
variable {P : Program} {n : Nat} {f : Nat → Value} {w w' : World} {dst : Option Tmp} {ty : TypeId} {pos : String} {aft : Array Edge} {gd : Option (Nat × Bool)}
theorem Z2P {T : TypeId} (h : Z6i P T = true) : (isAgg T).run P w = .ok false w := by
 unfold Z6i at h
 unfold isAgg
 cases hu : P.underlying T with
 | none => rw [hu] at h; cases h
 | some d => rw [hu] at h; cases d <;> first | (cases h; done) | simp [run_underlying hu, Result.andThen]
theorem Z29 {T : TypeId} (h : Z7b P T = true) : (isAgg T).run P w = .ok true w := by
 unfold Z7b at h
 unfold isAgg
 cases hu : P.underlying T with
 | none => rw [hu] at h; cases h
 | some d => rw [hu] at h; cases d <;> first | (cases h; done) | simp [run_underlying hu, Result.andThen]
theorem Z0A {T : TypeId} {N : Nat} (h : P.cellsOf T = N) (hN : 0 < N) : (sizeOf T).run P w = .ok N w := by
 unfold Program.cellsOf at h
 cases hi : P.info? T with
 | none => rw [hi] at h; simp at h; omega
 | some i => rw [hi] at h; simp at h; simp [sizeOf, typeInfo, hi, h, Result.andThen]
theorem Zi {T : TypeId} {x : Operand} {p : Addr} {v : Value} (hx : ev n f x = .pointer (some p)) (hT : Z6i P T = true) (hc : w.cell? p = some v) :
  (execOp (ev n f) ⟨dst, .load T x, ty, pos, aft, gd⟩).run P w = .ok (.value v) w := by
 simp only [execOp, Instr.loadAt, hx, Instr.sureAddr, loadVar]
 simp [Z2P hT, hc, Result.andThen]
theorem ZG {T : TypeId} {x : Operand} {b o : Nat} {cs vs : List Value} {E : TypeId} {fz : Nat × Nat} (hx : ev n f x = .pointer (some ⟨b, o, none⟩)) (hT : Z7b P T = true) (hN : P.cellsOf T = vs.length) (h0 : 0 < vs.length)
  (hb : w.heap[b]? = some (.cells ⟨cs⟩ E fz)) (hv : (cs.drop o).take vs.length = vs) :
  (execOp (ev n f) ⟨dst, .load T x, ty, pos, aft, gd⟩).run P w = .ok (.value (.agg ⟨vs⟩)) w := by
 have hl : (loadCells ⟨b, o, none⟩ vs.length).run P w = .ok vs.toArray w := run_loadCells_list w ⟨b, o, none⟩ vs (fun j v hj => by
  rw [Addr.add_lit, Z0C hb]
  rw [← hv, List.getElem?_take] at hj
  split at hj
  ·rw [List.getElem?_drop] at hj; simpa using hj
  ·cases hj)
 simp only [execOp, Instr.loadAt, hx, Instr.sureAddr, loadVar]
 simp [Z29 hT, Z0A hN h0, hl, Result.andThen]
def Z0P (cs : List Value) (o : Nat) (vs : List Value) : List Value := cs.take o ++ vs ++ cs.drop (o + vs.length)
theorem Z5M {T : TypeId} {x y : Operand} {b o : Nat} {cs vs : List Value} {E : TypeId} {u : Value} (hx : ev n f x = .pointer (some ⟨b, o, none⟩)) (hy : ev n f y = u) (hu : u.cells = ⟨vs⟩) (hN : P.cellsOf T = vs.length) (h0 : 0 < vs.length)
  (hb : w.heap[b]? = some (.cells ⟨cs⟩ E (0, 0))) (ho : o + vs.length ≤ cs.length) (h1 : ∀ v ∈ vs, v.oneCell' = true) :
  ∃ w', (execOp (ev n f) ⟨dst, .store T x y, ty, pos, aft, gd⟩).run P w = .ok .skip w' ∧ w'.heap[b]? = some (.cells ⟨Z0P cs o vs⟩ E (0, 0)) ∧ Ext w w' ∧ ∀ k, k ≠ b → w'.heap[k]? = w.heap[k]? := by
 have hst : (storeCells ⟨b, o, none⟩ vs 0).run P w = .ok () (w.setRow b ⟨Z0P cs o vs⟩) := run_storeCells_at P b o E vs 0 ⟨cs⟩ w hb (by simpa using ho) h1
 refine ⟨w.setRow b ⟨Z0P cs o vs⟩, ?_, setRow_heap w b _ _ E _ hb, ⟨rfl, rfl, rfl, by simp [World.setRow]⟩, fun k hk => ?_⟩
 ·simp only [execOp, Instr.storeAt, hx, Instr.sureAddr, storeVar, hy, hu]
  simp [Z0A hN h0, hst, Result.andThen]
 ·simp [World.setRow, Array.getElem?_modify, Ne.symm hk]
theorem Z3j {T : TypeId} {z : Value} (h : (P.info? T).bind (·.zero) = some z) : (zeroValue T).run P w = .ok z w := by
 cases hi : P.info? T with
 | none => rw [hi] at h; cases h
 | some i => rw [hi] at h; simp at h; simp [zeroValue, typeInfo, hi, h, Result.andThen]
theorem ZbU {T : TypeId} {z : Value} (h : (P.info? T).bind (·.zero) = some z) :
  (execOp (ev n f) ⟨dst, .alloc T, ty, pos, aft, gd⟩).run P w = .ok (.value (.pointer (some ⟨w.heap.size, 0, none⟩))) (w.alloc (.cells z.cells T (0, 0))) := by
 simp only [execOp, Instr.alloc]
 simp [Z3j h, newVar, newRow, Result.andThen]
theorem Z0r {T E : TypeId} {x y : Operand} {b o len cap sz : Nat} {k : IntKind} {z : Int} (hT : P.underlying T = some (.slice E)) (hs : P.cellsOf E = sz) (h0 : 0 < sz) (hx : ev n f x = .slice (some ⟨b, o, none⟩) len cap) (hy : ev n f y = .int k z) (h1 : 0 ≤ z) (h2 : z < len) :
  (execOp (ev n f) ⟨dst, .indexAddr T x y, ty, pos, aft, gd⟩).run P w = .ok (.value (.pointer (some ⟨b, o + z.toNat * sz, none⟩))) w := by
 simp only [execOp, Instr.indexAt, hx, hy, asIntOf]
 simp [run_underlying hT, h1, h2, Z0A hs h0, Result.andThen, Addr.add_lit]
theorem Z0q {T E : TypeId} {x y : Operand} {b o N sz : Nat} {k : IntKind} {z : Int} (hT : P.underlying T = some (.array N E)) (hs : P.cellsOf E = sz) (h0 : 0 < sz) (hx : ev n f x = .pointer (some ⟨b, o, none⟩)) (hy : ev n f y = .int k z) (h1 : 0 ≤ z) (h2 : z < N) :
  (execOp (ev n f) ⟨dst, .indexAddr T x y, ty, pos, aft, gd⟩).run P w = .ok (.value (.pointer (some ⟨b, o + z.toNat * sz, none⟩))) w := by
 simp only [execOp, Instr.indexAt, hx, hy, asIntOf, Instr.sureAddr]
 simp [run_underlying hT, h1, h2, Z0A hs h0, Result.andThen, Addr.add_lit]
theorem Z0I {o : Oper} {k : IntKind} {z z' : Int} (hr : (execOp (ev n f) o).run P w = .ok (.value (.int k (k.wrap z))) w) (hz : k.wrap z = z') : (execOp (ev n f) o).run P w = .ok (.value (.int k z')) w := hz ▸ hr
end
section
variable {P : Program} {ops : Array Oper} {Q : Exit → Act → World → Prop} {n : Nat} {f : Nat → Value} {w0 w w' : World} {o : Oper} {rest : List Oper} {G : List Ck}
structure Z1w (ops : Array Oper) (o : Oper) (n : Nat) (f : Nat → Value) (b : Bool) : Prop where
 h : Region.wanted o (yielded ops (fr n f).tmps) = b
theorem Z5 (h : o.guard = none) : Z1w ops o n f true := ⟨by simp [Region.wanted, h]⟩
theorem ZbJ {j d : Nat} {want b : Bool} (h : o.guard = some (j, want)) (hj : (ops[j]?).bind (·.dst) = some d) (hd : Nat.blt d n = true) (hv : f d = .bool b) : Z1w ops o n f (b == want) := by
 have hl : d < n := by rwa [Nat.blt_eq] at hd
 have : (fr n f).tmps[d]? = some (f d) := by simp [fr, hl]
 refine ⟨?_⟩
 simp only [Region.wanted, h, yielded, hj, Option.bind_some, this, hv]
 cases b <;> cases want <;> rfl
theorem Z0k (j d : Nat) (want : Bool) (h : o.guard = some (j, want)) (hj : (ops[j]?).bind (·.dst) = some d) (hd : Nat.blt d n = true) (hv : f d = .bool want) : Z1w ops o n f true := by
 have := ZbJ (n := n) (f := f) h hj hd hv
 simpa using this
theorem Z0Q (j d : Nat) (want : Bool) (h : o.guard = some (j, want)) (hj : (ops[j]?).bind (·.dst) = some d) (hd : Nat.blt d n = true) (hv : f d = .bool (!want)) : Z1w ops o n f false := by
 have := ZbJ (n := n) (f := f) h hj hd hv
 have e : ((!want) == want) = false := by cases want <;> rfl
 rwa [e] at this
theorem wl_val (hw : Z1w ops o n f true) {d : Nat} {v : Value} (hd : o.dst = some d) (hr : (execOp (ev n f) o).run P w = .ok (.value v) w') (k : WL P ops Q rest n (upd f d v) w') : WL P ops Q (o :: rest) n f w := by
 refine ⟨wpList_step fun K hK => ?_⟩
 rw [if_pos hw.h]
 unfold Oper.wp
 rw [Z1M, hr]
 simp only [Oper.upon, hd, Z2o]
 exact hK _ _ k.h
theorem Z6 (hw : Z1w ops o n f true) {d : Nat} {v : Value} (hd : o.dst = some d) (hr : (execOp (ev n f) o).run P w = .ok (.value v) w) (k : WL P ops Q rest n (upd f d v) w) : WL P ops Q (o :: rest) n f w := wl_val hw hd hr k
theorem Z15 (hw : Z1w ops o n f false) {d : Nat} (hd : o.dst = some d) (k : WL P ops Q rest n (upd f d undef) w) : WL P ops Q (o :: rest) n f w := by
 refine ⟨wpList_step fun K hK => ?_⟩
 rw [if_neg (by rw [hw.h]; simp), hd, Z2o]
 exact hK _ _ k.h
theorem ZP (d : Nat) (v : Value) (h : f d = v) (k : WL P ops Q (o :: rest) n (upd f d v) w) : WL P ops Q (o :: rest) n f w := by rwa [Z8O h] at k
end
section
variable {P : Program} {ops : Array Oper} {C : World → Prop} {Q : Act → Prop} {n : Nat} {f : Nat → Value} {o : Oper} {rest : List Oper}
theorem Z1B (hw : Z1w ops o n f true) {d : Nat} {v : Value} (hd : o.dst = some d) (hr : ∀ w, C w → (execOp (ev n f) o).run P w = .ok (.value v) w) (k : WQ P ops C Q rest n (upd f d v)) : WQ P ops C Q (o :: rest) n f := by
 refine ⟨?_⟩
 unfold wpQuiet
 rw [if_pos hw.h]
 refine ⟨v, fun w h => ?_, by rw [hd, Z2o]; exact k.h⟩
 unfold Oper.quietAt
 rw [Z1M, hr w h]
 exact ⟨rfl, rfl⟩
theorem Z4s (hw : Z1w ops o n f true) {d : Nat} {v : Value} {g : FuncId} {args : Array Value} (hd : o.dst = some d) (hr : ∀ w, C w → (execOp (ev n f) o).run P w = .ok (.enter g args) w) (hc : ∀ w, C w → Calls P g args w fun e w' => e = .returned v ∧ C w')
  (k : WQ P ops C Q rest n (upd f d v)) : WQ P ops C Q (o :: rest) n f := by
 refine ⟨?_⟩
 unfold wpQuiet
 rw [if_pos hw.h]
 refine ⟨v, fun w h => ?_, by rw [hd, Z2o]; exact k.h⟩
 unfold Oper.quietAt
 rw [Z1M, hr w h]
 exact ⟨rfl, hc w h⟩
theorem Z2v (hw : Z1w ops o n f false) {d : Nat} (hd : o.dst = some d) (k : WQ P ops C Q rest n (upd f d undef)) : WQ P ops C Q (o :: rest) n f := by
 refine ⟨?_⟩
 unfold wpQuiet
 rw [if_neg (by rw [hw.h]; simp), hd, Z2o]
 exact k.h
theorem Z17 (d : Nat) (v : Value) (h : f d = v) (k : WQ P ops C Q (o :: rest) n (upd f d v)) : WQ P ops C Q (o :: rest) n f := by rwa [Z8O h] at k
theorem Z7A {Q : Exit → Act → World → Prop} {id : Nat} {l : List Oper} {w0 w : World} {G : List Ck} (H : Sat w0 G w) (hm : P.follows .mixedOrders = true) (hB : Region.lexB .any l.toArray = true)
  (k : WQ P l.toArray (Sat w0 G) (fun a' => ∀ w', Sat w0 G w' → Q .normal a' w') l n f) : WC P (Code.region id l.toArray true) Q n f w :=
 ⟨wp_region_quiet hm hB H.drew (by simpa using k.h)⟩
theorem Z1A (h : Q (fr n f)) : WQ P ops C Q [] n f := ⟨h⟩
end
section
variable {P : Program} {ops : Array Oper} {S : World → Prop} {Q : Exit → Act → World → Prop} {n : Nat} {f : Nat → Value} {w0 w w' : World} {o : Oper} {G : List Ck} {listed : Array Bool} {fuel : Nat}
theorem Z0b {id : Nat} {l : List Oper} (H : Sat w0 G w) (Gs : List Ck) (m : Nat) (hl : l.length = m) (hm : P.follows .mixedOrders = true) (hs : Sat w0 G w.drew → Sat w0 Gs w.drew) (k : ∀ w1, Sat w0 G w1 → Sat w0 Gs w1 → WH P l.toArray Q (Sat w0 Gs) m (Array.replicate m false) n f w1) :
  WC P (Code.region id l.toArray true) Q n f w := by
 subst hl
 exact ⟨wp_region_held (S := Sat w0 Gs) hm (by simpa using (k w.drew H.drew (hs H.drew)).h)⟩
theorem Z0s {v : Value} (i : Nat) (hi : ops[i]? = some o) (hs : Region.noSelect ops = true) (hf : Region.free .any ops listed i = true) (hr : (Region.ready .any ops listed).contains i = true) (hQ : ∀ c a w, Q (.panic c) (a.put o.dst v) w → Q (.panic c) a w) (HS : S w)
  (hw : Z1w ops o n f true) {d : Nat} (hd : o.dst = some d) (he : ∀ w, S w → (execOp (ev n f) o).run P w = .ok (.value v) w) (k : WH P ops Q S fuel (listed.setIfInBounds i true) n (upd f d v) w) :
  WH P ops Q S (fuel + 1) listed n f w :=
 ⟨wpAnyH_take hi hs hf hr hQ (.inl ⟨hw.h, by rw [Z1M]; exact he⟩) HS (by rw [hd, Z2o]; exact k.h)⟩
theorem h_pass (i : Nat) (hi : ops[i]? = some o) (hs : Region.noSelect ops = true) (hf : Region.free .any ops listed i = true) (hr : (Region.ready .any ops listed).contains i = true) (hQ : ∀ c a w, Q (.panic c) (a.put o.dst undef) w → Q (.panic c) a w) (HS : S w)
  (hw : Z1w ops o n f false) {d : Nat} (hd : o.dst = some d) (k : WH P ops Q S fuel (listed.setIfInBounds i true) n (upd f d undef) w) :
  WH P ops Q S (fuel + 1) listed n f w :=
 ⟨wpAnyH_take hi hs hf hr hQ (.inr ⟨hw.h, rfl⟩) HS (by rw [hd, Z2o]; exact k.h)⟩
theorem Z6J (i : Nat) (hi : ops[i]? = some o) (hr : Region.ready .any ops listed = [i]) (hw : Z1w ops o n f true)
  (k : ∀ K : Act → World → Prop, (∀ g w', S w' → (WH P ops Q S fuel (listed.setIfInBounds i true) n g w') → K (fr n g) w') → WO P o K Q n f w) : WH P ops Q S (fuel + 1) listed n f w := by
 refine ⟨wpAnyH_all hr (by simp) fun j hj => ?_⟩
 obtain rfl := List.mem_singleton.1 hj
 refine wpOp_step hi fun K' hK => ?_
 rw [if_pos hw.h]
 exact (k K' fun g w' hS hk => hK _ _ ⟨hS, hk.h⟩).h
theorem Z3W {o1 o2 : Oper} (i j : Nat) (hi : ops[i]? = some o1) (hj : ops[j]? = some o2) (hr : Region.ready .any ops listed = [i, j]) (hw1 : Z1w ops o1 n f true) (hw2 : Z1w ops o2 n f true)
  (k1 : ∀ K : Act → World → Prop, (∀ g w', S w' → (WH P ops Q S fuel (listed.setIfInBounds i true) n g w') → K (fr n g) w') → WO P o1 K Q n f w)
  (k2 : ∀ K : Act → World → Prop, (∀ g w', S w' → (WH P ops Q S fuel (listed.setIfInBounds j true) n g w') → K (fr n g) w') → WO P o2 K Q n f w) : WH P ops Q S (fuel + 1) listed n f w := by
 refine ⟨wpAnyH_all hr (by simp) fun q hq => ?_⟩
 rcases List.mem_cons.1 hq with rfl | hq
 ·refine wpOp_step hi fun K' hK => ?_
  rw [if_pos hw1.h]
  exact (k1 K' fun g w' hS hk => hK _ _ ⟨hS, hk.h⟩).h
 ·obtain rfl := List.mem_singleton.1 hq
  refine wpOp_step hj fun K' hK => ?_
  rw [if_pos hw2.h]
  exact (k2 K' fun g w' hS hk => hK _ _ ⟨hS, hk.h⟩).h
theorem Z5N (hr : Region.ready .any ops listed = []) (h : Q .normal (fr n f) w) : WH P ops Q S fuel listed n f w := ⟨wpAnyH_done hr h _⟩
theorem Z30 {K : Act → World → Prop} {d : Nat} {v : Value} (hd : o.dst = some d) (hr : (execOp (ev n f) o).run P w = .ok (.value v) w') (k : K (fr n (upd f d v)) w') : WO P o K Q n f w := by
 refine ⟨?_⟩
 unfold Oper.wp
 rw [Z1M, hr]
 simp only [Oper.upon, hd, Z2o]
 exact k
theorem d_pure {K : Act → World → Prop} {d : Nat} {v : Value} (hd : o.dst = some d) (hr : (execOp (ev n f) o).run P w = .ok (.value v) w) (k : K (fr n (upd f d v)) w) : WO P o K Q n f w := Z30 hd hr k
theorem Z6C {K : Act → World → Prop} (hd : o.dst = none) (hr : (execOp (ev n f) o).run P w = .ok .skip w') (k : K (fr n f) w') : WO P o K Q n f w := by
 refine ⟨?_⟩
 unfold Oper.wp
 rw [Z1M, hr]
 simp only [Oper.upon, hd, Zc0]
 exact k
theorem Z0L {K : Act → World → Prop} {d : Nat} {g : FuncId} {args : Array Value} {R : Ending → World → Prop} (hd : o.dst = some d) (hr : (execOp (ev n f) o).run P w = .ok (.enter g args) w') (hc : Calls P g args w' R)
  (k : ∀ e w'', R e w'' → ∃ v, e = .returned v ∧ K (fr n (upd f d v)) w'') : WO P o K Q n f w := by
 refine ⟨?_⟩
 unfold Oper.wp
 rw [Z1M, hr]
 refine hc.mono fun e w'' he => ?_
 obtain ⟨v, rfl, hk⟩ := k e w'' he
 simp only [hd, Z2o]
 exact hk
end
section
variable {P : Program} {fn : Func} {R : Ending → World → Prop} {n : Nat} {f : Nat → Value} {w : World} {w0 : World} {G : List Ck}
def ZbH (tmps : Array Value) : ResultVar → Sem Value
 | .tmp t => pure (tmps.getD t undef)
 | .cell a t => do loadVar t (← asAddr (tmps.getD a undef))
def Z5r (P : Program) (n : Nat) (f : Nat → Value) (w : World) (r : ResultVar) (v : Value) : Prop := (ZbH (fr n f).tmps r).run P w = .ok v w
theorem Z0c {t : Nat} {v : Value} (h : ev n f (.tmp t) = v) : Z5r P n f w (.tmp t) v := by
 unfold Z5r
 show Sem.run P (pure ((fr n f).tmps.getD t undef)) w = _
 rw [Z9k, show (bif Nat.blt t n then f t else undef) = v from h]
 rfl
theorem Z02 {t : Nat} {T E : TypeId} {b o : Nat} {cs vs : List Value} {fz : Nat × Nat} (h : ev n f (.tmp t) = .pointer (some ⟨b, o, none⟩)) (hT : Z7b P T = true) (hN : P.cellsOf T = vs.length) (h0 : 0 < vs.length)
  (hb : w.heap[b]? = some (.cells ⟨cs⟩ E fz)) (hv : (cs.drop o).take vs.length = vs) : Z5r P n f w (.cell t T) (.agg ⟨vs⟩) := by
 have hl : (loadCells ⟨b, o, none⟩ vs.length).run P w = .ok vs.toArray w := run_loadCells_list w ⟨b, o, none⟩ vs (fun j v hj => by
  rw [Addr.add_lit, Z0C hb]
  rw [← hv, List.getElem?_take] at hj
  split at hj
  ·rw [List.getElem?_drop] at hj; simpa using hj
  ·cases hj)
 unfold Z5r
 show Sem.run P (do loadVar T (← asAddr ((fr n f).tmps.getD t undef))) w = _
 rw [Z9k]
 simp only [show (bif Nat.blt t n then f t else undef) = .pointer (some ⟨b, o, none⟩) from h, asAddr, loadVar]
 simp [Z29 hT, Z0A hN h0, hl, Result.andThen]
theorem Z3w (tmps : Array Value) : results fn tmps = (do let vs ← fn.results.mapM (ZbH tmps); pure (if h : vs.size = 1 then vs[0] else .tuple vs)) := by
 unfold results
 congr 1
theorem Z7a (hr : fn.results = #[]) (h : R (.returned (.tuple #[])) w) : bodyPost P fn R .ret (fr n f) w :=
 ⟨rfl, _, by rw [Z3w, hr]; simp, h⟩
theorem Z1x {r : ResultVar} {v : Value} (hr : fn.results = #[r]) (h1 : Z5r P n f w r v) (h : R (.returned v) w) : bodyPost P fn R .ret (fr n f) w :=
 ⟨rfl, _, by unfold Z5r at h1; rw [Z3w, hr]; simp [h1], h⟩
theorem end2 {r s : ResultVar} {v u : Value} (hr : fn.results = #[r, s]) (h1 : Z5r P n f w r v) (h2 : Z5r P n f w s u) (h : R (.returned (.tuple #[v, u])) w) : bodyPost P fn R .ret (fr n f) w :=
 ⟨rfl, _, by unfold Z5r at h1 h2; rw [Z3w, hr]; simp [h1, h2], h⟩
theorem Z0D {a : Act} (h : bodyPost P fn R .ret a w) : bodyPost P fn R .normal a w := h
theorem Sat.cell (H : Sat w0 G w) (i : Nat) {b o : Nat} {T : TypeId} {cs : List Value} {v : Value} (hi : G[i]? = some (Z3 b T cs)) (hv : cs[o]? = some v) : w.cell? ⟨b, o, none⟩ = some v := by
 rw [Z0C (H.at i hi) o]; simpa using hv
theorem ZC (b : Bool) : b = true ∨ b = false := by cases b <;> simp
theorem Z12 {b : Bool} (h : (!b) = true) : b = false := by simpa using h
theorem Z03 {b : Bool} (h : (!b) = false) : b = true := by simpa using h
end
section
variable {P : Program} {ops : Array Oper} {S : World → Prop} {Q : Exit → Act → World → Prop} {n : Nat} {f : Nat → Value} {w : World} {listed : Array Bool} {fuel : Nat}
theorem Z24 (d : Nat) (v : Value) (h : f d = v) (k : WH P ops Q S fuel listed n (upd f d v) w) : WH P ops Q S fuel listed n f w := by rwa [Z8O h] at k
end
section
variable {P : Program} {ops : Array Oper} {Q : Exit → Act → World → Prop} {n : Nat} {f : Nat → Value} {w0 w w' : World} {rest : List Oper} {G : List Ck} {dst : Option Tmp} {ty : TypeId} {pos : String} {aft : Array Edge} {gd : Option (Nat × Bool)}
variable {κ ν : Type} [DecidableEq κ] {encK : κ → Value} {encV : ν → Value} {kt et T : TypeId} {b : Nat} {l : List (κ × ν)}
theorem Z1D {x y : Operand} {z : Value} (K : KeyTy P kt encK) (hT : P.underlying T = some (.map kt et)) (hz : ∀ w, (zeroValue et).run P w = .ok z w) (hx : ev n f x = .map (some b)) (a : κ) (hy : ev n f y = encK a) (h : MapAt w b encK encV l) {v : Value} (hv : ((Zn l a).map encV).getD z = v) :
  (execOp (ev n f) ⟨dst, .lookup T x y false, ty, pos, aft, gd⟩).run P w = .ok (.value v) w := by
 have := h.lookup K hT hz a false
 simp only [execOp, hx, hy]
 simp [this, Result.andThen, hv]
theorem Z4d {x y : Operand} {z : Value} (K : KeyTy P kt encK) (hT : P.underlying T = some (.map kt et)) (hz : ∀ w, (zeroValue et).run P w = .ok z w) (hx : ev n f x = .map (some b)) (a : κ) (hy : ev n f y = encK a) (h : MapAt w b encK encV l) {v : Value} {q : Bool} (hv : ((Zn l a).map encV).getD z = v) (hq : (Zn l a).isSome = q) :
  (execOp (ev n f) ⟨dst, .lookup T x y true, ty, pos, aft, gd⟩).run P w = .ok (.value (.tuple #[v, .bool q])) w := by
 have := h.lookup K hT hz a true
 simp only [execOp, hx, hy]
 simp [this, Result.andThen, hv, hq]
theorem Z7p {x y u : Operand} (K : KeyTy P kt encK) (hT : P.underlying T = some (.map kt et)) (hx : ev n f x = .map (some b)) (a : κ) (hy : ev n f y = encK a) (v : ν) (hu : ev n f u = encV v) (h : MapAt w b encK encV l) :
  ∃ w', (execOp (ev n f) ⟨dst, .mapUpdate T x y u, ty, pos, aft, gd⟩).run P w = .ok .skip w' ∧ MapAt w' b encK encV (Z2Y l a v) ∧ Upd [b] w w' := by
 obtain ⟨w', h1, h2, h3, _⟩ := h.update K hT a v
 refine ⟨w', ?_, h2, h3⟩
 simp only [execOp, hx, hy, hu]
 simp [h1, Result.andThen]
theorem Z1K {K' : Act → World → Prop} {x y u : Operand} (hd : dst = none) (H : Sat w0 G w) (i : Nat) (hi : G[i]? = some (ZI b encK encV l)) (K : KeyTy P kt encK) (hT : P.underlying T = some (.map kt et)) (hx : ev n f x = .map (some b)) (a : κ) (hy : ev n f y = encK a) (v : ν) (hu : ev n f u = encV v)
  (k : ∀ w', Sat w0 (G.set i (ZI b encK encV (Z2Y l a v))) w' → K' (fr n f) w') : WO P ⟨dst, .mapUpdate T x y u, ty, pos, aft, gd⟩ K' Q n f w := by
 obtain ⟨w', h1, h2, h3⟩ := Z7p (dst := dst) (ty := ty) (pos := pos) (aft := aft) (gd := gd) K hT hx a hy v hu (H.at i hi)
 exact Z6C hd h1 (k w' (H.setU h3 i hi (by rintro b' hb; exact List.mem_singleton.1 hb) h2 (fun b hb => .inl hb)))
end
section
variable {P : Program} {Q : Exit → Act → World → Prop} {n : Nat} {f : Nat → Value} {w0 w w' : World} {G : List Ck} {dst : Option Tmp} {ty : TypeId} {pos : String} {aft : Array Edge} {gd : Option (Nat × Bool)} {K : Act → World → Prop}
theorem Z7n {T : TypeId} {d : Nat} (hd : dst = some d) (H : Sat w0 G w) {zs : List Value} {z : Value} (hz : (P.info? T).bind (·.zero) = some z) (hzs : z.cells = ⟨zs⟩)
  (k : ∀ b w', Sat w0 (G ++ [Z3 b T zs]) w' → K (fr n (upd f d (.pointer (some ⟨b, 0, none⟩)))) w') : WO P ⟨dst, .alloc T, ty, pos, aft, gd⟩ K Q n f w := by
 refine Z30 hd (ZbU hz) (k _ _ ?_)
 rw [hzs]
 exact H.add ⟨rfl, rfl, rfl, by simp⟩ (fun b hb => Below.heap_alloc w _ b hb) (Z13 w _) (fun b hb => Nat.le_of_eq hb.symm)
theorem Z2S {T : TypeId} {x y : Operand} (hd : dst = none) (H : Sat w0 G w) (i : Nat) {b q : Nat} {E : TypeId} {cs vs : List Value} {u : Value}
  (hi : G[i]? = some (Z3 b E cs)) (hx : ev n f x = .pointer (some ⟨b, q, none⟩)) (hy : ev n f y = u) (hu : u.cells = ⟨vs⟩) (hN : P.cellsOf T = vs.length) (h0 : 0 < vs.length) (ho : q + vs.length ≤ cs.length) (h1 : vs.all (·.oneCell') = true)
  (k : ∀ w', Sat w0 (G.set i (Z3 b E (Z0P cs q vs))) w' → K (fr n f) w') : WO P ⟨dst, .store T x y, ty, pos, aft, gd⟩ K Q n f w := by
 obtain ⟨w', hr, hb, he, hk⟩ := Z5M (P := P) (dst := dst) (ty := ty) (pos := pos) (aft := aft) (gd := gd) hx hy hu hN h0 (H.at i hi) ho (fun v hv => List.all_eq_true.1 h1 v hv)
 exact Z6C hd hr (k w' (H.set i hi he (fun k _ hne => hk k hne) hb (fun b hb => .inl hb)))
theorem e_box {T : TypeId} {x : Operand} {v : Value} (hx : ev n f x = v) : (execOp (ev n f) ⟨dst, .box T x, ty, pos, aft, gd⟩).run P w = .ok (.value (.pointer (some ⟨w.heap.size, 0, none⟩))) (w.alloc (.cells v.cells T (0, 0))) := by
 simp only [execOp, Instr.box, hx]
 simp [newVar, newRow, Result.andThen]
theorem Z2R {T : TypeId} {x : Operand} {v : Value} {vs : List Value} {d : Nat} (hd : dst = some d) (H : Sat w0 G w) (hx : ev n f x = v) (hvs : v.cells = ⟨vs⟩)
  (k : ∀ b w', Sat w0 (G ++ [Z3 b T vs]) w' → K (fr n (upd f d (.pointer (some ⟨b, 0, none⟩)))) w') : WO P ⟨dst, .box T x, ty, pos, aft, gd⟩ K Q n f w := by
 refine Z30 hd (e_box hx) (k _ _ ?_)
 rw [hvs]
 exact H.add ⟨rfl, rfl, rfl, by simp⟩ (fun b hb => Below.heap_alloc w _ b hb) (Z13 w _) (fun b hb => Nat.le_of_eq hb.symm)
theorem Z96 {T : TypeId} : (execOp (ev n f) ⟨dst, .makeMap T none, ty, pos, aft, gd⟩).run P w = .ok (.value (.map (some w.heap.size))) (w.alloc (.map #[] 0)) := by
 simp only [execOp, Instr.makeMap]
 simp [Result.andThen]
theorem Z0w {T : TypeId} {κ ν : Type} (encK : κ → Value) (encV : ν → Value) {d : Nat} (hd : dst = some d) (H : Sat w0 G w)
  (k : ∀ b w', Sat w0 (G ++ [ZI b encK encV []]) w' → K (fr n (upd f d (.map (some b)))) w') : WO P ⟨dst, .makeMap T none, ty, pos, aft, gd⟩ K Q n f w := by
 refine Z30 hd Z96 (k _ _ ?_)
 exact H.add ⟨rfl, rfl, rfl, by simp⟩ (fun b hb => Below.heap_alloc w _ b hb) (MapAt.made w) (fun b hb => Nat.le_of_eq hb.symm)
end
section
variable {P : Program} {ops : Array Oper} {Q : Exit → Act → World → Prop} {n : Nat} {f : Nat → Value} {w : World} {o : Oper} {rest : List Oper}
theorem Z0B (hw : Z1w ops o n f true) (k : ∀ K : Act → World → Prop, (∀ g w', WL P ops Q rest n g w' → K (fr n g) w') → WO P o K Q n f w) : WL P ops Q (o :: rest) n f w := by
 refine ⟨wpList_step fun K hK => ?_⟩
 rw [if_pos hw.h]
 exact (k K fun g w' h => hK _ _ h.h).h
end
end Go.Proofs.YtgigjkjdmalmaaaGreat
