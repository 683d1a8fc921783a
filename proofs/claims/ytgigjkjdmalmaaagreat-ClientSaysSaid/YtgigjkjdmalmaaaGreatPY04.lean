/- WHAT IS PROVED: contracts and plain laws of Entry, Sep, Lists, Obj. Conditions: stated with each. -/
import Derived.Test.YtgigjkjdmalmaaaGreatPY02
import Derived.Test.YtgigjkjdmalmaaaGreatPY03
set_option maxHeartbeats 4000000
set_option maxRecDepth 100000
namespace Go.Proofs.YtgigjkjdmalmaaaGreat
open Go.RowKit
section
variable {κ ν : Type} [DecidableEq κ] {encK : κ → Value} {encV : ν → Value}
def EntryAt (w : World) (b : Nat) (encK : κ → Value) (encV : ν → Value) (l : List (κ × ν)) (a : κ) (x : ν) (st : Int) : Prop :=
 ∃ (es : Array MapEntry) (clock i : Nat), w.heap[b]? = some (.map es clock) ∧ es.toList.map (fun e => (e.key, e.val)) = (Z2Y l a x).map (fun y => (encK y.1, encV y.2)) ∧ ((Z2Y l a x).map (·.1)).Nodup ∧
  (es.toList.map (·.born)).Pairwise (· < ·) ∧ (∀ e ∈ es.toList, e.born < clock) ∧ ((Z2Y l a x).map (·.1))[i]? = some a ∧ (es[i]?).map (fun e => (e.born : Int)) = some st
omit [DecidableEq κ] in
omit [DecidableEq κ] in
theorem EntryAt.map [DecidableEq κ] {w : World} {b : Nat} {l : List (κ × ν)} {a : κ} {x : ν} {st : Int} (h : EntryAt w b encK encV l a x st) : MapAt w b encK encV (Z2Y l a x) := by
 obtain ⟨es, clock, i, h1, h2, h3, h4, h5, _⟩ := h
 exact ⟨es, clock, h1, h2, h3, h4, h5⟩
theorem Z5Z (l : List (κ × ν)) (a : κ) (x : ν) : Zn (Z2Y l a x) a = some x := by
 unfold Z2Y Zn
 split
 ·rename_i h
  obtain ⟨y, hy, e⟩ := List.mem_map.1 h
  have : (l.map fun z => if z.1 = a then (a, x) else z).find? (fun z => z.1 == a) = some (a, x) := by
   clear h
   induction l with
   | nil => cases hy
   | cons z l ih =>
    by_cases hz : z.1 = a
    ·simp [hz]
    ·have hy' : y ∈ l := by
      rcases List.mem_cons.1 hy with rfl | h
      ·exact absurd e hz
      ·exact h
     simp [hz, ih hy']
  rw [this]; rfl
 ·rename_i h
  have : l.find? (fun z => z.1 == a) = none := by
   rw [List.find?_eq_none]
   intro z hz
   simp only [beq_iff_eq]
   exact fun e => h (List.mem_map.2 ⟨z, hz, e⟩)
  simp [List.find?_append, this]
section
variable {P : Program} {n : Nat} {f : Nat → Value} {w0 w w' : World} {G : List Ck} {dst : Option Tmp} {ty : TypeId} {pos : String} {aft : Array Edge} {gd : Option (Nat × Bool)} {K' : Act → World → Prop} {Q : Exit → Act → World → Prop} {b : Nat} {l : List (κ × ν)} {kt et T : TypeId}
end
end
def ZL (L : List Ck) : Ck where
 fp b := ∃ A ∈ L, A.fp b
 ok w := (∀ A ∈ L, A.ok w) ∧ L.Pairwise (fun (A B : Ck) => ∀ b : Nat, A.fp b → ¬ B.fp b)
 stay h hb := ⟨fun A hA => A.stay (h.1 A hA) fun b hfp => hb b ⟨A, hA, hfp⟩, h.2⟩
 lt h b hb := by obtain ⟨A, hA, hfp⟩ := hb; exact A.lt (h.1 A hA) b hfp
section
variable {w0 w w' : World} {G L : List Ck} {A : Ck}
theorem Sat.start (L : List Ck) (h : (ZL L).ok w) : Sat w (L ++ [Z7 w (ZL L).fp]) w := by
 refine ⟨Ext.refl w, ?_, ?_⟩
 ·intro B hB
  rcases List.mem_append.1 hB with hB | hB
  ·exact h.1 B hB
  ·obtain rfl := List.mem_singleton.1 hB; exact fun b _ _ => rfl
 ·refine List.pairwise_append.2 ⟨h.2, by simp, ?_⟩
  intro B hB C hC b h1 h2
  obtain rfl := List.mem_singleton.1 hC
  exact h2.2 ⟨B, hB, h1⟩
theorem Sat.fin (H : Sat w0 G w) (is : List Nat) (hn : is.Pairwise (fun a b => Nat.beq a b = false)) (hL : (is.filterMap fun i => G[i]?) = L) : (ZL L).ok w := by
 have h := H.pick is hn
 rw [hL] at h
 exact ⟨h.all, h.dis⟩
theorem Sat.fresh {W : World} {D : Nat → Prop} (H : Sat w0 G w) (i : Nat) (hi : G[i]? = some (Z7 W D)) (hD : ∀ b, ¬ D b) (j : Nat) (hj : G[j]? = some A) (hne : Nat.beq j i = false) : ∀ b, A.fp b → W.heap.size ≤ b := fun b hb => by
 have := H.apart j i hj hi hne b hb
 rcases Nat.lt_or_ge b W.heap.size with h | h
 ·exact absurd ⟨h, hD b⟩ this
 ·exact h
theorem Sat.freshS {W : World} {D : Nat → Prop} (H : Sat w0 G w) (i : Nat) (hi : G[i]? = some (Z7 W D)) (hD : ∀ b, ¬ D b) (js : List Nat) (hj : (js.filterMap fun j => G[j]?) = L) (hne : js.all (fun j => !Nat.beq j i) = true) : ∀ b, (ZL L).fp b → W.heap.size ≤ b := fun b hb => by
 obtain ⟨A, hA, hfp⟩ := hb
 rw [← hj] at hA
 obtain ⟨j, hjm, hjA⟩ := List.mem_filterMap.1 hA
 have := List.all_eq_true.1 hne j hjm
 exact H.fresh i hi hD j hjA (by simpa using this) b hfp
theorem Sat.open (H : Sat w0 G w) (i : Nat) (hi : G[i]? = some (ZL L)) : Sat w0 (G.take i ++ L ++ G.drop (i + 1)) w := by
 have hok := H.at i hi
 have hd := List.pairwise_iff_getElem.1 H.dis
 obtain ⟨hil, hie⟩ := List.getElem?_eq_some_iff.1 hi
 have hG : G = G.take i ++ ZL L :: G.drop (i + 1) := by
  have := List.take_append_drop i G
  rw [List.drop_eq_getElem_cons hil, hie] at this
  exact this.symm
 have hdis := H.dis
 rw [hG] at hdis
 obtain ⟨p1, p2, p3⟩ := List.pairwise_append.1 hdis
 rw [List.pairwise_cons] at p2
 refine ⟨H.ext, ?_, ?_⟩
 ·intro B hB
  rw [List.append_assoc] at hB
  rcases List.mem_append.1 hB with hB | hB
  ·exact H.all B (List.mem_of_mem_take hB)
  ·rcases List.mem_append.1 hB with hB | hB
   ·exact hok.1 B hB
   ·exact H.all B (List.mem_of_mem_drop hB)
 ·rw [List.append_assoc]
  refine List.pairwise_append.2 ⟨p1, List.pairwise_append.2 ⟨hok.2, p2.2, ?_⟩, ?_⟩
  ·intro B hB C hC b h1 h2
   exact p2.1 C hC b ⟨B, hB, h1⟩ h2
  ·intro B hB C hC b h1 h2
   rcases List.mem_append.1 hC with hC | hC
   ·exact p3 B hB (ZL L) (by simp) b h1 ⟨C, hC, h2⟩
   ·exact p3 B hB C (by simp [hC]) b h1 h2
end
section
variable {P : Program} {Q : Exit → Act → World → Prop} {n : Nat} {f : Nat → Value} {w w' : World}
def Meet (n : Nat) (ws : List Nat) (F : Nat → Value) (M : (Nat → Value) → World → Prop) (Q : Exit → Act → World → Prop) : Exit → Act → World → Prop := Exit.then (fun a w => ∃ g, a = fr n (ovr ws g F) ∧ M (ovr ws g F) w) Q
theorem Z0v {x y : Code} (ws : List Nat) (M : (Nat → Value) → World → Prop) (h1 : WC P x (Meet n ws f M Q) n f w) (h2 : ∀ g w, M (ovr ws g f) w → WC P y Q n (ovr ws g f) w) : WC P (Code.seq x y) Q n f w :=
 ⟨wp_seq (Code.wp_mono (fun e a w q => by
  cases e with
  | normal => obtain ⟨g, rfl, hm⟩ := q; exact (h2 g w hm).h
  | _ => exact q) h1.h)⟩
theorem ZJ {ws : List Nat} {F : Nat → Value} {M : (Nat → Value) → World → Prop} (hs : Z8S ws f F) (h : M f w) : Meet n ws F M Q .normal (fr n f) w := ⟨f, by rw [Z3h hs], by rwa [Z3h hs]⟩
end
section
variable {P : Program} {n : Nat} {f : Nat → Value} {w w' : World} {dst : Option Tmp} {ty : TypeId} {pos : String} {aft : Array Edge} {gd : Option (Nat × Bool)}
theorem e_len {κ ν : Type} {encK : κ → Value} {encV : ν → Value} {l : List (κ × ν)} {b : Nat} {T kt et : TypeId} {x : Operand} (hT : P.underlying T = some (.map kt et)) (h : MapAt w b encK encV l) (hx : ev n f x = .map (some b)) :
  (execOp (ev n f) ⟨dst, .call { callee := .builtin .len, args := #[x], argTypes := #[T] }, ty, pos, aft, gd⟩).run P w = .ok (.value (.int .i64 (l.length : Int))) w := by
 have := h.len (P := P) hT ty
 simp [execOp, resolve, invoke, builtin, hx, this, Result.andThen]
theorem e_rem {o : Oper} {k : IntKind} {a b : Int} (hr : (execOp (ev n f) o).run P w = (Op.intDiv .rem k a b >>= fun v => pure (Next.value v)).run P w) (h1 : 0 ≤ a) (h2 : 0 < b) : (execOp (ev n f) o).run P w = .ok (.value (.int k (a % b))) w := by
 rw [hr]
 have : ¬ b = 0 := by omega
 simp [Op.intDiv, this, Int.tmod_eq_emod_of_nonneg h1]
theorem e_tmod {o : Oper} {k : IntKind} {a b : Int} (hr : (execOp (ev n f) o).run P w = (Op.intDiv .rem k a b >>= fun v => pure (Next.value v)).run P w) (h : b ≠ 0) : (execOp (ev n f) o).run P w = .ok (.value (.int k (a.tmod b))) w := by
 rw [hr]
 simp [Op.intDiv, h]
theorem e_quo {o : Oper} {k : IntKind} {a b : Int} (hr : (execOp (ev n f) o).run P w = (Op.intDiv .quo k a b >>= fun v => pure (Next.value v)).run P w) (h1 : 0 ≤ a) (h2 : 0 < b) (hw : k.wrap (a / b) = a / b) : (execOp (ev n f) o).run P w = .ok (.value (.int k (a / b))) w := by
 rw [hr]
 have : ¬ b = 0 := by omega
 simp [Op.intDiv, this, Int.tdiv_eq_ediv_of_nonneg h1, hw]
end
theorem Z8e (v n : Int) (h : 1 ≤ n) : -n < v.tmod n ∧ v.tmod n < n := by
 have h1 : v.tmod n < n := Int.tmod_lt_of_pos v (by omega)
 have h2 : (-v).tmod n < n := Int.tmod_lt_of_pos (-v) (by omega)
 rw [Int.neg_tmod] at h2
 omega
theorem Z74 (v n : Int) (h : 1 ≤ n) : v % n = (if v.tmod n < 0 then v.tmod n + n else v.tmod n) := by
 have h1 := Z8e v n h
 have h2 : v % n = (v.tmod n) % n := by
  have h3 := Int.mul_tdiv_add_tmod v n
  have h4 : (n * v.tdiv n + v.tmod n) % n = (v.tmod n) % n := by rw [Int.add_comm]; exact Int.add_mul_emod_self_left _ _ _
  rwa [h3] at h4
 rw [h2]
 split
 ·rw [← Int.add_emod_right]
  exact Int.emod_eq_of_lt (by omega) (by omega)
 ·exact Int.emod_eq_of_lt (by omega) (by omega)
def Z4P (P : Program) (T e : TypeId) (size bytes : Nat) : Bool :=
  (match P.underlying T with
   | some (.slice e') => Nat.beq e' e
   | _ => false) &&
  (match P.info? e with
   | some i => Nat.beq i.size size && Nat.beq i.bytes bytes && (match i.zero with
     | some z => Nat.beq z.cells.size size
     | none => false)
   | none => false) && Nat.blt 0 size
theorem Z43 {P : Program} {T e : TypeId} {size bytes : Nat} (h : Z4P P T e size bytes = true) : ∃ i z, P.underlying T = some (.slice e) ∧ P.info? e = some i ∧ i.zero = some z ∧ i.size = size ∧ i.bytes = bytes ∧ z.cells.size = size ∧ 0 < size := by
 unfold Z4P at h
 simp only [Bool.and_eq_true] at h
 obtain ⟨⟨h1, h2⟩, h3⟩ := h
 split at h1
 ·rename_i e' hu
  obtain rfl := Nat.eq_of_beq_eq_true h1
  split at h2
  ·rename_i i hi
   simp only [Bool.and_eq_true] at h2
   obtain ⟨⟨h4, h5⟩, h6⟩ := h2
   split at h6
   ·rename_i z hz
    exact ⟨i, z, hu, hi, hz, Nat.eq_of_beq_eq_true h4, Nat.eq_of_beq_eq_true h5, Nat.eq_of_beq_eq_true h6, by simpa [Nat.blt_eq] using h3⟩
   ·cases h6
  ·cases h2
 ·cases h1
theorem Z47 {P : Program} (w : World) (t ty e : TypeId) (i : TypeInfo) (ht : P.underlying t = some (.slice e)) (hi : P.info? e = some i) {v : Value} {n : Nat} {xs : List Value} {size : Nat} (h : w.ownsRow 0 e size v n xs) :
  (Builtin.append_ #[t, t] ty #[v, .slice none 0 0]).run P w = .ok v w := by
 rcases h.2 with ⟨rfl, rfl⟩ | ⟨g, cap, cur, rfl, hb, hgg, hc, hm, hcs, htake⟩
 ·simp [Builtin.append_, run_underlying ht, sizeOf, typeInfo, hi, Builtin.lenOf, Builtin.firstCells, Result.andThen]
 ·have hst : ∀ a : Addr, (storeCells a [] 0).run P w = .ok () w := fun a => by simp [storeCells]
  simp [Builtin.append_, run_underlying ht, sizeOf, typeInfo, hi, Builtin.lenOf, Builtin.firstCells, Result.andThen, hc, hst]
theorem Z33 {w w' : World} {r : Option Nat} (h : w.grownBy w' r) : Ext w w' := ⟨h.os, h.tape, h.output, h.size⟩
section
variable {P : Program} {n : Nat} {f : Nat → Value} {w w' : World} {dst : Option Tmp} {ty : TypeId} {pos : String} {aft : Array Edge} {gd : Option (Nat × Bool)} {w0 : World} {G : List Ck} {K : Act → World → Prop} {Q : Exit → Act → World → Prop}
theorem Z4T {T e : TypeId} {size bytes : Nat} (hR : Z4P P T e size bytes = true) {v u : Value} {k m : Nat} {xs ys : List Value} (hv : w.ownsRow 0 e size v k xs) (hu : w.ownsRow 0 e size u m ys) (h1 : ys.all (·.oneCell') = true) (hb : (k + m) * bytes ≤ 140737488355328) (h63 : k + m ≤ 140737488355328) :
  ∃ v' w', (Builtin.append_ #[T, T] ty #[v, u]).run P w = .ok v' w' ∧ w'.ownsRow 0 e size v' (k + m) (xs ++ ys) ∧ w.grownBy w' v.ownBlock ∧ ∀ b, v'.ownBlock = some b → v.ownBlock = some b ∨ w.heap.size ≤ b := by
 obtain ⟨i, z, ht, hi, hz, hs, hby, hzs, h0⟩ := Z43 hR
 have hu2 := hu
 rcases hu2.2 with ⟨rfl, rfl⟩ | ⟨g, cap, cur, rfl, hbg, hgg, hc, hm, hcs, htake⟩
 ·obtain rfl : ys = [] := List.eq_nil_of_length_eq_zero (by simpa using hu.1)
  exact ⟨v, w, Z47 w T ty e i ht hi hv, by simpa using hv, ⟨rfl, rfl, rfl, Nat.le_refl _, fun _ _ _ => rfl⟩, fun b h => .inl h⟩
 ·exact Z4S w 0 T ty e i z size bytes ht hi hz hs hby hzs h0 v k xs hv ⟨g, 0, none⟩ m cap ys hu.1 (hu.cells (g := g) rfl) (fun x hx => List.all_eq_true.1 h1 x hx) (by unfold maxLen; omega) hb (Nat.zero_le _)
theorem Z42 {T : TypeId} {x y : Operand} {v u v' : Value} (hx : ev n f x = v) (hy : ev n f y = u) (h : (Builtin.append_ #[T, T] ty #[v, u]).run P w = .ok v' w') :
  (execOp (ev n f) ⟨dst, .call { callee := .builtin .append, args := #[x, y], argTypes := #[T, T] }, ty, pos, aft, gd⟩).run P w = .ok (.value v') w' := by
 simp [execOp, resolve, invoke, builtin, hx, hy, h, Result.andThen]
theorem Z0n {T e : TypeId} {size bytes : Nat} {x y : Operand} {d : Nat} (hd : dst = some d) (H : Sat w0 G w) (hR : Z4P P T e size bytes = true) (i j : Nat) {v u : Value} {k m : Nat} {xs ys : List Value} (hi : G[i]? = some (Zc e size v k xs)) (hj : G[j]? = some (Zc e size u m ys))
  (hx : ev n f x = v) (hy : ev n f y = u) (h1 : ys.all (·.oneCell') = true) (hb : (k + m) * bytes ≤ 140737488355328) (h63 : k + m ≤ 140737488355328)
  (kk : ∀ v' w', Sat w0 (G.set i (Zc e size v' (k + m) (xs ++ ys))) w' → K (fr n (upd f d v')) w') : WO P ⟨dst, .call { callee := .builtin .append, args := #[x, y], argTypes := #[T, T] }, ty, pos, aft, gd⟩ K Q n f w := by
 obtain ⟨v', w', hr, ho, hg, hn⟩ := Z4T (ty := ty) hR (H.at i hi) (H.at j hj) h1 hb h63
 exact Z30 hd (Z42 hx hy hr) (kk v' w' (H.set i hi (Z33 hg) (fun b hb hne => hg.block b hb fun e => hne e.symm) ho hn))
theorem Z7o {T e : TypeId} {size bytes : Nat} {x y : Operand} {d : Nat} (hd : dst = some d) (H : Sat w0 G w) (hR : Z4P P T e size bytes = true) {u : Value} {m : Nat} {ys : List Value} (hj : (Zc e size u m ys).ok w)
  (hx : ev n f x = .slice none 0 0) (hy : ev n f y = u) (h1 : ys.all (·.oneCell') = true) (hb : m * bytes ≤ 140737488355328) (h63 : m ≤ 140737488355328)
  (kk : ∀ v' w', Sat w0 (G ++ [Zc e size v' m ys]) w' → K (fr n (upd f d v')) w') : WO P ⟨dst, .call { callee := .builtin .append, args := #[x, y], argTypes := #[T, T] }, ty, pos, aft, gd⟩ K Q n f w := by
 obtain ⟨v', w', hr, ho, hg, hn⟩ := Z4T (ty := ty) hR (World.ownsRow_nil w 0 e size) hj h1 (by simpa using hb) (by simpa using h63)
 simp only [Nat.zero_add, List.nil_append] at ho
 refine Z30 hd (Z42 hx hy hr) (kk v' w' (H.add (Z33 hg) (fun b hb => hg.block b hb (by simp [Value.ownBlock])) ho fun b hb => ?_))
 rcases hn b hb with h | h
 ·simp [Value.ownBlock] at h
 ·exact h
theorem Sat.roCk {W : World} {D : Nat → Prop} {A : Ck} (H : Sat w0 G w) (i : Nat) (hi : G[i]? = some (Z7 W D)) (h : A.ok W) (hD : ∀ b, A.fp b → ¬ D b) : A.ok w := A.stay h fun b hb => H.at i hi b (A.lt h b hb) (hD b hb)
theorem Sat.addNil (H : Sat w0 G w) (e : TypeId) (size : Nat) : Sat w0 (G ++ [Zc e size (.slice none 0 0) 0 []]) w :=
 H.add (Ext.refl w) (fun _ _ => rfl) (World.ownsRow_nil w 0 e size) (fun b hb => by simp [Zc, Value.ownBlock] at hb)
theorem Z2j {T e : TypeId} {size bytes N : Nat} {parts : Array (Nat × Operand)} {d : Nat} (hd : dst = some d) (H : Sat w0 G w) (hR : Z4P P T e size bytes = true) {z : Value} (hz : (P.info? e).bind (·.zero) = some z) {pvs : List (Nat × Value)} {vs : List Value}
  (hp : (parts.map fun q => (q.1, ev n f q.2)).toList = pvs) (hf : Instr.fill (fun j => some (j * size, size)) ((Array.range (N * size)).map fun q => z.cells[q % z.cells.size]!) pvs = some ⟨vs⟩) (hl : Nat.beq vs.length (N * size) = true) (hN : Nat.blt 0 N = true) (hsz : Nat.ble (N * size) 16777216 = true)
  (kk : ∀ b w', Sat w0 (G ++ [Zc e size (.slice (some ⟨b, 0, none⟩) N N) N vs]) w' → K (fr n (upd f d (.slice (some ⟨b, 0, none⟩) N N))) w') : WO P ⟨dst, .buildSlice T N parts, ty, pos, aft, gd⟩ K Q n f w := by
 obtain ⟨i, z', ht, hi, hz', hs, hby, hzs, h0⟩ := Z43 hR
 have hl := Nat.eq_of_beq_eq_true hl
 have hsz := Nat.le_of_ble_eq_true hsz
 have hN : 0 < N := by simpa [Nat.blt_eq] using hN
 have hpos : 0 < N * size := Nat.mul_pos hN h0
 have hr : (execOp (ev n f) ⟨dst, .buildSlice T N parts, ty, pos, aft, gd⟩).run P w = .ok (.value (.slice (some ⟨w.heap.size, 0, none⟩) N N)) (w.alloc (.cells ⟨vs⟩ e (0, 0))) := by
  have hp2 : (parts.map fun q => (q.1, ev n f q.2)).toList = pvs := hp
  simp only [execOp, Instr.buildSlice]
  have hzv := Z3j (P := P) (w := w) hz
  have h1 : ¬ 16777216 < N * size := by omega
  have h2 : ¬ N * size = 0 := by omega
  simp only [hp2]
  simp [run_underlying ht, sizeOf, typeInfo, hi, hs, Result.andThen, h1, h2, hzv, hf, newRow]
 refine Z30 hd hr (kk _ _ (H.add ⟨rfl, rfl, rfl, by simp⟩ (fun b hb => Below.heap_alloc w _ b hb) ?_ (fun b hb => ?_)))
 ·refine ⟨hl, .inr ⟨w.heap.size, N, ⟨vs⟩, rfl, Nat.zero_le _, Z13 w _, Nat.le_refl _, ?_, by simpa using hl, ?_⟩⟩
  ·have := Nat.le_mul_of_pos_right N h0
   unfold maxLen; omega
  ·rw [← hl]; simp
 ·simp [Zc, Value.ownBlock] at hb; omega
theorem Z68 {e size : Nat} {v : Value} {k : Nat} {xs : List Value} {g o c : Nat} (h : (Zc e size v k xs).ok w) (hv : v = .slice (some ⟨g, 0, none⟩) k c) {u : Value} (hu : xs[o]? = some u) : w.cell? ⟨g, o, none⟩ = some u := by
 have := World.ownsRow.cells h (g := g) (by rw [hv]; rfl) o u hu
 rw [Addr.add_lit] at this
 simpa using this
theorem Z18 {e size : Nat} {v : Value} {k : Nat} {xs : List Value} (h : (Zc e size v k xs).ok w) (hk : 0 < k) : ∃ g c, v = .slice (some ⟨g, 0, none⟩) k c := by
 rcases h.2 with ⟨_, h0⟩ | ⟨g, cap, _, hv, _⟩
 ·omega
 ·exact ⟨g, cap, hv⟩
end
theorem Z2D {α : Type} (enc : α → List Value) (size : Nat) (hs : ∀ x, (enc x).length = size) : ∀ (L : List α) (i j : Nat) (x : α), L[i]? = some x → j < size → (L.flatMap enc)[i * size + j]? = (enc x)[j]?
 | [], i, j, x, h, _ => by simp at h
 | y :: L, 0, j, x, h, hj => by
  simp at h; subst h
  simp only [List.flatMap_cons, Nat.zero_mul, Nat.zero_add]
  rw [List.getElem?_append_left (by rw [hs]; exact hj)]
 | y :: L, i + 1, j, x, h, hj => by
  simp only [List.getElem?_cons_succ] at h
  simp only [List.flatMap_cons]
  rw [List.getElem?_append_right (by rw [hs, Nat.succ_mul]; omega), hs]
  have e : (i + 1) * size + j - size = i * size + j := by rw [Nat.succ_mul]; omega
  rw [e]
  exact Z2D enc size hs L i j x h hj
theorem Z1p {α : Type} (enc : α → List Value) (size : Nat) (hs : ∀ x, (enc x).length = size) (L : List α) : (L.flatMap enc).length = L.length * size := by
 induction L with
 | nil => simp
 | cons y L ih => simp only [List.flatMap_cons, List.length_append, hs, ih, List.length_cons, Nat.succ_mul]; omega
theorem Z0e {α : Type} (enc : α → List Value) (h : ∀ x, (enc x).all (·.oneCell') = true) (L : List α) : (L.flatMap enc).all (·.oneCell') = true := by
 rw [List.all_eq_true]
 intro v hv
 obtain ⟨x, _, hx⟩ := List.mem_flatMap.1 hv
 exact List.all_eq_true.1 (h x) v hx
def Z1v (w : World) (a : Addr) (vs : List Value) : Prop := ∀ j v, vs[j]? = some v → w.cell? (a.add j) = some v
section
variable {P : Program} {n : Nat} {f : Nat → Value} {w : World} {dst : Option Tmp} {ty : TypeId} {pos : String} {aft : Array Edge} {gd : Option (Nat × Bool)}
theorem Z0a {T : TypeId} {x : Operand} {p : Addr} {vs : List Value} (hx : ev n f x = .pointer (some p)) (hT : Z7b P T = true) (hN : P.cellsOf T = vs.length) (h0 : 0 < vs.length) (hc : Z1v w p vs) :
  (execOp (ev n f) ⟨dst, .load T x, ty, pos, aft, gd⟩).run P w = .ok (.value (.agg ⟨vs⟩)) w := by
 have hl : (loadCells p vs.length).run P w = .ok vs.toArray w := run_loadCells_list w p vs hc
 simp only [execOp, Instr.loadAt, hx, Instr.sureAddr, loadVar]
 simp [Z29 hT, Z0A hN h0, hl, Result.andThen]
theorem Z1R {T E : TypeId} {x y : Operand} {v : Value} {b len cap sz : Nat} {k : IntKind} {z : Int} (hT : P.underlying T = some (.slice E)) (hs : P.cellsOf E = sz) (h0 : 0 < sz) (hx : ev n f x = v) (hv : v = .slice (some ⟨b, 0, none⟩) len cap) (hy : ev n f y = .int k z) (h1 : 0 ≤ z) (h2 : z < len) :
  (execOp (ev n f) ⟨dst, .indexAddr T x y, ty, pos, aft, gd⟩).run P w = .ok (.value (.pointer (some ⟨b, 0 + z.toNat * sz, none⟩))) w :=
 Z0r hT hs h0 (hx.trans hv) hy h1 h2
end
section
variable {α : Type} {enc : α → List Value} {size : Nat} {w : World} {e g o c i : Nat} {v : Value} {L : List α} {x : α}
theorem ZS (h : (Zc e size v L.length (L.flatMap enc)).ok w) (hv : v = .slice (some ⟨g, 0, none⟩) L.length c) (hs : ∀ x, (enc x).length = size) (hx : L[i]? = some x) (j : Nat) (hj : Nat.blt j size = true) (ho : o = i * size + j) {u : Value} (hu : (enc x)[j]? = some u) : w.cell? ⟨g, o, none⟩ = some u := by
 refine Z68 h hv ?_
 rw [ho, Z2D enc size hs L i j x hx (by simpa [Nat.blt_eq] using hj)]
 exact hu
theorem Z1d (h : (Zc e size v L.length (L.flatMap enc)).ok w) (hv : v = .slice (some ⟨g, 0, none⟩) L.length c) (hs : ∀ x, (enc x).length = size) (hx : L[i]? = some x) (j : Nat) (ho : o = i * size + j) {us : List Value} (hj : Nat.ble (j + us.length) size = true) (hu : ((enc x).drop j).take us.length = us) : Z1v w ⟨g, o, none⟩ us := by
 intro q u hq
 have hj := Nat.le_of_ble_eq_true hj
 have hql : q < us.length := (List.getElem?_eq_some_iff.1 hq).1
 rw [Addr.add_lit]
 refine ZS h hv hs hx (j + q) (by simp [Nat.blt_eq]; omega) (by omega) ?_
 rw [← hu, List.getElem?_take, if_pos hql, List.getElem?_drop] at hq
 exact hq
end
theorem Z4X {α : Type} {L : List α} {i : Nat} (h : i < L.length) : ∃ x, L[i]? = some x := ⟨L[i], List.getElem?_eq_getElem h⟩
section
variable {P : Program} {ops : Array Oper} {S : World → Prop} {B : List Nat} {Q : Exit → Act → World → Prop} {n : Nat} {f : Nat → Value} {w : World} {listed : Array Bool} {fuel : Nat}
end
section
variable {w0 w w' : World} {G G' L L' R : List Ck}
theorem Sat.cast (H : Sat w0 G w) (h : G = G') : Sat w0 G' w := h ▸ H
theorem Sat.turnL (H : Sat w0 G w) (is js : List Nat) (hn : (is ++ js).Pairwise (fun a b => Nat.beq a b = false)) (hi : (is.filterMap fun i => G[i]?) = L) (hj : (js.filterMap fun i => G[i]?) = R)
  (h : Sat w (L' ++ [Z7 w (ZL L).fp]) w') : Sat w0 (L' ++ R) w' := by
 have H1 : Sat w0 (L ++ R) w := by
  have := H.pick (is ++ js) hn
  rwa [List.filterMap_append, hi, hj] at this
 have hr : (Z7 w (ZL L).fp).ok w' := h.all _ (by simp)
 have hd1 := List.pairwise_append.1 H1.dis
 have hd2 := List.pairwise_append.1 h.dis
 have far : ∀ B ∈ R, ∀ b, B.fp b → b < w.heap.size ∧ ¬ (ZL L).fp b := by
  intro B hB b hb
  refine ⟨B.lt (H1.all B (List.mem_append_right _ hB)) b hb, ?_⟩
  rintro ⟨A, hA, hf⟩
  exact hd1.2.2 A hA B hB b hf hb
 refine ⟨H.ext.trans h.ext, ?_, List.pairwise_append.2 ⟨hd2.1, hd1.2.1, ?_⟩⟩
 ·intro B hB
  rcases List.mem_append.1 hB with hB | hB
  ·exact h.all B (List.mem_append_left _ hB)
  ·refine B.stay (H1.all B (List.mem_append_right _ hB)) fun b hb => ?_
   have := far B hB b hb
   exact hr b this.1 this.2
 ·intro A hA B hB b h1 h2
  exact hd2.2.2 A hA _ (List.mem_singleton.2 rfl) b h1 (far B hB b h2)
theorem Sat.ok (H : Sat w0 G w) (is : List Nat) (hn : is.Pairwise (fun a b => Nat.beq a b = false)) (hi : (is.filterMap fun i => G[i]?) = L) : (ZL L).ok w := H.fin is hn hi
theorem Sat.closeL (H : Sat w0 (L ++ R) w) : Sat w0 (ZL L :: R) w := by
 have hd := List.pairwise_append.1 H.dis
 refine ⟨H.ext, ?_, List.pairwise_cons.2 ⟨?_, hd.2.1⟩⟩
 ·intro B hB
  rcases List.mem_cons.1 hB with rfl | hB
  ·exact ⟨fun A hA => H.all A (List.mem_append_left _ hA), hd.1⟩
  ·exact H.all B (List.mem_append_right _ hB)
 ·rintro B hB b ⟨A, hA, hf⟩ h2
  exact hd.2.2 A hA B hB b hf h2
theorem Sat.own (H : Sat w0 G w) (is : List Nat) (hn : is.Pairwise (fun a b => Nat.beq a b = false)) (hi : (is.filterMap fun i => G[i]?) = L) : Sat w (L ++ [Z7 w (ZL L).fp]) w := Sat.start L (H.fin is hn hi)
theorem Sat.turn1 {A : Ck} (H : Sat w0 G w) (i : Nat) (js : List Nat) (hn : (i :: js).Pairwise (fun a b => Nat.beq a b = false)) (hi : G[i]? = some A) (hj : (js.filterMap fun i => G[i]?) = R)
  (h : Sat w (L' ++ [Z7 w A.fp]) w') : Sat w0 (L' ++ R) w' := by
 refine Sat.turnL (L := [A]) H [i] js hn (by simp [hi]) hj ?_
 have e : Z7 w A.fp = Z7 w (ZL [A]).fp := by
  have : A.fp = (ZL [A]).fp := by
   funext b
   exact propext ⟨fun hb => ⟨A, by simp, hb⟩, fun ⟨B, hB, hb⟩ => by rw [List.mem_singleton] at hB; rw [hB] at hb; exact hb⟩
  rw [this]
 rw [← e]; exact h
end
section
variable {P : Program} {Q : Exit → Act → World → Prop} {n : Nat} {f : Nat → Value} {w0 w w' : World} {G : List Ck} {dst : Option Tmp} {ty : TypeId} {pos : String} {aft : Array Edge} {gd : Option (Nat × Bool)} {K : Act → World → Prop}
theorem Z5L {T : TypeId} {x y : Operand} (hd : dst = none) (H : Sat w0 G w) (i : Nat) {b q : Nat} {E : TypeId} {cs vs cs' : List Value} {u : Value}
  (hi : G[i]? = some (Z3 b E cs)) (hx : ev n f x = .pointer (some ⟨b, q, none⟩)) (hy : ev n f y = u) (hu : u.cells = ⟨vs⟩) (hN : P.cellsOf T = vs.length) (h0 : 0 < vs.length) (ho : q + vs.length ≤ cs.length) (h1 : vs.all (·.oneCell') = true) (hs : Z0P cs q vs = cs')
  (k : ∀ w', Sat w0 (G.set i (Z3 b E cs')) w' → K (fr n f) w') : WO P ⟨dst, .store T x y, ty, pos, aft, gd⟩ K Q n f w := Z2S hd H i hi hx hy hu hN h0 ho h1 (by rw [hs]; exact k)
end
end Go.Proofs.YtgigjkjdmalmaaaGreat
