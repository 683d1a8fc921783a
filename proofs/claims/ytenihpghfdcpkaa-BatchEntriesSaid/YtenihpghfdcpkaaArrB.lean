/- WHAT IS PROVED: arrays of truths in memory that are turned in place. Conditions: stated with each. -/
import Derived.Test.YtenihpghfdcpkaaShaM
import Derived.Laws.MakeOwn
namespace Go.Proofs.Ytenihpghfdcpkaa
open Go.RowKit
/-- an array of n truths at g -/
def rowTr (g T n : Nat) (A : List Bool) : Ck where
  fp b := b = g
  ok w := A.length = n ∧ w.heap[g]? = some (.cells ⟨A.map Value.bool⟩ T (0, 0))
  stay h hb := ⟨h.1, (hb g rfl).trans h.2⟩
  lt h _ hk := hk ▸ heap_lt h.2
section
variable {g T n : Nat} {A : List Bool} {w w0 w' : World} {G : List Ck}
theorem rowTr_len (h : (rowTr g T n A).ok w) : A.length = n := h.1
theorem rowTr_cell (h : (rowTr g T n A).ok w) {i o : Nat} (hi : i < n) (ho : o = i) : w.cell? ⟨g, o, none⟩ = some (.bool (A.getD i false)) := by
  subst ho
  rw [cell_of_heap h.2]
  simp [List.getD_eq_getElem?_getD, List.getElem?_eq_getElem (show o < A.length by rw [h.1]; exact hi)]
theorem Sat.toTr (H : Sat w0 G w) (i : Nat) (A : List Bool) (hi : G[i]? = some (cellC g T (A.map Value.bool))) (hn : A.length = n) : Sat w0 (G.set i (rowTr g T n A)) w :=
  H.set i hi ⟨rfl, rfl, rfl, Nat.le_refl _⟩ (fun _ _ _ => rfl) ⟨hn, H.at i hi⟩ (fun _b hb => .inl hb)
end
section
variable {P : Program} {n : Nat} {f : Nat → Value} {w w0 : World} {dst : Option Tmp} {ty : TypeId} {pos : String} {aft : Array Edge} {gd : Option (Nat × Bool)} {K : Act → World → Prop} {Q : Exit → Act → World → Prop} {G : List Ck}
theorem d_storeTr {T TA m : Nat} {A : List Bool} {g i : Nat} {x y : Operand} {z : Bool} {o : Nat} (hd : dst = none) (H : Sat w0 G w) (j : Nat) (hj : G[j]? = some (rowTr g TA m A)) (hx : ev n f x = .pointer (some ⟨g, o, none⟩)) (hy : ev n f y = .bool z) (hN : P.cellsOf T = 1) (ho : o = i) (hi : i < m)
    (kk : ∀ w', Sat w0 (G.set j (rowTr g TA m (A.set i z))) w' → K (fr n f) w') : WO P ⟨dst, .store T x y, ty, pos, aft, gd⟩ K Q n f w := by
  have h := H.at j hj
  subst ho
  have hil : o < A.length := by rw [h.1]; exact hi
  obtain ⟨w', hr, hb, he, hk⟩ := e_store (P := P) (dst := dst) (ty := ty) (pos := pos) (aft := aft) (gd := gd) (vs := [.bool z]) hx hy rfl hN (by simp) h.2 (by simp; omega) (fun v hv => by rw [List.mem_singleton.1 hv]; rfl)
  refine d_skip hd hr (kk w' (H.set j hj he (fun b _ hne => hk b hne) ⟨by simp [h.1], ?_⟩ (fun b hb => .inl hb)))
  have e : splice (A.map Value.bool) o [Value.bool z] = (A.set o z).map Value.bool := by
    rw [List.set_eq_take_append_cons_drop, if_pos hil]
    simp [splice]
  rw [← e]; exact hb
theorem d_makeTr {T e d m : Nat} (hd : dst = some d) (H : Sat w0 G w) (ht : P.underlying T = some (.slice e)) (hinfo : (P.info? e).map (fun i => (i.zero, i.size, i.bytes)) = some (some (.bool false), 1, 1)) {x y : Operand} {kx ky : IntKind} (hx : ev n f x = .int kx (m : Int)) (hy : ev n f y = .int ky (m : Int)) (hm : m ≤ 281474976710656)
    (kk : ∀ b w', Sat w0 (G ++ [rowTr b e m (List.replicate m false)]) w' → K (fr n (upd f d (.slice (some ⟨b, 0, none⟩) m m))) w') : WO P ⟨dst, .makeSlice T x y, ty, pos, aft, gd⟩ K Q n f w := by
  obtain ⟨i, hi, hzz⟩ := Option.map_eq_some_iff.1 hinfo
  simp only [Prod.mk.injEq] at hzz
  obtain ⟨hz, hs, hb⟩ := hzz
  have hr := run_make (P := P) w T e i _ ht hi hz kx ky (m : Int) (m : Int) (by omega) (Int.le_refl _) (by rw [hb]; omega) (by omega)
  simp only [Int.toNat_natCast, hs, Nat.mul_one] at hr
  have e1 : madeCells (Value.bool false).cells m = ⟨(List.replicate m false).map Value.bool⟩ := by
    refine Array.ext (by simp [madeCells]) fun j h1 h2 => ?_
    simp [madeCells, Value.cells, Nat.mod_one]
  rw [e1] at hr
  refine d_val hd (v := .slice (some ⟨w.heap.size, 0, none⟩) m m) (w' := w.alloc (.cells ⟨(List.replicate m false).map Value.bool⟩ e)) ?_ (kk _ _ ?_)
  · simp only [execOp, hx, hy]
    simp [hr, Result.andThen]
  · exact H.add ⟨rfl, rfl, rfl, by simp⟩ (fun b hb => Below.heap_alloc w _ b hb) ⟨by simp, heap_alloc_at w _⟩ (fun b hb => Nat.le_of_eq hb.symm)
end
section
variable {κ ν : Type} [DecidableEq κ] {P : Program} {n : Nat} {f : Nat → Value} {w w0 : World} {dst : Option Tmp} {ty : TypeId} {pos : String} {aft : Array Edge} {gd : Option (Nat × Bool)} {Q : Exit → Act → World → Prop} {G : List Ck} {T kt et : TypeId} {b : Nat} {encK : κ → Value} {encV : ν → Value} {l : List (κ × ν)}
theorem e_insert {x y u : Operand} (K : KeyTy P kt encK) (hT : P.underlying T = some (.map kt et)) (hx : ev n f x = .map (some b)) (a : κ) (hy : ev n f y = encK a) (v : ν) (hu : ev n f u = encV v) (h : MapAt w b encK encV l) :
    ∃ w', (execOp (ev n f) ⟨dst, .insert T x y u, ty, pos, aft, gd⟩).run P w = .ok .skip w' ∧ MapAt w' b encK encV (putM l a v) ∧ Upd [b] w w' := by
  obtain ⟨w', h1, h2, h3, _⟩ := h.update K hT a v
  refine ⟨w', ?_, h2, h3⟩
  simp only [execOp, hx, hy, hu]
  simp [h1, Result.andThen]
theorem d_insert {K' : Act → World → Prop} {x y u : Operand} (hd : dst = none) (H : Sat w0 G w) (i : Nat) (hi : G[i]? = some (mapC b encK encV l)) (K : KeyTy P kt encK) (hT : P.underlying T = some (.map kt et)) (hx : ev n f x = .map (some b)) (a : κ) (hy : ev n f y = encK a) (v : ν) (hu : ev n f u = encV v)
    (k : ∀ w', Sat w0 (G.set i (mapC b encK encV (putM l a v))) w' → K' (fr n f) w') : WO P ⟨dst, .insert T x y u, ty, pos, aft, gd⟩ K' Q n f w := by
  obtain ⟨w', h1, h2, h3⟩ := e_insert (dst := dst) (ty := ty) (pos := pos) (aft := aft) (gd := gd) K hT hx a hy v hu (H.at i hi)
  exact d_skip hd h1 (k w' (H.setU h3 i hi (by rintro b' hb; exact List.mem_singleton.1 hb) h2 (fun b hb => .inl hb)))
end
theorem getTr_set {A : List Bool} {i j : Nat} {b : Bool} (hi : i < A.length) : (A.set i b).getD j false = if j = i then b else A.getD j false := by
  rw [List.getD_eq_getElem?_getD, List.getElem?_set]
  by_cases h : i = j
  · subst h
    simp [hi]
  · rw [if_neg h, if_neg (fun e => h e.symm), List.getD_eq_getElem?_getD]
theorem findNow_bool (a : Bool) : ∀ (es : List MapEntry) (ks : List Bool) (n : Nat), es.map (·.key) = ks.map Value.bool →
    Instr.findNow .bool (.bool a) es n = some ((ks.idxOf? a).bind fun i => (es[i]?).map fun e => (n + i, e.val)) := by
  intro es
  induction es with
  | nil => intro ks n h; cases ks <;> simp_all [Instr.findNow]
  | cons e es ih =>
    intro ks n h
    cases ks with
    | nil => simp at h
    | cons x ks =>
      simp only [List.map_cons, List.cons.injEq] at h
      obtain ⟨h1, h2⟩ := h
      by_cases hax : a = x
      · subst hax
        simp [Instr.findNow, h1, Instr.sameNow, List.idxOf?_cons]
      · have hx : (x == a) = false := by simp; exact fun h => hax h.symm
        have hx' : (a == x) = false := by simpa using hax
        simp only [Instr.findNow, h1, Instr.sameNow, hx', ih ks (n + 1) h2, List.idxOf?_cons, hx, Bool.false_eq_true, if_false]
        cases hi : ks.idxOf? a with
        | none => simp
        | some i => simp [Nat.add_assoc, Nat.add_comm 1 i]
/-- truths as keys -/
theorem KeyTy.bool {P : Program} {k : TypeId} (hk : P.underlying k = some .bool) : KeyTy P k Value.bool where
  check w em a := MapKept.run_checkKey (d := .bool) hk (by simp [MapKept.IsKey]) em 9999
  find w a es ks h := by
    simp [Instr.findKey, run_underlying hk, findNow_bool a es ks 0 h]
  same a := by simp [Instr.sameBits]
end Go.Proofs.Ytenihpghfdcpkaa
