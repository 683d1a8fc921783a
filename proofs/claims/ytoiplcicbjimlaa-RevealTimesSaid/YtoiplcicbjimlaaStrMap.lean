/- WHAT IS PROVED: texts as keys of a map; delete; what is read of a text. Conditions: stated with each. -/
import Derived.Test.YtoiplcicbjimlaaStrB
import Derived.Test.YtoiplcicbjimlaaEntry
namespace Go.Proofs.Ytoiplcicbjimlaa
open Go.RowKit
theorem strV_inj {a b : List UInt8} (h : strV a = strV b) : a = b := by simpa [strV] using h
theorem str_eq (a b : List UInt8) : ((⟨a.toArray⟩ : ByteArray) = ⟨b.toArray⟩) ↔ a = b := by simp
theorem str_beq (a b : List UInt8) : ((⟨a.toArray⟩ : ByteArray) == ⟨b.toArray⟩) = decide (a = b) := by
  rw [bytes_beq, Bool.eq_iff_iff, decide_eq_true_eq, decide_eq_true_eq, str_eq]
theorem idx_beq {α : Type} (i1 i2 : BEq α) (h : ∀ a b, @BEq.beq α i1 a b = @BEq.beq α i2 a b) (a : α) (ks : List α) : @List.idxOf? α i1 a ks = @List.idxOf? α i2 a ks := by
  obtain ⟨f⟩ := i1
  obtain ⟨g⟩ := i2
  have : f = g := funext fun a => funext fun b => h a b
  rw [this]
theorem map_erase {α β : Type} (f : α → β) : ∀ (l : List α) (i : Nat), (l.eraseIdx i).map f = (l.map f).eraseIdx i
  | [], _ => rfl
  | _ :: _, 0 => rfl
  | x :: l, i + 1 => by simp [map_erase f l i]
theorem findNow_str (a : List UInt8) : ∀ (es : List MapEntry) (ks : List (List UInt8)) (n : Nat), es.map (·.key) = ks.map strV →
    Instr.findNow .string (strV a) es n = some ((ks.idxOf? a).bind fun i => (es[i]?).map fun e => (n + i, e.val)) := by
  intro es
  induction es with
  | nil => intro ks n h; cases ks <;> simp_all [Instr.findNow]
  | cons e es ih =>
    intro ks n h
    cases ks with
    | nil => simp at h
    | cons x ks =>
      simp only [List.map_cons, List.cons.injEq] at h
      obtain ⟨h1, h2⟩ := h
      by_cases hax : a = x
      · subst hax
        have hq := str_beq a a
        simp only [decide_true] at hq
        simp [Instr.findNow, h1, strV, Instr.sameNow, List.idxOf?_cons, hq]
      · have hx : (x == a) = false := by simp; exact fun h => hax h.symm
        have hx' : ((⟨a.toArray⟩ : ByteArray) == ⟨x.toArray⟩) = false := by rw [str_beq]; exact decide_eq_false hax
        simp only [Instr.findNow, h1, strV, Instr.sameNow, hx', ih ks (n + 1) h2, List.idxOf?_cons, hx, Bool.false_eq_true, if_false]
        cases hi : ks.idxOf? a with
        | none => simp
        | some i => simp [Nat.add_assoc, Nat.add_comm 1 i]
/-- texts as keys -/
theorem KeyTy.str {P : Program} {k : TypeId} (hk : P.underlying k = some .string) : KeyTy P k strV where
  check w em a := MapKept.run_checkKey (d := .string) hk (by simp [MapKept.IsKey]) em 9999
  find w a es ks h := by
    have hi := idx_beq (instBEqOfDecidableEq : BEq (List UInt8)) List.instBEq (fun a b => by rw [Bool.eq_iff_iff]; simp) a ks
    rw [hi]
    simp [Instr.findKey, run_underlying hk, findNow_str a es ks 0 h]
  same a := by
    have hq := str_beq a a
    simp only [decide_true] at hq
    simp [Instr.sameBits, hq]
/-- 'delete(m, a)' -/
def delM {κ ν : Type} [DecidableEq κ] (l : List (κ × ν)) (a : κ) : List (κ × ν) := match (l.map (·.1)).idxOf? a with | none => l | some i => l.eraseIdx i
section
variable {κ ν : Type} [DecidableEq κ] {encK : κ → Value} {encV : ν → Value} {P : Program} {k : TypeId} {w : World} {b : Nat} {l : List (κ × ν)}
theorem MapAt.delete (K : KeyTy P k encK) {t e ty : TypeId} (ht : P.underlying t = some (.map k e)) (h : MapAt w b encK encV l) (a : κ) :
    ∃ w', (Builtin.delete_ #[t, k] ty #[.map (some b), encK a]).run P w = .ok (.tuple #[]) w' ∧ MapAt w' b encK encV (delM l a) ∧ Upd [b] w w' := by
  obtain ⟨es, clock, hb, he, hn, hp, hc⟩ := h
  have hf := K.find w a es.toList _ (MapAt.keys he)
  have upd : ∀ o, Upd [b] w (ChangeMaps.setBlock w b o) := fun o => ⟨rfl, rfl, rfl, by simp [ChangeMaps.setBlock], fun j _ hj => ChangeMaps.heap_setBlock_other hb _ (by simpa using hj)⟩
  have hlen : es.toList.length = l.length := by have := congrArg List.length he; simpa using this
  unfold delM
  cases hi : (l.map (·.1)).idxOf? a with
  | none =>
    rw [hi] at hf
    refine ⟨ChangeMaps.setBlock w b (.map es clock), ?_, ⟨_, _, ChangeMaps.heap_setBlock_same hb _, he, hn, hp, hc⟩, upd _⟩
    simp [Builtin.delete_, run_underlying ht, MapKept.run_getObj_map hb, Result.andThen, K.check, hf, MapKept.run_setObj_map _ hb, ChangeMaps.setBlock]
  | some i =>
    rw [hi] at hf
    obtain ⟨h1, h2, _⟩ := List.idxOf?_eq_some_iff.1 hi
    have hlt : i < l.length := by simpa using h1
    have hli : i < es.toList.length := by omega
    simp only [Option.bind_some, List.getElem?_eq_getElem hli, Option.map_some] at hf
    have hes : (es.eraseIdxIfInBounds i).toList = es.toList.eraseIdx i := by
      rw [Array.eraseIdxIfInBounds_eq, dif_pos (by simpa using hli), Array.toList_eraseIdx]
    refine ⟨ChangeMaps.setBlock w b (.map (es.eraseIdxIfInBounds i) clock), ?_, ⟨_, _, ChangeMaps.heap_setBlock_same hb _, ?_, ?_, ?_, ?_⟩, upd _⟩
    · simp [Builtin.delete_, run_underlying ht, MapKept.run_getObj_map hb, Result.andThen, K.check, hf, MapKept.run_setObj_map _ hb, ChangeMaps.setBlock]
    · rw [hes, map_erase, map_erase, he]
    · rw [map_erase]; exact hn.sublist (List.eraseIdx_sublist _ _)
    · rw [hes, map_erase]; exact hp.sublist (List.eraseIdx_sublist _ _)
    · intro e0 he0
      rw [hes] at he0
      exact hc e0 (List.mem_of_mem_eraseIdx he0)
end
section
variable {P : Program} {Q : Exit → Act → World → Prop} {n : Nat} {f : Nat → Value} {w0 w : World} {G : List Ck} {dst : Option Tmp} {ty : TypeId} {pos : String} {aft : Array Edge} {gd : Option (Nat × Bool)} {K' : Act → World → Prop}
theorem d_delete {κ ν : Type} [DecidableEq κ] {encK : κ → Value} {encV : ν → Value} {T kt et : TypeId} {b d : Nat} {l : List (κ × ν)} {x y : Operand} (hd : dst = some d) (H : Sat w0 G w) (i : Nat) (hi : G[i]? = some (mapC b encK encV l)) (K : KeyTy P kt encK) (hT : P.underlying T = some (.map kt et)) (hx : ev n f x = .map (some b)) (a : κ) (hy : ev n f y = encK a)
    (k : ∀ w', Sat w0 (G.set i (mapC b encK encV (delM l a))) w' → K' (fr n (upd f d (.tuple #[]))) w') : WO P ⟨dst, .call { callee := .builtin .delete, args := #[x, y], argTypes := #[T, kt] }, ty, pos, aft, gd⟩ K' Q n f w := by
  obtain ⟨w', h1, h2, h3⟩ := (H.at i hi).delete (ty := ty) K hT a
  refine d_val hd (w' := w') ?_ (k w' (H.setU h3 i hi (by rintro b' hb; exact List.mem_singleton.1 hb) h2 (fun b hb => .inl hb)))
  simp [execOp, resolve, invoke, builtin, hx, hy, h1, Result.andThen]
theorem d_delete0 {κ ν : Type} [DecidableEq κ] {encK : κ → Value} {encV : ν → Value} {T kt et : TypeId} {b : Nat} {l : List (κ × ν)} {x y : Operand} (hd : dst = none) (H : Sat w0 G w) (i : Nat) (hi : G[i]? = some (mapC b encK encV l)) (K : KeyTy P kt encK) (hT : P.underlying T = some (.map kt et)) (hx : ev n f x = .map (some b)) (a : κ) (hy : ev n f y = encK a)
    (k : ∀ w', Sat w0 (G.set i (mapC b encK encV (delM l a))) w' → K' (fr n f) w') : WO P ⟨dst, .call { callee := .builtin .delete, args := #[x, y], argTypes := #[T, kt] }, ty, pos, aft, gd⟩ K' Q n f w := by
  obtain ⟨w', h1, h2, h3⟩ := (H.at i hi).delete (ty := ty) K hT a
  have hr : (execOp (ev n f) ⟨dst, .call { callee := .builtin .delete, args := #[x, y], argTypes := #[T, kt] }, ty, pos, aft, gd⟩).run P w = .ok (.value (.tuple #[])) w' := by
    simp [execOp, resolve, invoke, builtin, hx, hy, h1, Result.andThen]
  refine ⟨?_⟩
  unfold Oper.wp
  rw [fr_eval, hr]
  simp only [Oper.upon, hd, fr_putn]
  exact k w' (H.setU h3 i hi (by rintro b' hb; exact List.mem_singleton.1 hb) h2 (fun b hb => .inl hb))
theorem e_lenStr {T : TypeId} {x : Operand} {s : List UInt8} (hT : P.underlying T = some .string) (hx : ev n f x = strV s) :
    (execOp (ev n f) ⟨dst, .call { callee := .builtin .len, args := #[x], argTypes := #[T] }, ty, pos, aft, gd⟩).run P w = .ok (.value (.int .i64 (s.length : Int))) w := by
  have := run_len_string (P := P) (w := w) T ty ⟨s.toArray⟩ hT
  simp [execOp, resolve, invoke, builtin, hx, strV, this, Result.andThen, ByteArray.size, goInt]
theorem e_indexStr {T : TypeId} {x y : Operand} {s : List UInt8} {k : IntKind} {z : Int} {q : Nat} (hT : P.underlying T = some .string) (hx : ev n f x = strV s) (hy : ev n f y = .int k z) (hz : z = (q : Int)) (hq : q < s.length) :
    (execOp (ev n f) ⟨dst, .index T x y, ty, pos, aft, gd⟩).run P w = .ok (.value (.int .u8 ((s.getD q 0).toNat : Int))) w := by
  subst hz
  have := run_index_string (P := P) (w := w) T ⟨s.toArray⟩ k (q : Int) hT
  have hs : (⟨s.toArray⟩ : ByteArray).size = s.length := rfl
  rw [dif_pos ⟨by omega, by omega⟩] at this
  have he : ((⟨s.toArray⟩ : ByteArray)[((q : Int)).toNat]'(by omega)) = s.getD q 0 := by
    show s.toArray[q] = _
    simp [List.getD_eq_getElem?_getD, List.getElem?_eq_getElem hq]
  rw [he] at this
  simp only [execOp, hx, hy, strV]
  rw [Sem.run_bind, this]
  rfl
theorem e_sliceStrHi {T : TypeId} {x y : Operand} {s : List UInt8} {k : IntKind} {z : Int} {q : Nat} (hT : P.underlying T = some .string) (hx : ev n f x = strV s) (hy : ev n f y = .int k z) (hz : z = (q : Int)) (hq : q ≤ s.length) :
    (execOp (ev n f) ⟨dst, .slice T x none (some y) none, ty, pos, aft, gd⟩).run P w = .ok (.value (strV (s.take q))) w := by
  subst hz
  have := run_slice_string_to_if (P := P) (w := w) T ⟨s.toArray⟩ k (q : Int) hT
  simp only [execOp, Instr.sliceAt, Option.map, hx, hy, strV]
  have he : (⟨s.toArray⟩ : ByteArray).extract 0 q = ⟨(s.take q).toArray⟩ := by
    apply ByteArray.ext
    simp
  simp [run_underlying hT, this, Result.andThen, ByteArray.size, hq, he]
theorem e_neStr {T U : TypeId} {x y : Operand} (a b : List UInt8) (hx : ev n f x = strV a) (hy : ev n f y = strV b) :
    (execOp (ev n f) ⟨dst, .binOp .neq T x y U, ty, pos, aft, gd⟩).run P w = .ok (.value (.bool (!decide (a = b)))) w := by
  have : Op.stringOp .neq ⟨a.toArray⟩ ⟨b.toArray⟩ = pure (.bool (!decide (a = b))) := by
    simp only [Op.stringOp, ByteArray.toList_mk]
    congr 2
    rw [Bool.eq_iff_iff]; simp
  simp [execOp, hx, hy, strV, binOp, eqGuard, this]
end
end Go.Proofs.Ytoiplcicbjimlaa
