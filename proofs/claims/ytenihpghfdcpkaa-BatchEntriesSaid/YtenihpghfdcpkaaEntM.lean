/- WHAT IS PROVED: certificates and promises as things of lists; which entries a batch has, in plain words. Conditions: stated with each. -/
import Derived.Test.YtenihpghfdcpkaaTxtD
import Derived.Test.YtenihpghfdcpkaaObj
import Derived.Test.YtenihpghfdcpkaaStrB
import Derived.Test.YtenihpghfdcpkaaEntry
import Derived.Test.YtenihpghfdcpkaaBatD
import Derived.Test.YtenihpghfdcpkaaSort12
import Derived.Test.YtenihpghfdcpkaaTimeE
namespace Go.Proofs.Ytenihpghfdcpkaa
end Go.Proofs.Ytenihpghfdcpkaa
namespace Go.Proofs.Ytenihpghfdcpkaa
open Go.RowKit
def Hash.at (a : Hash) (i : Nat) : UInt8 := a.l.getD i 0
theorem Hash.ext_at {a b : Hash} (h : ∀ i, i < 32 → a.at i = b.at i) : a = b := by
  obtain ⟨a, ha⟩ := a
  obtain ⟨b, hb⟩ := b
  have : a = b := by
    refine List.ext_getElem (by rw [ha, hb]) fun i h1 h2 => ?_
    have := h i (by omega)
    simpa [Hash.at, List.getD, List.getElem?_eq_getElem h1, List.getElem?_eq_getElem h2] using this
  subst this; rfl
def LessH (a b : Hash) : Prop := ∃ i, i < 32 ∧ a.at i < b.at i ∧ ∀ j, j < i → a.at j = b.at j
def lessB (a b : Hash) : Bool := decide (Extern.BytealgCompare.cmp ⟨a.l.toArray⟩ ⟨b.l.toArray⟩ < 0)
theorem bang (l : List UInt8) (i : Nat) : (⟨l.toArray⟩ : ByteArray)[i]! = l.getD i 0 := by
  by_cases h : i < l.length
  · rw [getElem!_pos (⟨l.toArray⟩ : ByteArray) i (by simpa [ByteArray.size] using h)]
    simp [List.getD, List.getElem?_eq_getElem h]
    rfl
  · rw [getElem!_neg (⟨l.toArray⟩ : ByteArray) i (by simpa [ByteArray.size] using h)]
    simp [List.getD, List.getElem?_eq_none (Nat.le_of_not_lt h)]
    rfl
theorem lessB_iff (a b : Hash) : lessB a b = true ↔ LessH a b := by
  unfold lessB Extern.BytealgCompare.cmp LessH
  have sa : (⟨a.l.toArray⟩ : ByteArray).size = 32 := by simp [ByteArray.size, a.len]
  have sb : (⟨b.l.toArray⟩ : ByteArray).size = 32 := by simp [ByteArray.size, b.len]
  rw [sa, sb]
  simp only [bang, Nat.min_self]
  cases hf : (List.range 32).find? fun i => a.l.getD i 0 != b.l.getD i 0 with
  | none =>
    rw [List.find?_eq_none] at hf
    simp only [List.mem_range, bne_iff_ne, ne_eq, Decidable.not_not] at hf
    simp
    intro i hi hlt
    have := hf i hi
    simp only [Hash.at] at hlt
    rw [this] at hlt
    exact absurd hlt (by simp [UInt8.lt_irrefl])
  | some i =>
    rw [List.find?_range_eq_some] at hf
    obtain ⟨h1, h2, h3⟩ := hf
    simp only [List.mem_range] at h2
    simp only [bne_iff_ne, ne_eq] at h1
    simp only [Bool.not_eq_true', bne_eq_false_iff_eq] at h3
    by_cases hlt : a.l.getD i 0 < b.l.getD i 0
    · simp only [hlt, if_true]
      exact ⟨fun _ => ⟨i, h2, hlt, h3⟩, fun _ => by decide⟩
    · simp only [hlt, if_false]
      refine ⟨fun h => absurd h (by decide), ?_⟩
      rintro ⟨k, hk, hkl, hkj⟩
      exfalso
      rcases Nat.lt_trichotomy k i with h | h | h
      · have := h3 k h
        simp only [Hash.at] at hkl
        rw [this] at hkl
        exact absurd hkl (by simp [UInt8.lt_irrefl])
      · subst h; exact hlt hkl
      · exact h1 (hkj i h)
theorem LessH.trans {a b c : Hash} (h : LessH a b) (k : LessH b c) : LessH a c := by
  obtain ⟨i, hi, h1, h2⟩ := h
  obtain ⟨j, hj, k1, k2⟩ := k
  rcases Nat.lt_trichotomy i j with e | e | e
  · exact ⟨i, hi, by rw [← k2 i e]; exact h1, fun q hq => (h2 q hq).trans (k2 q (by omega))⟩
  · subst e; exact ⟨i, hi, UInt8.lt_trans h1 k1, fun q hq => (h2 q hq).trans (k2 q hq)⟩
  · exact ⟨j, hj, by rw [h2 j e]; exact k1, fun q hq => (h2 q (by omega)).trans (k2 q hq)⟩
theorem LessH.total {a b : Hash} (h : a ≠ b) : LessH a b ∨ LessH b a := by
  have hx : ∃ i, i < 32 ∧ a.at i ≠ b.at i := by
    refine Decidable.byContradiction fun hn => h (Hash.ext_at fun i hi => ?_)
    exact Decidable.byContradiction fun e => hn ⟨i, hi, e⟩
  obtain ⟨m, hm⟩ := hx
  obtain ⟨i, ⟨hi, hne⟩, hmin⟩ := least (p := fun i => i < 32 ∧ a.at i ≠ b.at i) m hm
  have hb : ∀ j, j < i → a.at j = b.at j := fun j hj => Decidable.byContradiction fun e => by have := hmin j ⟨by omega, e⟩; omega
  rcases Nat.lt_or_gt_of_ne (fun e => hne (UInt8.toNat_inj.1 e)) with h1 | h1
  · exact .inl ⟨i, hi, UInt8.lt_iff_toNat_lt.2 h1, hb⟩
  · exact .inr ⟨i, hi, UInt8.lt_iff_toNat_lt.2 h1, fun j hj => (hb j hj).symm⟩
theorem LessH.asymm {a b : Hash} (h : LessH a b) (k : LessH b a) : False := by
  obtain ⟨i, hi, h1, _⟩ := LessH.trans h k
  exact absurd h1 (by simp [UInt8.lt_irrefl])
/-! ### the call -/
section
variable {P : Program} {w : World}
theorem run_loadBytes (b : Nat) : ∀ (l : List UInt8) (o : Nat) (acc : ByteArray), (∀ i, i < l.length → w.cell? ⟨b, o + i, none⟩ = some (byteV (l.getD i 0))) → (Extern.Bytes.loadBytes ⟨b, o, none⟩ l.length acc).run P w = .ok ⟨(acc.data.toList ++ l).toArray⟩ w
  | [], o, acc, _ => by simp [Extern.Bytes.loadBytes]
  | x :: l, o, acc, h => by
    have h0 := h 0 (by simp)
    simp only [Nat.add_zero, List.getD_cons_zero] at h0
    have ih := run_loadBytes b l (o + 1) (acc.push x) (fun i hi => by
      have := h (i + 1) (by simpa using hi)
      simpa [Nat.add_assoc, Nat.add_comm 1 i] using this)
    have e : ((x.toNat : Int).toNat.toUInt8) = x := by simp
    simp only [Extern.Bytes.loadBytes, List.length_cons, Sem.run_bind, run_load, h0, Result.andThen, byteV, Addr.add_lit, e]
    rw [ih]
    simp [ByteArray.push]
theorem run_compare {b1 b2 : Nat} {T1 T2 : TypeId} (x y : Hash) (h1 : w.heap[b1]? = some (.cells ⟨hc x⟩ T1 (0, 0))) (h2 : w.heap[b2]? = some (.cells ⟨hc y⟩ T2 (0, 0))) :
    (Extern.BytealgCompare.compare #[.slice (some ⟨b1, 0, none⟩) 32 32, .slice (some ⟨b2, 0, none⟩) 32 32]).run P w = .ok (.int .i64 (Extern.BytealgCompare.cmp ⟨x.l.toArray⟩ ⟨y.l.toArray⟩)) w := by
  have cell : ∀ (b : Nat) (T : TypeId) (z : Hash), w.heap[b]? = some (.cells ⟨hc z⟩ T (0, 0)) → ∀ i, i < z.l.length → w.cell? ⟨b, 0 + i, none⟩ = some (byteV (z.l.getD i 0)) := fun b T z hz i hi => by
    rw [cell_of_heap hz, Nat.zero_add]
    have : i < 32 := by have := z.len; omega
    simp [hc, this]
  have e1 := run_loadBytes (P := P) b1 x.l 0 .empty (cell b1 T1 x h1)
  have e2 := run_loadBytes (P := P) b2 y.l 0 .empty (cell b2 T2 y h2)
  rw [x.len] at e1
  rw [y.len] at e2
  have ed : ∀ u v : Value, Extern.BytealgCompare.compare #[u, v] = (do pure (goInt (Extern.BytealgCompare.cmp (← Extern.Bytes.bytesOf u) (← Extern.Bytes.bytesOf v)))) := fun _ _ => rfl
  rw [ed]
  simp only [Extern.Bytes.bytesOf, Sem.run_bind, e1, e2, Result.andThen_ok, Sem.run_pure, goInt]
  rfl
end
section
variable {P : Program} {n : Nat} {f : Nat → Value} {w : World}
theorem e_extern {o : Oper} {F : FuncId} {args : Array Value} {v : Value} (hr : (execOp (ev n f) o).run P w = (callFunc F args).run P w) (hc : (callFunc F args).run P w = .ok (.value v) w) : (execOp (ev n f) o).run P w = .ok (.value v) w := hr.trans hc
end
theorem ext_compare {w : World} {b1 b2 : Nat} {T1 T2 : TypeId} (x y : Hash) (h1 : w.heap[b1]? = some (.cells ⟨hc x⟩ T1 (0, 0))) (h2 : w.heap[b2]? = some (.cells ⟨hc y⟩ T2 (0, 0))) :
    (callFunc 77 #[.slice (some ⟨b1, 0, none⟩) 32 32, .slice (some ⟨b2, 0, none⟩) 32 32]).run Try.prog w = .ok (.value (.int .i64 (Extern.BytealgCompare.cmp ⟨x.l.toArray⟩ ⟨y.l.toArray⟩))) w := by
  rw [run_callFunc_extern Try.func77 (by kernel_rfl) (by kernel_rfl) (by kernel_rfl) (e := Extern.BytealgCompare.compare) (by kernel_rfl), run_compare x y h1 h2]
  rfl
end Go.Proofs.Ytenihpghfdcpkaa
namespace Go.Proofs.Ytenihpghfdcpkaa
open Go.RowKit
theorem strV_inj {a b : List UInt8} (h : strV a = strV b) : a = b := by simpa [strV] using h
theorem str_eq (a b : List UInt8) : ((⟨a.toArray⟩ : ByteArray) = ⟨b.toArray⟩) ↔ a = b := by simp
theorem str_beq (a b : List UInt8) : ((⟨a.toArray⟩ : ByteArray) == ⟨b.toArray⟩) = decide (a = b) := by
  rw [bytes_beq, Bool.eq_iff_iff, decide_eq_true_eq, decide_eq_true_eq, str_eq]
theorem idx_beq {α : Type} (i1 i2 : BEq α) (h : ∀ a b, @BEq.beq α i1 a b = @BEq.beq α i2 a b) (a : α) (ks : List α) : @List.idxOf? α i1 a ks = @List.idxOf? α i2 a ks := by
  obtain ⟨f⟩ := i1
  obtain ⟨g⟩ := i2
  have : f = g := funext fun a => funext fun b => h a b
  rw [this]
theorem map_erase {α β : Type} (f : α → β) : ∀ (l : List α) (i : Nat), (l.eraseIdx i).map f = (l.map f).eraseIdx i
  | [], _ => rfl
  | _ :: _, 0 => rfl
  | x :: l, i + 1 => by simp [map_erase f l i]
theorem findNow_str (a : List UInt8) : ∀ (es : List MapEntry) (ks : List (List UInt8)) (n : Nat), es.map (·.key) = ks.map strV →
    Instr.findNow .string (strV a) es n = some ((ks.idxOf? a).bind fun i => (es[i]?).map fun e => (n + i, e.val)) := by
  intro es
  induction es with
  | nil => intro ks n h; cases ks <;> simp_all [Instr.findNow]
  | cons e es ih =>
    intro ks n h
    cases ks with
    | nil => simp at h
    | cons x ks =>
      simp only [List.map_cons, List.cons.injEq] at h
      obtain ⟨h1, h2⟩ := h
      by_cases hax : a = x
      · subst hax
        have hq := str_beq a a
        simp only [decide_true] at hq
        simp [Instr.findNow, h1, strV, Instr.sameNow, List.idxOf?_cons, hq]
      · have hx : (x == a) = false := by simp; exact fun h => hax h.symm
        have hx' : ((⟨a.toArray⟩ : ByteArray) == ⟨x.toArray⟩) = false := by rw [str_beq]; exact decide_eq_false hax
        simp only [Instr.findNow, h1, strV, Instr.sameNow, hx', ih ks (n + 1) h2, List.idxOf?_cons, hx, Bool.false_eq_true, if_false]
        cases hi : ks.idxOf? a with
        | none => simp
        | some i => simp [Nat.add_assoc, Nat.add_comm 1 i]
/-- texts as keys -/
theorem KeyTy.str {P : Program} {k : TypeId} (hk : P.underlying k = some .string) : KeyTy P k strV where
  check w em a := MapKept.run_checkKey (d := .string) hk (by simp [MapKept.IsKey]) em 9999
  find w a es ks h := by
    have hi := idx_beq (instBEqOfDecidableEq : BEq (List UInt8)) List.instBEq (fun a b => by rw [Bool.eq_iff_iff]; simp) a ks
    rw [hi]
    simp [Instr.findKey, run_underlying hk, findNow_str a es ks 0 h]
  same a := by
    have hq := str_beq a a
    simp only [decide_true] at hq
    simp [Instr.sameBits, hq]
/-- 'delete(m, a)' -/
def delM {κ ν : Type} [DecidableEq κ] (l : List (κ × ν)) (a : κ) : List (κ × ν) := match (l.map (·.1)).idxOf? a with | none => l | some i => l.eraseIdx i
section
variable {κ ν : Type} [DecidableEq κ] {encK : κ → Value} {encV : ν → Value} {P : Program} {k : TypeId} {w : World} {b : Nat} {l : List (κ × ν)}
theorem MapAt.delete (K : KeyTy P k encK) {t e ty : TypeId} (ht : P.underlying t = some (.map k e)) (h : MapAt w b encK encV l) (a : κ) :
    ∃ w', (Builtin.delete_ #[t, k] ty #[.map (some b), encK a]).run P w = .ok (.tuple #[]) w' ∧ MapAt w' b encK encV (delM l a) ∧ Upd [b] w w' := by
  obtain ⟨es, clock, hb, he, hn, hp, hc⟩ := h
  have hf := K.find w a es.toList _ (MapAt.keys he)
  have upd : ∀ o, Upd [b] w (ChangeMaps.setBlock w b o) := fun o => ⟨rfl, rfl, rfl, by simp [ChangeMaps.setBlock], fun j _ hj => ChangeMaps.heap_setBlock_other hb _ (by simpa using hj)⟩
  have hlen : es.toList.length = l.length := by have := congrArg List.length he; simpa using this
  unfold delM
  cases hi : (l.map (·.1)).idxOf? a with
  | none =>
    rw [hi] at hf
    refine ⟨ChangeMaps.setBlock w b (.map es clock), ?_, ⟨_, _, ChangeMaps.heap_setBlock_same hb _, he, hn, hp, hc⟩, upd _⟩
    simp [Builtin.delete_, run_underlying ht, MapKept.run_getObj_map hb, Result.andThen, K.check, hf, MapKept.run_setObj_map _ hb, ChangeMaps.setBlock]
  | some i =>
    rw [hi] at hf
    obtain ⟨h1, h2, _⟩ := List.idxOf?_eq_some_iff.1 hi
    have hlt : i < l.length := by simpa using h1
    have hli : i < es.toList.length := by omega
    simp only [Option.bind_some, List.getElem?_eq_getElem hli, Option.map_some] at hf
    have hes : (es.eraseIdxIfInBounds i).toList = es.toList.eraseIdx i := by
      rw [Array.eraseIdxIfInBounds_eq, dif_pos (by simpa using hli), Array.toList_eraseIdx]
    refine ⟨ChangeMaps.setBlock w b (.map (es.eraseIdxIfInBounds i) clock), ?_, ⟨_, _, ChangeMaps.heap_setBlock_same hb _, ?_, ?_, ?_, ?_⟩, upd _⟩
    · simp [Builtin.delete_, run_underlying ht, MapKept.run_getObj_map hb, Result.andThen, K.check, hf, MapKept.run_setObj_map _ hb, ChangeMaps.setBlock]
    · rw [hes, map_erase, map_erase, he]
    · rw [map_erase]; exact hn.sublist (List.eraseIdx_sublist _ _)
    · rw [hes, map_erase]; exact hp.sublist (List.eraseIdx_sublist _ _)
    · intro e0 he0
      rw [hes] at he0
      exact hc e0 (List.mem_of_mem_eraseIdx he0)
end
section
variable {P : Program} {Q : Exit → Act → World → Prop} {n : Nat} {f : Nat → Value} {w0 w : World} {G : List Ck} {dst : Option Tmp} {ty : TypeId} {pos : String} {aft : Array Edge} {gd : Option (Nat × Bool)} {K' : Act → World → Prop}
theorem d_delete {κ ν : Type} [DecidableEq κ] {encK : κ → Value} {encV : ν → Value} {T kt et : TypeId} {b d : Nat} {l : List (κ × ν)} {x y : Operand} (hd : dst = some d) (H : Sat w0 G w) (i : Nat) (hi : G[i]? = some (mapC b encK encV l)) (K : KeyTy P kt encK) (hT : P.underlying T = some (.map kt et)) (hx : ev n f x = .map (some b)) (a : κ) (hy : ev n f y = encK a)
    (k : ∀ w', Sat w0 (G.set i (mapC b encK encV (delM l a))) w' → K' (fr n (upd f d (.tuple #[]))) w') : WO P ⟨dst, .call { callee := .builtin .delete, args := #[x, y], argTypes := #[T, kt] }, ty, pos, aft, gd⟩ K' Q n f w := by
  obtain ⟨w', h1, h2, h3⟩ := (H.at i hi).delete (ty := ty) K hT a
  refine d_val hd (w' := w') ?_ (k w' (H.setU h3 i hi (by rintro b' hb; exact List.mem_singleton.1 hb) h2 (fun b hb => .inl hb)))
  simp [execOp, resolve, invoke, builtin, hx, hy, h1, Result.andThen]
theorem d_delete0 {κ ν : Type} [DecidableEq κ] {encK : κ → Value} {encV : ν → Value} {T kt et : TypeId} {b : Nat} {l : List (κ × ν)} {x y : Operand} (hd : dst = none) (H : Sat w0 G w) (i : Nat) (hi : G[i]? = some (mapC b encK encV l)) (K : KeyTy P kt encK) (hT : P.underlying T = some (.map kt et)) (hx : ev n f x = .map (some b)) (a : κ) (hy : ev n f y = encK a)
    (k : ∀ w', Sat w0 (G.set i (mapC b encK encV (delM l a))) w' → K' (fr n f) w') : WO P ⟨dst, .call { callee := .builtin .delete, args := #[x, y], argTypes := #[T, kt] }, ty, pos, aft, gd⟩ K' Q n f w := by
  obtain ⟨w', h1, h2, h3⟩ := (H.at i hi).delete (ty := ty) K hT a
  have hr : (execOp (ev n f) ⟨dst, .call { callee := .builtin .delete, args := #[x, y], argTypes := #[T, kt] }, ty, pos, aft, gd⟩).run P w = .ok (.value (.tuple #[])) w' := by
    simp [execOp, resolve, invoke, builtin, hx, hy, h1, Result.andThen]
  refine ⟨?_⟩
  unfold Oper.wp
  rw [fr_eval, hr]
  simp only [Oper.upon, hd, fr_putn]
  exact k w' (H.setU h3 i hi (by rintro b' hb; exact List.mem_singleton.1 hb) h2 (fun b hb => .inl hb))
theorem e_lenStr {T : TypeId} {x : Operand} {s : List UInt8} (hT : P.underlying T = some .string) (hx : ev n f x = strV s) :
    (execOp (ev n f) ⟨dst, .call { callee := .builtin .len, args := #[x], argTypes := #[T] }, ty, pos, aft, gd⟩).run P w = .ok (.value (.int .i64 (s.length : Int))) w := by
  have := run_len_string (P := P) (w := w) T ty ⟨s.toArray⟩ hT
  simp [execOp, resolve, invoke, builtin, hx, strV, this, Result.andThen, ByteArray.size, goInt]
theorem e_indexStr {T : TypeId} {x y : Operand} {s : List UInt8} {k : IntKind} {z : Int} {q : Nat} (hT : P.underlying T = some .string) (hx : ev n f x = strV s) (hy : ev n f y = .int k z) (hz : z = (q : Int)) (hq : q < s.length) :
    (execOp (ev n f) ⟨dst, .index T x y, ty, pos, aft, gd⟩).run P w = .ok (.value (.int .u8 ((s.getD q 0).toNat : Int))) w := by
  subst hz
  have := run_index_string (P := P) (w := w) T ⟨s.toArray⟩ k (q : Int) hT
  have hs : (⟨s.toArray⟩ : ByteArray).size = s.length := rfl
  rw [dif_pos ⟨by omega, by omega⟩] at this
  have he : ((⟨s.toArray⟩ : ByteArray)[((q : Int)).toNat]'(by omega)) = s.getD q 0 := by
    show s.toArray[q] = _
    simp [List.getD_eq_getElem?_getD, List.getElem?_eq_getElem hq]
  rw [he] at this
  simp only [execOp, hx, hy, strV]
  rw [Sem.run_bind, this]
  rfl
theorem e_sliceStrHi {T : TypeId} {x y : Operand} {s : List UInt8} {k : IntKind} {z : Int} {q : Nat} (hT : P.underlying T = some .string) (hx : ev n f x = strV s) (hy : ev n f y = .int k z) (hz : z = (q : Int)) (hq : q ≤ s.length) :
    (execOp (ev n f) ⟨dst, .slice T x none (some y) none, ty, pos, aft, gd⟩).run P w = .ok (.value (strV (s.take q))) w := by
  subst hz
  have := run_slice_string_to_if (P := P) (w := w) T ⟨s.toArray⟩ k (q : Int) hT
  simp only [execOp, Instr.sliceAt, Option.map, hx, hy, strV]
  have he : (⟨s.toArray⟩ : ByteArray).extract 0 q = ⟨(s.take q).toArray⟩ := by
    apply ByteArray.ext
    simp
  simp [run_underlying hT, this, Result.andThen, ByteArray.size, hq, he]
theorem e_neStr {T U : TypeId} {x y : Operand} (a b : List UInt8) (hx : ev n f x = strV a) (hy : ev n f y = strV b) :
    (execOp (ev n f) ⟨dst, .binOp .neq T x y U, ty, pos, aft, gd⟩).run P w = .ok (.value (.bool (!decide (a = b)))) w := by
  have : Op.stringOp .neq ⟨a.toArray⟩ ⟨b.toArray⟩ = pure (.bool (!decide (a = b))) := by
    simp only [Op.stringOp, ByteArray.toList_mk]
    congr 2
    rw [Bool.eq_iff_iff]; simp
  simp [execOp, hx, hy, strV, binOp, eqGuard, this]
end
end Go.Proofs.Ytenihpghfdcpkaa
namespace Go.Proofs.Ytenihpghfdcpkaa
open Go.RowKit
/-- a certificate, as a thing of a list; its stamps -/
structure CeR where
  x : CommitD
  sa : Option Addr
  sc : Nat
  S : List StampD
def encCe (c : CeR) : List Value := encCo c.x ++ [.slice c.sa c.S.length c.sc]
theorem encCe_len (c : CeR) : (encCe c).length = 38 := by simp [encCe, encCo, hc_len]
theorem encCe_one (c : CeR) : (encCe c).all (·.oneCell') = true := by
  simp only [encCe, encCo, List.all_append, hc_eq]
  simp [Value.oneCell', byteV]
def ce0 : CeR := ⟨⟨0, 0, hash0, 0, 0, 0⟩, none, 0, []⟩
structure PrR where
  r : Int
  e : Int
  f : Int
  ca : Option Addr
  cc : Nat
  sb : Int
  sm : Int
  C : List CeR
def encPr (p : PrR) : List Value := [.int .i64 p.r, .int .i64 p.e, .int .u64 p.f, .slice p.ca p.C.length p.cc, .int .i64 p.sb, .int .i64 p.sm]
theorem encPr_len (p : PrR) : (encPr p).length = 6 := rfl
theorem encPr_one (p : PrR) : (encPr p).all (·.oneCell') = true := rfl
def pr0 : PrR := ⟨0, 0, 0, none, 0, 0, 0, []⟩
def CeOk (w : World) (c : CeR) : Prop := ListAt encSt 38 w (.slice c.sa c.S.length c.sc) c.S
def PrOk (w : World) (p : PrR) : Prop := ListAt encCe 38 w (.slice p.ca p.C.length p.cc) p.C ∧ ∀ c ∈ p.C, CeOk w c
def SmallN (x : NmD) : Prop := (0 ≤ x.cl ∧ x.cl < 3) ∧ 1 ≤ x.sq ∧ x.sq ≤ 4
/-- certificates as the statements hand them on -/
def CeSm (c : CeR) : Prop := SmallN ⟨c.x.cl, c.x.seq⟩ ∧ c.S.length ≤ 12 ∧ StsOk c.S
noncomputable def entOf (c : CeR) : EntD := ⟨c.x.cl, c.x.seq, c.x.h, timeD c.S⟩
def nmOf (e : EntD) : NmD := ⟨e.cl, e.sq⟩
def aheadE (a b : EntD) : Bool := decide (a.t < b.t) || (decide (a.t = b.t) && lessB a.h b.h)
abbrev EMap := List (NmD × EntD)
def skipE (last tm : Int) (lg : NmD → Bool) (e : EntD) : Bool := decide (e.t ≤ last) || decide (e.t > tm) || lg (nmOf e)
def stepE (last tm : Int) (lg : NmD → Bool) (M : EMap) (e : EntD) : EMap :=
  if skipE last tm lg e = true then M else match lookM M (nmOf e) with
    | none => putM M (nmOf e) e
    | some was => if aheadE e was = true then putM M (nmOf e) e else M
noncomputable def runE (last tm : Int) (lg : NmD → Bool) (L : List CeR) : EMap := L.foldl (fun M c => stepE last tm lg M (entOf c)) []
section
variable {last tm : Int} {lg : NmD → Bool} {M : EMap} {e : EntD} {L : List CeR} {c : CeR}
theorem runE_nil : runE last tm lg [] = [] := rfl
theorem runE_app (L : List CeR) (c : CeR) : runE last tm lg (L ++ [c]) = stepE last tm lg (runE last tm lg L) (entOf c) := by simp [runE, List.foldl_append]
theorem stepE_skip (h : skipE last tm lg e = true) : stepE last tm lg M e = M := by unfold stepE; rw [if_pos h]
theorem stepE_new (h : skipE last tm lg e = false) (h2 : lookM M (nmOf e) = none) : stepE last tm lg M e = putM M (nmOf e) e := by unfold stepE; rw [if_neg (by rw [h]; decide), h2]
theorem stepE_old {was : EntD} (h : skipE last tm lg e = false) (h2 : lookM M (nmOf e) = some was) : stepE last tm lg M e = if aheadE e was = true then putM M (nmOf e) e else M := by unfold stepE; rw [if_neg (by rw [h]; decide), h2]
/-- entries by their names, each once -/
structure EOk (M : EMap) : Prop where
  nd : (M.map (·.1)).Nodup
  nm : ∀ x ∈ M, x.1 = nmOf x.2
  sm : ∀ x ∈ M, SmallN x.1
end
section
variable {κ ν : Type} [DecidableEq κ] {l : List (κ × ν)} {a : κ} {v : ν}
theorem mem_putE {y : κ × ν} (h : y ∈ putM l a v) : y = (a, v) ∨ y ∈ l := by
  unfold putM at h
  split at h
  · obtain ⟨z, hz, e⟩ := List.mem_map.1 h
    split at e
    · exact .inl e.symm
    · exact .inr (e ▸ hz)
  · rcases List.mem_append.1 h with h | h
    · exact .inr h
    · exact .inl (List.mem_singleton.1 h)
theorem mem_lookE {x : ν} (h : lookM l a = some x) : (a, x) ∈ l := by
  unfold lookM at h
  obtain ⟨y, hy, rfl⟩ := Option.map_eq_some_iff.1 h
  have h1 := List.find?_some hy
  have h2 := List.mem_of_find?_eq_some hy
  have h3 : y.1 = a := by simpa using h1
  rw [← h3]; exact h2
theorem look_noneE : lookM l a = none ↔ a ∉ l.map (·.1) := by
  unfold lookM
  rw [Option.map_eq_none_iff, List.find?_eq_none]
  constructor
  · intro h hm
    obtain ⟨y, hy, rfl⟩ := List.mem_map.1 hm
    exact h y hy (by simp)
  · intro h y hy he
    have h3 : y.1 = a := by simpa using he
    exact h (h3 ▸ List.mem_map_of_mem hy)
theorem keys_putE : (putM l a v).map (·.1) = if a ∈ l.map (·.1) then l.map (·.1) else l.map (·.1) ++ [a] := by
  unfold putM
  split
  · rw [List.map_map]
    refine List.map_congr_left fun y _ => ?_
    show (if y.1 = a then (a, v) else y).1 = y.1
    split
    · rename_i e; exact e.symm
    · rfl
  · simp
end
theorem nodup_below : ∀ (n : Nat) (l : List Nat), l.Nodup → (∀ x ∈ l, x < n) → l.length ≤ n
  | 0, l, _, h => by
    cases l with
    | nil => simp
    | cons x l => exact absurd (h x (by simp)) (Nat.not_lt_zero _)
  | n + 1, l, hn, h => by
    have ih := nodup_below n (l.erase n) (hn.erase n) fun x hx => by
      have h1 := (List.Nodup.mem_erase_iff hn).1 hx
      have h2 := h x h1.2
      have := h1.1
      omega
    by_cases hm : n ∈ l
    · have := List.length_erase_of_mem hm; omega
    · rw [List.erase_of_not_mem hm] at ih; omega
section
variable {last tm : Int} {lg : NmD → Bool} {M : EMap} {e : EntD} {L : List CeR} {c : CeR}
theorem EOk.nil : EOk [] := ⟨List.nodup_nil, by simp, by simp⟩
theorem EOk.put (h : EOk M) (hs : SmallN (nmOf e)) : EOk (putM M (nmOf e) e) := by
  refine ⟨?_, fun x hx => ?_, fun x hx => ?_⟩
  · rw [keys_putE]
    split
    · exact h.nd
    · rename_i q
      rw [List.nodup_append]
      exact ⟨h.nd, by simp, fun a ha b hb e => by rw [List.mem_singleton.1 hb] at e; exact q (e ▸ ha)⟩
  · rcases mem_putE hx with rfl | hx
    · rfl
    · exact h.nm x hx
  · rcases mem_putE hx with rfl | hx
    · exact hs
    · exact h.sm x hx
theorem EOk.step (h : EOk M) (hs : SmallN (nmOf e)) : EOk (stepE last tm lg M e) := by
  unfold stepE
  split
  · exact h
  · split
    · exact h.put hs
    · split
      · exact h.put hs
      · exact h
theorem runE_ok (h : ∀ c ∈ L, CeSm c) : EOk (runE last tm lg L) := by
  have key : ∀ (L : List CeR) (M : EMap), EOk M → (∀ c ∈ L, CeSm c) → EOk (L.foldl (fun M c => stepE last tm lg M (entOf c)) M) := by
    intro L
    induction L with
    | nil => intro M hM _; exact hM
    | cons c L ih => intro M hM hc; exact ih _ (hM.step (hc c (by simp)).1) fun d hd => hc d (by simp [hd])
  exact key L [] EOk.nil h
theorem EOk.len (h : EOk M) : M.length ≤ 12 := by
  have hm := nodup_below 12 ((M.map (·.1)).map fun x => (x.cl * 4 + (x.sq - 1)).toNat) ?_ ?_
  · simpa using hm
  · rw [List.Nodup, List.pairwise_map]
    refine List.Pairwise.imp_of_mem ?_ h.nd
    intro a b ha hb hne e
    obtain ⟨x, hx, rfl⟩ := List.mem_map.1 ha
    obtain ⟨y, hy, rfl⟩ := List.mem_map.1 hb
    have hx' := h.sm x hx
    have hy' := h.sm y hy
    unfold SmallN at hx' hy'
    apply hne
    have h1 : x.1.cl = y.1.cl := by omega
    have h2 : x.1.sq = y.1.sq := by omega
    cases hx1 : x.1; cases hy1 : y.1
    simp_all
  · intro z hz
    obtain ⟨a, ha, rfl⟩ := List.mem_map.1 hz
    obtain ⟨x, hx, rfl⟩ := List.mem_map.1 ha
    have := h.sm x hx
    unfold SmallN at this
    omega
theorem ltEn_total {a b : EntD} (h1 : ¬ ltEn a b) (h2 : ¬ ltEn b a) : a.t = b.t ∧ nmOf a = nmOf b := by
  unfold ltEn at h1 h2
  refine ⟨by omega, ?_⟩
  have e1 : a.cl = b.cl := by omega
  have e2 : a.sq = b.sq := by omega
  unfold nmOf; rw [e1, e2]
theorem sorted_unique : ∀ {A B : List EntD}, A.Perm B → A.Pairwise (fun a b => ¬ ltEn b a) → B.Pairwise (fun a b => ¬ ltEn b a) → (∀ a ∈ A, ∀ b ∈ A, nmOf a = nmOf b → a = b) → A = B
  | [], B, hp, _, _, _ => (List.nil_perm.1 hp).symm ▸ rfl
  | a :: A, [], hp, _, _, _ => by have := hp.length_eq; simp at this
  | a :: A, b :: B, hp, hA, hB, hn => by
    have hb : b ∈ a :: A := hp.symm.subset (by simp)
    have ha : a ∈ b :: B := hp.subset (by simp)
    have hA' := List.pairwise_cons.1 hA
    have hB' := List.pairwise_cons.1 hB
    have e : a = b := by
      rcases List.mem_cons.1 hb with q | q
      · exact q.symm
      · rcases List.mem_cons.1 ha with r | r
        · exact r
        · exact hn a (by simp) b hb (ltEn_total (hB'.1 a r) (hA'.1 b q)).2
    subst e
    rw [sorted_unique (List.Perm.cons_inv hp) hA'.2 hB'.2 fun x hx y hy => hn x (by simp [hx]) y (by simp [hy])]
theorem EOk.inj (h : EOk M) : ∀ a ∈ M.map (·.2), ∀ b ∈ M.map (·.2), nmOf a = nmOf b → a = b := fun a ha b hb e => by
  obtain ⟨x, hx, rfl⟩ := List.mem_map.1 ha
  obtain ⟨y, hy, rfl⟩ := List.mem_map.1 hb
  have e2 : x.1 = y.1 := by rw [h.nm x hx, h.nm y hy, e]
  obtain ⟨i, hi, hxi⟩ := List.mem_iff_getElem.1 hx
  obtain ⟨j, hj, hyj⟩ := List.mem_iff_getElem.1 hy
  have key : i = j := by
    have hp := List.pairwise_iff_getElem.1 h.nd
    rcases Nat.lt_trichotomy i j with q | q | q
    · exact absurd (by rw [List.getElem_map, List.getElem_map, hxi, hyj, e2]) (hp i j (by simpa using hi) (by simpa using hj) q)
    · exact q
    · exact absurd (by rw [List.getElem_map, List.getElem_map, hxi, hyj, e2]) (hp j i (by simpa using hj) (by simpa using hi) q)
  subst key
  rw [← hxi, ← hyj]
end
section
variable {last tm : Int} {lg : NmD → Bool} {M M' : EMap} {A C : List CeR} {P : List PrR} {i k : Nat} {w : World}
theorem take_succ_C (h : k < C.length) : C.take (k + 1) = C.take k ++ [C.getD k ce0] := by
  rw [List.take_add_one, List.getElem?_eq_getElem h, List.getD_eq_getElem?_getD, List.getElem?_eq_getElem h]; rfl
theorem runE_more (hM : M = runE last tm lg (A ++ C.take k)) (hk : k < C.length) (hs : stepE last tm lg M (entOf (C.getD k ce0)) = M') : M' = runE last tm lg (A ++ C.take (k + 1)) := by
  rw [take_succ_C hk, ← List.append_assoc, runE_app, ← hM, hs]
theorem pre_succ (h : i < P.length) : (P.take (i + 1)).flatMap (·.C) = (P.take i).flatMap (·.C) ++ (P.getD i pr0).C := by
  have e : P.take (i + 1) = P.take i ++ [P.getD i pr0] := by
    rw [List.take_add_one, List.getElem?_eq_getElem h, List.getD_eq_getElem?_getD, List.getElem?_eq_getElem h]; rfl
  rw [e, List.flatMap_append]; simp only [List.flatMap_cons, List.flatMap_nil, List.append_nil]
theorem getD_memC (h : k < C.length) : C.getD k ce0 ∈ C := by
  rw [List.getD_eq_getElem?_getD, List.getElem?_eq_getElem h]; exact List.getElem_mem h
theorem getD_memP (h : i < P.length) : P.getD i pr0 ∈ P := by
  rw [List.getD_eq_getElem?_getD, List.getElem?_eq_getElem h]; exact List.getElem_mem h
theorem ceOk_at (hPo : ∀ i, i < P.length → PrOk w (P.getD i pr0)) (hi : i < P.length) (hk : k < (P.getD i pr0).C.length) : CeOk w ((P.getD i pr0).C.getD k ce0) := (hPo i hi).2 _ (getD_memC hk)
def PSm (P : List PrR) : Prop := ∀ p ∈ P, ∀ c ∈ p.C, CeSm c
theorem PSm.at (h : PSm P) (hi : i < P.length) (hk : k < (P.getD i pr0).C.length) : CeSm ((P.getD i pr0).C.getD k ce0) := h _ (getD_memP hi) _ (getD_memC hk)
theorem PSm.all (h : PSm P) : ∀ c ∈ P.flatMap (·.C), CeSm c := fun c hc => by
  obtain ⟨p, hp, hc⟩ := List.mem_flatMap.1 hc
  exact h p hp c hc
def lgM (LM : List (NmD × Bool)) (n : NmD) : Bool := (lookM LM n).getD false
variable {LM : List (NmD × Bool)} {lg : NmD → Bool} {c : CeR} {v : EntD}
theorem skip1 (h : decide (timeD c.S ≤ last) = true) : skipE last tm lg (entOf c) = true := by
  show (decide (timeD c.S ≤ last) || decide (timeD c.S > tm) || lg ⟨c.x.cl, c.x.seq⟩) = true
  rw [h]; rfl
theorem skip2 (h : decide (timeD c.S > tm) = true) : skipE last tm lg (entOf c) = true := by
  show (decide (timeD c.S ≤ last) || decide (timeD c.S > tm) || lg ⟨c.x.cl, c.x.seq⟩) = true
  rw [h]; simp
theorem skip3 (hlg : lg = lgM LM) (h : (lookM LM (⟨c.x.cl, c.x.seq⟩ : NmD)).getD false = true) : skipE last tm lg (entOf c) = true := by
  show (decide (timeD c.S ≤ last) || decide (timeD c.S > tm) || lg ⟨c.x.cl, c.x.seq⟩) = true
  rw [show lg ⟨c.x.cl, c.x.seq⟩ = true from (by rw [hlg]; exact h)]; simp
theorem skip0 (hlg : lg = lgM LM) (h1 : decide (timeD c.S ≤ last) = false) (h2 : decide (timeD c.S > tm) = false) (h : (lookM LM (⟨c.x.cl, c.x.seq⟩ : NmD)).getD false = false) : skipE last tm lg (entOf c) = false := by
  show (decide (timeD c.S ≤ last) || decide (timeD c.S > tm) || lg ⟨c.x.cl, c.x.seq⟩) = false
  rw [show lg ⟨c.x.cl, c.x.seq⟩ = false from (by rw [hlg]; exact h), h1, h2]; rfl
theorem some_of (h : (lookM M (⟨c.x.cl, c.x.seq⟩ : NmD)).isSome = true) : ∃ v, lookM M (⟨c.x.cl, c.x.seq⟩ : NmD) = some v := Option.isSome_iff_exists.1 h
theorem none_of (h : (lookM M (⟨c.x.cl, c.x.seq⟩ : NmD)).isSome = false) : lookM M (nmOf (entOf c)) = none := by
  show lookM M (⟨c.x.cl, c.x.seq⟩ : NmD) = none
  cases hq : lookM M (⟨c.x.cl, c.x.seq⟩ : NmD) with
  | none => rfl
  | some v => rw [hq] at h; simp at h
theorem step_yes (hs : skipE last tm lg (entOf c) = false) (h : (lookM M (⟨c.x.cl, c.x.seq⟩ : NmD)).isSome = true) (ha : aheadE (entOf c) ((lookM M (⟨c.x.cl, c.x.seq⟩ : NmD)).getD ent0) = true) : stepE last tm lg M (entOf c) = putM M (nmOf (entOf c)) (entOf c) := by
  obtain ⟨v, hv⟩ := some_of h
  rw [hv] at ha; change aheadE (entOf c) v = _ at ha
  rw [stepE_old (was := v) hs hv, if_pos ha]
theorem step_no (hs : skipE last tm lg (entOf c) = false) (h : (lookM M (⟨c.x.cl, c.x.seq⟩ : NmD)).isSome = true) (ha : aheadE (entOf c) ((lookM M (⟨c.x.cl, c.x.seq⟩ : NmD)).getD ent0) = false) : stepE last tm lg M (entOf c) = M := by
  obtain ⟨v, hv⟩ := some_of h
  rw [hv] at ha; change aheadE (entOf c) v = _ at ha
  rw [stepE_old (was := v) hs hv, if_neg (by rw [show aheadE (entOf c) v = false from ha]; decide)]
end
end Go.Proofs.Ytenihpghfdcpkaa
