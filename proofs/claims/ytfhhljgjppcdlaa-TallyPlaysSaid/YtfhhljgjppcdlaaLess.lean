/- WHAT IS PROVED: which hash is less, as the program asks it. Conditions: stated with each. -/
import Derived.Test.YtfhhljgjppcdlaaSmall
namespace Go.Proofs.Ytfhhljgjppcdlaa
open Go.RowKit
def Hash.at (a : Hash) (i : Nat) : UInt8 := a.l.getD i 0
theorem Hash.ext_at {a b : Hash} (h : ∀ i, i < 32 → a.at i = b.at i) : a = b := by
  obtain ⟨a, ha⟩ := a
  obtain ⟨b, hb⟩ := b
  have : a = b := by
    refine List.ext_getElem (by rw [ha, hb]) fun i h1 h2 => ?_
    have := h i (by omega)
    simpa [Hash.at, List.getD, List.getElem?_eq_getElem h1, List.getElem?_eq_getElem h2] using this
  subst this; rfl
def LessH (a b : Hash) : Prop := ∃ i, i < 32 ∧ a.at i < b.at i ∧ ∀ j, j < i → a.at j = b.at j
def lessB (a b : Hash) : Bool := decide (Extern.BytealgCompare.cmp ⟨a.l.toArray⟩ ⟨b.l.toArray⟩ < 0)
theorem bang (l : List UInt8) (i : Nat) : (⟨l.toArray⟩ : ByteArray)[i]! = l.getD i 0 := by
  by_cases h : i < l.length
  · rw [getElem!_pos (⟨l.toArray⟩ : ByteArray) i (by simpa [ByteArray.size] using h)]
    simp [List.getD, List.getElem?_eq_getElem h]
    rfl
  · rw [getElem!_neg (⟨l.toArray⟩ : ByteArray) i (by simpa [ByteArray.size] using h)]
    simp [List.getD, List.getElem?_eq_none (Nat.le_of_not_lt h)]
    rfl
theorem lessB_iff (a b : Hash) : lessB a b = true ↔ LessH a b := by
  unfold lessB Extern.BytealgCompare.cmp LessH
  have sa : (⟨a.l.toArray⟩ : ByteArray).size = 32 := by simp [ByteArray.size, a.len]
  have sb : (⟨b.l.toArray⟩ : ByteArray).size = 32 := by simp [ByteArray.size, b.len]
  rw [sa, sb]
  simp only [bang, Nat.min_self]
  cases hf : (List.range 32).find? fun i => a.l.getD i 0 != b.l.getD i 0 with
  | none =>
    rw [List.find?_eq_none] at hf
    simp only [List.mem_range, bne_iff_ne, ne_eq, Decidable.not_not] at hf
    simp
    intro i hi hlt
    have := hf i hi
    simp only [Hash.at] at hlt
    rw [this] at hlt
    exact absurd hlt (by simp [UInt8.lt_irrefl])
  | some i =>
    rw [List.find?_range_eq_some] at hf
    obtain ⟨h1, h2, h3⟩ := hf
    simp only [List.mem_range] at h2
    simp only [bne_iff_ne, ne_eq] at h1
    simp only [Bool.not_eq_true', bne_eq_false_iff_eq] at h3
    by_cases hlt : a.l.getD i 0 < b.l.getD i 0
    · simp only [hlt, if_true]
      exact ⟨fun _ => ⟨i, h2, hlt, h3⟩, fun _ => by decide⟩
    · simp only [hlt, if_false]
      refine ⟨fun h => absurd h (by decide), ?_⟩
      rintro ⟨k, hk, hkl, hkj⟩
      exfalso
      rcases Nat.lt_trichotomy k i with h | h | h
      · have := h3 k h
        simp only [Hash.at] at hkl
        rw [this] at hkl
        exact absurd hkl (by simp [UInt8.lt_irrefl])
      · subst h; exact hlt hkl
      · exact h1 (hkj i h)
theorem LessH.trans {a b c : Hash} (h : LessH a b) (k : LessH b c) : LessH a c := by
  obtain ⟨i, hi, h1, h2⟩ := h
  obtain ⟨j, hj, k1, k2⟩ := k
  rcases Nat.lt_trichotomy i j with e | e | e
  · exact ⟨i, hi, by rw [← k2 i e]; exact h1, fun q hq => (h2 q hq).trans (k2 q (by omega))⟩
  · subst e; exact ⟨i, hi, UInt8.lt_trans h1 k1, fun q hq => (h2 q hq).trans (k2 q hq)⟩
  · exact ⟨j, hj, by rw [h2 j e]; exact k1, fun q hq => (h2 q (by omega)).trans (k2 q hq)⟩
theorem LessH.total {a b : Hash} (h : a ≠ b) : LessH a b ∨ LessH b a := by
  have hx : ∃ i, i < 32 ∧ a.at i ≠ b.at i := by
    refine Decidable.byContradiction fun hn => h (Hash.ext_at fun i hi => ?_)
    exact Decidable.byContradiction fun e => hn ⟨i, hi, e⟩
  obtain ⟨m, hm⟩ := hx
  obtain ⟨i, ⟨hi, hne⟩, hmin⟩ := least (p := fun i => i < 32 ∧ a.at i ≠ b.at i) m hm
  have hb : ∀ j, j < i → a.at j = b.at j := fun j hj => Decidable.byContradiction fun e => by have := hmin j ⟨by omega, e⟩; omega
  rcases Nat.lt_or_gt_of_ne (fun e => hne (UInt8.toNat_inj.1 e)) with h1 | h1
  · exact .inl ⟨i, hi, UInt8.lt_iff_toNat_lt.2 h1, hb⟩
  · exact .inr ⟨i, hi, UInt8.lt_iff_toNat_lt.2 h1, fun j hj => (hb j hj).symm⟩
theorem LessH.asymm {a b : Hash} (h : LessH a b) (k : LessH b a) : False := by
  obtain ⟨i, hi, h1, _⟩ := LessH.trans h k
  exact absurd h1 (by simp [UInt8.lt_irrefl])
/-! ### the call -/
section
variable {P : Program} {w : World}
theorem run_loadBytes (b : Nat) : ∀ (l : List UInt8) (o : Nat) (acc : ByteArray), (∀ i, i < l.length → w.cell? ⟨b, o + i, none⟩ = some (byteV (l.getD i 0))) → (Extern.Bytes.loadBytes ⟨b, o, none⟩ l.length acc).run P w = .ok ⟨(acc.data.toList ++ l).toArray⟩ w
  | [], o, acc, _ => by simp [Extern.Bytes.loadBytes]
  | x :: l, o, acc, h => by
    have h0 := h 0 (by simp)
    simp only [Nat.add_zero, List.getD_cons_zero] at h0
    have ih := run_loadBytes b l (o + 1) (acc.push x) (fun i hi => by
      have := h (i + 1) (by simpa using hi)
      simpa [Nat.add_assoc, Nat.add_comm 1 i] using this)
    have e : ((x.toNat : Int).toNat.toUInt8) = x := by simp
    simp only [Extern.Bytes.loadBytes, List.length_cons, Sem.run_bind, run_load, h0, Result.andThen, byteV, Addr.add_lit, e]
    rw [ih]
    simp [ByteArray.push]
theorem run_compare {b1 b2 : Nat} {T1 T2 : TypeId} (x y : Hash) (h1 : w.heap[b1]? = some (.cells ⟨hc x⟩ T1 (0, 0))) (h2 : w.heap[b2]? = some (.cells ⟨hc y⟩ T2 (0, 0))) :
    (Extern.BytealgCompare.compare #[.slice (some ⟨b1, 0, none⟩) 32 32, .slice (some ⟨b2, 0, none⟩) 32 32]).run P w = .ok (.int .i64 (Extern.BytealgCompare.cmp ⟨x.l.toArray⟩ ⟨y.l.toArray⟩)) w := by
  have cell : ∀ (b : Nat) (T : TypeId) (z : Hash), w.heap[b]? = some (.cells ⟨hc z⟩ T (0, 0)) → ∀ i, i < z.l.length → w.cell? ⟨b, 0 + i, none⟩ = some (byteV (z.l.getD i 0)) := fun b T z hz i hi => by
    rw [cell_of_heap hz, Nat.zero_add]
    have : i < 32 := by have := z.len; omega
    simp [hc, this]
  have e1 := run_loadBytes (P := P) b1 x.l 0 .empty (cell b1 T1 x h1)
  have e2 := run_loadBytes (P := P) b2 y.l 0 .empty (cell b2 T2 y h2)
  rw [x.len] at e1
  rw [y.len] at e2
  have ed : ∀ u v : Value, Extern.BytealgCompare.compare #[u, v] = (do pure (goInt (Extern.BytealgCompare.cmp (← Extern.Bytes.bytesOf u) (← Extern.Bytes.bytesOf v)))) := fun _ _ => rfl
  rw [ed]
  simp only [Extern.Bytes.bytesOf, Sem.run_bind, e1, e2, Result.andThen_ok, Sem.run_pure, goInt]
  rfl
end
section
variable {P : Program} {n : Nat} {f : Nat → Value} {w : World}
theorem e_extern {o : Oper} {F : FuncId} {args : Array Value} {v : Value} (hr : (execOp (ev n f) o).run P w = (callFunc F args).run P w) (hc : (callFunc F args).run P w = .ok (.value v) w) : (execOp (ev n f) o).run P w = .ok (.value v) w := hr.trans hc
end
theorem ext_compare {w : World} {b1 b2 : Nat} {T1 T2 : TypeId} (x y : Hash) (h1 : w.heap[b1]? = some (.cells ⟨hc x⟩ T1 (0, 0))) (h2 : w.heap[b2]? = some (.cells ⟨hc y⟩ T2 (0, 0))) :
    (callFunc 37 #[.slice (some ⟨b1, 0, none⟩) 32 32, .slice (some ⟨b2, 0, none⟩) 32 32]).run Try.prog w = .ok (.value (.int .i64 (Extern.BytealgCompare.cmp ⟨x.l.toArray⟩ ⟨y.l.toArray⟩))) w := by
  rw [run_callFunc_extern Try.func37 (by kernel_rfl) (by kernel_rfl) (by kernel_rfl) (e := Extern.BytealgCompare.compare) (by kernel_rfl), run_compare x y h1 h2]
  rfl
end Go.Proofs.Ytfhhljgjppcdlaa
