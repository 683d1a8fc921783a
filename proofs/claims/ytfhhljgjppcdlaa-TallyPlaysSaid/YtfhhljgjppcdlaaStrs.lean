/- WHAT IS PROVED: hashes as texts, and which is less. Conditions: stated with each. -/
import Derived.Test.YtfhhljgjppcdlaaLists
import Derived.Test.YtfhhljgjppcdlaaLess
import Derived.Laws.IdiomStrings
namespace Go.Proofs.Ytfhhljgjppcdlaa
open Go.RowKit
def strH (h : Hash) : Value := .string ⟨h.l.toArray⟩
theorem bytesLess_iff : ∀ (a b : List UInt8), a.length = b.length → (Op.bytesLess a b = true ↔ ∃ i, i < a.length ∧ a.getD i 0 < b.getD i 0 ∧ ∀ j, j < i → a.getD j 0 = b.getD j 0)
  | [], [], _ => by simp [Op.bytesLess]
  | x :: a, y :: b, h => by
    have ih := bytesLess_iff a b (by simpa using h)
    simp only [Op.bytesLess, Bool.or_eq_true, Bool.and_eq_true, decide_eq_true_eq, beq_iff_eq, ih]
    constructor
    · rintro (h1 | ⟨rfl, i, h2, h3, h4⟩)
      · exact ⟨0, by simp, by simpa using h1, fun j hj => by omega⟩
      · refine ⟨i + 1, by simp; omega, by simpa using h3, fun j hj => ?_⟩
        cases j with
        | zero => rfl
        | succ j => simpa using h4 j (by omega)
    · rintro ⟨i, h2, h3, h4⟩
      cases i with
      | zero => exact .inl (by simpa using h3)
      | succ i => exact .inr ⟨by simpa using h4 0 (by omega), i, by simpa using h2, by simpa using h3, fun j hj => by simpa using h4 (j + 1) (by omega)⟩
theorem bytesLess_hash (a b : Hash) : Op.bytesLess a.l b.l = lessB a b := by
  have h1 := bytesLess_iff a.l b.l (by rw [a.len, b.len])
  have h2 := lessB_iff a b
  rw [a.len] at h1
  have h3 : Op.bytesLess a.l b.l = true ↔ lessB a b = true := h1.trans h2.symm
  cases hx : Op.bytesLess a.l b.l <;> cases hy : lessB a b <;> simp_all
section
variable {P : Program} {n : Nat} {f : Nat → Value} {w : World} {dst : Option Tmp} {ty : TypeId} {pos : String} {aft : Array Edge} {gd : Option (Nat × Bool)}
theorem e_convHash {S D e : TypeId} {x : Operand} {a : Addr} {c : Nat} (h : Hash) (hs : P.underlying S = some (.slice e)) (he : P.underlying e = some (.int .u8)) (hd : P.underlying D = some .string) (hx : ev n f x = .slice (some a) 32 c) (hr : RunAt w a (hc h)) :
    (execOp (ev n f) ⟨dst, .convert S D x, ty, pos, aft, gd⟩).run P w = .ok (.value (strH h)) w := by
  have := run_convert_bytes_back (P := P) w S D e a c h.l hs he hd (fun j hj => hr j _ (by rw [hc_eq, List.getElem?_map, List.getElem?_eq_getElem hj]; rfl))
  rw [h.len] at this
  simp [execOp, hx, this, Result.andThen, strH]
theorem e_lssStr {T U : TypeId} {x y : Operand} (a b : Hash) (hx : ev n f x = strH a) (hy : ev n f y = strH b) :
    (execOp (ev n f) ⟨dst, .binOp .lss T x y U, ty, pos, aft, gd⟩).run P w = .ok (.value (.bool (lessB a b))) w := by
  have hl : ∀ h : Hash, (⟨h.l.toArray⟩ : ByteArray).toList = h.l := fun h => by simp
  have : Op.stringOp .lss ⟨a.l.toArray⟩ ⟨b.l.toArray⟩ = pure (.bool (lessB a b)) := by
    simp only [Op.stringOp, hl, bytesLess_hash]
  simp [execOp, hx, hy, strH, binOp, eqGuard, this]
end
theorem cell_run {w : World} {b T o : Nat} {cs us : List Value} (h : (cellC b T cs).ok w) (hu : (cs.drop o).take us.length = us) : RunAt w ⟨b, o, none⟩ us := by
  intro j v hj
  rw [Addr.add_lit, cell_of_heap h]
  rw [← hu, List.getElem?_take] at hj
  split at hj
  · rw [List.getElem?_drop] at hj; simpa using hj
  · cases hj
end Go.Proofs.Ytfhhljgjppcdlaa
