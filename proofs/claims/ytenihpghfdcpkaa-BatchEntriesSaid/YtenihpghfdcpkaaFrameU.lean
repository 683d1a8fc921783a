/- WHAT IS PROVED: how a law's arguments that are numbers without a sign, and lists of them, are opened. Conditions: stated with each. -/
import Derived.Test.YtenihpghfdcpkaaFrame
import Derived.Test.YtenihpghfdcpkaaListAt
import Derived.Test.YtenihpghfdcpkaaSortU
namespace Go.Proofs.Ytenihpghfdcpkaa
open Go.ChangeShapes Go.WideShapes Go.ChangeAt Go.RowKit Go.Deep
section
variable {H : Type} {enc : TypeId × Value → H} {P : Program} {W : World}
theorem wf_u64 {z : Int} (h : (Lit.int .u64 z).wf = true) : 0 ≤ z ∧ z ≤ 18446744073709551615 := by
  simpa [Lit.wf, IntKind.min, IntKind.max, IntKind.signed, IntKind.bits] using h
def CellU64 (w : World) (a : Addr) (x : Int) : Prop := w.cell? a = some (.int .u64 x)
/-- []uint64 -/
theorem open_u64s {t e : TypeId} (ht : P.underlying t = some (.slice e)) (he : P.underlying e = some (.int .u64)) (hc : P.cellsOf e = 1) {v : Value} {d : DataW H} {ps : List MemPlace} (hv : ∃ a len cap, v = .slice a len cap)
    (h : DataW.Trod enc P W 0 (fun _ => true) true t v d ps) : ∃ xs, (∀ x ∈ xs, 0 ≤ x ∧ x ≤ 18446744073709551615) ∧ ListAt encU 1 W v xs := by
  obtain ⟨xs, hx⟩ := open_sliceOf (R := fun w a x => CellU64 w a x ∧ 0 ≤ x ∧ x ≤ 18446744073709551615) ht hc (by omega) hv h (fun cs n y b off hl hcs hy => by
    obtain ⟨z, rfl, hz⟩ := trod_int_cell he hy
    exact ⟨z, hcs 0 (by simp), wf_u64 hz⟩)
  refine ⟨xs, fun n hn => ?_, SliceOf.imp hx fun a x h j u hj => ?_⟩
  · obtain ⟨i, hi, rfl⟩ := List.mem_iff_getElem.1 hn
    obtain ⟨b, off, cap, _, _, hall⟩ := hx.some (by omega)
    exact (hall i hi).2
  · match j, hj with
    | 0, hj =>
      simp only [encU, List.getElem?_cons_zero, Option.some.injEq] at hj
      subst hj
      have := h.1
      obtain ⟨b, o, s⟩ := a
      unfold CellU64 at this
      have e : (⟨b, o, s⟩ : Addr).add 0 = ⟨b, o, s⟩ := by cases s <;> simp [Addr.add]
      rw [e]; exact this
    | _ + 1, hj => simp [encU] at hj
end
end Go.Proofs.Ytenihpghfdcpkaa
