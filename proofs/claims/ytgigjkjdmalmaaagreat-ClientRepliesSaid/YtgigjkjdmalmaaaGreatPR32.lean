/- WHAT IS PROVED: contracts and plain laws of FrameU, OpenC10, OpenJ. Conditions: stated with each. -/
import Derived.Test.YtgigjkjdmalmaaaGreatPR05
import Derived.Test.YtgigjkjdmalmaaaGreatPR12
import Derived.Test.YtgigjkjdmalmaaaGreatPR30
set_option maxHeartbeats 4000000
set_option maxRecDepth 100000
namespace Go.Proofs.YtgigjkjdmalmaaaGreat
open Go.ChangeShapes Go.WideShapes Go.ChangeAt Go.RowKit Go.Deep
section
variable {H : Type} {enc : TypeId × Value → H} {P : Program} {W : World}
end
section
variable {H : Type} {enc : TypeId × Value → H} {W : World}
end
section
variable {H : Type} {enc : TypeId × Value → H} {W : World}
theorem Z5P {a : Addr} {x : Value} (h : W.cell? a = some x) : Z1t W a [x] := fun j u hj => by
 match j, hj with
 | 0, hj =>
  simp only [List.getElem?_cons_zero, Option.some.injEq] at hj
  subst hj
  obtain ⟨b, o, s⟩ := a
  have e : (⟨b, o, s⟩ : Addr).add 0 = ⟨b, o, s⟩ := by cases s <;> simp [Addr.add]
  rw [e]; exact h
 | _ + 1, hj => simp at hj
theorem Z5u {v : Value} {d : DataW H} {ps : List MemPlace} (hv : ∃ a len cap, v = .slice a len cap) (h : DataW.Trod enc Tryz.prog W 0 (fun _ => true) true 22 v d ps) : ∃ xs, (∀ x ∈ xs, -9223372036854775808 ≤ x ∧ x ≤ 9223372036854775807) ∧ ListAt encJ 1 W v xs := by
 obtain ⟨xs, hx⟩ := Z3S (sz := 1) (R := fun w a (x : Int) => w.cell? a = some (.int .i64 x) ∧ -9223372036854775808 ≤ x ∧ x ≤ 9223372036854775807) Tryz.underlying22 (by kernel_rfl) (by omega) hv h (fun cs n y b off hl hcs hy => by
  obtain ⟨z, rfl, hz⟩ := Z3s (k := .i64) Tryz.underlying3 hy
  exact ⟨z, hcs 0 (by simp), wf_i64 hz⟩)
 refine ⟨xs, fun n hn => ?_, SliceOf.imp hx fun a x h => Z5P h.1⟩
 obtain ⟨i, hi, rfl⟩ := List.mem_iff_getElem.1 hn
 obtain ⟨b, off, cap, _, _, hall⟩ := hx.some (by omega)
 exact (hall i hi).2
end
end Go.Proofs.YtgigjkjdmalmaaaGreat
