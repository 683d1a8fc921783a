/- WHAT IS PROVED: CoreTimes answers true whatever its input, and its input reads as before: the given statement. No condition. -/
import Derived.Test.YthjmbhneifjeeaaTimes14
import Derived.Test.YthjmbhneifjeeaaTimes14M
import Derived.Test.YthjmbhneifjeeaaFrameHash
namespace Go.Proofs.Ythjmbhneifjeeaa
open Go.ChangeShapes Go.WideShapes Go.ChangeAt Go.RowKit
theorem times14_all (f round kind : Int) (w : World) : Calls Try.prog 9 #[.int .i64 f, .int .i64 round, .int .i64 kind] w fun e w' => e = .returned (.bool true) ∧ Upd [] w w' := by
  have hw := within_lim f 3 (by omega)
  obtain ⟨F, hF⟩ : ∃ F, F = 1 + withinV f 3 := ⟨_, rfl⟩
  have hf : 1 ≤ F ∧ F ≤ 3 := by omega
  have C0 : CI (newD F 1 0 (3 * F + 1 - 1)) := CI.new (newOk14 hf)
  have C1 : CI (tD1 F) := C0.to 0 (by omega)
  have C2 : CI (tD2 F) := C1.own 1 2 (by omega) _
  have C3 : CI (tD3 F) := C2.own 2 3 (by omega) _
  have C4 : CI (tD4 F) := C3.to 1 (by omega)
  exact times14_walk w f round kind F hF hf (newD F 1 0 (3 * F + 1 - 1)) (tD1 F) (tD2 F) (tD3 F) (tD4 F) _ (newOk14 hf) rfl C0 C1 C2 C3 C4 (tE1 F) (tE2 hf.1) tE3 ⟨rfl, rfl⟩ (tE4 hf.1) (tE5 hf.1) (tE6 hf.1) (tE7 hf.1) rfl (tE8 hf) ⟨rfl, rfl, rfl⟩

set_option maxRecDepth 100000 in
theorem times14_lifted (os : Os) (started : os.Started) (H : Type) (enc : TypeId × Value → H) :
    ReturnsInHanded {} Try.checked os 9 .any (Rows.coreTimesSpec.pre6 enc Try.prog Try.f9 Rows.coreTimesRow.domain false) (Rows.coreTimesSpec.post enc Try.prog Try.f9 false true false false) := by
  refine returnsInHanded_of_change (C := Try.checked) (by kernel_rfl) started (by kernel_rfl) Try.func9
    (ChangeSpec.witness6 (enc := enc) (C := Try.checked) false ⟨#[], #[.int .i64 0, .int .i64 0, .int .i64 0], []⟩ 8 (by kernel_rfl) (by kernel_rfl) (by kernel_rfl) (by kernel_rfl)) ?_
  intro W base args ds gs before hval0 hW _ _
  have hval : ∀ (j : Nat) t v, Try.f9.params[j]? = some t → args[j]? = some v → Value.okWide Try.prog W .any base t v := hval0
  clear hval0
  have hpost := fun (hs : _) {W' : World} (hb : Below W.heap.size W W') => law_post (P := Try.prog) (f := Try.f9) (s := Rows.coreTimesSpec) (tb := 4) rfl (by kernel_rfl) Try.underlying4 (by kernel_rfl) (by kernel_rfl) hW hs hb
  obtain ⟨p, q, hA0, hV, _, _, _⟩ := hW
  obtain ⟨rfl, rfl⟩ := trodVars_none hV
  have hA : DataW.TrodAll enc Try.prog W 0 (fun _ => true) true Try.f9.params.toList args.toList ds p := hA0
  clear hA0
  rw [Try.params9] at hA hval
  obtain ⟨v0, vs0, d0, ds0, p0, q0, hargs, rfl, rfl, h0, r0⟩ := trodAll_cons hA
  obtain ⟨v1, vs1, d1, ds1, p1, q1, rfl, rfl, rfl, h1, r1⟩ := trodAll_cons r0
  obtain ⟨v2, vs2, d2, ds2, p2, q2, rfl, rfl, rfl, h2, r2⟩ := trodAll_cons r1
  obtain ⟨rfl, rfl, rfl⟩ := trodAll_nil r2
  obtain rfl : args = #[v0, v1, v2] := by cases args; simp_all
  obtain ⟨f, rfl, rfl, rfl, w0⟩ := open_int Try.underlying3 (hval 0 3 v0 rfl rfl) h0
  obtain ⟨round, rfl, rfl, rfl, w1⟩ := open_int Try.underlying3 (hval 1 3 v1 rfl rfl) h1
  obtain ⟨kind, rfl, rfl, rfl, w2⟩ := open_int Try.underlying3 (hval 2 3 v2 rfl rfl) h2
  refine (times14_all f round kind W).mono fun e W' ⟨he, hb⟩ => ?_
  subst he
  exact ⟨_, rfl, hpost ⟨rfl, rfl, rfl⟩ (hb.toBelow (by simp))⟩

theorem times14_holds : Rows.CoreTimesSaid :=
  OpenClaim.holds_of_wide 9 Try.f9 rfl rfl rfl rfl rfl rfl rfl ⟨rfl, rfl, rfl, rfl, rfl⟩ rfl rfl rfl rfl rfl (by kernel_rfl) Try.func9 (by kernel_rfl)
    (of_decide_eq_true (by kernel_rfl)) (by unfold Func.isWrapper; rw [if_neg (by decide +kernel)]; exact ⟨rfl, rfl⟩)
    (fun os started H enc _ => times14_lifted os started H enc)
end Go.Proofs.Ythjmbhneifjeeaa
