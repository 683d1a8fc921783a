/- WHAT IS PROVED: CoreDoubles answers true whatever its input, and its input reads as before: the given statement. No condition. -/
import Derived.Test.YthjmbhneifjeeaaDoubles14
import Derived.Test.YthjmbhneifjeeaaInputCells14
namespace Go.Proofs.Ythjmbhneifjeeaa
open Go.ChangeShapes Go.WideShapes Go.ChangeAt Go.RowKit
theorem doubles14_all (f : Int) (w : World) (va : Option Addr) (vc : Nat) (ls : List InputD) (hls : InputsAt w (.slice va ls.length vc) ls) : Calls Try.prog 7 #[.int .i64 f, .slice va ls.length vc] w fun e w' => e = .returned (.bool true) ∧ Upd [] w w' := by
  have hw := within_lim f 2 (by omega)
  obtain ⟨F, hF⟩ : ∃ F, F = 1 + withinV f 2 := ⟨_, rfl⟩
  have hf : 1 ≤ F ∧ F ≤ 2 := by omega
  have hok : newOk F 1 0 0 = true := by simp [newOk, confB, inB]; omega
  exact doubles14_walk w f F va vc ls hls hF hf _ hok rfl (CI.new hok)

set_option maxRecDepth 100000 in
theorem doubles14_lifted (os : Os) (started : os.Started) (H : Type) (enc : TypeId × Value → H) :
    ReturnsInHanded {} Try.checked os 7 .any (Rows.coreDoublesSpec.pre6 enc Try.prog Try.f7 Rows.coreDoublesRow.domain false) (Rows.coreDoublesSpec.post enc Try.prog Try.f7 false true false false) := by
  refine returnsInHanded_of_change (C := Try.checked) (by kernel_rfl) started (by kernel_rfl) Try.func7
    (ChangeSpec.witness6 (enc := enc) (C := Try.checked) false ⟨#[], #[.int .i64 0, .slice none 0 0], []⟩ 8 (by kernel_rfl) (by kernel_rfl) (by kernel_rfl) (by kernel_rfl)) ?_
  intro W base args ds gs before hval0 hW _ _
  have hval : ∀ (j : Nat) t v, Try.f7.params[j]? = some t → args[j]? = some v → Value.okWide Try.prog W .any base t v := hval0
  clear hval0
  have hpost := fun (hs : _) {W' : World} (hb : Below W.heap.size W W') => law_post (P := Try.prog) (f := Try.f7) (s := Rows.coreDoublesSpec) (tb := 4) rfl (by kernel_rfl) Try.underlying4 (by kernel_rfl) (by kernel_rfl) hW hs hb
  obtain ⟨p, q, hA0, hV, _, _, _⟩ := hW
  obtain ⟨rfl, rfl⟩ := trodVars_none hV
  have hA : DataW.TrodAll enc Try.prog W 0 (fun _ => true) true Try.f7.params.toList args.toList ds p := hA0
  clear hA0
  rw [Try.params7] at hA hval
  obtain ⟨v0, vs0, d0, ds0, p0, q0, hargs, rfl, rfl, h0, r0⟩ := trodAll_cons hA
  obtain ⟨v1, vs1, d1, ds1, p1, q1, rfl, rfl, rfl, h1, r1⟩ := trodAll_cons r0
  obtain ⟨rfl, rfl, rfl⟩ := trodAll_nil r1
  obtain rfl : args = #[v0, v1] := by cases args; simp_all
  obtain ⟨f, rfl, rfl, rfl, w0⟩ := open_int Try.underlying3 (hval 0 3 v0 rfl rfl) h0
  obtain ⟨ls, hls⟩ := open_inputs (okWide_slice Try.underlying55 (hval 1 55 v1 rfl rfl)) h1
  obtain ⟨als, cls, rfl⟩ := SliceOf.len hls
  refine (doubles14_all f W als cls ls hls).mono fun e W' ⟨he, hb⟩ => ?_
  subst he
  exact ⟨_, rfl, hpost ⟨rfl, rfl, rfl⟩ (hb.toBelow (by simp))⟩

theorem doubles14_holds : Rows.CoreDoublesSaid :=
  OpenClaim.holds_of_wide 7 Try.f7 rfl rfl rfl rfl rfl rfl rfl ⟨rfl, rfl, rfl, rfl, rfl⟩ rfl rfl rfl rfl rfl (by kernel_rfl) Try.func7 (by kernel_rfl)
    (of_decide_eq_true (by kernel_rfl)) (by unfold Func.isWrapper; rw [if_neg (by decide +kernel)]; exact ⟨rfl, rfl⟩)
    (fun os started H enc _ => doubles14_lifted os started H enc)
end Go.Proofs.Ythjmbhneifjeeaa
