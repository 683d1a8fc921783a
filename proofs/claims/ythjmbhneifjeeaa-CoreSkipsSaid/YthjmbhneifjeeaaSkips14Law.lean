/- WHAT IS PROVED: CoreSkips answers true whatever its input, and its input reads as before: the given statement. No condition. -/
import Derived.Test.YthjmbhneifjeeaaSkips14
import Derived.Test.YthjmbhneifjeeaaSkips14M
import Derived.Test.YthjmbhneifjeeaaFrameHash
namespace Go.Proofs.Ythjmbhneifjeeaa
open Go.ChangeShapes Go.WideShapes Go.ChangeAt Go.RowKit
theorem skips14_all (f round kind : Int) (w : World) (va : Option Addr) (vc : Nat) (who : List Int) (hwho : IntsAt w (.slice va who.length vc) who) : Calls Try.prog 3 #[.int .i64 f, .int .i64 round, .slice va who.length vc, .int .i64 kind] w fun e w' => e = .returned (.bool true) ∧ Upd [] w w' := by
  have hw := within_lim f 3 (by omega)
  have hw2 := within_lim kind 2 (by omega)
  have hw20 := within_lim round 20 (by omega)
  obtain ⟨F, hF⟩ : ∃ F, F = 1 + withinV f 3 := ⟨_, rfl⟩
  obtain ⟨R, hR⟩ : ∃ R, R = 1 + withinV round 20 := ⟨_, rfl⟩
  obtain ⟨K, hK⟩ : ∃ K, K = 1 + withinV kind 2 := ⟨_, rfl⟩
  have hf : 1 ≤ F ∧ F ≤ 3 := by omega
  have C0 : CI (newD F 1 0 (3 * F + 1 - 1)) := CI.new (newOk14 hf)
  have hs : (startD (newD F 1 0 (3 * F + 1 - 1))).1 = tD1 F := by rw [tE2 hf.1]
  refine skips14_walk w f round kind F R K va vc who hwho hF hR hK hf _ (newOk14 hf) rfl C0 (fun k _ _ => ?_)
  rw [hs]
  obtain ⟨⟨h1, h2⟩, h3⟩ := SK.all hf (R := R) (by omega) (K := K) (by omega) who (k + 1)
  exact h1.ok h2 (by omega) (h3 (by omega))

set_option maxRecDepth 100000 in
theorem skips14_lifted (os : Os) (started : os.Started) (H : Type) (enc : TypeId × Value → H) :
    ReturnsInHanded {} Try.checked os 3 .any (Rows.coreSkipsSpec.pre6 enc Try.prog Try.f3 Rows.coreSkipsRow.domain false) (Rows.coreSkipsSpec.post enc Try.prog Try.f3 false true false false) := by
  refine returnsInHanded_of_change (C := Try.checked) (by kernel_rfl) started (by kernel_rfl) Try.func3
    (ChangeSpec.witness6 (enc := enc) (C := Try.checked) false ⟨#[], #[.int .i64 0, .int .i64 0, .slice none 0 0, .int .i64 0], []⟩ 8 (by kernel_rfl) (by kernel_rfl) (by kernel_rfl) (by kernel_rfl)) ?_
  intro W base args ds gs before hval0 hW _ _
  have hval : ∀ (j : Nat) t v, Try.f3.params[j]? = some t → args[j]? = some v → Value.okWide Try.prog W .any base t v := hval0
  clear hval0
  have hpost := fun (hs : _) {W' : World} (hb : Below W.heap.size W W') => law_post (P := Try.prog) (f := Try.f3) (s := Rows.coreSkipsSpec) (tb := 4) rfl (by kernel_rfl) Try.underlying4 (by kernel_rfl) (by kernel_rfl) hW hs hb
  obtain ⟨p, q, hA0, hV, _, _, _⟩ := hW
  obtain ⟨rfl, rfl⟩ := trodVars_none hV
  have hA : DataW.TrodAll enc Try.prog W 0 (fun _ => true) true Try.f3.params.toList args.toList ds p := hA0
  clear hA0
  rw [Try.params3] at hA hval
  obtain ⟨v0, vs0, d0, ds0, p0, q0, hargs, rfl, rfl, h0, r0⟩ := trodAll_cons hA
  obtain ⟨v1, vs1, d1, ds1, p1, q1, rfl, rfl, rfl, h1, r1⟩ := trodAll_cons r0
  obtain ⟨v2, vs2, d2, ds2, p2, q2, rfl, rfl, rfl, h2, r2⟩ := trodAll_cons r1
  obtain ⟨v3, vs3, d3, ds3, p3, q3, rfl, rfl, rfl, h3, r3⟩ := trodAll_cons r2
  obtain ⟨rfl, rfl, rfl⟩ := trodAll_nil r3
  obtain rfl : args = #[v0, v1, v2, v3] := by cases args; simp_all
  obtain ⟨f, rfl, rfl, rfl, w0⟩ := open_int Try.underlying3 (hval 0 3 v0 rfl rfl) h0
  obtain ⟨round, rfl, rfl, rfl, w1⟩ := open_int Try.underlying3 (hval 1 3 v1 rfl rfl) h1
  obtain ⟨who, hwho⟩ := open_i64s Try.underlying22 Try.underlying3 (by kernel_rfl) (okWide_slice Try.underlying22 (hval 2 22 v2 rfl rfl)) h2
  obtain ⟨kind, rfl, rfl, rfl, w3⟩ := open_int Try.underlying3 (hval 3 3 v3 rfl rfl) h3
  obtain ⟨awho, cwho, rfl⟩ := hwho.len
  refine (skips14_all f round kind W awho cwho who hwho).mono fun e W' ⟨he, hb⟩ => ?_
  subst he
  exact ⟨_, rfl, hpost ⟨rfl, rfl, rfl⟩ (hb.toBelow (by simp))⟩

theorem skips14_holds : Rows.CoreSkipsSaid :=
  OpenClaim.holds_of_wide 3 Try.f3 rfl rfl rfl rfl rfl rfl rfl ⟨rfl, rfl, rfl, rfl, rfl⟩ rfl rfl rfl rfl rfl (by kernel_rfl) Try.func3 (by kernel_rfl)
    (of_decide_eq_true (by kernel_rfl)) (by unfold Func.isWrapper; rw [if_neg (by decide +kernel)]; exact ⟨rfl, rfl⟩)
    (fun os started H enc _ => skips14_lifted os started H enc)
end Go.Proofs.Ythjmbhneifjeeaa
