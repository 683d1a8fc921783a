/- WHAT IS PROVED: CoreDecides answers true whatever its input, and its input reads as before: the given statement. No condition. -/
import Derived.Test.YthjmbhneifjeeaaDecides14
import Derived.Test.YthjmbhneifjeeaaDecides14M
import Derived.Test.YthjmbhneifjeeaaFrameHash
namespace Go.Proofs.Ythjmbhneifjeeaa
open Go.ChangeShapes Go.WideShapes Go.ChangeAt Go.RowKit
theorem decides14_all (f round missing : Int) (h : Hash) (ok first : Bool) (w : World) : Calls Try.prog 6 #[.int .i64 f, .int .i64 round, .agg ⟨hc h⟩, .bool ok, .bool first, .int .i64 missing] w fun e w' => e = .returned (.bool true) ∧ Upd [] w w' := by
  have hw := within_lim f 3 (by omega)
  have hw2 := within_lim missing 2 (by omega)
  have hw9 := within_lim round 9 (by omega)
  obtain ⟨F, hF⟩ : ∃ F, F = 1 + withinV f 3 := ⟨_, rfl⟩
  have hf : 1 ≤ F ∧ F ≤ 3 := by omega
  have hR : 0 ≤ withinV round 9 ∧ withinV round 9 ≤ 1048576 := by omega
  obtain ⟨x, hx⟩ : ∃ x, fixH h 1 = x := ⟨_, rfl⟩
  have hx0 : x ≠ hash0 := hx ▸ fixH_ne h 1 (by decide)
  obtain ⟨N, hN⟩ : ∃ N : Nat, (N : Int) = 2 * F + 1 - withinV missing 2 := ⟨(2 * F + 1 - withinV missing 2).toNat, by omega⟩
  obtain ⟨want, hwant⟩ : ∃ want, want = (ok && decide (withinV missing 2 = 0)) := ⟨_, rfl⟩
  have hw' : want = (ok && decide (2 * F + 1 ≤ (N : Int))) := by
    rw [hwant]; congr 1; rw [Bool.eq_iff_iff]; simp only [decide_eq_true_eq]; omega
  have C0 : CI (newD F 1 0 (3 * F + 1 - 1)) := CI.new (newOk14 hf)
  have s0 := DKs.start (R := withinV round 9) (x := x) (ok := ok) hf
  have A := ((s0.propose hf.1 hR hx0).votes hf.1 hR N (by omega)).fin hw'
  have Bv := s0.votes hf.1 hR N (by omega)
  have B := (Bv.propose hf.1 hR hx0).fin hw'
  exact decides14_walk w f round missing F h x ok first want N hx hF hf _ (newOk14 hf) rfl C0 hN hwant A.1 A.2.1 A.2.2 B.1 B.2.1 B.2.2 (by rw [Bv.d]; rfl)

set_option maxRecDepth 100000 in
theorem decides14_lifted (os : Os) (started : os.Started) (H : Type) (enc : TypeId × Value → H) :
    ReturnsInHanded {} Try.checked os 6 .any (Rows.coreDecidesSpec.pre6 enc Try.prog Try.f6 Rows.coreDecidesRow.domain false) (Rows.coreDecidesSpec.post enc Try.prog Try.f6 false true false false) := by
  refine returnsInHanded_of_change (C := Try.checked) (by kernel_rfl) started (by kernel_rfl) Try.func6
    (ChangeSpec.witness6 (enc := enc) (C := Try.checked) false ⟨#[], #[.int .i64 0, .int .i64 0, .agg ⟨hc hash0⟩, .bool false, .bool false, .int .i64 0], []⟩ 8 (by kernel_rfl) (by kernel_rfl) (by kernel_rfl) (by kernel_rfl)) ?_
  intro W base args ds gs before hval0 hW _ _
  have hval : ∀ (j : Nat) t v, Try.f6.params[j]? = some t → args[j]? = some v → Value.okWide Try.prog W .any base t v := hval0
  clear hval0
  have hpost := fun (hs : _) {W' : World} (hb : Below W.heap.size W W') => law_post (P := Try.prog) (f := Try.f6) (s := Rows.coreDecidesSpec) (tb := 4) rfl (by kernel_rfl) Try.underlying4 (by kernel_rfl) (by kernel_rfl) hW hs hb
  obtain ⟨p, q, hA0, hV, _, _, _⟩ := hW
  obtain ⟨rfl, rfl⟩ := trodVars_none hV
  have hA : DataW.TrodAll enc Try.prog W 0 (fun _ => true) true Try.f6.params.toList args.toList ds p := hA0
  clear hA0
  rw [Try.params6] at hA hval
  obtain ⟨v0, vs0, d0, ds0, p0, q0, hargs, rfl, rfl, h0, r0⟩ := trodAll_cons hA
  obtain ⟨v1, vs1, d1, ds1, p1, q1, rfl, rfl, rfl, h1, r1⟩ := trodAll_cons r0
  obtain ⟨v2, vs2, d2, ds2, p2, q2, rfl, rfl, rfl, h2, r2⟩ := trodAll_cons r1
  obtain ⟨v3, vs3, d3, ds3, p3, q3, rfl, rfl, rfl, h3, r3⟩ := trodAll_cons r2
  obtain ⟨v4, vs4, d4, ds4, p4, q4, rfl, rfl, rfl, h4, r4⟩ := trodAll_cons r3
  obtain ⟨v5, vs5, d5, ds5, p5, q5, rfl, rfl, rfl, h5, r5⟩ := trodAll_cons r4
  obtain ⟨rfl, rfl, rfl⟩ := trodAll_nil r5
  obtain rfl : args = #[v0, v1, v2, v3, v4, v5] := by cases args; simp_all
  obtain ⟨f, rfl, rfl, rfl, w0⟩ := open_int Try.underlying3 (hval 0 3 v0 rfl rfl) h0
  obtain ⟨round, rfl, rfl, rfl, w1⟩ := open_int Try.underlying3 (hval 1 3 v1 rfl rfl) h1
  obtain ⟨h, rfl⟩ := open_hash (okWide_agg (by kernel_rfl) (hval 2 36 v2 rfl rfl)) h2
  obtain ⟨ok, rfl, rfl, rfl⟩ := open_bool Try.underlying4 (hval 3 4 v3 rfl rfl) h3
  obtain ⟨first, rfl, rfl, rfl⟩ := open_bool Try.underlying4 (hval 4 4 v4 rfl rfl) h4
  obtain ⟨missing, rfl, rfl, rfl, w5⟩ := open_int Try.underlying3 (hval 5 3 v5 rfl rfl) h5
  refine (decides14_all f round missing h ok first W).mono fun e W' ⟨he, hb⟩ => ?_
  subst he
  exact ⟨_, rfl, hpost ⟨rfl, rfl, rfl⟩ (hb.toBelow (by simp))⟩

theorem decides14_holds : Rows.CoreDecidesSaid :=
  OpenClaim.holds_of_wide 6 Try.f6 rfl rfl rfl rfl rfl rfl rfl ⟨rfl, rfl, rfl, rfl, rfl⟩ rfl rfl rfl rfl rfl (by kernel_rfl) Try.func6 (by kernel_rfl)
    (of_decide_eq_true (by kernel_rfl)) (by unfold Func.isWrapper; rw [if_neg (by decide +kernel)]; exact ⟨rfl, rfl⟩)
    (fun os started H enc _ => decides14_lifted os started H enc)
end Go.Proofs.Ythjmbhneifjeeaa
