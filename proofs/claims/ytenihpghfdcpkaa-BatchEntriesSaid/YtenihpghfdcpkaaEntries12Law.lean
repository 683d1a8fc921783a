/- WHAT IS PROVED: BatchEntries answers true whatever its input, and its input reads as before: the given statement. No condition. -/
import Derived.Test.YtenihpghfdcpkaaEnL
import Derived.Test.YtenihpghfdcpkaaFrameHash
import Derived.Test.YtenihpghfdcpkaaFrameU
import Derived.Test.YtenihpghfdcpkaaOpenP12
namespace Go.Proofs.Ytenihpghfdcpkaa
open Go.ChangeShapes Go.WideShapes Go.ChangeAt Go.RowKit

set_option maxRecDepth 100000 in
theorem entries12_lifted (os : Os) (started : os.Started) (H : Type) (enc : TypeId × Value → H) :
    ReturnsInHanded {} Try.checked os 3 .any (Rows.batchEntriesSpec.pre6 enc Try.prog Try.f3 Rows.batchEntriesRow.domain false) (Rows.batchEntriesSpec.post enc Try.prog Try.f3 false true false false) := by
  refine returnsInHanded_of_change (C := Try.checked) (by kernel_rfl) started (by kernel_rfl) Try.func3
    (ChangeSpec.witness6 (enc := enc) (C := Try.checked) false ⟨#[], #[.agg ⟨[.int .i64 0, .int .u64 0, .slice none 0 0, .slice none 0 0, .slice none 0 0]⟩, .int .u64 0, .slice none 0 0], []⟩ 8 (by kernel_rfl) (by kernel_rfl) (by kernel_rfl) (by kernel_rfl)) ?_
  intro W base args ds gs before hval0 hW _ _
  have hval : ∀ (j : Nat) t v, Try.f3.params[j]? = some t → args[j]? = some v → Value.okWide Try.prog W .any base t v := hval0
  clear hval0
  have hpost := fun (hs : _) {W' : World} (hb : Below W.heap.size W W') => law_post (P := Try.prog) (f := Try.f3) (s := Rows.batchEntriesSpec) (tb := 4) rfl (by kernel_rfl) Try.underlying4 (by kernel_rfl) (by kernel_rfl) hW hs hb
  obtain ⟨p, q, hA0, hV, _, _, _⟩ := hW
  obtain ⟨rfl, rfl⟩ := trodVars_none hV
  have hA : DataW.TrodAll enc Try.prog W 0 (fun _ => true) true Try.f3.params.toList args.toList ds p := hA0
  clear hA0
  rw [Try.params3] at hA hval
  obtain ⟨v0, vs0, d0, ds0, p0, q0, hargs, rfl, rfl, h0, r0⟩ := trodAll_cons hA
  obtain ⟨v1, vs1, d1, ds1, p1, q1, rfl, rfl, rfl, h1, r1⟩ := trodAll_cons r0
  obtain ⟨v2, vs2, d2, ds2, p2, q2, rfl, rfl, rfl, h2, r2⟩ := trodAll_cons r1
  obtain ⟨rfl, rfl, rfl⟩ := trodAll_nil r2
  obtain rfl : args = #[v0, v1, v2] := by cases args; simp_all
  obtain ⟨ep, tm, pa, pc, P, vo, vt, rfl, hP, hPi⟩ := open_batch (okWide_agg (by kernel_rfl) (hval 0 27 v0 rfl rfl)) h0
  obtain ⟨last, rfl, rfl, rfl, w1⟩ := open_int Try.underlying22 (hval 1 22 v1 rfl rfl) h1
  obtain ⟨N, hN⟩ := open_nms (okWide_slice Try.underlying28 (hval 2 28 v2 rfl rfl)) h2
  have hleN := SliceOf.le hN
  obtain ⟨aN, cN, rfl⟩ := SliceOf.len hN
  unfold maxLen at hleN
  refine (entries12_walk W ep tm last vo vt pa pc P hP hPi aN cN N hN).mono fun e W' ⟨he, hb⟩ => ?_
  subst he
  exact ⟨_, rfl, hpost ⟨rfl, rfl, rfl⟩ (hb.toBelow (by simp))⟩

theorem entries12_holds : Rows.BatchEntriesSaid :=
  OpenClaim.holds_of_wide 3 Try.f3 rfl rfl rfl rfl rfl rfl rfl ⟨rfl, rfl, rfl, rfl, rfl⟩ rfl rfl rfl rfl rfl (by kernel_rfl) Try.func3 (by kernel_rfl)
    (of_decide_eq_true (by kernel_rfl)) (by unfold Func.isWrapper; rw [if_neg (by decide +kernel)]; exact ⟨rfl, rfl⟩)
    (fun os started H enc _ => entries12_lifted os started H enc)
end Go.Proofs.Ytenihpghfdcpkaa
