/- WHAT IS PROVED: CertRaw answers true whatever its input, and its input reads as before: the given statement. No condition. -/
import Derived.Test.YtbpeofcoceaahaaRaw10
import Derived.Test.YtbpeofcoceaahaaOpenC10
namespace Go.Proofs.Ytbpeofcoceaahaa
open Go.ChangeShapes Go.WideShapes Go.ChangeAt Go.RowKit

set_option maxRecDepth 100000 in
theorem raw10_lifted (os : Os) (started : os.Started) (H : Type) (enc : TypeId × Value → H) :
    ReturnsInHanded {} Try.checked os 6 .any (Rows.certRawSpec.pre6 enc Try.prog Try.f6 Rows.certRawRow.domain false) (Rows.certRawSpec.post enc Try.prog Try.f6 false true false false) := by
  refine returnsInHanded_of_change (C := Try.checked) (by kernel_rfl) started (by kernel_rfl) Try.func6
    (ChangeSpec.witness6 (enc := enc) (C := Try.checked) false ⟨#[], #[.agg ⟨[.int .i64 0, .int .i64 0]⟩, .agg ⟨encCo ⟨0, 0, hash0, 0, 0, 0⟩ ++ [.slice none 0 0]⟩, .agg ⟨encSt stamp0⟩], []⟩ 8 (by kernel_rfl) (by kernel_rfl) (by kernel_rfl) (by kernel_rfl)) ?_
  intro W base args ds gs before hval0 hW _ _
  have hval : ∀ (j : Nat) t v, Try.f6.params[j]? = some t → args[j]? = some v → Value.okWide Try.prog W .any base t v := hval0
  clear hval0
  have hpost := fun (hs : _) {W' : World} (hb : Below W.heap.size W W') => law_post (P := Try.prog) (f := Try.f6) (s := Rows.certRawSpec) (tb := 4) rfl (by kernel_rfl) Try.underlying4 (by kernel_rfl) (by kernel_rfl) hW hs hb
  obtain ⟨p, q, hA0, hV, _, _, _⟩ := hW
  obtain ⟨rfl, rfl⟩ := trodVars_none hV
  have hA : DataW.TrodAll enc Try.prog W 0 (fun _ => true) true Try.f6.params.toList args.toList ds p := hA0
  clear hA0
  rw [Try.params6] at hA hval
  obtain ⟨v0, vs0, d0, ds0, p0, q0, hargs, rfl, rfl, h0, r0⟩ := trodAll_cons hA
  obtain ⟨v1, vs1, d1, ds1, p1, q1, rfl, rfl, rfl, h1, r1⟩ := trodAll_cons r0
  obtain ⟨v2, vs2, d2, ds2, p2, q2, rfl, rfl, rfl, h2, r2⟩ := trodAll_cons r1
  obtain ⟨rfl, rfl, rfl⟩ := trodAll_nil r2
  obtain rfl : args = #[v0, v1, v2] := by cases args; simp_all
  obtain ⟨f, cn, rfl⟩ := open_conf (okWide_agg (by kernel_rfl) (hval 0 36 v0 rfl rfl)) h0
  obtain ⟨x, S, sa, sc, rfl, hx, hS, hL⟩ := open_cert (okWide_agg (by kernel_rfl) (hval 1 47 v1 rfl rfl)) h1
  obtain ⟨s, rfl, hs⟩ := open_stamp (okWide_agg (by kernel_rfl) (hval 2 49 v2 rfl rfl)) h2
  have hle := SliceOf.le hL
  unfold maxLen at hle
  refine (raw10_walk W f cn sa sc S hL x hx (sts_take hS 9) s hs (by omega)).mono fun e W' ⟨he, hb⟩ => ?_
  subst he
  exact ⟨_, rfl, hpost ⟨rfl, rfl, rfl⟩ (hb.toBelow (by simp))⟩

theorem raw10_holds : Rows.CertRawSaid :=
  OpenClaim.holds_of_wide 6 Try.f6 rfl rfl rfl rfl rfl rfl rfl ⟨rfl, rfl, rfl, rfl, rfl⟩ rfl rfl rfl rfl rfl (by kernel_rfl) Try.func6 (by kernel_rfl)
    (of_decide_eq_true (by kernel_rfl)) (by unfold Func.isWrapper; rw [if_neg (by decide +kernel)]; exact ⟨rfl, rfl⟩)
    (fun os started H enc _ => raw10_lifted os started H enc)
end Go.Proofs.Ytbpeofcoceaahaa
