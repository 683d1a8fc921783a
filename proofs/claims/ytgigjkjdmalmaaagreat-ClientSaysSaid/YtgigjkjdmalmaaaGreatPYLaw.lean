/- WHAT IS PROVED: ClientSays answers true whatever its input, and its input reads as before: the given statement. No condition. -/
import Derived.Test.YtgigjkjdmalmaaaGreatPY06
import Derived.Test.YtgigjkjdmalmaaaGreatPY12
import Derived.Test.YtgigjkjdmalmaaaGreatPY24
import Derived.Test.YtgigjkjdmalmaaaGreatPY41
namespace Go.Proofs.YtgigjkjdmalmaaaGreat
open Go.ChangeShapes Go.WideShapes Go.ChangeAt Go.RowKit
set_option maxRecDepth 100000 in
theorem says22_lifted (os : Os) (started : os.Started) (H : Type) (enc : TypeId × Value → H) :
  ReturnsInHanded {} Tryz.checked os 4 .any (Rows.clientSaysSpec.pre6 enc Tryz.prog Tryz.f4 Rows.clientSaysRow.domain false) (Rows.clientSaysSpec.post enc Tryz.prog Tryz.f4 false true false false) := by
 refine returnsInHanded_of_change (C := Tryz.checked) (by kernel_rfl) started (by kernel_rfl) Tryz.func4
  (ChangeSpec.witness6 (enc := enc) (C := Tryz.checked) false ⟨#[], #[.int .i64 0, .int .i64 0, .slice none 0 0, .slice none 0 0, .slice none 0 0], []⟩ 8 (by kernel_rfl) (by kernel_rfl) (by kernel_rfl) (by kernel_rfl)) ?_
 intro W base args ds gs before hval0 hW _ _
 have hval : ∀ (j : Nat) t v, Tryz.f4.params[j]? = some t → args[j]? = some v → Value.okWide Tryz.prog W .any base t v := hval0
 clear hval0
 have hpost := fun (hs : _) {W' : World} (hb : Below W.heap.size W W') => ZaK (P := Tryz.prog) (f := Tryz.f4) (s := Rows.clientSaysSpec) (tb := 4) rfl (by kernel_rfl) Tryz.underlying4 (by kernel_rfl) (by kernel_rfl) hW hs hb
 obtain ⟨p, q, hA0, hV, _, _, _⟩ := hW
 obtain ⟨rfl, rfl⟩ := trodVars_none hV
 have hA : DataW.TrodAll enc Tryz.prog W 0 (fun _ => true) true Tryz.f4.params.toList args.toList ds p := hA0
 clear hA0
 rw [Tryz.params4] at hA hval
 obtain ⟨v0, vs0, d0, ds0, p0, q0, hargs, rfl, rfl, h0, r0⟩ := trodAll_cons hA
 obtain ⟨v1, vs1, d1, ds1, p1, q1, rfl, rfl, rfl, h1, r1⟩ := trodAll_cons r0
 obtain ⟨v2, vs2, d2, ds2, p2, q2, rfl, rfl, rfl, h2, r2⟩ := trodAll_cons r1
 obtain ⟨v3, vs3, d3, ds3, p3, q3, rfl, rfl, rfl, h3, r3⟩ := trodAll_cons r2
 obtain ⟨v4, vs4, d4, ds4, p4, q4, rfl, rfl, rfl, h4, r4⟩ := trodAll_cons r3
 obtain ⟨rfl, rfl, rfl⟩ := trodAll_nil r4
 obtain rfl : args = #[v0, v1, v2, v3, v4] := by cases args; simp_all
 obtain ⟨f, rfl, rfl, rfl, w0⟩ := open_int Tryz.underlying3 (hval 0 3 v0 rfl rfl) h0
 obtain ⟨i0, rfl, rfl, rfl, w1⟩ := open_int Tryz.underlying3 (hval 1 3 v1 rfl rfl) h1
 obtain ⟨PL, hPy, hPL⟩ := Zb3 (okWide_slice Tryz.underlying86 (hval 2 86 v2 rfl rfl)) h2
 obtain ⟨MS, hMi, hMS⟩ := Zb0 (okWide_slice Tryz.underlying35 (hval 3 35 v3 rfl rfl)) h3
 obtain ⟨AG, _, hAG⟩ := Zc9 (okWide_slice Tryz.underlying22 (hval 4 22 v4 rfl rfl)) h4
 obtain ⟨ya, yc, rfl⟩ := SliceOf.len hPL
 obtain ⟨la0, lc0, rfl⟩ := SliceOf.len hMS
 obtain ⟨ga, gc, rfl⟩ := SliceOf.len hAG
 refine (Z8A W f i0 ya yc PL hPL hPy la0 lc0 MS hMS hMi ga gc AG hAG).mono fun e W' ⟨he, hb⟩ => ?_
 subst he
 exact ⟨_, rfl, hpost ⟨rfl, rfl, rfl⟩ (hb.toBelow (by simp))⟩
theorem says22_holds : Rows.ClientSaysSaid :=
 OpenClaim.holds_of_wide 4 Tryz.f4 rfl rfl rfl rfl rfl rfl rfl ⟨rfl, rfl, rfl, rfl, rfl⟩ rfl rfl rfl rfl rfl (by kernel_rfl) Tryz.func4 (by kernel_rfl)
  (of_decide_eq_true (by kernel_rfl)) (by unfold Func.isWrapper; rw [if_neg (by decide +kernel)]; exact ⟨rfl, rfl⟩)
  (fun os started H enc _ => says22_lifted os started H enc)
end Go.Proofs.YtgigjkjdmalmaaaGreat
