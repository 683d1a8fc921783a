/- WHAT IS PROVED: ClientSilent answers true whatever its input, and its input reads as before: the given statement. No condition. -/
import Derived.Test.YtgigjkjdmalmaaaGreatPS06
import Derived.Test.YtgigjkjdmalmaaaGreatPS28
import Derived.Test.YtgigjkjdmalmaaaGreatPS29
namespace Go.Proofs.YtgigjkjdmalmaaaGreat
open Go.ChangeShapes Go.WideShapes Go.ChangeAt Go.RowKit
set_option maxRecDepth 100000 in
theorem silent22_lifted (os : Os) (started : os.Started) (H : Type) (enc : TypeId × Value → H) :
  ReturnsInHanded {} Tryz.checked os 5 .any (Rows.clientSilentSpec.pre6 enc Tryz.prog Tryz.f5 Rows.clientSilentRow.domain false) (Rows.clientSilentSpec.post enc Tryz.prog Tryz.f5 false true false false) := by
 refine returnsInHanded_of_change (C := Tryz.checked) (by kernel_rfl) started (by kernel_rfl) Tryz.func5
  (ChangeSpec.witness6 (enc := enc) (C := Tryz.checked) false ⟨#[], #[.int .i64 0, .slice none 0 0, .slice none 0 0, .slice none 0 0, .slice none 0 0], []⟩ 8 (by kernel_rfl) (by kernel_rfl) (by kernel_rfl) (by kernel_rfl)) ?_
 intro W base args ds gs before hval0 hW _ _
 have hval : ∀ (j : Nat) t v, Tryz.f5.params[j]? = some t → args[j]? = some v → Value.okWide Tryz.prog W .any base t v := hval0
 clear hval0
 have hpost := fun (hs : _) {W' : World} (hb : Below W.heap.size W W') => Z5T (P := Tryz.prog) (f := Tryz.f5) (s := Rows.clientSilentSpec) (tb := 4) rfl (by kernel_rfl) Tryz.underlying4 (by kernel_rfl) (by kernel_rfl) hW hs hb
 obtain ⟨p, q, hA0, hV, _, _, _⟩ := hW
 obtain ⟨rfl, rfl⟩ := trodVars_none hV
 have hA : DataW.TrodAll enc Tryz.prog W 0 (fun _ => true) true Tryz.f5.params.toList args.toList ds p := hA0
 clear hA0
 rw [Tryz.params5] at hA hval
 obtain ⟨v0, vs0, d0, ds0, p0, q0, hargs, rfl, rfl, h0, r0⟩ := trodAll_cons hA
 obtain ⟨v1, vs1, d1, ds1, p1, q1, rfl, rfl, rfl, h1, r1⟩ := trodAll_cons r0
 obtain ⟨v2, vs2, d2, ds2, p2, q2, rfl, rfl, rfl, h2, r2⟩ := trodAll_cons r1
 obtain ⟨v3, vs3, d3, ds3, p3, q3, rfl, rfl, rfl, h3, r3⟩ := trodAll_cons r2
 obtain ⟨v4, vs4, d4, ds4, p4, q4, rfl, rfl, rfl, h4, r4⟩ := trodAll_cons r3
 obtain ⟨rfl, rfl, rfl⟩ := trodAll_nil r4
 obtain rfl : args = #[v0, v1, v2, v3, v4] := by cases args; simp_all
 obtain ⟨f, rfl, rfl, rfl, w0⟩ := open_int Tryz.underlying3 (hval 0 3 v0 rfl rfl) h0
 obtain ⟨V, _, hW⟩ := Z5j (okWide_slice Tryz.underlying22 (hval 1 22 v1 rfl rfl)) h1
 obtain ⟨PLs, _, hPl⟩ := Z5j (okWide_slice Tryz.underlying22 (hval 2 22 v2 rfl rfl)) h2
 obtain ⟨TS, hTb, hT⟩ := Z5k Tryz.underlying23 Tryz.underlying45 (by kernel_rfl) (okWide_slice Tryz.underlying23 (hval 3 23 v3 rfl rfl)) h3
 obtain ⟨X, hX0⟩ := Z60 Tryz.underlying38 Tryz.underlying5 (by kernel_rfl) (okWide_slice Tryz.underlying38 (hval 4 38 v4 rfl rfl)) h4
 have hX := ListAt.ofTxt (show (Zy v4 X).ok W from hX0)
 obtain ⟨wa, wc, rfl⟩ := SliceOf.len hW
 obtain ⟨pla, plc, rfl⟩ := SliceOf.len hPl
 obtain ⟨ta, tc, rfl⟩ := SliceOf.len hT
 obtain ⟨xa, xc, rfl⟩ := SliceOf.len hX
 refine (Z3M W f wa wc V hW pla plc PLs hPl ta tc TS hT hTb xa xc X hX).mono fun e W' ⟨he, hb⟩ => ?_
 subst he
 exact ⟨_, rfl, hpost ⟨rfl, rfl, rfl⟩ (hb.toBelow (by simp))⟩
theorem silent22_holds : Rows.ClientSilentSaid :=
 OpenClaim.holds_of_wide 5 Tryz.f5 rfl rfl rfl rfl rfl rfl rfl ⟨rfl, rfl, rfl, rfl, rfl⟩ rfl rfl rfl rfl rfl (by kernel_rfl) Tryz.func5 (by kernel_rfl)
  (of_decide_eq_true (by kernel_rfl)) (by unfold Func.isWrapper; rw [if_neg (by decide +kernel)]; exact ⟨rfl, rfl⟩)
  (fun os started H enc _ => silent22_lifted os started H enc)
end Go.Proofs.YtgigjkjdmalmaaaGreat
