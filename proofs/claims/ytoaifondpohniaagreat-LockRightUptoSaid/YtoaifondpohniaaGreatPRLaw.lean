/- WHAT IS PROVED: LockRight answers true whatever its input of bulk at most 1048576, and its input reads as before: the given statement in its second form. No other condition. -/
import Derived.Test.YtoaifondpohniaaGreatPR06
import Derived.Test.YtoaifondpohniaaGreatPR14
import Derived.Test.YtoaifondpohniaaGreatPR36
import Derived.Test.YtoaifondpohniaaGreatPR37
namespace Go.Proofs.YtoaifondpohniaaGreat
open Go.ChangeShapes Go.WideShapes Go.ChangeAt Go.RowKit
def zi {H : Type} : DataW H := .lit (.int .i64 0)
def zu {H : Type} : DataW H := .lit (.int .u64 0)
set_option maxRecDepth 100000 in
theorem right11_lifted (os : Os) (started : os.Started) (H : Type) (enc : TypeId × Value → H) (F : Stop.Interp) :
  ReturnsInHanded {} Tryz.checked os 3 .any ((Rows.OpenSpec.upto Rows.lockRightSpec).pre6 enc Tryz.prog Tryz.f3 Rows.lockRightUptoRow.domain false) (((Rows.OpenSpec.upto Rows.lockRightSpec).at F).post enc Tryz.prog Tryz.f3 false true false false) := by
 refine returnsInHanded_of_cond (C := Tryz.checked) (s := Rows.OpenSpec.upto Rows.lockRightSpec) (k := Rows.uptoSmall) rfl (by kernel_rfl) started (by kernel_rfl) Tryz.func3
  (OpenSpec.witness (enc := enc) (C := Tryz.checked) (s := Rows.OpenSpec.upto Rows.lockRightSpec) (k := Rows.uptoSmall) rfl false ⟨#[], #[.slice none 0 0, .int .i64 0, .int .i64 0, .agg ⟨Z0J Z9⟩, .agg ⟨[.int .i64 0, .int .i64 0, .int .u64 0, .slice none 0 0, .int .i64 0, .int .i64 0]⟩, .agg ⟨[.int .i64 0, .int .i64 0]⟩], []⟩ 8 (by kernel_rfl) (by kernel_rfl) (by kernel_rfl)
   (x := ([.nil, zi, zi, .agg [zi, .agg [zi, zi], .agg (List.replicate 32 (.lit (.int .u8 0))), zu, .agg [zi, zi]], .agg [zi, zi, zu, .nil, .agg [zi, zi]], .agg [zi, zi]], [], [])) (by kernel_rfl) rfl (by kernel_rfl)) ?_
 intro W base args ds gs before hval0 hW _ hk _
 have hval : ∀ (j : Nat) t v, Tryz.f3.params[j]? = some t → args[j]? = some v → Value.okWide Tryz.prog W .any base t v := hval0
 clear hval0
 have hpost := fun (hs : _) {W' : World} (hb : Below W.heap.size W W') => Zbl (P := Tryz.prog) (f := Tryz.f3) (s := Rows.lockRightSpec) (tb := 4) rfl (by kernel_rfl) Tryz.underlying4 (by kernel_rfl) (by kernel_rfl) hW hs hb
 obtain ⟨p, q, hA0, hV, _, _, _⟩ := hW
 obtain ⟨rfl, rfl⟩ := trodVars_none hV
 have hA : DataW.TrodAll enc Tryz.prog W 0 (fun _ => true) true Tryz.f3.params.toList args.toList ds p := hA0
 clear hA0
 rw [Tryz.params3] at hA hval
 obtain ⟨v0, vs0, d0, ds0, p0, q0, hargs, rfl, rfl, h0, r0⟩ := trodAll_cons hA
 obtain ⟨v1, vs1, d1, ds1, p1, q1, rfl, rfl, rfl, h1, r1⟩ := trodAll_cons r0
 obtain ⟨v2, vs2, d2, ds2, p2, q2, rfl, rfl, rfl, h2, r2⟩ := trodAll_cons r1
 obtain ⟨v3, vs3, d3, ds3, p3, q3, rfl, rfl, rfl, h3, r3⟩ := trodAll_cons r2
 obtain ⟨v4, vs4, d4, ds4, p4, q4, rfl, rfl, rfl, h4, r4⟩ := trodAll_cons r3
 obtain ⟨v5, vs5, d5, ds5, p5, q5, rfl, rfl, rfl, h5, r5⟩ := trodAll_cons r4
 obtain ⟨rfl, rfl, rfl⟩ := trodAll_nil r5
 obtain rfl : args = #[v0, v1, v2, v3, v4, v5] := by cases args; simp_all
 have hd4 : Rows.uptoBulk d4 ≤ 1048576 := by
  have h : Rows.uptoBulkAll ([d0, d1, d2, d3, d4, d5] ++ []) ≤ 1048576 := of_decide_eq_true hk
  have := Z4e (d := d4) (l := [d0, d1, d2, d3, d4, d5] ++ []) (by simp)
  omega
 obtain ⟨A1, bA1, hA1⟩ := Z9q (okWide_slice Tryz.underlying22 (hval 0 22 v0 rfl rfl)) h0
 obtain ⟨aa1, ac1, rfl⟩ := SliceOf.len hA1
 obtain ⟨f, rfl, rfl, rfl, w1⟩ := open_int Tryz.underlying3 (hval 1 3 v1 rfl rfl) h1
 obtain ⟨at_, rfl, rfl, rfl, w2⟩ := open_int Tryz.underlying3 (hval 2 3 v2 rfl rfl) h2
 obtain ⟨y, rfl, hy⟩ := ZaA (Z4S (by kernel_rfl) (hval 3 31 v3 rfl rfl)) h3
 obtain ⟨r, rfl, hrn, hrB, hrC⟩ := Z6X (Z4S (by kernel_rfl) (hval 4 34 v4 rfl rfl)) h4 hd4
 obtain ⟨cf, cn, rfl⟩ := ZaB (Z4S (by kernel_rfl) (hval 5 36 v5 rfl rfl)) h5
 refine (Z8s W f at_ aa1 ac1 A1 hA1 bA1 y hy.1 r hrC hrB hrn cf cn).mono fun e W' ⟨he, hb⟩ => ?_
 subst he
 exact ⟨_, rfl, hpost ⟨rfl, rfl, rfl⟩ (hb.toBelow (by simp))⟩
theorem right11_holds : Rows.LockRightUptoSaid :=
 OpenClaim.holds_of_cond 3 Tryz.f3 rfl rfl rfl rfl rfl rfl rfl ⟨rfl, rfl, rfl, rfl, rfl⟩ rfl rfl rfl rfl rfl (by kernel_rfl) Tryz.func3 (by kernel_rfl)
  (of_decide_eq_true (by kernel_rfl)) (by unfold Func.isWrapper; rw [if_neg (by decide +kernel)]; exact ⟨rfl, rfl⟩)
  (fun os started H enc _ F => right11_lifted os started H enc F)
end Go.Proofs.YtoaifondpohniaaGreat
