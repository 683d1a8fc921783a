/- WHAT IS PROVED: BatchValid answers true whatever its input, and its input reads as before: the given statement. No condition. -/
import Derived.Test.YtenihpghfdcpkaaGreatPV06
import Derived.Test.YtenihpghfdcpkaaGreatPV33
import Derived.Test.YtenihpghfdcpkaaGreatPV42
import Derived.Test.YtenihpghfdcpkaaGreatPV43
namespace Go.Proofs.YtenihpghfdcpkaaGreat
open Go.ChangeShapes Go.WideShapes Go.ChangeAt Go.RowKit
set_option maxRecDepth 100000 in
theorem valid12_lifted (os : Os) (started : os.Started) (H : Type) (enc : TypeId × Value → H) :
  ReturnsInHanded {} Tryz.checked os 7 .any (Rows.batchValidSpec.pre6 enc Tryz.prog Tryz.f7 Rows.batchValidRow.domain false) (Rows.batchValidSpec.post enc Tryz.prog Tryz.f7 false true false false) := by
 refine returnsInHanded_of_change (C := Tryz.checked) (by kernel_rfl) started (by kernel_rfl) Tryz.func7
  (ChangeSpec.witness6 (enc := enc) (C := Tryz.checked) false ⟨#[], #[.agg ⟨[.slice none 0 0, .slice none 0 0, .slice none 0 0, .int .u64 0, .slice none 0 0, .slice none 0 0, .int .i64 0, .slice none 0 0, .int .u64 0]⟩, .int .i64 0, .int .i64 0, .int .i64 0, .int .u64 0], []⟩ 8 (by kernel_rfl) (by kernel_rfl) (by kernel_rfl) (by kernel_rfl)) ?_
 intro W base args ds gs before hval0 hW _ _
 have hval : ∀ (j : Nat) t v, Tryz.f7.params[j]? = some t → args[j]? = some v → Value.okWide Tryz.prog W .any base t v := hval0
 clear hval0
 have hpost := fun (hs : _) {W' : World} (hb : Below W.heap.size W W') => ZdK (P := Tryz.prog) (f := Tryz.f7) (s := Rows.batchValidSpec) (tb := 4) rfl (by kernel_rfl) Tryz.underlying4 (by kernel_rfl) (by kernel_rfl) hW hs hb
 obtain ⟨p, q, hA0, hV, _, _, _⟩ := hW
 obtain ⟨rfl, rfl⟩ := trodVars_none hV
 have hA : DataW.TrodAll enc Tryz.prog W 0 (fun _ => true) true Tryz.f7.params.toList args.toList ds p := hA0
 clear hA0
 rw [Tryz.params7] at hA hval
 obtain ⟨v0, vs0, d0, ds0, p0, q0, hargs, rfl, rfl, h0, r0⟩ := trodAll_cons hA
 obtain ⟨v1, vs1, d1, ds1, p1, q1, rfl, rfl, rfl, h1, r1⟩ := trodAll_cons r0
 obtain ⟨v2, vs2, d2, ds2, p2, q2, rfl, rfl, rfl, h2, r2⟩ := trodAll_cons r1
 obtain ⟨v3, vs3, d3, ds3, p3, q3, rfl, rfl, rfl, h3, r3⟩ := trodAll_cons r2
 obtain ⟨v4, vs4, d4, ds4, p4, q4, rfl, rfl, rfl, h4, r4⟩ := trodAll_cons r3
 obtain ⟨rfl, rfl, rfl⟩ := trodAll_nil r4
 obtain rfl : args = #[v0, v1, v2, v3, v4] := by cases args; simp_all
 obtain ⟨na, ta, ha, oa, ba, lla, nc, tc, hc_, oc, bc, llc, N, LL, TT, HH, OO, BB, ptm, psk, pl, hpn⟩ := ZcA (Zbd (by kernel_rfl) (hval 0 27 v0 rfl rfl)) h0
 obtain rfl := hpn.v
 obtain ⟨f, rfl, rfl, rfl, w1⟩ := open_int Tryz.underlying3 (hval 1 3 v1 rfl rfl) h1
 obtain ⟨what, rfl, rfl, rfl, w2⟩ := open_int Tryz.underlying3 (hval 2 3 v2 rfl rfl) h2
 obtain ⟨at_, rfl, rfl, rfl, w3⟩ := open_int Tryz.underlying3 (hval 3 3 v3 rfl rfl) h3
 obtain ⟨bz, rfl, rfl, rfl, w4⟩ := open_int Tryz.underlying25 (hval 4 25 v4 rfl rfl) h4
 refine (Z8E W na ta ha oa ba lla nc tc hc_ oc bc llc N LL TT HH OO BB ptm psk pl hpn.n hpn.t hpn.h hpn.o hpn.b hpn.l hpn.tt hpn.lim.2.2.1 hpn.lim.2.2.2.2 f what at_ bz (Zau w4)).mono fun e W' ⟨he, hb⟩ => ?_
 subst he
 exact ⟨_, rfl, hpost ⟨rfl, rfl, rfl⟩ (hb.toBelow (by simp))⟩
theorem valid12_holds : Rows.BatchValidSaid :=
 OpenClaim.holds_of_wide 7 Tryz.f7 rfl rfl rfl rfl rfl rfl rfl ⟨rfl, rfl, rfl, rfl, rfl⟩ rfl rfl rfl rfl rfl (by kernel_rfl) Tryz.func7 (by kernel_rfl)
  (of_decide_eq_true (by kernel_rfl)) (by unfold Func.isWrapper; rw [if_neg (by decide +kernel)]; exact ⟨rfl, rfl⟩)
  (fun os started H enc _ => valid12_lifted os started H enc)
end Go.Proofs.YtenihpghfdcpkaaGreat
