/- WHAT IS PROVED: CoreLater answers true whatever its input, and its input reads as before: the given statement. No condition. -/
import Derived.Test.YthjmbhneifjeeaaLater14
import Derived.Test.YthjmbhneifjeeaaLater14M
import Derived.Test.YthjmbhneifjeeaaFrameHash
namespace Go.Proofs.Ythjmbhneifjeeaa
open Go.ChangeShapes Go.WideShapes Go.ChangeAt Go.RowKit
theorem later14_all (f : Int) (h : Hash) (ok early : Bool) (w : World) : Calls Try.prog 8 #[.int .i64 f, .agg ⟨hc h⟩, .bool ok, .bool early] w fun e w' => e = .returned (.bool true) ∧ Upd [] w w' := by
  have hw := within_lim f 3 (by omega)
  obtain ⟨F, hF⟩ : ∃ F, F = 1 + withinV f 3 := ⟨_, rfl⟩
  have hf : 1 ≤ F ∧ F ≤ 3 := by omega
  obtain ⟨x, hx⟩ : ∃ x, fixH h 2 = x := ⟨_, rfl⟩
  have hx0 : x ≠ hash0 := hx ▸ fixH_ne h 2 (by decide)
  obtain ⟨N, hN⟩ : ∃ N : Nat, (N : Int) = F + 1 := ⟨(F + 1).toNat, by omega⟩
  obtain ⟨want, hwant⟩ : ∃ want, want = if ok = true then x else hash0 := ⟨_, rfl⟩
  have C0 : CI (newD F 1 0 (3 * F + 1 - 1)) := CI.new (newOk14 hf)
  have hs : (startD (newD F 1 0 (3 * F + 1 - 1))).1 = tD1 F := by rw [tE2 hf.1]
  have hE := later_early hf hx0 hwant N hN
  have hL := later_late hf hx0 hwant N hN
  refine later14_walk w f F h x want ok early N hx hF hf hwant _ (newOk14 hf) rfl C0 hN ?_ ?_ ?_
  · rw [hs, hE.1]; rfl
  · rw [hs, hE.1]; exact hE.2
  · rw [hs]; exact hL

set_option maxRecDepth 100000 in
theorem later14_lifted (os : Os) (started : os.Started) (H : Type) (enc : TypeId × Value → H) :
    ReturnsInHanded {} Try.checked os 8 .any (Rows.coreLaterSpec.pre6 enc Try.prog Try.f8 Rows.coreLaterRow.domain false) (Rows.coreLaterSpec.post enc Try.prog Try.f8 false true false false) := by
  refine returnsInHanded_of_change (C := Try.checked) (by kernel_rfl) started (by kernel_rfl) Try.func8
    (ChangeSpec.witness6 (enc := enc) (C := Try.checked) false ⟨#[], #[.int .i64 0, .agg ⟨hc hash0⟩, .bool false, .bool false], []⟩ 8 (by kernel_rfl) (by kernel_rfl) (by kernel_rfl) (by kernel_rfl)) ?_
  intro W base args ds gs before hval0 hW _ _
  have hval : ∀ (j : Nat) t v, Try.f8.params[j]? = some t → args[j]? = some v → Value.okWide Try.prog W .any base t v := hval0
  clear hval0
  have hpost := fun (hs : _) {W' : World} (hb : Below W.heap.size W W') => law_post (P := Try.prog) (f := Try.f8) (s := Rows.coreLaterSpec) (tb := 4) rfl (by kernel_rfl) Try.underlying4 (by kernel_rfl) (by kernel_rfl) hW hs hb
  obtain ⟨p, q, hA0, hV, _, _, _⟩ := hW
  obtain ⟨rfl, rfl⟩ := trodVars_none hV
  have hA : DataW.TrodAll enc Try.prog W 0 (fun _ => true) true Try.f8.params.toList args.toList ds p := hA0
  clear hA0
  rw [Try.params8] at hA hval
  obtain ⟨v0, vs0, d0, ds0, p0, q0, hargs, rfl, rfl, h0, r0⟩ := trodAll_cons hA
  obtain ⟨v1, vs1, d1, ds1, p1, q1, rfl, rfl, rfl, h1, r1⟩ := trodAll_cons r0
  obtain ⟨v2, vs2, d2, ds2, p2, q2, rfl, rfl, rfl, h2, r2⟩ := trodAll_cons r1
  obtain ⟨v3, vs3, d3, ds3, p3, q3, rfl, rfl, rfl, h3, r3⟩ := trodAll_cons r2
  obtain ⟨rfl, rfl, rfl⟩ := trodAll_nil r3
  obtain rfl : args = #[v0, v1, v2, v3] := by cases args; simp_all
  obtain ⟨f, rfl, rfl, rfl, w0⟩ := open_int Try.underlying3 (hval 0 3 v0 rfl rfl) h0
  obtain ⟨h, rfl⟩ := open_hash (okWide_agg (by kernel_rfl) (hval 1 36 v1 rfl rfl)) h1
  obtain ⟨ok, rfl, rfl, rfl⟩ := open_bool Try.underlying4 (hval 2 4 v2 rfl rfl) h2
  obtain ⟨early, rfl, rfl, rfl⟩ := open_bool Try.underlying4 (hval 3 4 v3 rfl rfl) h3
  refine (later14_all f h ok early W).mono fun e W' ⟨he, hb⟩ => ?_
  subst he
  exact ⟨_, rfl, hpost ⟨rfl, rfl, rfl⟩ (hb.toBelow (by simp))⟩

theorem later14_holds : Rows.CoreLaterSaid :=
  OpenClaim.holds_of_wide 8 Try.f8 rfl rfl rfl rfl rfl rfl rfl ⟨rfl, rfl, rfl, rfl, rfl⟩ rfl rfl rfl rfl rfl (by kernel_rfl) Try.func8 (by kernel_rfl)
    (of_decide_eq_true (by kernel_rfl)) (by unfold Func.isWrapper; rw [if_neg (by decide +kernel)]; exact ⟨rfl, rfl⟩)
    (fun os started H enc _ => later14_lifted os started H enc)
end Go.Proofs.Ythjmbhneifjeeaa
