/- WHAT IS PROVED: CoreLocked answers true whatever its input, and its input reads as before: the given statement. No condition. -/
import Derived.Test.YthjmbhneifjeeaaLocked14
import Derived.Test.YthjmbhneifjeeaaFrameHash
namespace Go.Proofs.Ythjmbhneifjeeaa
open Go.ChangeShapes Go.WideShapes Go.ChangeAt Go.RowKit

theorem kB_start {F : Int} {m : Hash} (hf : 1 ≤ F ∧ F ≤ 3) (hm : m ≠ hash0) : (proposeD (startD (newD F 1 0 (3 * F + 1 - 1))).1 0 (-1) m true).1 = kB F m 0 := by
  rw [tE2 hf.1]
  have hC : CI (tD1 F) := (CI.new (newOk14 hf)).to 0 (by omega)
  have hb : propBad (tD1 F) 0 (-1) m = false := by simp [propBad, tD1, toD, newD, newS, hasP, lookM, hm]
  unfold proposeD
  rw [if_neg (by rw [hb]; simp)]
  have hgp : getP (putM [] 0 ⟨-1, m, true⟩) 0 = ⟨-1, m, true⟩ := by unfold getP; rw [look_put_same]; rfl
  have hhp : hasP (putM [] 0 (⟨-1, m, true⟩ : PropD)) 0 = true := by unfold hasP; rw [look_put_same]; rfl
  have hch : chooseD (putD (tD1 F) 0 (-1) m true) ⟨-1, m, true⟩ = (m, true) := by
    simp [chooseD, mayB, putD, tD1, toD, newD, newS]
  have hl : leastV F [] (putM [] 0 ⟨-1, m, true⟩) = -1 := leastV_neg fun q _ => by
    unfold leastP
    rw [forV_nil]
    cases q.2.ok <;> simp; omega
  have hr : ruleD (putD (tD1 F) 0 (-1) m true) = some (kB F m 0, [⟨2, 0, -1, m⟩]) := by
    unfold ruleD
    show (if 0 ≤ leastV F [] (putM [] 0 ⟨-1, m, true⟩) then _ else if 0 ≤ farV F [] 0 (F + 1) then _ else
      if (1 : Int) = 1 ∧ hasP (putM [] 0 ⟨-1, m, true⟩) 0 = true ∧ (chooseD (putD (tD1 F) 0 (-1) m true) (getP (putM [] 0 ⟨-1, m, true⟩) 0)).2 = true then
        some (ownV (putD (tD1 F) 0 (-1) m true) 1 2 (chooseD (putD (tD1 F) 0 (-1) m true) (getP (putM [] 0 ⟨-1, m, true⟩) 0)).1, ownA (putD (tD1 F) 0 (-1) m true) 2 (chooseD (putD (tD1 F) 0 (-1) m true) (getP (putM [] 0 ⟨-1, m, true⟩) 0)).1) else _) = _
    rw [if_neg (by rw [hl]; omega), if_neg (by rw [farV_neg (by simp)]; omega), hgp, hch, if_pos ⟨rfl, hhp, rfl⟩]
    have hok : okV F [] 1 0 (3 * F + 1 - 1) = true := ok_new (by simp) (.inl rfl) (by omega) (by omega)
    have hadd : addV F [] ⟨1, 0, 3 * F + 1 - 1, m⟩ = kA F m 0 := addV_yes (v := ⟨1, 0, 3 * F + 1 - 1, m⟩) hok
    show some (ownV (putD (tD1 F) 0 (-1) m true) 1 2 m, ownA (putD (tD1 F) 0 (-1) m true) 2 m) = _
    unfold ownV
    rw [show addV (putD (tD1 F) 0 (-1) m true).f (putD (tD1 F) 0 (-1) m true).L ⟨1, (putD (tD1 F) 0 (-1) m true).s.round, (putD (tD1 F) 0 (-1) m true).replica, m⟩ = kA F m 0 from hadd]
    rfl
  rw [settle_one (hC.put (ok := true) hb) rfl hr (.inr (kB_still hf hm 0 (by omega)).none)]
theorem locked14_all (f : Int) (other : Hash) (valid : Int) (ok later : Bool) (w : World) : Calls Try.prog 4 #[.int .i64 f, .agg ⟨hc other⟩, .int .i64 valid, .bool ok, .bool later] w fun e w' => e = .returned (.bool true) ∧ Upd [] w w' := by
  have hw := within_lim f 2 (by omega)
  have hv := within_lim valid 3 (by omega)
  obtain ⟨F, hF⟩ : ∃ F, F = 1 + withinV f 2 := ⟨_, rfl⟩
  have hf : 1 ≤ F ∧ F ≤ 2 := by omega
  have hf3 : 1 ≤ F ∧ F ≤ 3 := by omega
  obtain ⟨V, hV⟩ : ∃ V, V = withinV valid 3 - 1 := ⟨_, rfl⟩
  obtain ⟨x, hx⟩ : ∃ x, fixO other = x := ⟨_, rfl⟩
  have hxx := fixO_ne other
  rw [hx] at hxx
  have hm : hash1 7 ≠ hash0 := hash1_ne (a := 7) (b := 0) (by decide)
  have hs := kB_start (m := hash1 7) hf3 hm
  refine locked14_walk w f valid F V other x ok later hx hF hV hf _ (newOk14 hf3) rfl (CI.new (newOk14 hf3)) ?_ ?_ ?_
  · intro a ha
    rw [hs, k_locked (x := x) hf3 hm a ha]
    exact ⟨rfl, rfl, rfl⟩
  · intro a b ha hb
    rw [hs, k_locked (x := x) hf3 hm a ha, k_votes2 hf3 hm a ha b (by omega) (by omega)]
    rfl
  · intro a b c ha hb hc
    have hb2 : F + 1 ≤ (b : Int) ∧ (b : Int) ≤ 2 * F + 1 := by rw [hb]; split <;> omega
    rw [hs, k_locked (x := x) hf3 hm a ha, k_votes2 hf3 hm a ha b hb2.1 hb2.2, k_votes4 hf3 hm a b c ha hb2.2 hc]
    exact ⟨rfl, k_propose hf3 hm hxx.2 hxx.1 a b c ha hb2.2 hc V ok later (by omega) hb⟩

set_option maxRecDepth 100000 in
theorem locked14_lifted (os : Os) (started : os.Started) (H : Type) (enc : TypeId × Value → H) :
    ReturnsInHanded {} Try.checked os 4 .any (Rows.coreLockedSpec.pre6 enc Try.prog Try.f4 Rows.coreLockedRow.domain false) (Rows.coreLockedSpec.post enc Try.prog Try.f4 false true false false) := by
  refine returnsInHanded_of_change (C := Try.checked) (by kernel_rfl) started (by kernel_rfl) Try.func4
    (ChangeSpec.witness6 (enc := enc) (C := Try.checked) false ⟨#[], #[.int .i64 0, .agg ⟨hc hash0⟩, .int .i64 0, .bool false, .bool false], []⟩ 8 (by kernel_rfl) (by kernel_rfl) (by kernel_rfl) (by kernel_rfl)) ?_
  intro W base args ds gs before hval0 hW _ _
  have hval : ∀ (j : Nat) t v, Try.f4.params[j]? = some t → args[j]? = some v → Value.okWide Try.prog W .any base t v := hval0
  clear hval0
  have hpost := fun (hs : _) {W' : World} (hb : Below W.heap.size W W') => law_post (P := Try.prog) (f := Try.f4) (s := Rows.coreLockedSpec) (tb := 4) rfl (by kernel_rfl) Try.underlying4 (by kernel_rfl) (by kernel_rfl) hW hs hb
  obtain ⟨p, q, hA0, hV, _, _, _⟩ := hW
  obtain ⟨rfl, rfl⟩ := trodVars_none hV
  have hA : DataW.TrodAll enc Try.prog W 0 (fun _ => true) true Try.f4.params.toList args.toList ds p := hA0
  clear hA0
  rw [Try.params4] at hA hval
  obtain ⟨v0, vs0, d0, ds0, p0, q0, hargs, rfl, rfl, h0, r0⟩ := trodAll_cons hA
  obtain ⟨v1, vs1, d1, ds1, p1, q1, rfl, rfl, rfl, h1, r1⟩ := trodAll_cons r0
  obtain ⟨v2, vs2, d2, ds2, p2, q2, rfl, rfl, rfl, h2, r2⟩ := trodAll_cons r1
  obtain ⟨v3, vs3, d3, ds3, p3, q3, rfl, rfl, rfl, h3, r3⟩ := trodAll_cons r2
  obtain ⟨v4, vs4, d4, ds4, p4, q4, rfl, rfl, rfl, h4, r4⟩ := trodAll_cons r3
  obtain ⟨rfl, rfl, rfl⟩ := trodAll_nil r4
  obtain rfl : args = #[v0, v1, v2, v3, v4] := by cases args; simp_all
  obtain ⟨f, rfl, rfl, rfl, w0⟩ := open_int Try.underlying3 (hval 0 3 v0 rfl rfl) h0
  obtain ⟨other, rfl⟩ := open_hash (okWide_agg (by kernel_rfl) (hval 1 36 v1 rfl rfl)) h1
  obtain ⟨valid, rfl, rfl, rfl, w2⟩ := open_int Try.underlying3 (hval 2 3 v2 rfl rfl) h2
  obtain ⟨ok, rfl, rfl, rfl⟩ := open_bool Try.underlying4 (hval 3 4 v3 rfl rfl) h3
  obtain ⟨later, rfl, rfl, rfl⟩ := open_bool Try.underlying4 (hval 4 4 v4 rfl rfl) h4
  refine (locked14_all f other valid ok later W).mono fun e W' ⟨he, hb⟩ => ?_
  subst he
  exact ⟨_, rfl, hpost ⟨rfl, rfl, rfl⟩ (hb.toBelow (by simp))⟩

theorem locked14_holds : Rows.CoreLockedSaid :=
  OpenClaim.holds_of_wide 4 Try.f4 rfl rfl rfl rfl rfl rfl rfl ⟨rfl, rfl, rfl, rfl, rfl⟩ rfl rfl rfl rfl rfl (by kernel_rfl) Try.func4 (by kernel_rfl)
    (of_decide_eq_true (by kernel_rfl)) (by unfold Func.isWrapper; rw [if_neg (by decide +kernel)]; exact ⟨rfl, rfl⟩)
    (fun os started H enc _ => locked14_lifted os started H enc)
end Go.Proofs.Ythjmbhneifjeeaa
