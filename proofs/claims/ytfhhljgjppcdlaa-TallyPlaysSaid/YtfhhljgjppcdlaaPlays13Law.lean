/- WHAT IS PROVED: TallyPlays answers true whatever its input, and its input reads as before: the given statement. No condition. -/
import Derived.Test.YtfhhljgjppcdlaaPlays13
import Derived.Test.YtfhhljgjppcdlaaVoteCells
namespace Go.Proofs.Ytfhhljgjppcdlaa
open Go.ChangeShapes Go.WideShapes Go.ChangeAt Go.RowKit
theorem conf_cells {H : Type} {enc : TypeId × Value → H} {W : World} {n : Nat} {cs : List Value} {y : DataW H × List MemPlace} (h : DataW.trod enc Try.prog W 0 (fun _ => true) true n 27 cs = some y) : ∃ f c : Int, cs = [.int .i64 f, .int .i64 c] := by
  obtain ⟨_, _, _, _, hl, _, _⟩ := DataW.trod_struct Try.underlying27 h
  have hl : cs.length = 2 := hl.trans (by kernel_rfl)
  obtain ⟨m, hf⟩ := field_cells Try.underlying27 h
  obtain ⟨z0, h0⟩ := hf 0 _ rfl
  obtain ⟨z1, h1⟩ := hf 1 _ rfl
  obtain ⟨a, e0, _⟩ := trod_int_cell (k := .i64) (by kernel_rfl) h0
  obtain ⟨b, e1, _⟩ := trod_int_cell (k := .i64) (by kernel_rfl) h1
  simp only [List.getElem_toArray, List.getElem_cons_zero, List.getElem_cons_succ] at e0 e1
  simp only [show Try.prog.cellsOf 3 = 1 by kernel_rfl] at e0 e1
  refine ⟨a, b, ?_⟩
  match cs, hl with
  | [x, y], _ =>
    simp at e0 e1
    rw [e0, e1]

set_option maxRecDepth 100000 in
theorem plays13_lifted (os : Os) (started : os.Started) (H : Type) (enc : TypeId × Value → H) :
    ReturnsInHanded {} Try.checked os 6 .any (Rows.tallyPlaysSpec.pre6 enc Try.prog Try.f6 Rows.tallyPlaysRow.domain false) (Rows.tallyPlaysSpec.post enc Try.prog Try.f6 false true false false) := by
  refine returnsInHanded_of_change (C := Try.checked) (by kernel_rfl) started (by kernel_rfl) Try.func6
    (ChangeSpec.witness6 (enc := enc) (C := Try.checked) false ⟨#[], #[.agg ⟨[.int .i64 0, .int .i64 0]⟩, .slice none 0 0, .slice none 0 0], []⟩ 8 (by kernel_rfl) (by kernel_rfl) (by kernel_rfl) (by kernel_rfl)) ?_
  intro W base args ds gs before hval0 hW _ _
  have hval : ∀ (j : Nat) t v, Try.f6.params[j]? = some t → args[j]? = some v → Value.okWide Try.prog W .any base t v := hval0
  clear hval0
  have hpost := fun (hs : _) {W' : World} (hb : Below W.heap.size W W') => law_post (P := Try.prog) (f := Try.f6) (s := Rows.tallyPlaysSpec) (tb := 4) rfl (by kernel_rfl) Try.underlying4 (by kernel_rfl) (by kernel_rfl) hW hs hb
  obtain ⟨p, q, hA0, hV, _, _, _⟩ := hW
  obtain ⟨rfl, rfl⟩ := trodVars_none hV
  have hA : DataW.TrodAll enc Try.prog W 0 (fun _ => true) true Try.f6.params.toList args.toList ds p := hA0
  clear hA0
  rw [Try.params6] at hA hval
  obtain ⟨v0, vs0, d0, ds0, p0, q0, hargs, rfl, rfl, h0, r0⟩ := trodAll_cons hA
  obtain ⟨v1, vs1, d1, ds1, p1, q1, rfl, rfl, rfl, h1, r1⟩ := trodAll_cons r0
  obtain ⟨v2, vs2, d2, ds2, p2, q2, rfl, rfl, rfl, h2, r2⟩ := trodAll_cons r1
  obtain ⟨rfl, rfl, rfl⟩ := trodAll_nil r2
  obtain rfl : args = #[v0, v1, v2] := by cases args; simp_all
  obtain ⟨cs, rfl⟩ := okWide_agg (by kernel_rfl) (hval 0 27 v0 rfl rfl)
  obtain ⟨fuel, h0⟩ := h0
  obtain ⟨f, c, hcs⟩ := conf_cells h0
  obtain rfl : cs = ⟨[.int .i64 f, .int .i64 c]⟩ := by cases cs; simp [Value.cells] at hcs; rw [hcs]
  obtain ⟨ls, hls⟩ := open_votes (okWide_slice Try.underlying38 (hval 1 38 v1 rfl rfl)) h1
  obtain ⟨ms, hms⟩ := open_votes (okWide_slice Try.underlying38 (hval 2 38 v2 rfl rfl)) h2
  have hle := SliceOf.le hls
  have hle2 := SliceOf.le hms
  obtain ⟨vo, vc, rfl⟩ := SliceOf.len hls
  obtain ⟨vo2, vc2, rfl⟩ := SliceOf.len hms
  unfold maxLen at hle hle2
  refine (plays13_walk W f c vo vo2 vc vc2 ls ms hls (by omega) hms (by omega)).mono fun e W' ⟨he, hb⟩ => ?_
  subst he
  exact ⟨_, rfl, hpost ⟨rfl, rfl, rfl⟩ (hb.toBelow (by simp))⟩

theorem plays13_holds : Rows.TallyPlaysSaid :=
  OpenClaim.holds_of_wide 6 Try.f6 rfl rfl rfl rfl rfl rfl rfl ⟨rfl, rfl, rfl, rfl, rfl⟩ rfl rfl rfl rfl rfl (by kernel_rfl) Try.func6 (by kernel_rfl)
    (of_decide_eq_true (by kernel_rfl)) (by unfold Func.isWrapper; rw [if_neg (by decide +kernel)]; exact ⟨rfl, rfl⟩)
    (fun os started H enc _ => plays13_lifted os started H enc)
end Go.Proofs.Ytfhhljgjppcdlaa
