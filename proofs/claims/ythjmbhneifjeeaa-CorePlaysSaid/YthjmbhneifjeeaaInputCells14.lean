/- WHAT IS PROVED: how a list of inputs among a law's arguments is opened. Conditions: stated with each. -/
import Derived.Test.YthjmbhneifjeeaaFrameHash
import Derived.Test.YthjmbhneifjeeaaInputs14
namespace Go.Proofs.Ythjmbhneifjeeaa
open Go.ChangeShapes Go.WideShapes Go.ChangeAt Go.RowKit Go.Deep
set_option maxRecDepth 100000
section
variable {H : Type} {enc : TypeId × Value → H} {W : World}
theorem field_cells {P : Program} {t : TypeId} {fs : Array Field} {n : Nat} {cs : List Value} {y : DataW H × List MemPlace} (ht : P.underlying t = some (.struct fs)) (h : DataW.trod enc P W 0 (fun _ => true) true n t cs = some y) :
    ∃ m, ∀ (i : Nat) (g : Field), fs[i]? = some g → ∃ z, DataW.trod enc P W 0 (fun _ => true) true m g.type ((cs.drop g.offset).take (P.cellsOf g.type)) = some z := by
  obtain ⟨xs, m, _, _, _, hx, hf⟩ := DataW.trod_struct ht h
  refine ⟨m, fun i g hg => ?_⟩
  have h1 := hf i g hg
  have hi : i < xs.length := by
    rw [hx]
    obtain ⟨h, _⟩ := Array.getElem?_eq_some_iff.1 hg
    exact h
  rw [List.getElem?_eq_getElem hi] at h1
  exact ⟨_, h1⟩
theorem input_cells {n : Nat} {cs : List Value} {y : DataW H × List MemPlace} (hl : cs.length = 39) (h : DataW.trod enc Try.prog W 0 (fun _ => true) true n 57 cs = some y) : ∃ x : InputD, cs = inL x := by
  obtain ⟨m, hf⟩ := field_cells Try.underlying57 h
  obtain ⟨z0, h0⟩ := hf 0 _ rfl
  obtain ⟨z1, h1⟩ := hf 1 _ rfl
  obtain ⟨z2, h2⟩ := hf 2 _ rfl
  obtain ⟨z3, h3⟩ := hf 3 _ rfl
  obtain ⟨z4, h4⟩ := hf 4 _ rfl
  obtain ⟨z5, h5⟩ := hf 5 _ rfl
  obtain ⟨z6, h6⟩ := hf 6 _ rfl
  obtain ⟨z7, h7⟩ := hf 7 _ rfl
  obtain ⟨doo, e0, _⟩ := trod_int_cell (k := .i64) (by kernel_rfl) h0
  obtain ⟨kind, e1, _⟩ := trod_int_cell (k := .i64) (by kernel_rfl) h1
  obtain ⟨round, e2, _⟩ := trod_int_cell (k := .i64) (by kernel_rfl) h2
  obtain ⟨valid, e3, _⟩ := trod_int_cell (k := .i64) (by kernel_rfl) h3
  obtain ⟨replica, e4, _⟩ := trod_int_cell (k := .i64) (by kernel_rfl) h4
  obtain ⟨a, e5⟩ := hash_cells h5
  obtain ⟨s, e6, _⟩ := DataW.trod_bool (by kernel_rfl) h6
  obtain ⟨t, e7, _⟩ := DataW.trod_bool (by kernel_rfl) h7
  simp only [List.getElem_toArray, List.getElem_cons_zero, List.getElem_cons_succ] at e0 e1 e2 e3 e4 e5 e6 e7
  simp only [show Try.prog.cellsOf 3 = 1 by kernel_rfl, show Try.prog.cellsOf 4 = 1 by kernel_rfl, show Try.prog.cellsOf 36 = 32 by kernel_rfl] at e0 e1 e2 e3 e4 e5 e6 e7
  refine ⟨⟨doo, kind, round, valid, replica, a, s, t⟩, ?_⟩
  simp only [inL]
  rw [← e5]
  have k0 : [Value.int .i64 doo, .int .i64 kind, .int .i64 round, .int .i64 valid, .int .i64 replica] = cs.take 5 := by
    have : cs.take 5 = (cs.drop 0).take 1 ++ (cs.drop 1).take 1 ++ (cs.drop 2).take 1 ++ (cs.drop 3).take 1 ++ (cs.drop 4).take 1 := by
      match cs, hl with
      | _ :: _ :: _ :: _ :: _ :: _, _ => rfl
    rw [this, e0, e1, e2, e3, e4]; rfl
  have k6 : [Value.bool s, .bool t] = cs.drop 37 := by
    have : cs.drop 37 = (cs.drop 37).take 1 ++ (cs.drop 38).take 1 := by
      have h2 : (cs.drop 37).length = 2 := by simp [hl]
      rw [show cs.drop 38 = (cs.drop 37).drop 1 by rw [List.drop_drop]]
      match cs.drop 37, h2 with
      | [_, _], _ => rfl
    rw [this, e6, e7]; rfl
  rw [k0, k6, List.append_assoc]
  have h37 : cs.drop 37 = (cs.drop 5).drop 32 := by rw [List.drop_drop]
  rw [h37, List.take_append_drop, List.take_append_drop]
theorem open_inputs {v : Value} {d : DataW H} {ps : List MemPlace} (hv : ∃ a len cap, v = .slice a len cap) (h : DataW.Trod enc Try.prog W 0 (fun _ => true) true 55 v d ps) : ∃ xs, InputsAt W v xs :=
  open_sliceOf Try.underlying55 (by kernel_rfl) (by omega) hv h (fun cs n y b off hl hcs hy => by
    obtain ⟨x, rfl⟩ := input_cells hl hy
    refine ⟨x, fun j v hj => ?_⟩
    obtain ⟨hj', rfl⟩ := List.getElem?_eq_some_iff.1 hj
    rw [Addr.add_lit]; exact hcs j hj')
end
end Go.Proofs.Ythjmbhneifjeeaa
