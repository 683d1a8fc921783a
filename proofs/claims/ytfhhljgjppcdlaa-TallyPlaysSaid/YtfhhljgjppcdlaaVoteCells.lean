/- WHAT IS PROVED: how a list of votes among a law's arguments is opened. Conditions: stated with each. -/
import Derived.Test.YtfhhljgjppcdlaaFrameHash
import Derived.Test.YtfhhljgjppcdlaaVotes
namespace Go.Proofs.Ytfhhljgjppcdlaa
open Go.ChangeShapes Go.WideShapes Go.ChangeAt Go.RowKit Go.Deep
section
variable {H : Type} {enc : TypeId × Value → H} {W : World}
theorem field_cells {P : Program} {t : TypeId} {fs : Array Field} {n : Nat} {cs : List Value} {y : DataW H × List MemPlace} (ht : P.underlying t = some (.struct fs)) (h : DataW.trod enc P W 0 (fun _ => true) true n t cs = some y) :
    ∃ m, ∀ (i : Nat) (g : Field), fs[i]? = some g → ∃ z, DataW.trod enc P W 0 (fun _ => true) true m g.type ((cs.drop g.offset).take (P.cellsOf g.type)) = some z := by
  obtain ⟨xs, m, _, _, _, hx, hf⟩ := DataW.trod_struct ht h
  refine ⟨m, fun i g hg => ?_⟩
  have h1 := hf i g hg
  have hi : i < xs.length := by
    rw [hx]
    obtain ⟨h, _⟩ := Array.getElem?_eq_some_iff.1 hg
    exact h
  rw [List.getElem?_eq_getElem hi] at h1
  exact ⟨_, h1⟩
theorem vote_cells {n : Nat} {cs : List Value} {y : DataW H × List MemPlace} (hl : cs.length = 36) (h : DataW.trod enc Try.prog W 0 (fun _ => true) true n 40 cs = some y) : ∃ x : VoteIn, cs = voteL x := by
  obtain ⟨m, hf⟩ := field_cells Try.underlying40 h
  obtain ⟨z0, h0⟩ := hf 0 _ rfl
  obtain ⟨z1, h1⟩ := hf 1 _ rfl
  obtain ⟨z2, h2⟩ := hf 2 _ rfl
  obtain ⟨z3, h3⟩ := hf 3 _ rfl
  obtain ⟨z4, h4⟩ := hf 4 _ rfl
  obtain ⟨kind, e0, _⟩ := trod_int_cell (k := .i64) (by kernel_rfl) h0
  obtain ⟨round, e1, _⟩ := trod_int_cell (k := .i64) (by kernel_rfl) h1
  obtain ⟨replica, e2, _⟩ := trod_int_cell (k := .i64) (by kernel_rfl) h2
  obtain ⟨a, e3⟩ := hash_cells h3
  obtain ⟨s, e4, _⟩ := DataW.trod_bool (by kernel_rfl) h4
  simp only [List.getElem_toArray, List.getElem_cons_zero, List.getElem_cons_succ] at e0 e1 e2 e3 e4
  simp only [show Try.prog.cellsOf 3 = 1 by kernel_rfl, show Try.prog.cellsOf 4 = 1 by kernel_rfl, show Try.prog.cellsOf 24 = 32 by kernel_rfl] at e0 e1 e2 e3 e4
  refine ⟨⟨kind, round, replica, a, s⟩, ?_⟩
  simp only [voteL]
  rw [← e3]
  have k0 : [Value.int .i64 kind, .int .i64 round, .int .i64 replica] = cs.take 3 := by
    have : cs.take 3 = (cs.drop 0).take 1 ++ (cs.drop 1).take 1 ++ (cs.drop 2).take 1 := by
      match cs, hl with
      | a :: b :: c :: _, _ => rfl
    rw [this, e0, e1, e2]; rfl
  have k4 : [Value.bool s] = cs.drop 35 := by
    rw [← e4, List.take_of_length_le (by simp [hl])]
  rw [k0, k4, List.append_assoc]
  have := List.take_append_drop 3 cs
  have h35 : cs.drop 35 = (cs.drop 3).drop 32 := by rw [List.drop_drop]
  rw [h35, List.take_append_drop, this]
theorem open_votes {v : Value} {d : DataW H} {ps : List MemPlace} (hv : ∃ a len cap, v = .slice a len cap) (h : DataW.Trod enc Try.prog W 0 (fun _ => true) true 38 v d ps) : ∃ xs, VotesAt W v xs :=
  open_sliceOf Try.underlying38 (by kernel_rfl) (by omega) hv h (fun cs n y b off hl hcs hy => by
    obtain ⟨x, rfl⟩ := vote_cells hl hy
    refine ⟨x, fun j v hj => ?_⟩
    obtain ⟨hj', rfl⟩ := List.getElem?_eq_some_iff.1 hj
    rw [Addr.add_lit]; exact hcs j hj')
end
end Go.Proofs.Ytfhhljgjppcdlaa
