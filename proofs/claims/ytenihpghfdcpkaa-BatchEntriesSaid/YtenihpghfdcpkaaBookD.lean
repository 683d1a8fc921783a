/- WHAT IS PROVED: a book as a list of signed texts; plain laws on it. Conditions: stated with each. -/
import Derived.Test.YtenihpghfdcpkaaSat
namespace Go.Proofs.Ytenihpghfdcpkaa
open Go.RowKit

structure Signed where
  p : Int
  s : List UInt8
  deriving DecidableEq
def signedV (x : Signed) : Value := .agg #[.int .i64 x.p, strV x.s]
theorem signed_eq (w : World) (x y : Signed) : (Op.equal 106 (signedV x) (signedV y)).run Try.prog w = .ok (decide (x = y)) w := by
  simp only [Op.equal, Op.maxDepth, signedV, strV]
  simp [go_sem]
  obtain ⟨x1, x2⟩ := x
  obtain ⟨y1, y2⟩ := y
  have := strV_eq x2 y2
  by_cases h1 : x1 = y1 <;> by_cases h2 : x2 = y2 <;> simp_all
theorem signed_check (w : World) (em : Bool) (x : Signed) : (Instr.checkKey em 10000 106 (signedV x)).run Try.prog w = .ok () w := by
  have h : ∀ n, (Instr.checkKey em (n + 2) 106 (signedV x)).run Try.prog w = .ok () w := fun n => by simp [Instr.checkKey, signedV, strV, go_sem]
  exact h 9998
theorem signedK : KeyTy Try.prog 106 signedV := KeyTy.deep (by kernel_rfl) signed_check signed_eq (by
  intro a
  simp [signedV, strV, Instr.sameBits, strV_beq])
theorem zero_int (w : World) : (zeroValue 3).run Try.prog w = .ok (.int .i64 0) w := by kernel_rfl

/-- the marks of a book: each signed text has its place, counted from 1 -/
def marks (l : List Signed) : List (Signed × Int) := l.zipIdx.map fun x => (x.1, (x.2 : Int) + 1)
/-- the mark of a signed text; 0: it has none -/
def markOf (l : List Signed) (x : Signed) : Int := ((l.idxOf? x).map fun i => (i : Int) + 1).getD 0
def signL (l : List Signed) (x : Signed) : List Signed := if x ∈ l then l else l ++ [x]
/-- A book: one field, its map. -/
def BookAt (w : World) (b mb : Nat) (l : List Signed) : Prop := w.heap[b]? = some (.cells #[.map (some mb)] 109) ∧ b ≠ mb ∧ MapAt w mb signedV (Value.int .i64) (marks l)

theorem marks_keys (l : List Signed) : (marks l).map (·.1) = l := by
  simp [marks, List.map_map, Function.comp_def]
theorem marks_at (l : List Signed) (i : Nat) : (marks l)[i]? = (l[i]?).map fun x => (x, (i : Int) + 1) := by
  simp [marks, List.getElem?_map, List.getElem?_zipIdx, Function.comp_def]
theorem look_marks (l : List Signed) (x : Signed) : lookM (marks l) x = (l.idxOf? x).map fun i => (i : Int) + 1 := by
  rw [lookM_idx, marks_keys]
  cases h : l.idxOf? x with
  | none => simp
  | some i =>
    obtain ⟨h1, _⟩ := List.idxOf?_eq_some_iff.1 h
    simp [marks_at, List.getElem?_eq_getElem h1]
theorem put_marks (l : List Signed) (x : Signed) (h : x ∉ l) : putM (marks l) x ((l.length : Int) + 1) = marks (l ++ [x]) := by
  unfold putM
  rw [marks_keys, if_neg h]
  simp [marks, List.zipIdx_append]
theorem marks_len (l : List Signed) : (marks l).length = l.length := by simp [marks]
theorem BookAt.nodup {w : World} {b mb : Nat} {l : List Signed} (h : BookAt w b mb l) : l.Nodup := by have := h.2.2.nodup; rwa [marks_keys] at this
theorem BookAt.upd {w w' : World} {b mb : Nat} {l : List Signed} {D : List Nat} (h : BookAt w b mb l) (hu : Upd D w w') (h1 : b ∉ D) (h2 : mb ∉ D) : BookAt w' b mb l := ⟨hu.at h.1 h1, h.2.1, h.2.2.upd hu h2⟩
theorem BookAt.lt {w : World} {b mb : Nat} {l : List Signed} (h : BookAt w b mb l) : b < w.heap.size ∧ mb < w.heap.size := ⟨heap_lt h.1, h.2.2.lt⟩
theorem BookAt.alloc {w : World} {b mb : Nat} {l : List Signed} (h : BookAt w b mb l) (o : Obj) : BookAt (w.alloc o) b mb l := h.upd ((Upd.refl [] w).alloc o) (by simp) (by simp)
theorem BookAt.drew {w : World} {b mb : Nat} {l : List Signed} (h : BookAt w b mb l) : BookAt w.drew b mb l := h.upd ((Upd.refl [] w).drew) (by simp) (by simp)
theorem BookAt.setCell {w : World} {b mb : Nat} {l : List Signed} (h : BookAt w b mb l) {p : Addr} (h1 : p.block ≠ b) (h2 : p.block ≠ mb) (u : Value) : BookAt (w.setCell p u) b mb l :=
  h.upd ((Upd.refl [p.block] w).setCell (Or.inr (by simp)) u) (by simpa using h1.symm) (by simpa using h2.symm)
theorem markOf_none {l : List Signed} {x : Signed} (h : x ∉ l) : markOf l x = 0 := by
  have : l.idxOf? x = none := List.idxOf?_eq_none_iff.2 h
  simp [markOf, this]
theorem markOf_pos {l : List Signed} {x : Signed} (h : x ∈ l) : 1 ≤ markOf l x ∧ markOf l x ≤ l.length := by
  cases hi : l.idxOf? x with
  | none => exact absurd h (List.idxOf?_eq_none_iff.1 hi)
  | some i =>
    obtain ⟨h1, _⟩ := List.idxOf?_eq_some_iff.1 hi
    simp [markOf, hi]; omega
/-- is it right? -/
def rightB (l : List Signed) (p mk : Int) (s : List UInt8) : Bool := decide (0 < markOf l ⟨p, s⟩ ∧ markOf l ⟨p, s⟩ = mk)

theorem signL_mem (l : List Signed) (x : Signed) : x ∈ signL l x := by unfold signL; split <;> simp_all
theorem signL_of_mem {l : List Signed} {x : Signed} (h : x ∈ l) : signL l x = l := if_pos h
theorem signL_sub {l : List Signed} {x y : Signed} (h : y ∈ l) : y ∈ signL l x := by unfold signL; split <;> simp_all
theorem signL_len (l : List Signed) (x : Signed) : (signL l x).length ≤ l.length + 1 := by unfold signL; split <;> simp
theorem markOf_app {l : List Signed} {y : Signed} (h : y ∈ l) (m : List Signed) : markOf (l ++ m) y = markOf l y := by
  have : (l ++ m).idxOf? y = l.idxOf? y := by
    cases hi : l.idxOf? y with
    | none => exact absurd h (List.idxOf?_eq_none_iff.1 hi)
    | some i =>
      obtain ⟨h1, h2, h3⟩ := List.idxOf?_eq_some_iff.1 hi
      rw [List.idxOf?_eq_some_iff]
      refine ⟨by simp; omega, by rw [List.getElem_append_left h1]; exact h2, fun j hj => ?_⟩
      rw [List.getElem_append_left (by omega)]
      exact h3 j hj
  simp [markOf, this]
theorem markOf_signL {l : List Signed} {x y : Signed} (h : y ∈ l) : markOf (signL l x) y = markOf l y := by
  unfold signL; split
  · rfl
  · exact markOf_app h _
theorem markOf_inj {l : List Signed} {x y : Signed} (hx : x ∈ l) (h : markOf l x = markOf l y) : x = y := by
  cases hi : l.idxOf? x with
  | none => exact absurd hx (List.idxOf?_eq_none_iff.1 hi)
  | some i =>
    cases hj : l.idxOf? y with
    | none => simp [markOf, hi, hj] at h; omega
    | some j =>
      simp [markOf, hi, hj] at h
      obtain rfl : i = j := by omega
      obtain ⟨_, h2, _⟩ := List.idxOf?_eq_some_iff.1 hi
      obtain ⟨_, h4, _⟩ := List.idxOf?_eq_some_iff.1 hj
      exact h2.symm.trans h4

end Go.Proofs.Ytenihpghfdcpkaa
