/- WHAT IS PROVED: acts among a law's arguments (chapter 16). Conditions: stated with each. -/
import Derived.Test.YtoiplcicbjimlaaFrame
import Derived.Test.YtoiplcicbjimlaaListAt
namespace Go.Proofs.Ytoiplcicbjimlaa
open Go.ChangeShapes Go.WideShapes Go.ChangeAt Go.RowKit Go.Deep
set_option maxRecDepth 100000
structure ActR where
  d : Int
  i : Int
  r : Int
  w : Int
  t : Int
def ac0 : ActR := ⟨0, 0, 0, 0, 0⟩
def encAc (x : ActR) : List Value := [.int .i64 x.d, .int .i64 x.i, .int .i64 x.r, .int .i64 x.w, .int .u64 x.t]
theorem encAc_len (x : ActR) : (encAc x).length = 5 := rfl
theorem encAc_one (x : ActR) : (encAc x).all (·.oneCell') = true := rfl
theorem wf_u64 {z : Int} (h : (Lit.int .u64 z).wf = true) : 0 ≤ z ∧ z ≤ 18446744073709551615 := by
  simpa [Lit.wf, IntKind.min, IntKind.max, IntKind.signed, IntKind.bits] using h
def TimeOk (x : ActR) : Prop := 0 ≤ x.t ∧ x.t ≤ 18446744073709551615
section
variable {H : Type} {enc : TypeId × Value → H} {W : World}
theorem field_cells {P : Program} {t : TypeId} {fs : Array Field} {n : Nat} {cs : List Value} {y : DataW H × List MemPlace} (ht : P.underlying t = some (.struct fs)) (h : DataW.trod enc P W 0 (fun _ => true) true n t cs = some y) :
    cs.length = P.cellsOf t ∧ ∃ m, ∀ (i : Nat) (g : Field), fs[i]? = some g → ∃ z, DataW.trod enc P W 0 (fun _ => true) true m g.type ((cs.drop g.offset).take (P.cellsOf g.type)) = some z := by
  obtain ⟨xs, m, _, _, hl, hx, hf⟩ := DataW.trod_struct ht h
  refine ⟨hl, m, fun i g hg => ?_⟩
  have h1 := hf i g hg
  have hi : i < xs.length := by
    rw [hx]
    obtain ⟨h, _⟩ := Array.getElem?_eq_some_iff.1 hg
    exact h
  rw [List.getElem?_eq_getElem hi] at h1
  exact ⟨_, h1⟩
theorem drop_step {cs A rest : List Value} {o n : Nat} (h : (cs.drop o).take n = A) (hr : cs.drop (o + n) = rest) : cs.drop o = A ++ rest := by
  rw [← h, ← hr, ← List.drop_drop, List.take_append_drop]
theorem drop_end {cs : List Value} {n : Nat} (h : cs.length = n) : cs.drop n = [] := by rw [← h, List.drop_length]
theorem act_cells {n : Nat} {cs : List Value} {y : DataW H × List MemPlace} (h : DataW.trod enc Try.prog W 0 (fun _ => true) true n 57 cs = some y) : ∃ x : ActR, cs = encAc x ∧ TimeOk x := by
  obtain ⟨hl, m, hf⟩ := field_cells Try.underlying57 h
  obtain ⟨z0, h0⟩ := hf 0 _ rfl
  obtain ⟨z1, h1⟩ := hf 1 _ rfl
  obtain ⟨z2, h2⟩ := hf 2 _ rfl
  obtain ⟨z3, h3⟩ := hf 3 _ rfl
  obtain ⟨z4, h4⟩ := hf 4 _ rfl
  obtain ⟨a, e0, _⟩ := trod_int_cell (k := .i64) (by kernel_rfl) h0
  obtain ⟨b, e1, _⟩ := trod_int_cell (k := .i64) (by kernel_rfl) h1
  obtain ⟨c, e2, _⟩ := trod_int_cell (k := .i64) (by kernel_rfl) h2
  obtain ⟨d, e3, _⟩ := trod_int_cell (k := .i64) (by kernel_rfl) h3
  obtain ⟨t, e4, hw⟩ := trod_int_cell (k := .u64) (by kernel_rfl) h4
  simp only [List.getElem_toArray, List.getElem_cons_zero, List.getElem_cons_succ] at e0 e1 e2 e3 e4
  simp only [show Try.prog.cellsOf 3 = 1 by kernel_rfl, show Try.prog.cellsOf 36 = 1 by kernel_rfl] at e0 e1 e2 e3 e4
  refine ⟨⟨a, b, c, d, t⟩, ?_, ?_⟩
  · have := drop_step e0 (drop_step e1 (drop_step e2 (drop_step e3 (drop_step e4 (drop_end (hl.trans (show Try.prog.cellsOf 57 = 5 by kernel_rfl)))))))
    simp only [List.drop_zero] at this
    rw [this]; simp [encAc]
  · have q := wf_u64 hw
    unfold TimeOk; simp only; omega
theorem open_acts16 {v : Value} {d : DataW H} {ps : List MemPlace} (hv : ∃ a len cap, v = .slice a len cap) (h : DataW.Trod enc Try.prog W 0 (fun _ => true) true 48 v d ps) : ∃ xs, (∀ x ∈ xs, TimeOk x) ∧ ListAt encAc 5 W v xs := by
  obtain ⟨xs, hx⟩ := open_sliceOf (sz := 5) (R := fun w a (x : ActR) => RunAt w a (encAc x) ∧ TimeOk x) Try.underlying48 (by kernel_rfl) (by omega) hv h (fun cs n y b off hl hcs hy => by
    obtain ⟨x, rfl, hs⟩ := act_cells hy
    refine ⟨x, fun j v hj => ?_, hs⟩
    obtain ⟨hj', rfl⟩ := List.getElem?_eq_some_iff.1 hj
    rw [Addr.add_lit]; exact hcs j hj')
  refine ⟨xs, fun n hn => ?_, SliceOf.imp hx fun a x h => h.1⟩
  obtain ⟨i, hi, rfl⟩ := List.mem_iff_getElem.1 hn
  obtain ⟨b, off, cap, _, _, hall⟩ := hx.some (by omega)
  exact (hall i hi).2
end
end Go.Proofs.Ytoiplcicbjimlaa
