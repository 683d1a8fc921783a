/- WHAT IS PROVED: how a batch among a law's arguments is opened: its promises, their certificates, their stamps. Conditions: stated with each. -/
import Derived.Test.YtenihpghfdcpkaaFrameHash
import Derived.Test.YtenihpghfdcpkaaFrameU
import Derived.Test.YtenihpghfdcpkaaRightD
import Derived.Test.YtenihpghfdcpkaaEntM
namespace Go.Proofs.Ytenihpghfdcpkaa
open Go.ChangeShapes Go.WideShapes Go.ChangeAt Go.RowKit Go.Deep
set_option maxRecDepth 100000
section
variable {H : Type} {enc : TypeId × Value → H} {W : World}
theorem field_cells {P : Program} {t : TypeId} {fs : Array Field} {n : Nat} {cs : List Value} {y : DataW H × List MemPlace} (ht : P.underlying t = some (.struct fs)) (h : DataW.trod enc P W 0 (fun _ => true) true n t cs = some y) :
    cs.length = P.cellsOf t ∧ ∃ m, ∀ (i : Nat) (g : Field), fs[i]? = some g → ∃ z, DataW.trod enc P W 0 (fun _ => true) true m g.type ((cs.drop g.offset).take (P.cellsOf g.type)) = some z := by
  obtain ⟨xs, m, _, _, hl, hx, hf⟩ := DataW.trod_struct ht h
  refine ⟨hl, m, fun i g hg => ?_⟩
  have h1 := hf i g hg
  have hi : i < xs.length := by
    rw [hx]
    obtain ⟨h, _⟩ := Array.getElem?_eq_some_iff.1 hg
    exact h
  rw [List.getElem?_eq_getElem hi] at h1
  exact ⟨_, h1⟩
theorem drop_step {cs A rest : List Value} {o n : Nat} (h : (cs.drop o).take n = A) (hr : cs.drop (o + n) = rest) : cs.drop o = A ++ rest := by
  rw [← h, ← hr, ← List.drop_drop, List.take_append_drop]
theorem drop_end {cs : List Value} {n : Nat} (h : cs.length = n) : cs.drop n = [] := by rw [← h, List.drop_length]
/-- two whole numbers -/
theorem pair_cells {t i : TypeId} {f g : Field} {n : Nat} {cs : List Value} {y : DataW H × List MemPlace} (ht : Try.prog.underlying t = some (.struct #[f, g])) (hi : Try.prog.underlying i = some (.int .i64)) (hf : f.type = i) (hg : g.type = i) (of : f.offset = 0) (og : g.offset = 1) (hc : Try.prog.cellsOf i = 1) (hn : Try.prog.cellsOf t = 2)
    (h : DataW.trod enc Try.prog W 0 (fun _ => true) true n t cs = some y) : ∃ a b : Int, cs = [.int .i64 a, .int .i64 b] ∧ (-9223372036854775808 ≤ a ∧ a ≤ 9223372036854775807) ∧ (-9223372036854775808 ≤ b ∧ b ≤ 9223372036854775807) := by
  obtain ⟨hl, m, hq⟩ := field_cells ht h
  obtain ⟨z0, h0⟩ := hq 0 _ rfl
  obtain ⟨z1, h1⟩ := hq 1 _ rfl
  simp only [List.getElem_toArray, List.getElem_cons_zero, List.getElem_cons_succ, hf, hg, of, og, hc] at h0 h1
  obtain ⟨a, e0, w0⟩ := trod_int_cell (k := .i64) hi h0
  obtain ⟨b, e1, w1⟩ := trod_int_cell (k := .i64) hi h1
  refine ⟨a, b, ?_, wf_i64 w0, wf_i64 w1⟩
  have := drop_step e0 (drop_step e1 (drop_end (hl.trans hn)))
  simpa using this
theorem name_cells {n : Nat} {cs : List Value} {y : DataW H × List MemPlace} (h : DataW.trod enc Try.prog W 0 (fun _ => true) true n 35 cs = some y) : ∃ a b : Int, cs = [.int .i64 a, .int .i64 b] ∧ (-9223372036854775808 ≤ a ∧ a ≤ 9223372036854775807) ∧ (-9223372036854775808 ≤ b ∧ b ≤ 9223372036854775807) :=
  pair_cells Try.underlying35 Try.underlying3 rfl rfl rfl rfl (by kernel_rfl) (by kernel_rfl) h
theorem sig_cells {n : Nat} {cs : List Value} {y : DataW H × List MemPlace} (h : DataW.trod enc Try.prog W 0 (fun _ => true) true n 31 cs = some y) : ∃ a b : Int, cs = [.int .i64 a, .int .i64 b] ∧ (-9223372036854775808 ≤ a ∧ a ≤ 9223372036854775807) ∧ (-9223372036854775808 ≤ b ∧ b ≤ 9223372036854775807) :=
  pair_cells Try.underlying31 Try.underlying3 rfl rfl rfl rfl (by kernel_rfl) (by kernel_rfl) h
theorem stamp_cells {n : Nat} {cs : List Value} {y : DataW H × List MemPlace} (h : DataW.trod enc Try.prog W 0 (fun _ => true) true n 46 cs = some y) : ∃ x : StampD, cs = encSt x ∧ StOk x := by
  obtain ⟨hl, m, hf⟩ := field_cells Try.underlying46 h
  obtain ⟨z0, h0⟩ := hf 0 _ rfl
  obtain ⟨z1, h1⟩ := hf 1 _ rfl
  obtain ⟨z2, h2⟩ := hf 2 _ rfl
  obtain ⟨z3, h3⟩ := hf 3 _ rfl
  obtain ⟨z4, h4⟩ := hf 4 _ rfl
  obtain ⟨r, e0, w0⟩ := trod_int_cell (k := .i64) (by kernel_rfl) h0
  obtain ⟨cl, seq, e1, w1, w2⟩ := name_cells h1
  obtain ⟨hh, e2⟩ := hash_cells h2
  obtain ⟨t, e3, w3⟩ := trod_int_cell (k := .u64) (by kernel_rfl) h3
  obtain ⟨sb, sm, e4, w4, w5⟩ := sig_cells h4
  simp only [List.getElem_toArray, List.getElem_cons_zero, List.getElem_cons_succ] at e0 e1 e2 e3 e4
  simp only [show Try.prog.cellsOf 3 = 1 by kernel_rfl, show Try.prog.cellsOf 22 = 1 by kernel_rfl, show Try.prog.cellsOf 37 = 32 by kernel_rfl, show Try.prog.cellsOf 35 = 2 by kernel_rfl, show Try.prog.cellsOf 31 = 2 by kernel_rfl] at e0 e1 e2 e3 e4
  have hw0 := wf_i64 w0
  have hw3 := wf_u64 w3
  refine ⟨⟨r, cl, seq, hh, t, sb, sm⟩, ?_, ?_⟩
  · have := drop_step e0 (drop_step e1 (drop_step e2 (drop_step e3 (drop_step e4 (drop_end (hl.trans (show Try.prog.cellsOf 46 = 38 by kernel_rfl)))))))
    simp only [List.drop_zero] at this
    rw [this]; simp [encSt]
  · unfold StOk; simp only; omega
theorem commit_cells {n : Nat} {cs : List Value} {y : DataW H × List MemPlace} (h : DataW.trod enc Try.prog W 0 (fun _ => true) true n 39 cs = some y) : ∃ x : CommitD, cs = encCo x ∧ CoOk x := by
  obtain ⟨hl, m, hf⟩ := field_cells Try.underlying39 h
  obtain ⟨z1, h1⟩ := hf 0 _ rfl
  obtain ⟨z2, h2⟩ := hf 1 _ rfl
  obtain ⟨z3, h3⟩ := hf 2 _ rfl
  obtain ⟨z4, h4⟩ := hf 3 _ rfl
  obtain ⟨cl, seq, e1, w1, w2⟩ := name_cells h1
  obtain ⟨hh, e2⟩ := hash_cells h2
  obtain ⟨t, e3, w3⟩ := trod_int_cell (k := .i64) (by kernel_rfl) h3
  obtain ⟨sb, sm, e4, w4, w5⟩ := sig_cells h4
  simp only [List.getElem_toArray, List.getElem_cons_zero, List.getElem_cons_succ] at e1 e2 e3 e4
  simp only [show Try.prog.cellsOf 3 = 1 by kernel_rfl, show Try.prog.cellsOf 37 = 32 by kernel_rfl, show Try.prog.cellsOf 35 = 2 by kernel_rfl, show Try.prog.cellsOf 31 = 2 by kernel_rfl] at e1 e2 e3 e4
  have hw3 := wf_i64 w3
  refine ⟨⟨cl, seq, hh, t, sb, sm⟩, ?_, ?_⟩
  · have := drop_step e1 (drop_step e2 (drop_step e3 (drop_step e4 (drop_end (hl.trans (show Try.prog.cellsOf 39 = 37 by kernel_rfl))))))
    simp only [List.drop_zero] at this
    rw [this]; simp [encCo]
  · unfold CoOk; simp only; omega
theorem open_stamps {v : Value} {d : DataW H} {ps : List MemPlace} (hv : ∃ a len cap, v = .slice a len cap) (h : DataW.Trod enc Try.prog W 0 (fun _ => true) true 40 v d ps) : ∃ xs, (∀ x ∈ xs, StOk x) ∧ ListAt encSt 38 W v xs := by
  obtain ⟨xs, hx⟩ := open_sliceOf (sz := 38) (R := fun w a (x : StampD) => RunAt w a (encSt x) ∧ StOk x) Try.underlying40 (by kernel_rfl) (by omega) hv h (fun cs n y b off hl hcs hy => by
    obtain ⟨x, rfl, hs⟩ := stamp_cells hy
    refine ⟨x, fun j v hj => ?_, hs⟩
    obtain ⟨hj', rfl⟩ := List.getElem?_eq_some_iff.1 hj
    rw [Addr.add_lit]; exact hcs j hj')
  refine ⟨xs, fun n hn => ?_, SliceOf.imp hx fun a x h => h.1⟩
  obtain ⟨i, hi, rfl⟩ := List.mem_iff_getElem.1 hn
  obtain ⟨b, off, cap, _, _, hall⟩ := hx.some (by omega)
  exact (hall i hi).2
theorem cert_cells {n : Nat} {cs : List Value} {y : DataW H × List MemPlace} (h : DataW.trod enc Try.prog W 0 (fun _ => true) true n 42 cs = some y) : ∃ (x : CommitD) (S : List StampD) (a : Option Addr) (c : Nat), cs = encCo x ++ [.slice a S.length c] ∧ CoOk x ∧ (∀ s ∈ S, StOk s) ∧ ListAt encSt 38 W (.slice a S.length c) S := by
  obtain ⟨hl, m, hf⟩ := field_cells Try.underlying42 h
  obtain ⟨z1, h1⟩ := hf 0 _ rfl
  obtain ⟨z2, h2⟩ := hf 1 _ rfl
  obtain ⟨x, e1, hx⟩ := commit_cells h1
  obtain ⟨a, len, cap, e2⟩ := trod_slice_shape Try.underlying40 h2
  have h2' := h2
  rw [e2] at h2'
  obtain ⟨S, hS, hL⟩ := open_stamps (v := .slice a len cap) (d := z2.1) (ps := z2.2) ⟨_, _, _, rfl⟩ ⟨m, h2'⟩
  obtain ⟨a', c', hv⟩ := hL.len
  rw [hv] at hL e2
  simp only [List.getElem_toArray, List.getElem_cons_zero, List.getElem_cons_succ] at e1 e2
  simp only [show Try.prog.cellsOf 40 = 1 by kernel_rfl, show Try.prog.cellsOf 39 = 37 by kernel_rfl] at e1 e2
  refine ⟨x, S, a', c', ?_, hx, hS, hL⟩
  have := drop_step e1 (drop_step e2 (drop_end (hl.trans (show Try.prog.cellsOf 42 = 38 by kernel_rfl))))
  simp only [List.drop_zero] at this
  rw [this]; simp
theorem agg_of {v : Value} {cs : List Value} (hv : ∃ ws, v = .agg ws) (h : v.cells.toList = cs) : v = .agg ⟨cs⟩ := by
  obtain ⟨⟨l⟩, rfl⟩ := hv
  simp only [Value.cells] at h; rw [h]
theorem open_conf {v : Value} {d : DataW H} {ps : List MemPlace} (hv : ∃ cs, v = .agg cs) (h : DataW.Trod enc Try.prog W 0 (fun _ => true) true 57 v d ps) : ∃ f c : Int, v = .agg ⟨[.int .i64 f, .int .i64 c]⟩ := by
  obtain ⟨fuel, h⟩ := h
  obtain ⟨a, b, e, _⟩ := pair_cells Try.underlying57 Try.underlying3 rfl rfl rfl rfl (by kernel_rfl) (by kernel_rfl) h
  exact ⟨a, b, agg_of hv e⟩
theorem open_name {v : Value} {d : DataW H} {ps : List MemPlace} (hv : ∃ cs, v = .agg cs) (h : DataW.Trod enc Try.prog W 0 (fun _ => true) true 35 v d ps) : ∃ f c : Int, v = .agg ⟨[.int .i64 f, .int .i64 c]⟩ ∧ (-9223372036854775808 ≤ f ∧ f ≤ 9223372036854775807) ∧ (-9223372036854775808 ≤ c ∧ c ≤ 9223372036854775807) := by
  obtain ⟨fuel, h⟩ := h
  obtain ⟨a, b, e, h1, h2⟩ := name_cells h
  exact ⟨a, b, agg_of hv e, h1, h2⟩
theorem open_stamp {v : Value} {d : DataW H} {ps : List MemPlace} (hv : ∃ cs, v = .agg cs) (h : DataW.Trod enc Try.prog W 0 (fun _ => true) true 46 v d ps) : ∃ x : StampD, v = .agg ⟨encSt x⟩ ∧ StOk x := by
  obtain ⟨fuel, h⟩ := h
  obtain ⟨x, e, hx⟩ := stamp_cells h
  exact ⟨x, agg_of hv e, hx⟩
theorem open_commit {v : Value} {d : DataW H} {ps : List MemPlace} (hv : ∃ cs, v = .agg cs) (h : DataW.Trod enc Try.prog W 0 (fun _ => true) true 39 v d ps) : ∃ x : CommitD, v = .agg ⟨encCo x⟩ ∧ CoOk x := by
  obtain ⟨fuel, h⟩ := h
  obtain ⟨x, e, hx⟩ := commit_cells h
  exact ⟨x, agg_of hv e, hx⟩
theorem open_cert {v : Value} {d : DataW H} {ps : List MemPlace} (hv : ∃ cs, v = .agg cs) (h : DataW.Trod enc Try.prog W 0 (fun _ => true) true 42 v d ps) : ∃ (x : CommitD) (S : List StampD) (a : Option Addr) (c : Nat), v = .agg ⟨encCo x ++ [.slice a S.length c]⟩ ∧ CoOk x ∧ (∀ s ∈ S, StOk s) ∧ ListAt encSt 38 W (.slice a S.length c) S := by
  obtain ⟨fuel, h⟩ := h
  obtain ⟨x, S, a, c, e, r⟩ := cert_cells h
  exact ⟨x, S, a, c, agg_of hv e, r⟩
theorem sts_take {S : List StampD} (h : ∀ s ∈ S, StOk s) (n : Nat) : StsOk (S.take n) := fun i hi => by
  rw [List.getD_eq_getElem?_getD, List.getElem?_eq_getElem hi]
  exact h _ (List.mem_of_mem_take (List.getElem_mem hi))
end
end Go.Proofs.Ytenihpghfdcpkaa
namespace Go.Proofs.Ytenihpghfdcpkaa
open Go.ChangeShapes Go.WideShapes Go.ChangeAt Go.RowKit Go.Deep
set_option maxRecDepth 100000
section
variable {H : Type} {enc : TypeId × Value → H} {W : World}
theorem ce_cells {n : Nat} {cs : List Value} {y : DataW H × List MemPlace} (h : DataW.trod enc Try.prog W 0 (fun _ => true) true n 42 cs = some y) : ∃ c : CeR, cs = encCe c ∧ CeOk W c ∧ ∀ s ∈ c.S, StOk s := by
  obtain ⟨x, S, a, c, e, _, hs, hl⟩ := cert_cells h
  exact ⟨⟨x, a, c, S⟩, e, hl, hs⟩
theorem open_ces {v : Value} {d : DataW H} {ps : List MemPlace} (hv : ∃ a len cap, v = .slice a len cap) (h : DataW.Trod enc Try.prog W 0 (fun _ => true) true 29 v d ps) : ∃ xs, (∀ x ∈ xs, CeOk W x ∧ ∀ s ∈ x.S, StOk s) ∧ ListAt encCe 38 W v xs := by
  obtain ⟨xs, hx⟩ := open_sliceOf (sz := 38) (R := fun w a (x : CeR) => RunAt w a (encCe x) ∧ CeOk W x ∧ ∀ s ∈ x.S, StOk s) Try.underlying29 (by kernel_rfl) (by omega) hv h (fun cs n y b off hl hcs hy => by
    obtain ⟨x, rfl, hs⟩ := ce_cells hy
    refine ⟨x, fun j v hj => ?_, hs⟩
    obtain ⟨hj', rfl⟩ := List.getElem?_eq_some_iff.1 hj
    rw [Addr.add_lit]; exact hcs j hj')
  refine ⟨xs, fun n hn => ?_, SliceOf.imp hx fun a x h => h.1⟩
  obtain ⟨i, hi, rfl⟩ := List.mem_iff_getElem.1 hn
  obtain ⟨b, off, cap, _, _, hall⟩ := hx.some (by omega)
  exact (hall i hi).2
def PrIn (W : World) (p : PrR) : Prop := PrOk W p ∧ ∀ c ∈ p.C, ∀ s ∈ c.S, StOk s
theorem pr_cells {n : Nat} {cs : List Value} {y : DataW H × List MemPlace} (h : DataW.trod enc Try.prog W 0 (fun _ => true) true n 33 cs = some y) : ∃ p : PrR, cs = encPr p ∧ PrIn W p := by
  obtain ⟨hl, m, hf⟩ := field_cells Try.underlying33 h
  obtain ⟨z0, h0⟩ := hf 0 _ rfl
  obtain ⟨z1, h1⟩ := hf 1 _ rfl
  obtain ⟨z2, h2⟩ := hf 2 _ rfl
  obtain ⟨z3, h3⟩ := hf 3 _ rfl
  obtain ⟨z4, h4⟩ := hf 4 _ rfl
  obtain ⟨r, e0, _⟩ := trod_int_cell (k := .i64) (by kernel_rfl) h0
  obtain ⟨e, e1, _⟩ := trod_int_cell (k := .i64) (by kernel_rfl) h1
  obtain ⟨f, e2, _⟩ := trod_int_cell (k := .u64) (by kernel_rfl) h2
  obtain ⟨a, len, cap, e3⟩ := trod_slice_shape Try.underlying29 h3
  have h3' := h3
  rw [e3] at h3'
  obtain ⟨C, hC, hL⟩ := open_ces (v := .slice a len cap) (d := z3.1) (ps := z3.2) ⟨_, _, _, rfl⟩ ⟨m, h3'⟩
  obtain ⟨a', c', hv⟩ := hL.len
  rw [hv] at hL e3
  obtain ⟨sb, sm, e4, _, _⟩ := sig_cells h4
  simp only [List.getElem_toArray, List.getElem_cons_zero, List.getElem_cons_succ] at e0 e1 e2 e3 e4
  simp only [show Try.prog.cellsOf 3 = 1 by kernel_rfl, show Try.prog.cellsOf 22 = 1 by kernel_rfl, show Try.prog.cellsOf 29 = 1 by kernel_rfl, show Try.prog.cellsOf 31 = 2 by kernel_rfl] at e0 e1 e2 e3 e4
  refine ⟨⟨r, e, f, a', c', sb, sm, C⟩, ?_, ⟨hL, fun c hc => (hC c hc).1⟩, fun c hc => (hC c hc).2⟩
  have := drop_step e0 (drop_step e1 (drop_step e2 (drop_step e3 (drop_step e4 (drop_end (hl.trans (show Try.prog.cellsOf 33 = 6 by kernel_rfl)))))))
  simp only [List.drop_zero] at this
  rw [this]; simp [encPr]
theorem open_prs {v : Value} {d : DataW H} {ps : List MemPlace} (hv : ∃ a len cap, v = .slice a len cap) (h : DataW.Trod enc Try.prog W 0 (fun _ => true) true 23 v d ps) : ∃ xs, (∀ x ∈ xs, PrIn W x) ∧ ListAt encPr 6 W v xs := by
  obtain ⟨xs, hx⟩ := open_sliceOf (sz := 6) (R := fun w a (x : PrR) => RunAt w a (encPr x) ∧ PrIn W x) Try.underlying23 (by kernel_rfl) (by omega) hv h (fun cs n y b off hl hcs hy => by
    obtain ⟨x, rfl, hs⟩ := pr_cells hy
    refine ⟨x, fun j v hj => ?_, hs⟩
    obtain ⟨hj', rfl⟩ := List.getElem?_eq_some_iff.1 hj
    rw [Addr.add_lit]; exact hcs j hj')
  refine ⟨xs, fun n hn => ?_, SliceOf.imp hx fun a x h => h.1⟩
  obtain ⟨i, hi, rfl⟩ := List.mem_iff_getElem.1 hn
  obtain ⟨b, off, cap, _, _, hall⟩ := hx.some (by omega)
  exact (hall i hi).2
theorem open_batch {v : Value} {d : DataW H} {ps : List MemPlace} (hv : ∃ cs, v = .agg cs) (h : DataW.Trod enc Try.prog W 0 (fun _ => true) true 27 v d ps) : ∃ (ep tm : Int) (pa : Option Addr) (pc : Nat) (P : List PrR) (vo vt : Value), v = .agg ⟨[.int .i64 ep, .int .u64 tm, .slice pa P.length pc, vo, vt]⟩ ∧ ListAt encPr 6 W (.slice pa P.length pc) P ∧ ∀ x ∈ P, PrIn W x := by
  obtain ⟨fuel, h⟩ := h
  obtain ⟨hl, m, hf⟩ := field_cells Try.underlying27 h
  obtain ⟨z0, h0⟩ := hf 0 _ rfl
  obtain ⟨z1, h1⟩ := hf 1 _ rfl
  obtain ⟨z2, h2⟩ := hf 2 _ rfl
  obtain ⟨z3, h3⟩ := hf 3 _ rfl
  obtain ⟨z4, h4⟩ := hf 4 _ rfl
  obtain ⟨ep, e0, _⟩ := trod_int_cell (k := .i64) (by kernel_rfl) h0
  obtain ⟨tm, e1, _⟩ := trod_int_cell (k := .u64) (by kernel_rfl) h1
  obtain ⟨a, len, cap, e2⟩ := trod_slice_shape Try.underlying23 h2
  have h2' := h2
  rw [e2] at h2'
  obtain ⟨P, hP, hL⟩ := open_prs (v := .slice a len cap) (d := z2.1) (ps := z2.2) ⟨_, _, _, rfl⟩ ⟨m, h2'⟩
  obtain ⟨a', c', hv'⟩ := hL.len
  rw [hv'] at hL e2
  obtain ⟨a3, l3, c3, e3⟩ := trod_slice_shape Try.underlying24 h3
  obtain ⟨a4, l4, c4, e4⟩ := trod_slice_shape Try.underlying25 h4
  simp only [List.getElem_toArray, List.getElem_cons_zero, List.getElem_cons_succ] at e0 e1 e2 e3 e4
  simp only [show Try.prog.cellsOf 3 = 1 by kernel_rfl, show Try.prog.cellsOf 22 = 1 by kernel_rfl, show Try.prog.cellsOf 23 = 1 by kernel_rfl, show Try.prog.cellsOf 24 = 1 by kernel_rfl, show Try.prog.cellsOf 25 = 1 by kernel_rfl] at e0 e1 e2 e3 e4
  refine ⟨ep, tm, a', c', P, .slice a3 l3 c3, .slice a4 l4 c4, agg_of hv ?_, hL, hP⟩
  have := drop_step e0 (drop_step e1 (drop_step e2 (drop_step e3 (drop_step e4 (drop_end (hl.trans (show Try.prog.cellsOf 27 = 5 by kernel_rfl)))))))
  simp only [List.drop_zero] at this
  rw [this]; simp
theorem name_thing {n : Nat} {cs : List Value} {y : DataW H × List MemPlace} (h : DataW.trod enc Try.prog W 0 (fun _ => true) true n 35 cs = some y) : ∃ x : NmD, cs = encNm x := by
  obtain ⟨a, b, e, _⟩ := name_cells h
  exact ⟨⟨a, b⟩, e⟩
theorem open_nms {v : Value} {d : DataW H} {ps : List MemPlace} (hv : ∃ a len cap, v = .slice a len cap) (h : DataW.Trod enc Try.prog W 0 (fun _ => true) true 28 v d ps) : ∃ xs, ListAt encNm 2 W v xs := by
  obtain ⟨xs, hx⟩ := open_sliceOf (sz := 2) (R := fun w a (x : NmD) => RunAt w a (encNm x)) Try.underlying28 (by kernel_rfl) (by omega) hv h (fun cs n y b off hl hcs hy => by
    obtain ⟨x, rfl⟩ := name_thing hy
    refine ⟨x, fun j v hj => ?_⟩
    obtain ⟨hj', rfl⟩ := List.getElem?_eq_some_iff.1 hj
    rw [Addr.add_lit]; exact hcs j hj')
  exact ⟨xs, hx⟩
end
end Go.Proofs.Ytenihpghfdcpkaa
