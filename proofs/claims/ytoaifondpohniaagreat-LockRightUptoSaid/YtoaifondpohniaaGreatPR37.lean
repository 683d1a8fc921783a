/- WHAT IS PROVED: contracts and plain laws of OpenR11. Conditions: stated with each. -/
import Derived.Test.YtoaifondpohniaaGreatPR31
import Derived.Test.YtoaifondpohniaaGreatPR35
set_option maxHeartbeats 4000000
set_option maxRecDepth 100000
namespace Go.Proofs.YtoaifondpohniaaGreat
open Go.ChangeShapes Go.WideShapes Go.ChangeAt Go.RowKit Go.Deep
section
variable {H : Type} {enc : TypeId × Value → H} {W : World} {P : Program}
theorem Zb1 (d : DataW H) : 1 ≤ Rows.uptoBulk d := by
 cases d with
 | lit l => cases l <;> simp [Rows.uptoBulk]
 | nil => simp [Rows.uptoBulk]
 | ptr d => simp [Rows.uptoBulk]
 | slice elems spare => simp [Rows.uptoBulk]
 | agg parts => simp [Rows.uptoBulk]
 | iface t d => simp [Rows.uptoBulk]
 | map entries => simp [Rows.uptoBulk]
 | held h => simp [Rows.uptoBulk]
theorem Z4e {d : DataW H} {l : List (DataW H)} (h : d ∈ l) : Rows.uptoBulk d ≤ Rows.uptoBulkAll l := by
 induction l with
 | nil => cases h
 | cons x r ih =>
  simp only [Rows.uptoBulkAll]
  cases List.mem_cons.1 h with
  | inl e => subst e; omega
  | inr e => have := ih e; omega
theorem Zb2 {l : List (DataW H)} (h : ∀ d ∈ l, 2 ≤ Rows.uptoBulk d) : 2 * l.length ≤ Rows.uptoBulkAll l := by
 induction l with
 | nil => simp [Rows.uptoBulkAll]
 | cons x r ih =>
  have h1 := h x List.mem_cons_self
  have h2 := ih fun d hd => h d (List.mem_cons_of_mem _ hd)
  simp only [Rows.uptoBulkAll, List.length_cons]
  omega
theorem Z4v {α : Type} {R : World → Addr → α → Prop} {t e : TypeId} {sz : Nat} (ht : P.underlying t = some (.slice e)) (hc : P.cellsOf e = sz) (hpos : 0 < sz) {v : Value} {d : DataW H} {ps : List MemPlace} (hv : ∃ a len cap, v = .slice a len cap)
  (h : DataW.Trod enc P W 0 (fun _ => true) true t v d ps)
  (hel : ∀ (cs : List Value) (n : Nat) (y : DataW H × List MemPlace) (b off : Nat), cs.length = sz → (∀ j (hj : j < cs.length), W.cell? ⟨b, off + j, none⟩ = some cs[j]) → DataW.trod enc P W 0 (fun _ => true) true n e cs = some y → Rows.uptoBulk y.1 ≤ Rows.uptoBulk d → ∃ x, R W ⟨b, off, none⟩ x)
  (h2 : ∀ (cs : List Value) (n : Nat) (y : DataW H × List MemPlace), DataW.trod enc P W 0 (fun _ => true) true n e cs = some y → 2 ≤ Rows.uptoBulk y.1) :
  ∃ xs, SliceOf R sz W v xs ∧ 2 * xs.length ≤ Rows.uptoBulk d := by
 obtain ⟨a, len, cap, rfl⟩ := hv
 obtain ⟨fuel, h⟩ := h
 rcases open_slice ht h with ⟨h0, _⟩ | ⟨ad, len', cap', m, n, D, Pl, h0, _, hl, hm, hmm, hd, hx⟩
 ·simp only [Value.cells, List.cons.injEq, Value.slice.injEq, and_true] at h0
  obtain ⟨rfl, rfl, rfl⟩ := h0
  exact ⟨[], SliceOf.nil, Nat.zero_le _⟩
 ·have hd1 : d = .slice ((List.range len').map D) ((List.range (m - len')).map fun j => D (len' + j)) := congrArg Prod.fst hd
  simp only [Value.cells, List.cons.injEq, Value.slice.injEq, and_true] at h0
  obtain ⟨rfl, rfl, rfl⟩ := h0
  simp only [if_true] at hmm
  subst hmm
  have hbd : ∀ i, i < len → Rows.uptoBulk (D i) ≤ Rows.uptoBulk d := fun i hi => by
   have := Z4e (l := (List.range len).map D) (List.mem_map.2 ⟨i, List.mem_range.2 hi, rfl⟩)
   rw [hd1]
   simp only [Rows.uptoBulk]
   omega
  have hln : 2 * len ≤ Rows.uptoBulk d := by
   have := Zb2 (l := (List.range len).map D) (fun x hx' => by
    obtain ⟨i, hi, rfl⟩ := List.mem_map.1 hx'
    obtain ⟨cs, _, hq⟩ := hx i (by have := List.mem_range.1 hi; omega)
    exact h2 _ _ _ hq)
   rw [List.length_map, List.length_range] at this
   rw [hd1]
   simp only [Rows.uptoBulk]
   omega
  rcases Nat.eq_zero_or_pos len with h0 | h0
  ·subst h0
   exact ⟨[], .inl ⟨_, _, rfl, rfl, hm, by simp⟩, Nat.zero_le _⟩
  ·rw [hc] at hx
   have hspot : ad.spot = none := by
    obtain ⟨cs, h1, _⟩ := hx 0 (by omega)
    obtain ⟨_, hlen, hcs⟩ := World.cells?_some h1
    have h2 := hcs 0 hpos
    rw [Nat.zero_mul] at h2
    simp only [Addr.add, if_true] at h2
    have h3 : cs[0]? = some cs[0] := List.getElem?_eq_getElem (by omega)
    rw [h3] at h2
    unfold World.cell? at h2
    split at h2
    ·cases hs : ad.spot with
     | none => rfl
     | some _ => simp [hs] at h2
    ·cases h2
   obtain ⟨b, off, sp⟩ := ad
   simp only at hspot
   subst hspot
   have each : ∀ i, i < len → ∃ x, R W ⟨b, off + i * sz, none⟩ x := by
    intro i hi
    obtain ⟨cs, h1, h2⟩ := hx i (by omega)
    obtain ⟨_, hlen, hcs⟩ := World.cells?_some h1
    refine hel cs n _ b (off + i * sz) hlen (fun j hj => ?_) h2 (hbd i hi)
    have h3 := hcs j (by omega)
    rw [Addr.add_lit, Addr.add_lit, List.getElem?_eq_getElem hj] at h3
    exact h3
   obtain ⟨x0, _⟩ := each 0 h0
   have := Z34 len each
   obtain ⟨xs, h1, h2⟩ := this
   exact ⟨xs, .inr ⟨by omega, b, off, _, by rw [h1], ⟨by omega, hm⟩, h2⟩, by omega⟩
theorem Z2C {t : TypeId} {fs : Array Field} {n : Nat} {cs : List Value} {y : DataW H × List MemPlace} (ht : P.underlying t = some (.struct fs)) (h : DataW.trod enc P W 0 (fun _ => true) true n t cs = some y) :
  cs.length = P.cellsOf t ∧ (0 < fs.size → 2 ≤ Rows.uptoBulk y.1) ∧ ∃ m, ∀ (i : Nat) (g : Field), fs[i]? = some g → ∃ z, DataW.trod enc P W 0 (fun _ => true) true m g.type ((cs.drop g.offset).take (P.cellsOf g.type)) = some z ∧ Rows.uptoBulk z.1 ≤ Rows.uptoBulk y.1 := by
 obtain ⟨xs, m, _, hy, hl, hx, hf⟩ := DataW.trod_struct ht h
 subst hy
 refine ⟨hl, fun h0 => ?_, m, fun i g hg => ?_⟩
 ·have h1 := Z4e (l := xs.map (·.1)) (List.mem_map.2 ⟨xs[0]'(by omega), List.getElem_mem _, rfl⟩)
  have h2 := Zb1 (xs[0]'(by omega)).1
  simp only [Rows.uptoBulk]
  omega
 ·have h1 := hf i g hg
  have hi : i < xs.length := by
   rw [hx]
   obtain ⟨h, _⟩ := Array.getElem?_eq_some_iff.1 hg
   exact h
  rw [List.getElem?_eq_getElem hi] at h1
  refine ⟨_, h1, ?_⟩
  have h2 := Z4e (l := xs.map (·.1)) (List.mem_map.2 ⟨xs[i], List.getElem_mem _, rfl⟩)
  simp only [Rows.uptoBulk]
  omega
theorem Z9i {L : List Z5} {i : Nat} (h : i < L.length) : L.getD i Z9 ∈ L := by
 rw [List.getD_eq_getElem?_getD, List.getElem?_eq_getElem h]; exact List.getElem_mem h
theorem Z7z {v : Value} {d : DataW H} {ps : List MemPlace} (hv : ∃ a len cap, v = .slice a len cap) (h : DataW.Trod enc Tryz.prog W 0 (fun _ => true) true 51 v d ps) : ∃ xs, (∀ x ∈ xs, StB x) ∧ ListAt Z0J 38 W v xs ∧ 2 * xs.length ≤ Rows.uptoBulk d := by
 obtain ⟨xs, hx, hn⟩ := Z4v (sz := 38) (R := fun w a (x : Z5) => Z2Q w a (Z0J x) ∧ StB x) Tryz.underlying51 (by kernel_rfl) (by omega) hv h (fun cs n y b off hl hcs hy _ => by
  obtain ⟨x, rfl, hs⟩ := Z5a hy
  refine ⟨x, fun j v hj => ?_, hs⟩
  obtain ⟨hj', rfl⟩ := List.getElem?_eq_some_iff.1 hj
  rw [Addr.add_lit]; exact hcs j hj') (fun cs n y hy => (Z2C Tryz.underlying101 hy).2.1 (by decide))
 refine ⟨xs, fun n hn => ?_, SliceOf.imp hx fun a x h => h.1, hn⟩
 obtain ⟨i, hi, rfl⟩ := List.mem_iff_getElem.1 hn
 obtain ⟨b, off, cap, _, _, hall⟩ := hx.some (by omega)
 exact (hall i hi).2
theorem Z9N {n : Nat} {cs : List Value} {y : DataW H × List MemPlace} (h : DataW.trod enc Tryz.prog W 0 (fun _ => true) true n 53 cs = some y) (hy : Rows.uptoBulk y.1 ≤ 1048576) : ∃ x : CeR, cs = Z0h x ∧ CeL W x := by
 obtain ⟨hl, _, m, hf⟩ := Z2C Tryz.underlying53 h
 obtain ⟨z1, h1, _⟩ := hf 0 _ rfl
 obtain ⟨z2, h2, hb2⟩ := hf 1 _ rfl
 obtain ⟨x, e1, hx⟩ := Z4g h1
 obtain ⟨a, len, cap, e2⟩ := Z1L Tryz.underlying51 h2
 have h2' := h2
 rw [e2] at h2'
 obtain ⟨S, hS, hL, hn⟩ := Z7z (v := .slice a len cap) (d := z2.1) (ps := z2.2) ⟨_, _, _, rfl⟩ ⟨m, h2'⟩
 obtain ⟨a', c', hv⟩ := hL.len
 rw [hv] at hL e2
 simp only [List.getElem_toArray, List.getElem_cons_zero, List.getElem_cons_succ] at e1 e2
 simp only [show Tryz.prog.cellsOf 51 = 1 by kernel_rfl, show Tryz.prog.cellsOf 50 = 37 by kernel_rfl] at e1 e2
 refine ⟨⟨x, a', c', S⟩, ?_, hx, hL, fun i hi => hS _ (Z9i hi), by show S.length ≤ 1000000; omega⟩
 have := ZY e1 (ZY e2 (Z2B (hl.trans (show Tryz.prog.cellsOf 53 = 38 by kernel_rfl))))
 simp only [List.drop_zero] at this
 rw [this]; simp [Z0h]
theorem Z8o {v : Value} {d : DataW H} {ps : List MemPlace} (hv : ∃ a len cap, v = .slice a len cap) (h : DataW.Trod enc Tryz.prog W 0 (fun _ => true) true 32 v d ps) (hd : Rows.uptoBulk d ≤ 1048576) : ∃ xs, (∀ x ∈ xs, CeL W x) ∧ ListAt Z0h 38 W v xs := by
 obtain ⟨xs, hx, _⟩ := Z4v (sz := 38) (R := fun w a (x : CeR) => Z2Q w a (Z0h x) ∧ CeL W x) Tryz.underlying32 (by kernel_rfl) (by omega) hv h (fun cs n y b off hl hcs hy hb => by
  obtain ⟨x, rfl, hs⟩ := Z9N hy (by omega)
  refine ⟨x, fun j v hj => ?_, hs⟩
  obtain ⟨hj', rfl⟩ := List.getElem?_eq_some_iff.1 hj
  rw [Addr.add_lit]; exact hcs j hj') (fun cs n y hy => (Z2C Tryz.underlying53 hy).2.1 (by decide))
 refine ⟨xs, fun n hn => ?_, SliceOf.imp hx fun a x h => h.1⟩
 obtain ⟨i, hi, rfl⟩ := List.mem_iff_getElem.1 hn
 obtain ⟨b, off, cap, _, _, hall⟩ := hx.some (by omega)
 exact (hall i hi).2
theorem ZaA {v : Value} {d : DataW H} {ps : List MemPlace} (hv : ∃ cs, v = .agg cs) (h : DataW.Trod enc Tryz.prog W 0 (fun _ => true) true 31 v d ps) : ∃ x : Z5, v = .agg ⟨Z0J x⟩ ∧ StB x := by
 obtain ⟨n, h⟩ := h
 obtain ⟨hl, m, hf⟩ := Z22 Tryz.underlying31 h
 obtain ⟨z0, h0⟩ := hf 0 _ rfl
 obtain ⟨z1, h1⟩ := hf 1 _ rfl
 obtain ⟨z2, h2⟩ := hf 2 _ rfl
 obtain ⟨z3, h3⟩ := hf 3 _ rfl
 obtain ⟨z4, h4⟩ := hf 4 _ rfl
 obtain ⟨r, e0, w0⟩ := Z08 (k := .i64) (by kernel_rfl) h0
 obtain ⟨cl, seq, e1, w1, w2⟩ := Z3L h1
 obtain ⟨hh, e2⟩ := Z4K h2
 obtain ⟨t, e3, w3⟩ := Z08 (k := .u64) (by kernel_rfl) h3
 obtain ⟨sb, sm, e4, w4, w5⟩ := Z4B h4
 simp only [List.getElem_toArray, List.getElem_cons_zero, List.getElem_cons_succ] at e0 e1 e2 e3 e4
 simp only [show Tryz.prog.cellsOf 3 = 1 by kernel_rfl, show Tryz.prog.cellsOf 27 = 1 by kernel_rfl, show Tryz.prog.cellsOf 26 = 32 by kernel_rfl, show Tryz.prog.cellsOf 24 = 2 by kernel_rfl, show Tryz.prog.cellsOf 29 = 2 by kernel_rfl] at e0 e1 e2 e3 e4
 have hw0 := Z5X w0
 have hw3 := Z6u w3
 refine ⟨⟨r, cl, seq, hh, t, sb, sm⟩, Z9I hv ?_, ?_⟩
 ·have := ZY e0 (ZY e1 (ZY e2 (ZY e3 (ZY e4 (Z2B (hl.trans (show Tryz.prog.cellsOf 31 = 38 by kernel_rfl)))))))
  simp only [List.drop_zero] at this
  rw [this]; simp [Z0J]
 ·refine ⟨⟨?_, ?_, ?_, ?_, ?_⟩, ?_, ?_⟩ <;> simp only <;> omega
theorem Z6X {v : Value} {d : DataW H} {ps : List MemPlace} (hv : ∃ cs, v = .agg cs) (h : DataW.Trod enc Tryz.prog W 0 (fun _ => true) true 34 v d ps) (hd : Rows.uptoBulk d ≤ 1048576) : ∃ q : PrR, v = .agg ⟨[.int .i64 q.r, .int .i64 q.e, .int .u64 q.f, .slice q.ca q.C.length q.cc, .int .i64 q.sb, .int .i64 q.sm]⟩ ∧ (q.r ≤ 9223372036854775807 ∧ q.e ≤ 9223372036854775807 ∧ 0 ≤ q.f ∧ q.f < 18446744073709551616) ∧ (∀ c ∈ q.C, CeL W c) ∧ ListAt Z0h 38 W (.slice q.ca q.C.length q.cc) q.C := by
 obtain ⟨n, h⟩ := h
 obtain ⟨hl, _, m, hf⟩ := Z2C Tryz.underlying34 h
 obtain ⟨z0, h0, _⟩ := hf 0 _ rfl
 obtain ⟨z1, h1, _⟩ := hf 1 _ rfl
 obtain ⟨z2, h2, _⟩ := hf 2 _ rfl
 obtain ⟨z3, h3, hb3⟩ := hf 3 _ rfl
 have hb3 : Rows.uptoBulk z3.1 ≤ Rows.uptoBulk d := hb3
 obtain ⟨z4, h4, _⟩ := hf 4 _ rfl
 obtain ⟨r, e0, w0⟩ := Z08 (k := .i64) (by kernel_rfl) h0
 obtain ⟨e, e1, w1⟩ := Z08 (k := .i64) (by kernel_rfl) h1
 obtain ⟨f, e2, w2⟩ := Z08 (k := .u64) (by kernel_rfl) h2
 obtain ⟨a, len, cap, e3⟩ := Z1L Tryz.underlying32 h3
 have h3' := h3
 rw [e3] at h3'
 obtain ⟨C, hC, hL⟩ := Z8o (v := .slice a len cap) (d := z3.1) (ps := z3.2) ⟨_, _, _, rfl⟩ ⟨m, h3'⟩ (by omega)
 obtain ⟨a', c', hv3⟩ := hL.len
 rw [hv3] at hL e3
 obtain ⟨sb, sm, e4, _⟩ := Z4B h4
 simp only [List.getElem_toArray, List.getElem_cons_zero, List.getElem_cons_succ] at e0 e1 e2 e3 e4
 simp only [show Tryz.prog.cellsOf 3 = 1 by kernel_rfl, show Tryz.prog.cellsOf 27 = 1 by kernel_rfl, show Tryz.prog.cellsOf 32 = 1 by kernel_rfl, show Tryz.prog.cellsOf 29 = 2 by kernel_rfl] at e0 e1 e2 e3 e4
 have hw0 := Z5X w0
 have hw1 := Z5X w1
 have hw2 := Z6u w2
 refine ⟨⟨r, e, f, a', c', sb, sm, C⟩, Z9I hv ?_, ⟨by show r ≤ _; omega, by show e ≤ _; omega, by show 0 ≤ f; omega, by show f < _; omega⟩, hC, hL⟩
 have := ZY e0 (ZY e1 (ZY e2 (ZY e3 (ZY e4 (Z2B (hl.trans (show Tryz.prog.cellsOf 34 = 6 by kernel_rfl)))))))
 simp only [List.drop_zero] at this
 rw [this]; simp
end
end Go.Proofs.YtoaifondpohniaaGreat
