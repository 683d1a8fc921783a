/- WHAT IS PROVED: contracts and plain laws of FrameU, OpenC10, ActD, OpenA11. Conditions: stated with each. -/
import Derived.Test.YtoaifondpohniaaGreatPS05
import Derived.Test.YtoaifondpohniaaGreatPS06
import Derived.Test.YtoaifondpohniaaGreatPS12
import Derived.Test.YtoaifondpohniaaGreatPS15
set_option maxHeartbeats 4000000
set_option maxRecDepth 100000
namespace Go.Proofs.YtoaifondpohniaaGreat
open Go.ChangeShapes Go.WideShapes Go.ChangeAt Go.RowKit Go.Deep
section
variable {H : Type} {enc : TypeId × Value → H} {P : Program} {W : World}
theorem Z3R {z : Int} (h : (Lit.int .u64 z).wf = true) : 0 ≤ z ∧ z ≤ 18446744073709551615 := by
 simpa [Lit.wf, IntKind.min, IntKind.max, IntKind.signed, IntKind.bits] using h
def Z7i (w : World) (a : Addr) (x : Int) : Prop := w.cell? a = some (.int .u64 x)
theorem Z7C {t e : TypeId} (ht : P.underlying t = some (.slice e)) (he : P.underlying e = some (.int .u64)) (hc : P.cellsOf e = 1) {v : Value} {d : DataW H} {ps : List MemPlace} (hv : ∃ a len cap, v = .slice a len cap)
  (h : DataW.Trod enc P W 0 (fun _ => true) true t v d ps) : ∃ xs, (∀ x ∈ xs, 0 ≤ x ∧ x ≤ 18446744073709551615) ∧ ListAt Z1V 1 W v xs := by
 obtain ⟨xs, hx⟩ := Z2c (R := fun w a x => Z7i w a x ∧ 0 ≤ x ∧ x ≤ 18446744073709551615) ht hc (by omega) hv h (fun cs n y b off hl hcs hy => by
  obtain ⟨z, rfl, hz⟩ := Z0t he hy
  exact ⟨z, hcs 0 (by simp), Z3R hz⟩)
 refine ⟨xs, fun n hn => ?_, SliceOf.imp hx fun a x h j u hj => ?_⟩
 ·obtain ⟨i, hi, rfl⟩ := List.mem_iff_getElem.1 hn
  obtain ⟨b, off, cap, _, _, hall⟩ := hx.some (by omega)
  exact (hall i hi).2
 ·match j, hj with
  | 0, hj =>
   simp only [Z1V, List.getElem?_cons_zero, Option.some.injEq] at hj
   subst hj
   have := h.1
   obtain ⟨b, o, s⟩ := a
   unfold Z7i at this
   have e : (⟨b, o, s⟩ : Addr).add 0 = ⟨b, o, s⟩ := by cases s <;> simp [Addr.add]
   rw [e]; exact this
  | _ + 1, hj => simp [Z1V] at hj
end
section
variable {H : Type} {enc : TypeId × Value → H} {W : World}
theorem Z1A {P : Program} {t : TypeId} {fs : Array Field} {n : Nat} {cs : List Value} {y : DataW H × List MemPlace} (ht : P.underlying t = some (.struct fs)) (h : DataW.trod enc P W 0 (fun _ => true) true n t cs = some y) :
  cs.length = P.cellsOf t ∧ ∃ m, ∀ (i : Nat) (g : Field), fs[i]? = some g → ∃ z, DataW.trod enc P W 0 (fun _ => true) true m g.type ((cs.drop g.offset).take (P.cellsOf g.type)) = some z := by
 obtain ⟨xs, m, _, _, hl, hx, hf⟩ := DataW.trod_struct ht h
 refine ⟨hl, m, fun i g hg => ?_⟩
 have h1 := hf i g hg
 have hi : i < xs.length := by
  rw [hx]
  obtain ⟨h, _⟩ := Array.getElem?_eq_some_iff.1 hg
  exact h
 rw [List.getElem?_eq_getElem hi] at h1
 exact ⟨_, h1⟩
theorem Z0s {cs A rest : List Value} {o n : Nat} (h : (cs.drop o).take n = A) (hr : cs.drop (o + n) = rest) : cs.drop o = A ++ rest := by
 rw [← h, ← hr, ← List.drop_drop, List.take_append_drop]
theorem Z2D {cs : List Value} {n : Nat} (h : cs.length = n) : cs.drop n = [] := by rw [← h, List.drop_length]
theorem Z4h {t i : TypeId} {f g : Field} {n : Nat} {cs : List Value} {y : DataW H × List MemPlace} (ht : Tryz.prog.underlying t = some (.struct #[f, g])) (hi : Tryz.prog.underlying i = some (.int .i64)) (hf : f.type = i) (hg : g.type = i) (of : f.offset = 0) (og : g.offset = 1) (hc : Tryz.prog.cellsOf i = 1) (hn : Tryz.prog.cellsOf t = 2)
  (h : DataW.trod enc Tryz.prog W 0 (fun _ => true) true n t cs = some y) : ∃ a b : Int, cs = [.int .i64 a, .int .i64 b] ∧ (-9223372036854775808 ≤ a ∧ a ≤ 9223372036854775807) ∧ (-9223372036854775808 ≤ b ∧ b ≤ 9223372036854775807) := by
 obtain ⟨hl, m, hq⟩ := Z1A ht h
 obtain ⟨z0, h0⟩ := hq 0 _ rfl
 obtain ⟨z1, h1⟩ := hq 1 _ rfl
 simp only [List.getElem_toArray, List.getElem_cons_zero, List.getElem_cons_succ, hf, hg, of, og, hc] at h0 h1
 obtain ⟨a, e0, w0⟩ := Z0t (k := .i64) hi h0
 obtain ⟨b, e1, w1⟩ := Z0t (k := .i64) hi h1
 refine ⟨a, b, ?_, Z6a w0, Z6a w1⟩
 have := Z0s e0 (Z0s e1 (Z2D (hl.trans hn)))
 simpa using this
theorem Z33 {n : Nat} {cs : List Value} {y : DataW H × List MemPlace} (h : DataW.trod enc Tryz.prog W 0 (fun _ => true) true n 24 cs = some y) : ∃ a b : Int, cs = [.int .i64 a, .int .i64 b] ∧ (-9223372036854775808 ≤ a ∧ a ≤ 9223372036854775807) ∧ (-9223372036854775808 ≤ b ∧ b ≤ 9223372036854775807) :=
 Z4h Tryz.underlying24 Tryz.underlying3 rfl rfl rfl rfl (by kernel_rfl) (by kernel_rfl) h
theorem Z4K {n : Nat} {cs : List Value} {y : DataW H × List MemPlace} (h : DataW.trod enc Tryz.prog W 0 (fun _ => true) true n 29 cs = some y) : ∃ a b : Int, cs = [.int .i64 a, .int .i64 b] ∧ (-9223372036854775808 ≤ a ∧ a ≤ 9223372036854775807) ∧ (-9223372036854775808 ≤ b ∧ b ≤ 9223372036854775807) :=
 Z4h Tryz.underlying29 Tryz.underlying3 rfl rfl rfl rfl (by kernel_rfl) (by kernel_rfl) h
theorem Z5H {n : Nat} {cs : List Value} {y : DataW H × List MemPlace} (h : DataW.trod enc Tryz.prog W 0 (fun _ => true) true n 101 cs = some y) : ∃ x : Zd, cs = Z0l x ∧ Z83 x := by
 obtain ⟨hl, m, hf⟩ := Z1A Tryz.underlying101 h
 obtain ⟨z0, h0⟩ := hf 0 _ rfl
 obtain ⟨z1, h1⟩ := hf 1 _ rfl
 obtain ⟨z2, h2⟩ := hf 2 _ rfl
 obtain ⟨z3, h3⟩ := hf 3 _ rfl
 obtain ⟨z4, h4⟩ := hf 4 _ rfl
 obtain ⟨r, e0, w0⟩ := Z0t (k := .i64) (by kernel_rfl) h0
 obtain ⟨cl, seq, e1, w1, w2⟩ := Z33 h1
 obtain ⟨hh, e2⟩ := Z4i h2
 obtain ⟨t, e3, w3⟩ := Z0t (k := .u64) (by kernel_rfl) h3
 obtain ⟨sb, sm, e4, w4, w5⟩ := Z4K h4
 simp only [List.getElem_toArray, List.getElem_cons_zero, List.getElem_cons_succ] at e0 e1 e2 e3 e4
 simp only [show Tryz.prog.cellsOf 3 = 1 by kernel_rfl, show Tryz.prog.cellsOf 27 = 1 by kernel_rfl, show Tryz.prog.cellsOf 26 = 32 by kernel_rfl, show Tryz.prog.cellsOf 24 = 2 by kernel_rfl, show Tryz.prog.cellsOf 29 = 2 by kernel_rfl] at e0 e1 e2 e3 e4
 have hw0 := Z6a w0
 have hw3 := Z3R w3
 refine ⟨⟨r, cl, seq, hh, t, sb, sm⟩, ?_, ?_⟩
 ·have := Z0s e0 (Z0s e1 (Z0s e2 (Z0s e3 (Z0s e4 (Z2D (hl.trans (show Tryz.prog.cellsOf 101 = 38 by kernel_rfl)))))))
  simp only [List.drop_zero] at this
  rw [this]; simp [Z0l]
 ·unfold Z83; simp only; omega
theorem Z4V {n : Nat} {cs : List Value} {y : DataW H × List MemPlace} (h : DataW.trod enc Tryz.prog W 0 (fun _ => true) true n 50 cs = some y) : ∃ x : Zn, cs = Z2q x ∧ Z8u x := by
 obtain ⟨hl, m, hf⟩ := Z1A Tryz.underlying50 h
 obtain ⟨z1, h1⟩ := hf 0 _ rfl
 obtain ⟨z2, h2⟩ := hf 1 _ rfl
 obtain ⟨z3, h3⟩ := hf 2 _ rfl
 obtain ⟨z4, h4⟩ := hf 3 _ rfl
 obtain ⟨cl, seq, e1, w1, w2⟩ := Z33 h1
 obtain ⟨hh, e2⟩ := Z4i h2
 obtain ⟨t, e3, w3⟩ := Z0t (k := .i64) (by kernel_rfl) h3
 obtain ⟨sb, sm, e4, w4, w5⟩ := Z4K h4
 simp only [List.getElem_toArray, List.getElem_cons_zero, List.getElem_cons_succ] at e1 e2 e3 e4
 simp only [show Tryz.prog.cellsOf 3 = 1 by kernel_rfl, show Tryz.prog.cellsOf 26 = 32 by kernel_rfl, show Tryz.prog.cellsOf 24 = 2 by kernel_rfl, show Tryz.prog.cellsOf 29 = 2 by kernel_rfl] at e1 e2 e3 e4
 have hw3 := Z6a w3
 refine ⟨⟨cl, seq, hh, t, sb, sm⟩, ?_, ?_⟩
 ·have := Z0s e1 (Z0s e2 (Z0s e3 (Z0s e4 (Z2D (hl.trans (show Tryz.prog.cellsOf 50 = 37 by kernel_rfl))))))
  simp only [List.drop_zero] at this
  rw [this]; simp [Z2q]
 ·unfold Z8u; simp only; omega
theorem Z5M {v : Value} {d : DataW H} {ps : List MemPlace} (hv : ∃ a len cap, v = .slice a len cap) (h : DataW.Trod enc Tryz.prog W 0 (fun _ => true) true 51 v d ps) : ∃ xs, (∀ x ∈ xs, Z83 x) ∧ ListAt Z0l 38 W v xs := by
 obtain ⟨xs, hx⟩ := Z2c (sz := 38) (R := fun w a (x : Zd) => Z27 w a (Z0l x) ∧ Z83 x) Tryz.underlying51 (by kernel_rfl) (by omega) hv h (fun cs n y b off hl hcs hy => by
  obtain ⟨x, rfl, hs⟩ := Z5H hy
  refine ⟨x, fun j v hj => ?_, hs⟩
  obtain ⟨hj', rfl⟩ := List.getElem?_eq_some_iff.1 hj
  rw [Addr.add_lit]; exact hcs j hj')
 refine ⟨xs, fun n hn => ?_, SliceOf.imp hx fun a x h => h.1⟩
 obtain ⟨i, hi, rfl⟩ := List.mem_iff_getElem.1 hn
 obtain ⟨b, off, cap, _, _, hall⟩ := hx.some (by omega)
 exact (hall i hi).2
theorem Z6f {n : Nat} {cs : List Value} {y : DataW H × List MemPlace} (h : DataW.trod enc Tryz.prog W 0 (fun _ => true) true n 53 cs = some y) : ∃ (x : Zn) (S : List Zd) (a : Option Addr) (c : Nat), cs = Z2q x ++ [.slice a S.length c] ∧ Z8u x ∧ (∀ s ∈ S, Z83 s) ∧ ListAt Z0l 38 W (.slice a S.length c) S := by
 obtain ⟨hl, m, hf⟩ := Z1A Tryz.underlying53 h
 obtain ⟨z1, h1⟩ := hf 0 _ rfl
 obtain ⟨z2, h2⟩ := hf 1 _ rfl
 obtain ⟨x, e1, hx⟩ := Z4V h1
 obtain ⟨a, len, cap, e2⟩ := Z24 Tryz.underlying51 h2
 have h2' := h2
 rw [e2] at h2'
 obtain ⟨S, hS, hL⟩ := Z5M (v := .slice a len cap) (d := z2.1) (ps := z2.2) ⟨_, _, _, rfl⟩ ⟨m, h2'⟩
 obtain ⟨a', c', hv⟩ := hL.len
 rw [hv] at hL e2
 simp only [List.getElem_toArray, List.getElem_cons_zero, List.getElem_cons_succ] at e1 e2
 simp only [show Tryz.prog.cellsOf 51 = 1 by kernel_rfl, show Tryz.prog.cellsOf 50 = 37 by kernel_rfl] at e1 e2
 refine ⟨x, S, a', c', ?_, hx, hS, hL⟩
 have := Z0s e1 (Z0s e2 (Z2D (hl.trans (show Tryz.prog.cellsOf 53 = 38 by kernel_rfl))))
 simp only [List.drop_zero] at this
 rw [this]; simp
end
end Go.Proofs.YtoaifondpohniaaGreat
namespace Go.Proofs.YtoaifondpohniaaGreat
open Go.RowKit
structure Z8r where
 d : Int
 f : Int
 t : Int
 u : Int
 n : NmD
 ta : Option Addr
 tc : Nat
 xs : List Int
 X : CeR
def ac0 : Z8r := ⟨0, 0, 0, 0, nm0, none, 0, [], ce0⟩
def Z7u (a : Z8r) : List Value := [.int .i64 a.d, .int .i64 a.f, .int .u64 a.t, .int .u64 a.u, .int .i64 a.n.cl, .int .i64 a.n.sq, .slice a.ta a.xs.length a.tc] ++ ZK a.X
structure AcOk (W : World) (a : Z8r) : Prop where
 xs : ListAt Z1V 1 W (.slice a.ta a.xs.length a.tc) a.xs
 b : ∀ x ∈ a.xs, 0 ≤ x ∧ x ≤ 18446744073709551615
 X : CeOk W a.X
 S : ∀ s ∈ a.X.S, Z83 s
 t : 0 ≤ a.t ∧ a.t ≤ 18446744073709551615
 u : 0 ≤ a.u ∧ a.u ≤ 18446744073709551615
end Go.Proofs.YtoaifondpohniaaGreat
namespace Go.Proofs.YtoaifondpohniaaGreat
open Go.ChangeShapes Go.WideShapes Go.ChangeAt Go.RowKit Go.Deep
section
variable {H : Type} {enc : TypeId × Value → H} {W : World}
theorem Z89 {n : Nat} {cs : List Value} {y : DataW H × List MemPlace} (h : DataW.trod enc Tryz.prog W 0 (fun _ => true) true n 55 cs = some y) : ∃ a : Z8r, cs = Z7u a ∧ AcOk W a := by
 obtain ⟨hl, m, hf⟩ := Z1A Tryz.underlying55 h
 obtain ⟨z0, h0⟩ := hf 0 _ rfl
 obtain ⟨z1, h1⟩ := hf 1 _ rfl
 obtain ⟨z2, h2⟩ := hf 2 _ rfl
 obtain ⟨z3, h3⟩ := hf 3 _ rfl
 obtain ⟨z4, h4⟩ := hf 4 _ rfl
 obtain ⟨z5, h5⟩ := hf 5 _ rfl
 obtain ⟨z6, h6⟩ := hf 6 _ rfl
 obtain ⟨d, e0, _⟩ := Z0t (k := .i64) (by kernel_rfl) h0
 obtain ⟨f, e1, _⟩ := Z0t (k := .i64) (by kernel_rfl) h1
 obtain ⟨t, e2, w2⟩ := Z0t (k := .u64) (by kernel_rfl) h2
 obtain ⟨u, e3, w3⟩ := Z0t (k := .u64) (by kernel_rfl) h3
 obtain ⟨na, nb, e4, _⟩ := Z33 h4
 obtain ⟨a5, l5, c5, e5⟩ := Z24 Tryz.underlying48 h5
 have h5' := h5
 rw [e5] at h5'
 obtain ⟨xs, hb, hL⟩ := Z7C (v := .slice a5 l5 c5) (d := z5.1) (ps := z5.2) Tryz.underlying48 Tryz.underlying27 (by kernel_rfl) ⟨_, _, _, rfl⟩ ⟨m, h5'⟩
 obtain ⟨a', c', hv⟩ := SliceOf.len hL
 rw [hv] at hL e5
 obtain ⟨x, S, sa, sc, e6, _, hs, hSl⟩ := Z6f h6
 simp only [List.getElem_toArray, List.getElem_cons_zero, List.getElem_cons_succ] at e0 e1 e2 e3 e4 e5 e6
 simp only [show Tryz.prog.cellsOf 3 = 1 by kernel_rfl, show Tryz.prog.cellsOf 27 = 1 by kernel_rfl, show Tryz.prog.cellsOf 24 = 2 by kernel_rfl, show Tryz.prog.cellsOf 48 = 1 by kernel_rfl, show Tryz.prog.cellsOf 53 = 38 by kernel_rfl] at e0 e1 e2 e3 e4 e5 e6
 refine ⟨⟨d, f, t, u, ⟨na, nb⟩, a', c', xs, ⟨x, sa, sc, S⟩⟩, ?_, hL, hb, hSl, hs, Z3R w2, Z3R w3⟩
 have := Z0s e0 (Z0s e1 (Z0s e2 (Z0s e3 (Z0s e4 (Z0s e5 (Z0s e6 (Z2D (hl.trans (show Tryz.prog.cellsOf 55 = 45 by kernel_rfl)))))))))
 simp only [List.drop_zero] at this
 rw [this]; simp [Z7u, ZK]
theorem Z7G {v : Value} {d : DataW H} {ps : List MemPlace} (hv : ∃ a len cap, v = .slice a len cap) (h : DataW.Trod enc Tryz.prog W 0 (fun _ => true) true 22 v d ps) : ∃ xs, (∀ x ∈ xs, AcOk W x) ∧ ListAt Z7u 45 W v xs := by
 obtain ⟨xs, hx⟩ := Z2c (sz := 45) (R := fun w a (x : Z8r) => Z27 w a (Z7u x) ∧ AcOk W x) Tryz.underlying22 (by kernel_rfl) (by omega) hv h (fun cs n y b off hl hcs hy => by
  obtain ⟨x, rfl, hs⟩ := Z89 hy
  refine ⟨x, fun j v hj => ?_, hs⟩
  obtain ⟨hj', rfl⟩ := List.getElem?_eq_some_iff.1 hj
  rw [Addr.add_lit]; exact hcs j hj')
 refine ⟨xs, fun n hn => ?_, SliceOf.imp hx fun a x h => h.1⟩
 obtain ⟨i, hi, rfl⟩ := List.mem_iff_getElem.1 hn
 obtain ⟨b, off, cap, _, _, hall⟩ := hx.some (by omega)
 exact (hall i hi).2
end
end Go.Proofs.YtoaifondpohniaaGreat
