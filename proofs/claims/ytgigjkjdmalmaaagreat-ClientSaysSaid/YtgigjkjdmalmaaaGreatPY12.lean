/- WHAT IS PROVED: contracts and plain laws of OpenM, IntJ, OpenJ, ClM. Conditions: stated with each. -/
import Derived.Test.YtgigjkjdmalmaaaGreatPY04
import Derived.Test.YtgigjkjdmalmaaaGreatPY06
import Derived.Test.YtgigjkjdmalmaaaGreatPY10
import Derived.Test.YtgigjkjdmalmaaaGreatPY11
set_option maxHeartbeats 4000000
set_option maxRecDepth 100000
namespace Go.Proofs.YtgigjkjdmalmaaaGreat
open Go.ChangeShapes Go.WideShapes Go.ChangeAt Go.RowKit Go.Deep
section
variable {H : Type} {enc : TypeId × Value → H} {W : World}
theorem Z7Q {n : Nat} {cs : List Value} {y : DataW H × List MemPlace} (h : DataW.trod enc Tryz.prog W 0 (fun _ => true) true n 57 cs = some y) : ∃ c : CeR, cs = Z2J c ∧ Zcs W c := by
 obtain ⟨x, S, a, c, e, _, hs, hl⟩ := Z8m h
 exact ⟨⟨x, a, c, S⟩, e, hl⟩
theorem ZaY {v : Value} {d : DataW H} {ps : List MemPlace} (hv : ∃ a len cap, v = .slice a len cap) (h : DataW.Trod enc Tryz.prog W 0 (fun _ => true) true 60 v d ps) : ∃ xs, (∀ x ∈ xs, Zcs W x) ∧ ListAt Z2J 38 W v xs := by
 obtain ⟨xs, hx⟩ := Z0x (sz := 38) (R := fun w a (x : CeR) => Z1v w a (Z2J x) ∧ Zcs W x) Tryz.underlying60 (by kernel_rfl) (by omega) hv h (fun cs n y b off hl hcs hy => by
  obtain ⟨x, rfl, hs⟩ := Z7Q hy
  refine ⟨x, fun j v hj => ?_, hs⟩
  obtain ⟨hj', rfl⟩ := List.getElem?_eq_some_iff.1 hj
  rw [Addr.add_lit]; exact hcs j hj')
 refine ⟨xs, fun n hn => ?_, SliceOf.imp hx fun a x h => h.1⟩
 obtain ⟨i, hi, rfl⟩ := List.mem_iff_getElem.1 hn
 obtain ⟨b, off, cap, _, _, hall⟩ := hx.some (by omega)
 exact (hall i hi).2
theorem Z8b {n : Nat} {cs : List Value} {y : DataW H × List MemPlace} (h : DataW.trod enc Tryz.prog W 0 (fun _ => true) true n 62 cs = some y) : ∃ x : PrR, cs = Z3s x ∧ Zct W x := by
 obtain ⟨hl, m, hf⟩ := Z0l Tryz.underlying62 h
 obtain ⟨z0, h0⟩ := hf 0 _ rfl
 obtain ⟨z1, h1⟩ := hf 1 _ rfl
 obtain ⟨z2, h2⟩ := hf 2 _ rfl
 obtain ⟨z3, h3⟩ := hf 3 _ rfl
 obtain ⟨z4, h4⟩ := hf 4 _ rfl
 obtain ⟨r, e0, w0⟩ := Zp (k := .i64) (by kernel_rfl) h0
 obtain ⟨e, e1, w1⟩ := Zp (k := .i64) (by kernel_rfl) h1
 obtain ⟨f, e2, w2⟩ := Zp (k := .u64) (by kernel_rfl) h2
 obtain ⟨a3, l3, c3, e3⟩ := Z0i Tryz.underlying60 h3
 have g3 := h3
 rw [e3] at g3
 obtain ⟨C, p3, q3⟩ := ZaY (v := .slice a3 l3 c3) (d := z3.1) (ps := z3.2) ⟨_, _, _, rfl⟩ ⟨m, g3⟩
 obtain ⟨b3, k3, u3⟩ := q3.len
 rw [u3] at q3 e3
 obtain ⟨sb, sm, e4, w4, v4⟩ := Z1O h4
 simp only [List.getElem_toArray, List.getElem_cons_zero, List.getElem_cons_succ] at e0 e1 e2 e3 e4
 simp only [show Tryz.prog.cellsOf 3 = 1 by kernel_rfl, show Tryz.prog.cellsOf 45 = 1 by kernel_rfl, show Tryz.prog.cellsOf 60 = 1 by kernel_rfl, show Tryz.prog.cellsOf 47 = 2 by kernel_rfl] at e0 e1 e2 e3 e4
 refine ⟨⟨r, e, f, b3, k3, sb, sm, C⟩, ?_, ⟨q3, p3⟩⟩
 have := Zm e0 (Zm e1 (Zm e2 (Zm e3 (Zm e4 (Z0V (hl.trans (show Tryz.prog.cellsOf 62 = 6 by kernel_rfl)))))))
 simp only [List.drop_zero] at this
 rw [this]; simp [Z3s]
theorem Zb2 {v : Value} {d : DataW H} {ps : List MemPlace} (hv : ∃ a len cap, v = .slice a len cap) (h : DataW.Trod enc Tryz.prog W 0 (fun _ => true) true 63 v d ps) : ∃ xs, (∀ x ∈ xs, Zct W x) ∧ ListAt Z3s 6 W v xs := by
 obtain ⟨xs, hx⟩ := Z0x (sz := 6) (R := fun w a (x : PrR) => Z1v w a (Z3s x) ∧ Zct W x) Tryz.underlying63 (by kernel_rfl) (by omega) hv h (fun cs n y b off hl hcs hy => by
  obtain ⟨x, rfl, hs⟩ := Z8b hy
  refine ⟨x, fun j v hj => ?_, hs⟩
  obtain ⟨hj', rfl⟩ := List.getElem?_eq_some_iff.1 hj
  rw [Addr.add_lit]; exact hcs j hj')
 refine ⟨xs, fun n hn => ?_, SliceOf.imp hx fun a x h => h.1⟩
 obtain ⟨i, hi, rfl⟩ := List.mem_iff_getElem.1 hn
 obtain ⟨b, off, cap, _, _, hall⟩ := hx.some (by omega)
 exact (hall i hi).2
theorem Z9U {v : Value} {d : DataW H} {ps : List MemPlace} (hv : ∃ a len cap, v = .slice a len cap) (h : DataW.Trod enc Tryz.prog W 0 (fun _ => true) true 38 v d ps) : ∃ xs, ListAt ZH 1 W v xs := by
 obtain ⟨X, hX⟩ := Zb5 Tryz.underlying38 Tryz.underlying5 (by kernel_rfl) hv h
 exact ⟨X, ListAt.ofTxt (show (ZX v X).ok W from hX)⟩
theorem Z88 {n : Nat} {cs : List Value} {y : DataW H × List MemPlace} (h : DataW.trod enc Tryz.prog W 0 (fun _ => true) true n 75 cs = some y) : ∃ x : OpR, cs = Z3r x ∧ OpIn W x := by
 obtain ⟨hl, m, hf⟩ := Z0l Tryz.underlying75 h
 obtain ⟨z0, h0⟩ := hf 0 _ rfl
 obtain ⟨z1, h1⟩ := hf 1 _ rfl
 obtain ⟨z2, h2⟩ := hf 2 _ rfl
 obtain ⟨i, e0, w0⟩ := Zp (k := .i64) (by kernel_rfl) h0
 obtain ⟨a1, l1, c1, e1⟩ := Z0i Tryz.underlying38 h1
 have g1 := h1
 rw [e1] at g1
 obtain ⟨P, q1⟩ := Z9U (v := .slice a1 l1 c1) (d := z1.1) (ps := z1.2) ⟨_, _, _, rfl⟩ ⟨m, g1⟩
 obtain ⟨b1, k1, u1⟩ := q1.len
 rw [u1] at q1 e1
 obtain ⟨h_, e2⟩ := Z1G h2
 simp only [List.getElem_toArray, List.getElem_cons_zero, List.getElem_cons_succ] at e0 e1 e2
 simp only [show Tryz.prog.cellsOf 3 = 1 by kernel_rfl, show Tryz.prog.cellsOf 38 = 1 by kernel_rfl, show Tryz.prog.cellsOf 40 = 32 by kernel_rfl] at e0 e1 e2
 refine ⟨⟨i, b1, k1, P, h_⟩, ?_, q1⟩
 have := Zm e0 (Zm e1 (Zm e2 (Z0V (hl.trans (show Tryz.prog.cellsOf 75 = 34 by kernel_rfl)))))
 simp only [List.drop_zero] at this
 rw [this]; simp [Z3r]
theorem Zb1 {v : Value} {d : DataW H} {ps : List MemPlace} (hv : ∃ a len cap, v = .slice a len cap) (h : DataW.Trod enc Tryz.prog W 0 (fun _ => true) true 64 v d ps) : ∃ xs, (∀ x ∈ xs, OpIn W x) ∧ ListAt Z3r 34 W v xs := by
 obtain ⟨xs, hx⟩ := Z0x (sz := 34) (R := fun w a (x : OpR) => Z1v w a (Z3r x) ∧ OpIn W x) Tryz.underlying64 (by kernel_rfl) (by omega) hv h (fun cs n y b off hl hcs hy => by
  obtain ⟨x, rfl, hs⟩ := Z88 hy
  refine ⟨x, fun j v hj => ?_, hs⟩
  obtain ⟨hj', rfl⟩ := List.getElem?_eq_some_iff.1 hj
  rw [Addr.add_lit]; exact hcs j hj')
 refine ⟨xs, fun n hn => ?_, SliceOf.imp hx fun a x h => h.1⟩
 obtain ⟨i, hi, rfl⟩ := List.mem_iff_getElem.1 hn
 obtain ⟨b, off, cap, _, _, hall⟩ := hx.some (by omega)
 exact (hall i hi).2
theorem Z7V {n : Nat} {cs : List Value} {y : DataW H × List MemPlace} (h : DataW.trod enc Tryz.prog W 0 (fun _ => true) true n 77 cs = some y) : ∃ x : Z2H, cs = Z2T x := by
 obtain ⟨hl, m, hf⟩ := Z0l Tryz.underlying77 h
 obtain ⟨z0, h0⟩ := hf 0 _ rfl
 obtain ⟨z1, h1⟩ := hf 1 _ rfl
 obtain ⟨z2, h2⟩ := hf 2 _ rfl
 obtain ⟨r, e0, w0⟩ := Zp (k := .i64) (by kernel_rfl) h0
 obtain ⟨i, e1, w1⟩ := Zp (k := .i64) (by kernel_rfl) h1
 obtain ⟨sb, sm, e2, w2, v2⟩ := Z1O h2
 simp only [List.getElem_toArray, List.getElem_cons_zero, List.getElem_cons_succ] at e0 e1 e2
 simp only [show Tryz.prog.cellsOf 3 = 1 by kernel_rfl, show Tryz.prog.cellsOf 47 = 2 by kernel_rfl] at e0 e1 e2
 refine ⟨⟨r, i, sb, sm⟩, ?_⟩
 have := Zm e0 (Zm e1 (Zm e2 (Z0V (hl.trans (show Tryz.prog.cellsOf 77 = 4 by kernel_rfl)))))
 simp only [List.drop_zero] at this
 rw [this]; simp [Z2T]
theorem ZaZ {v : Value} {d : DataW H} {ps : List MemPlace} (hv : ∃ a len cap, v = .slice a len cap) (h : DataW.Trod enc Tryz.prog W 0 (fun _ => true) true 164 v d ps) : ∃ xs, ListAt Z2T 4 W v xs := by
 obtain ⟨xs, hx⟩ := Z0x (sz := 4) (R := fun w a (x : Z2H) => Z1v w a (Z2T x)) Tryz.underlying164 (by kernel_rfl) (by omega) hv h (fun cs n y b off hl hcs hy => by
  obtain ⟨x, rfl⟩ := Z7V hy
  refine ⟨x, fun j v hj => ?_⟩
  obtain ⟨hj', rfl⟩ := List.getElem?_eq_some_iff.1 hj
  rw [Addr.add_lit]; exact hcs j hj')
 exact ⟨xs, SliceOf.imp hx fun a x h => h⟩
theorem Zbi {n : Nat} {cs : List Value} {y : DataW H × List MemPlace} (h : DataW.trod enc Tryz.prog W 0 (fun _ => true) true n 166 cs = some y) : ∃ x : TbR, cs = Z4f x ∧ TbIn W x := by
 obtain ⟨hl, m, hf⟩ := Z0l Tryz.underlying166 h
 obtain ⟨z0, h0⟩ := hf 0 _ rfl
 obtain ⟨z1, h1⟩ := hf 1 _ rfl
 obtain ⟨i, e0, w0⟩ := Zp (k := .i64) (by kernel_rfl) h0
 obtain ⟨a1, l1, c1, e1⟩ := Z0i Tryz.underlying164 h1
 have g1 := h1
 rw [e1] at g1
 obtain ⟨D, q1⟩ := ZaZ (v := .slice a1 l1 c1) (d := z1.1) (ps := z1.2) ⟨_, _, _, rfl⟩ ⟨m, g1⟩
 obtain ⟨b1, k1, u1⟩ := q1.len
 rw [u1] at q1 e1
 simp only [List.getElem_toArray, List.getElem_cons_zero, List.getElem_cons_succ] at e0 e1
 simp only [show Tryz.prog.cellsOf 3 = 1 by kernel_rfl, show Tryz.prog.cellsOf 164 = 1 by kernel_rfl] at e0 e1
 refine ⟨⟨i, b1, k1, D⟩, ?_, q1⟩
 have := Zm e0 (Zm e1 (Z0V (hl.trans (show Tryz.prog.cellsOf 166 = 2 by kernel_rfl))))
 simp only [List.drop_zero] at this
 rw [this]; simp [Z4f]
theorem Zb4 {v : Value} {d : DataW H} {ps : List MemPlace} (hv : ∃ a len cap, v = .slice a len cap) (h : DataW.Trod enc Tryz.prog W 0 (fun _ => true) true 65 v d ps) : ∃ xs, (∀ x ∈ xs, TbIn W x) ∧ ListAt Z4f 2 W v xs := by
 obtain ⟨xs, hx⟩ := Z0x (sz := 2) (R := fun w a (x : TbR) => Z1v w a (Z4f x) ∧ TbIn W x) Tryz.underlying65 (by kernel_rfl) (by omega) hv h (fun cs n y b off hl hcs hy => by
  obtain ⟨x, rfl, hs⟩ := Zbi hy
  refine ⟨x, fun j v hj => ?_, hs⟩
  obtain ⟨hj', rfl⟩ := List.getElem?_eq_some_iff.1 hj
  rw [Addr.add_lit]; exact hcs j hj')
 refine ⟨xs, fun n hn => ?_, SliceOf.imp hx fun a x h => h.1⟩
 obtain ⟨i, hi, rfl⟩ := List.mem_iff_getElem.1 hn
 obtain ⟨b, off, cap, _, _, hall⟩ := hx.some (by omega)
 exact (hall i hi).2
theorem Z7O {n : Nat} {cs : List Value} {y : DataW H × List MemPlace} (h : DataW.trod enc Tryz.prog W 0 (fun _ => true) true n 67 cs = some y) : ∃ x : BtR, cs = Z7q x ∧ BtIn W x := by
 obtain ⟨hl, m, hf⟩ := Z0l Tryz.underlying67 h
 obtain ⟨z0, h0⟩ := hf 0 _ rfl
 obtain ⟨z1, h1⟩ := hf 1 _ rfl
 obtain ⟨z2, h2⟩ := hf 2 _ rfl
 obtain ⟨z3, h3⟩ := hf 3 _ rfl
 obtain ⟨z4, h4⟩ := hf 4 _ rfl
 obtain ⟨e, e0, w0⟩ := Zp (k := .i64) (by kernel_rfl) h0
 obtain ⟨t, e1, w1⟩ := Zp (k := .u64) (by kernel_rfl) h1
 obtain ⟨a2, l2, c2, e2⟩ := Z0i Tryz.underlying63 h2
 have g2 := h2
 rw [e2] at g2
 obtain ⟨P, p2, q2⟩ := Zb2 (v := .slice a2 l2 c2) (d := z2.1) (ps := z2.2) ⟨_, _, _, rfl⟩ ⟨m, g2⟩
 obtain ⟨b2, k2, u2⟩ := q2.len
 rw [u2] at q2 e2
 obtain ⟨a3, l3, c3, e3⟩ := Z0i Tryz.underlying64 h3
 have g3 := h3
 rw [e3] at g3
 obtain ⟨O, p3, q3⟩ := Zb1 (v := .slice a3 l3 c3) (d := z3.1) (ps := z3.2) ⟨_, _, _, rfl⟩ ⟨m, g3⟩
 obtain ⟨b3, k3, u3⟩ := q3.len
 rw [u3] at q3 e3
 obtain ⟨a4, l4, c4, e4⟩ := Z0i Tryz.underlying65 h4
 have g4 := h4
 rw [e4] at g4
 obtain ⟨T, p4, q4⟩ := Zb4 (v := .slice a4 l4 c4) (d := z4.1) (ps := z4.2) ⟨_, _, _, rfl⟩ ⟨m, g4⟩
 obtain ⟨b4, k4, u4⟩ := q4.len
 rw [u4] at q4 e4
 simp only [List.getElem_toArray, List.getElem_cons_zero, List.getElem_cons_succ] at e0 e1 e2 e3 e4
 simp only [show Tryz.prog.cellsOf 3 = 1 by kernel_rfl, show Tryz.prog.cellsOf 45 = 1 by kernel_rfl, show Tryz.prog.cellsOf 63 = 1 by kernel_rfl, show Tryz.prog.cellsOf 64 = 1 by kernel_rfl, show Tryz.prog.cellsOf 65 = 1 by kernel_rfl] at e0 e1 e2 e3 e4
 refine ⟨⟨e, t, b2, k2, P, b3, k3, O, b4, k4, T⟩, ?_, ⟨q2, p2, q3, p3, q4, p4⟩⟩
 have := Zm e0 (Zm e1 (Zm e2 (Zm e3 (Zm e4 (Z0V (hl.trans (show Tryz.prog.cellsOf 67 = 5 by kernel_rfl)))))))
 simp only [List.drop_zero] at this
 rw [this]; simp [Z7q]
theorem Z8g {n : Nat} {cs : List Value} {y : DataW H × List MemPlace} (h : DataW.trod enc Tryz.prog W 0 (fun _ => true) true n 71 cs = some y) : ∃ x : VtD, cs = Z2n x := by
 obtain ⟨hl, m, hf⟩ := Z0l Tryz.underlying71 h
 obtain ⟨z0, h0⟩ := hf 0 _ rfl
 obtain ⟨z1, h1⟩ := hf 1 _ rfl
 obtain ⟨z2, h2⟩ := hf 2 _ rfl
 obtain ⟨z3, h3⟩ := hf 3 _ rfl
 obtain ⟨z4, h4⟩ := hf 4 _ rfl
 obtain ⟨z5, h5⟩ := hf 5 _ rfl
 obtain ⟨k, e0, w0⟩ := Zp (k := .i64) (by kernel_rfl) h0
 obtain ⟨e, e1, w1⟩ := Zp (k := .i64) (by kernel_rfl) h1
 obtain ⟨d, e2, w2⟩ := Zp (k := .i64) (by kernel_rfl) h2
 obtain ⟨r, e3, w3⟩ := Zp (k := .i64) (by kernel_rfl) h3
 obtain ⟨h_, e4⟩ := Z1G h4
 obtain ⟨sb, sm, e5, w5, v5⟩ := Z1O h5
 simp only [List.getElem_toArray, List.getElem_cons_zero, List.getElem_cons_succ] at e0 e1 e2 e3 e4 e5
 simp only [show Tryz.prog.cellsOf 3 = 1 by kernel_rfl, show Tryz.prog.cellsOf 40 = 32 by kernel_rfl, show Tryz.prog.cellsOf 47 = 2 by kernel_rfl] at e0 e1 e2 e3 e4 e5
 refine ⟨⟨k, e, d, r, h_, sb, sm⟩, ?_⟩
 have := Zm e0 (Zm e1 (Zm e2 (Zm e3 (Zm e4 (Zm e5 (Z0V (hl.trans (show Tryz.prog.cellsOf 71 = 38 by kernel_rfl))))))))
 simp only [List.drop_zero] at this
 rw [this]; simp [Z2n]
theorem Zb6 {v : Value} {d : DataW H} {ps : List MemPlace} (hv : ∃ a len cap, v = .slice a len cap) (h : DataW.Trod enc Tryz.prog W 0 (fun _ => true) true 78 v d ps) : ∃ xs, ListAt Z2n 38 W v xs := by
 obtain ⟨xs, hx⟩ := Z0x (sz := 38) (R := fun w a (x : VtD) => Z1v w a (Z2n x)) Tryz.underlying78 (by kernel_rfl) (by omega) hv h (fun cs n y b off hl hcs hy => by
  obtain ⟨x, rfl⟩ := Z8g hy
  refine ⟨x, fun j v hj => ?_⟩
  obtain ⟨hj', rfl⟩ := List.getElem?_eq_some_iff.1 hj
  rw [Addr.add_lit]; exact hcs j hj')
 exact ⟨xs, SliceOf.imp hx fun a x h => h⟩
theorem Zay {n : Nat} {cs : List Value} {y : DataW H × List MemPlace} (h : DataW.trod enc Tryz.prog W 0 (fun _ => true) true n 73 cs = some y) : ∃ x : EntD, cs = Z4L x := by
 obtain ⟨hl, m, hf⟩ := Z0l Tryz.underlying73 h
 obtain ⟨z0, h0⟩ := hf 0 _ rfl
 obtain ⟨z1, h1⟩ := hf 1 _ rfl
 obtain ⟨z2, h2⟩ := hf 2 _ rfl
 obtain ⟨cl, sq, e0, w0, v0⟩ := Z2E h0
 obtain ⟨h_, e1⟩ := Z1G h1
 obtain ⟨t, e2, w2⟩ := Zp (k := .u64) (by kernel_rfl) h2
 simp only [List.getElem_toArray, List.getElem_cons_zero, List.getElem_cons_succ] at e0 e1 e2
 simp only [show Tryz.prog.cellsOf 43 = 2 by kernel_rfl, show Tryz.prog.cellsOf 40 = 32 by kernel_rfl, show Tryz.prog.cellsOf 45 = 1 by kernel_rfl] at e0 e1 e2
 refine ⟨⟨cl, sq, h_, t⟩, ?_⟩
 have := Zm e0 (Zm e1 (Zm e2 (Z0V (hl.trans (show Tryz.prog.cellsOf 73 = 35 by kernel_rfl)))))
 simp only [List.drop_zero] at this
 rw [this]; simp [Z4L]
theorem Zam {n : Nat} {cs : List Value} {y : DataW H × List MemPlace} (h : DataW.trod enc Tryz.prog W 0 (fun _ => true) true n 59 cs = some y) : ∃ x : Zk, cs = ZV x ∧ Z3V x := by
 obtain ⟨hl, m, hf⟩ := Z0l Tryz.underlying59 h
 obtain ⟨z0, h0⟩ := hf 0 _ rfl
 obtain ⟨z1, h1⟩ := hf 1 _ rfl
 obtain ⟨z2, h2⟩ := hf 2 _ rfl
 obtain ⟨z3, h3⟩ := hf 3 _ rfl
 obtain ⟨z4, h4⟩ := hf 4 _ rfl
 obtain ⟨r, e0, w0⟩ := Zp (k := .i64) (by kernel_rfl) h0
 obtain ⟨cl, sq, e1, w1, v1⟩ := Z2E h1
 obtain ⟨h_, e2⟩ := Z1G h2
 obtain ⟨t, e3, w3⟩ := Zp (k := .u64) (by kernel_rfl) h3
 obtain ⟨sb, sm, e4, w4, v4⟩ := Z1O h4
 simp only [List.getElem_toArray, List.getElem_cons_zero, List.getElem_cons_succ] at e0 e1 e2 e3 e4
 simp only [show Tryz.prog.cellsOf 3 = 1 by kernel_rfl, show Tryz.prog.cellsOf 43 = 2 by kernel_rfl, show Tryz.prog.cellsOf 40 = 32 by kernel_rfl, show Tryz.prog.cellsOf 45 = 1 by kernel_rfl, show Tryz.prog.cellsOf 47 = 2 by kernel_rfl] at e0 e1 e2 e3 e4
 refine ⟨⟨r, cl, sq, h_, t, sb, sm⟩, ?_, (by have q0 := Z5n w0; have q3 := ZbK w3; unfold Z3V; simp only; omega)⟩
 have := Zm e0 (Zm e1 (Zm e2 (Zm e3 (Zm e4 (Z0V (hl.trans (show Tryz.prog.cellsOf 59 = 38 by kernel_rfl)))))))
 simp only [List.drop_zero] at this
 rw [this]; simp [ZV]
structure PoR where
 e : Int
 d : Int
 v : Int
 r : Int
 b : BtR
 sb : Int
 sm : Int
def ZbY (x : PoR) : List Value := [.int .i64 x.e, .int .i64 x.d, .int .i64 x.v, .int .i64 x.r] ++ Z7q x.b ++ [.int .i64 x.sb, .int .i64 x.sm]
structure DeR where
 e : Int
 d : Int
 b : BtR
 a : Option Addr
 c : Nat
 V : List VtD
def ZbX (x : DeR) : List Value := [.int .i64 x.e, .int .i64 x.d] ++ Z7q x.b ++ [.slice x.a x.V.length x.c]
theorem Zb9 {n : Nat} {cs : List Value} {y : DataW H × List MemPlace} (h : DataW.trod enc Tryz.prog W 0 (fun _ => true) true n 69 cs = some y) : ∃ x : PoR, cs = ZbY x ∧ BtIn W x.b := by
 obtain ⟨hl, m, hf⟩ := Z0l Tryz.underlying69 h
 obtain ⟨z0, h0⟩ := hf 0 _ rfl
 obtain ⟨z1, h1⟩ := hf 1 _ rfl
 obtain ⟨z2, h2⟩ := hf 2 _ rfl
 obtain ⟨z3, h3⟩ := hf 3 _ rfl
 obtain ⟨z4, h4⟩ := hf 4 _ rfl
 obtain ⟨z5, h5⟩ := hf 5 _ rfl
 obtain ⟨e, e0, w0⟩ := Zp (k := .i64) (by kernel_rfl) h0
 obtain ⟨d, e1, w1⟩ := Zp (k := .i64) (by kernel_rfl) h1
 obtain ⟨v, e2, w2⟩ := Zp (k := .i64) (by kernel_rfl) h2
 obtain ⟨r, e3, w3⟩ := Zp (k := .i64) (by kernel_rfl) h3
 obtain ⟨b, e4, p4⟩ := Z7O h4
 obtain ⟨sb, sm, e5, w5, v5⟩ := Z1O h5
 simp only [List.getElem_toArray, List.getElem_cons_zero, List.getElem_cons_succ] at e0 e1 e2 e3 e4 e5
 simp only [show Tryz.prog.cellsOf 3 = 1 by kernel_rfl, show Tryz.prog.cellsOf 67 = 5 by kernel_rfl, show Tryz.prog.cellsOf 47 = 2 by kernel_rfl] at e0 e1 e2 e3 e4 e5
 refine ⟨⟨e, d, v, r, b, sb, sm⟩, ?_, p4⟩
 have := Zm e0 (Zm e1 (Zm e2 (Zm e3 (Zm e4 (Zm e5 (Z0V (hl.trans (show Tryz.prog.cellsOf 69 = 11 by kernel_rfl))))))))
 simp only [List.drop_zero] at this
 rw [this]; simp [ZbY]
theorem Zas {n : Nat} {cs : List Value} {y : DataW H × List MemPlace} (h : DataW.trod enc Tryz.prog W 0 (fun _ => true) true n 80 cs = some y) : ∃ x : DeR, cs = ZbX x ∧ BtIn W x.b ∧ ListAt Z2n 38 W (.slice x.a x.V.length x.c) x.V := by
 obtain ⟨hl, m, hf⟩ := Z0l Tryz.underlying80 h
 obtain ⟨z0, h0⟩ := hf 0 _ rfl
 obtain ⟨z1, h1⟩ := hf 1 _ rfl
 obtain ⟨z2, h2⟩ := hf 2 _ rfl
 obtain ⟨z3, h3⟩ := hf 3 _ rfl
 obtain ⟨e, e0, w0⟩ := Zp (k := .i64) (by kernel_rfl) h0
 obtain ⟨d, e1, w1⟩ := Zp (k := .i64) (by kernel_rfl) h1
 obtain ⟨b, e2, p2⟩ := Z7O h2
 obtain ⟨a3, l3, c3, e3⟩ := Z0i Tryz.underlying78 h3
 have g3 := h3
 rw [e3] at g3
 obtain ⟨V, q3⟩ := Zb6 (v := .slice a3 l3 c3) (d := z3.1) (ps := z3.2) ⟨_, _, _, rfl⟩ ⟨m, g3⟩
 obtain ⟨b3, k3, u3⟩ := q3.len
 rw [u3] at q3 e3
 simp only [List.getElem_toArray, List.getElem_cons_zero, List.getElem_cons_succ] at e0 e1 e2 e3
 simp only [show Tryz.prog.cellsOf 3 = 1 by kernel_rfl, show Tryz.prog.cellsOf 67 = 5 by kernel_rfl, show Tryz.prog.cellsOf 78 = 1 by kernel_rfl] at e0 e1 e2 e3
 refine ⟨⟨e, d, b, b3, k3, V⟩, ?_, ⟨p2, q3⟩⟩
 have := Zm e0 (Zm e1 (Zm e2 (Zm e3 (Z0V (hl.trans (show Tryz.prog.cellsOf 80 = 8 by kernel_rfl))))))
 simp only [List.drop_zero] at this
 rw [this]; simp [ZbX]
theorem ZaV {n : Nat} {cs : List Value} {y : DataW H × List MemPlace} (h : DataW.trod enc Tryz.prog W 0 (fun _ => true) true n 82 cs = some y) : ∃ x : MsR, cs = Z6E x ∧ MsIn W x := by
 obtain ⟨hl, m, hf⟩ := Z0l Tryz.underlying82 h
 obtain ⟨z0, h0⟩ := hf 0 _ rfl
 obtain ⟨z1, h1⟩ := hf 1 _ rfl
 obtain ⟨z2, h2⟩ := hf 2 _ rfl
 obtain ⟨z3, h3⟩ := hf 3 _ rfl
 obtain ⟨z4, h4⟩ := hf 4 _ rfl
 obtain ⟨z5, h5⟩ := hf 5 _ rfl
 obtain ⟨z6, h6⟩ := hf 6 _ rfl
 obtain ⟨z7, h7⟩ := hf 7 _ rfl
 obtain ⟨z8, h8⟩ := hf 8 _ rfl
 obtain ⟨z9, h9⟩ := hf 9 _ rfl
 obtain ⟨z10, h10⟩ := hf 10 _ rfl
 obtain ⟨z11, h11⟩ := hf 11 _ rfl
 obtain ⟨z12, h12⟩ := hf 12 _ rfl
 obtain ⟨z13, h13⟩ := hf 13 _ rfl
 obtain ⟨z14, h14⟩ := hf 14 _ rfl
 obtain ⟨z15, h15⟩ := hf 15 _ rfl
 obtain ⟨z16, h16⟩ := hf 16 _ rfl
 obtain ⟨z17, h17⟩ := hf 17 _ rfl
 obtain ⟨z18, h18⟩ := hf 18 _ rfl
 obtain ⟨k, e0, w0⟩ := Zp (k := .i64) (by kernel_rfl) h0
 obtain ⟨fr, e1, w1⟩ := Zp (k := .i64) (by kernel_rfl) h1
 obtain ⟨to, e2, w2⟩ := Zp (k := .i64) (by kernel_rfl) h2
 obtain ⟨co, e3, p3⟩ := Z3C h3
 obtain ⟨st, e4, p4⟩ := Z4A h4
 obtain ⟨cx, e5, p5⟩ := Z7Q h5
 obtain ⟨ak, e6, p6⟩ := Zam h6
 obtain ⟨ep, e7, w7⟩ := Zp (k := .i64) (by kernel_rfl) h7
 obtain ⟨rd, e8, w8⟩ := Zp (k := .i64) (by kernel_rfl) h8
 obtain ⟨tm, e9, w9⟩ := Zp (k := .u64) (by kernel_rfl) h9
 obtain ⟨pr, e10, p10⟩ := Z8b h10
 obtain ⟨qo, e11, p11⟩ := Zb9 h11
 obtain ⟨vo, e12⟩ := Z8g h12
 obtain ⟨ix, e13, w13⟩ := Zp (k := .i64) (by kernel_rfl) h13
 obtain ⟨en, e14⟩ := Zay h14
 obtain ⟨op, e15, p15⟩ := Z88 h15
 obtain ⟨dn, e16⟩ := Z7V h16
 obtain ⟨s_, e17, _⟩ := DataW.trod_string (by kernel_rfl) h17
 obtain ⟨re, rfl⟩ : ∃ l : List UInt8, s_ = ⟨l.toArray⟩ := ⟨s_.data.toList, by simp⟩
 obtain ⟨de, e18, p18⟩ := Zas h18
 simp only [List.getElem_toArray, List.getElem_cons_zero, List.getElem_cons_succ] at e0 e1 e2 e3 e4 e5 e6 e7 e8 e9 e10 e11 e12 e13 e14 e15 e16 e17 e18
 simp only [show Tryz.prog.cellsOf 3 = 1 by kernel_rfl, show Tryz.prog.cellsOf 54 = 37 by kernel_rfl, show Tryz.prog.cellsOf 49 = 38 by kernel_rfl, show Tryz.prog.cellsOf 57 = 38 by kernel_rfl, show Tryz.prog.cellsOf 59 = 38 by kernel_rfl, show Tryz.prog.cellsOf 45 = 1 by kernel_rfl, show Tryz.prog.cellsOf 62 = 6 by kernel_rfl, show Tryz.prog.cellsOf 69 = 11 by kernel_rfl, show Tryz.prog.cellsOf 71 = 38 by kernel_rfl, show Tryz.prog.cellsOf 73 = 35 by kernel_rfl, show Tryz.prog.cellsOf 75 = 34 by kernel_rfl, show Tryz.prog.cellsOf 77 = 4 by kernel_rfl, show Tryz.prog.cellsOf 9 = 1 by kernel_rfl, show Tryz.prog.cellsOf 80 = 8 by kernel_rfl] at e0 e1 e2 e3 e4 e5 e6 e7 e8 e9 e10 e11 e12 e13 e14 e15 e16 e17 e18
 refine ⟨⟨k, fr, to, co, st, cx, ak, ep, rd, tm, pr, qo.e, qo.d, qo.v, qo.r, qo.b, qo.sb, qo.sm, vo, ix, en, op, dn, re, de.e, de.d, de.b, de.a, de.c, de.V⟩, ?_, ⟨p5, p10, p11, p15, p18.1, p18.2, p4, p6⟩⟩
 have := Zm e0 (Zm e1 (Zm e2 (Zm e3 (Zm e4 (Zm e5 (Zm e6 (Zm e7 (Zm e8 (Zm e9 (Zm e10 (Zm e11 (Zm e12 (Zm e13 (Zm e14 (Zm e15 (Zm e16 (Zm e17 (Zm e18 (Z0V (hl.trans (show Tryz.prog.cellsOf 82 = 295 by kernel_rfl)))))))))))))))))))))
 simp only [List.drop_zero] at this
 rw [this]; simp [Z6E, ZbY, ZbX, ZD]
theorem Zb0 {v : Value} {d : DataW H} {ps : List MemPlace} (hv : ∃ a len cap, v = .slice a len cap) (h : DataW.Trod enc Tryz.prog W 0 (fun _ => true) true 35 v d ps) : ∃ xs, (∀ x ∈ xs, MsIn W x) ∧ ListAt Z6E 295 W v xs := by
 obtain ⟨xs, hx⟩ := Z0x (sz := 295) (R := fun w a (x : MsR) => Z1v w a (Z6E x) ∧ MsIn W x) Tryz.underlying35 (by kernel_rfl) (by omega) hv h (fun cs n y b off hl hcs hy => by
  obtain ⟨x, rfl, hs⟩ := ZaV hy
  refine ⟨x, fun j v hj => ?_, hs⟩
  obtain ⟨hj', rfl⟩ := List.getElem?_eq_some_iff.1 hj
  rw [Addr.add_lit]; exact hcs j hj')
 refine ⟨xs, fun n hn => ?_, SliceOf.imp hx fun a x h => h.1⟩
 obtain ⟨i, hi, rfl⟩ := List.mem_iff_getElem.1 hn
 obtain ⟨b, off, cap, _, _, hall⟩ := hx.some (by omega)
 exact (hall i hi).2
end
end Go.Proofs.YtgigjkjdmalmaaaGreat
namespace Go.Proofs.YtgigjkjdmalmaaaGreat
open Go.RowKit
def encJ (x : Int) : List Value := [.int .i64 x]
end Go.Proofs.YtgigjkjdmalmaaaGreat
namespace Go.Proofs.YtgigjkjdmalmaaaGreat
open Go.ChangeShapes Go.WideShapes Go.ChangeAt Go.RowKit Go.Deep
section
variable {H : Type} {enc : TypeId × Value → H} {W : World}
theorem Z7R {a : Addr} {x : Value} (h : W.cell? a = some x) : Z1v W a [x] := fun j u hj => by
 match j, hj with
 | 0, hj =>
  simp only [List.getElem?_cons_zero, Option.some.injEq] at hj
  subst hj
  obtain ⟨b, o, s⟩ := a
  have e : (⟨b, o, s⟩ : Addr).add 0 = ⟨b, o, s⟩ := by cases s <;> simp [Addr.add]
  rw [e]; exact h
 | _ + 1, hj => simp at hj
theorem Zc9 {v : Value} {d : DataW H} {ps : List MemPlace} (hv : ∃ a len cap, v = .slice a len cap) (h : DataW.Trod enc Tryz.prog W 0 (fun _ => true) true 22 v d ps) : ∃ xs, (∀ x ∈ xs, -9223372036854775808 ≤ x ∧ x ≤ 9223372036854775807) ∧ ListAt encJ 1 W v xs := by
 obtain ⟨xs, hx⟩ := Z0x (sz := 1) (R := fun w a (x : Int) => w.cell? a = some (.int .i64 x) ∧ -9223372036854775808 ≤ x ∧ x ≤ 9223372036854775807) Tryz.underlying22 (by kernel_rfl) (by omega) hv h (fun cs n y b off hl hcs hy => by
  obtain ⟨z, rfl, hz⟩ := Zp (k := .i64) Tryz.underlying3 hy
  exact ⟨z, hcs 0 (by simp), Z5n hz⟩)
 refine ⟨xs, fun n hn => ?_, SliceOf.imp hx fun a x h => Z7R h.1⟩
 obtain ⟨i, hi, rfl⟩ := List.mem_iff_getElem.1 hn
 obtain ⟨b, off, cap, _, _, hall⟩ := hx.some (by omega)
 exact (hall i hi).2
end
end Go.Proofs.YtgigjkjdmalmaaaGreat
namespace Go.Proofs.YtgigjkjdmalmaaaGreat
open Go.RowKit
section
variable {κ ν : Type} [DecidableEq κ] {l : List (κ × ν)} {a : κ}
theorem Z9R {x : ν} (h : Zn l a = some x) : (a, x) ∈ l := by
 unfold Zn at h
 obtain ⟨y, hy, rfl⟩ := Option.map_eq_some_iff.1 h
 have h1 := List.find?_some hy
 have h2 := List.mem_of_find?_eq_some hy
 have h3 : y.1 = a := by simpa using h1
 rw [← h3]; exact h2
theorem Z1h : Zn l a = none ↔ a ∉ l.map (·.1) := by
 unfold Zn
 rw [Option.map_eq_none_iff, List.find?_eq_none]
 constructor
 ·intro h hm
  obtain ⟨y, hy, rfl⟩ := List.mem_map.1 hm
  exact h y hy (by simp)
 ·intro h y hy he
  have h3 : y.1 = a := by simpa using he
  exact h (List.mem_map.2 ⟨y, hy, h3⟩)
end
section
set_option linter.unusedSectionVars false
variable {β γ : Type} [DecidableEq β] [DecidableEq γ] {l : List (Int × β)} {k : Int} {v d x : β} {n : Nat}
def Z1Q (l : List (Int × β)) (x : β) : Nat := l.countP fun y => decide (y.2 = x)
def Z0U (l : List (Int × β)) (k : Int) (v : β) : List (Int × β) := if k ∈ l.map (·.1) then l else l ++ [(k, v)]
def Z9T (l : List (Int × β)) (n : Nat) : Prop := ∃ y ∈ l, n ≤ Z1Q l y.2
theorem Z45 (h : k ∈ l.map (·.1)) : Z0U l k v = l := if_pos h
theorem Z40 (h : k ∉ l.map (·.1)) : Z0U l k v = l ++ [(k, v)] := if_neg h
theorem Z8k (h : (l.map (·.1)).Nodup) : ((Z0U l k v).map (·.1)).Nodup := by
 unfold Z0U; split
 ·exact h
 ·rename_i hn
  rw [List.map_append, List.nodup_append]
  exact ⟨h, by simp, fun a ha b hb e => by
   simp only [List.map_cons, List.map_nil, List.mem_singleton] at hb
   exact hn (hb ▸ e ▸ ha)⟩
theorem Z3Z : (Z0U l k v).length ≤ l.length + 1 := by unfold Z0U; split <;> simp
theorem Z65 (h : k ∉ l.map (·.1)) : Z2Y l k v = Z0U l k v := by rw [Z40 h]; unfold Z2Y; rw [if_neg h]
theorem ZaP (h : k ∉ l.map (·.1)) : Zn (l ++ [(k, v)]) k = some v := by
 have q := Z5Z l k v
 unfold Z2Y at q
 rwa [if_neg h] at q
theorem Z3q (l m : List (Int × β)) (x : β) : Z1Q (l ++ m) x = Z1Q l x + Z1Q m x := List.countP_append
theorem Z4b (k : Int) (v x : β) : Z1Q [(k, v)] x = if v = x then 1 else 0 := by
 unfold Z1Q
 by_cases h : v = x <;> simp [h]
theorem Zbn : Z1Q l x ≤ l.length := List.countP_le_length
theorem Z9m (h : k ∈ l.map (·.1)) : (k, (Zn l k).getD d) ∈ l := by
 cases e : Zn l k with
 | none => exact absurd h (Z1h.1 e)
 | some v => exact Z9R e
theorem Z7s (h : k ∉ l.map (·.1)) : (Zn (Z0U l k v) k).getD d = v := by rw [Z40 h, ZaP h]; rfl
theorem ZaT : Z9T (Z0U l k v) n ↔ Z9T l n ∨ n ≤ Z1Q (Z0U l k v) ((Zn (Z0U l k v) k).getD d) := by
 by_cases h : k ∈ l.map (·.1)
 ·rw [Z45 h]
  constructor
  ·exact .inl
  ·rintro (q | q)
   ·exact q
   ·exact ⟨_, Z9m h, q⟩
 ·rw [Z7s h, Z40 h]
  constructor
  ·rintro ⟨y, hy, q⟩
   by_cases e : y.2 = v
   ·right; rw [e] at q; exact q
   ·left
    rw [Z3q, Z4b, if_neg (fun q => e q.symm), Nat.add_zero] at q
    rcases List.mem_append.1 hy with hy | hy
    ·exact ⟨y, hy, q⟩
    ·exact absurd (by rw [List.mem_singleton.1 hy]) e
  ·rintro (⟨y, hy, q⟩ | q)
   ·exact ⟨y, List.mem_append_left _ hy, by rw [Z3q]; omega⟩
   ·exact ⟨(k, v), by simp, q⟩
theorem ZaU : ¬ Z9T ([] : List (Int × β)) n := by rintro ⟨y, hy, _⟩; cases hy
variable {f : β → γ}
theorem ZaJ : (l.map fun e => (e.1, f e.2)).map (·.1) = l.map (·.1) := by rw [List.map_map]; rfl
theorem Z7N : Z0U (l.map fun e => (e.1, f e.2)) k (f v) = (Z0U l k v).map fun e => (e.1, f e.2) := by
 unfold Z0U
 rw [ZaJ]
 split
 ·rfl
 ·rw [List.map_append]; rfl
theorem ZbM (hf : ∀ a b, f a = f b → a = b) : Z1Q (l.map fun e => (e.1, f e.2)) (f x) = Z1Q l x := by
 unfold Z1Q
 rw [List.countP_map]
 congr 1
 funext y
 show decide (f y.2 = f x) = decide (y.2 = x)
 by_cases h : y.2 = x
 ·rw [h]; simp
 ·rw [decide_eq_false h, decide_eq_false (fun e => h (hf _ _ e))]
theorem ZaO (k : Int) : Zn (l.map fun e => (e.1, f e.2)) k = (Zn l k).map f := by
 unfold Zn
 rw [List.find?_map, Option.map_map, Option.map_map]
 rfl
theorem Z7S {m : List (Int × β)} (h : l.Perm m) : Z1Q l x = Z1Q m x := h.countP_eq _
end
end Go.Proofs.YtgigjkjdmalmaaaGreat
