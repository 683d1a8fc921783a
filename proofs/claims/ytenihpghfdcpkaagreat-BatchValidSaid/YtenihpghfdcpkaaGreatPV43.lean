/- WHAT IS PROVED: contracts and plain laws of OpenPl12. Conditions: stated with each. -/
import Derived.Test.YtenihpghfdcpkaaGreatPV02
import Derived.Test.YtenihpghfdcpkaaGreatPV26
import Derived.Test.YtenihpghfdcpkaaGreatPV33
set_option maxHeartbeats 4000000
set_option maxRecDepth 100000
namespace Go.Proofs.YtenihpghfdcpkaaGreat
open Go.ChangeShapes Go.WideShapes Go.ChangeAt Go.RowKit Go.Deep
section
variable {H : Type} {enc : TypeId × Value → H} {W : World}
theorem ZaG {a : Addr} {x : Value} (h : W.cell? a = some x) : Z49 W a [x] := fun j u hj => by
 match j, hj with
 | 0, hj =>
  simp only [List.getElem?_cons_zero, Option.some.injEq] at hj
  subst hj
  obtain ⟨b, o, s⟩ := a
  have e : (⟨b, o, s⟩ : Addr).add 0 = ⟨b, o, s⟩ := by cases s <;> simp [Addr.add]
  rw [e]; exact h
 | _ + 1, hj => simp at hj
theorem Za3 {v : Value} {d : DataW H} {ps : List MemPlace} (hv : ∃ a len cap, v = .slice a len cap) (h : DataW.Trod enc Tryz.prog W 0 (fun _ => true) true 24 v d ps) : ∃ xs, (∀ x ∈ xs, -9223372036854775808 ≤ x ∧ x ≤ 9223372036854775807) ∧ ListAt ZbZ 1 W v xs := by
 obtain ⟨xs, hx⟩ := Z3s (sz := 1) (R := fun w a (x : Int) => w.cell? a = some (i6 x) ∧ -9223372036854775808 ≤ x ∧ x ≤ 9223372036854775807) Tryz.underlying24 (by kernel_rfl) (by omega) hv h (fun cs n y b off hl hcs hy => by
  obtain ⟨z, rfl, hz⟩ := Z1F (k := .i64) Tryz.underlying3 hy
  exact ⟨z, hcs 0 (by simp), Zag hz⟩)
 refine ⟨xs, fun n hn => ?_, SliceOf.imp hx fun a x h => ZaG h.1⟩
 obtain ⟨i, hi, rfl⟩ := List.mem_iff_getElem.1 hn
 obtain ⟨b, off, cap, _, _, hall⟩ := hx.some (by omega)
 exact (hall i hi).2
theorem ZdP {v : Value} {d : DataW H} {ps : List MemPlace} (hv : ∃ a len cap, v = .slice a len cap) (h : DataW.Trod enc Tryz.prog W 0 (fun _ => true) true 23 v d ps) : ∃ xs, (∀ x ∈ xs, TmOk W x) ∧ ListAt ZbW 1 W v xs := by
 obtain ⟨xs, hx⟩ := Z3s (sz := 1) (R := fun w a (x : TmR) => w.cell? a = some (.slice x.ta x.xs.length x.tc) ∧ TmOk W x) Tryz.underlying23 (by kernel_rfl) (by omega) hv h (fun cs n y b off hl hcs hy => by
  obtain ⟨a, len, cap, rfl⟩ := Z17 Tryz.underlying109 hy
  obtain ⟨xs, hb, hL⟩ := ZcH (v := .slice a len cap) (d := y.1) (ps := y.2) Tryz.underlying109 Tryz.underlying25 (by kernel_rfl) ⟨a, len, cap, rfl⟩ ⟨n, hy⟩
  obtain ⟨a', c', hv⟩ := SliceOf.len hL
  simp only [Value.slice.injEq] at hv
  obtain ⟨rfl, rfl, rfl⟩ := hv
  exact ⟨⟨_, _, xs⟩, hcs 0 (by simp), hL, hb⟩)
 refine ⟨xs, fun n hn => ?_, SliceOf.imp hx fun a x h => ZaG h.1⟩
 obtain ⟨i, hi, rfl⟩ := List.mem_iff_getElem.1 hn
 obtain ⟨b, off, cap, _, _, hall⟩ := hx.some (by omega)
 exact (hall i hi).2
theorem Zdm {n : Nat} {cs : List Value} {y : DataW H × List MemPlace} (h : DataW.trod enc Tryz.prog W 0 (fun _ => true) true n 59 cs = some y) : ∃ x : NmD, cs = Z2n x := by
 obtain ⟨a, b, e, _⟩ := Zb5 h
 exact ⟨⟨a, b⟩, e⟩
theorem Za6 {v : Value} {d : DataW H} {ps : List MemPlace} (hv : ∃ a len cap, v = .slice a len cap) (h : DataW.Trod enc Tryz.prog W 0 (fun _ => true) true 22 v d ps) : ∃ xs, ListAt Z2n 2 W v xs := by
 obtain ⟨xs, hx⟩ := Z3s (sz := 2) (R := fun w a (x : NmD) => Z49 w a (Z2n x)) Tryz.underlying22 (by kernel_rfl) (by omega) hv h (fun cs n y b off hl hcs hy => by
  obtain ⟨x, rfl⟩ := Zdm hy
  refine ⟨x, fun j v hj => ?_⟩
  obtain ⟨hj', rfl⟩ := List.getElem?_eq_some_iff.1 hj
  rw [Addr.add_lit]; exact hcs j hj')
 exact ⟨xs, hx⟩
structure PlanAt (W : World) (v : Value) (na ta ha oa ba la : Option Addr) (nc tc hc_ oc bc lc : Nat) (N LL : List NmD) (TT : List TmR) (HH OO BB : List Int) (ptm psk pl : Int) : Prop where
 v : v = .agg ⟨[.slice na N.length nc, .slice ta TT.length tc, .slice ha HH.length hc_, u6 ptm, .slice oa OO.length oc, .slice ba BB.length bc, i6 psk, .slice la LL.length lc, u6 pl]⟩
 n : ListAt Z2n 2 W (.slice na N.length nc) N
 t : ListAt ZbW 1 W (.slice ta TT.length tc) TT
 h : ListAt ZbZ 1 W (.slice ha HH.length hc_) HH
 o : ListAt ZbZ 1 W (.slice oa OO.length oc) OO
 b : ListAt ZbZ 1 W (.slice ba BB.length bc) BB
 l : ListAt Z2n 2 W (.slice la LL.length lc) LL
 tt : ∀ x ∈ TT, TmOk W x
 lim : (∀ x ∈ OO, -9223372036854775808 ≤ x ∧ x ≤ 9223372036854775807) ∧ (∀ x ∈ BB, -9223372036854775808 ≤ x ∧ x ≤ 9223372036854775807) ∧ (0 ≤ ptm ∧ ptm ≤ 18446744073709551615) ∧ (-9223372036854775808 ≤ psk ∧ psk ≤ 9223372036854775807) ∧ (0 ≤ pl ∧ pl ≤ 18446744073709551615)
theorem ZcA {v : Value} {d : DataW H} {ps : List MemPlace} (hv : ∃ cs, v = .agg cs) (h : DataW.Trod enc Tryz.prog W 0 (fun _ => true) true 27 v d ps) : ∃ na ta ha oa ba la nc tc hc_ oc bc lc N LL TT HH OO BB ptm psk pl, PlanAt W v na ta ha oa ba la nc tc hc_ oc bc lc N LL TT HH OO BB ptm psk pl := by
 obtain ⟨fuel, h⟩ := h
 obtain ⟨hl, m, hf⟩ := Z6G Tryz.underlying27 h
 obtain ⟨z0, h0⟩ := hf 0 _ rfl
 obtain ⟨z1, h1⟩ := hf 1 _ rfl
 obtain ⟨z2, h2⟩ := hf 2 _ rfl
 obtain ⟨z3, h3⟩ := hf 3 _ rfl
 obtain ⟨z4, h4⟩ := hf 4 _ rfl
 obtain ⟨z5, h5⟩ := hf 5 _ rfl
 obtain ⟨z6, h6⟩ := hf 6 _ rfl
 obtain ⟨z7, h7⟩ := hf 7 _ rfl
 obtain ⟨z8, h8⟩ := hf 8 _ rfl
 obtain ⟨a0, l0, c0, e0⟩ := Z17 Tryz.underlying22 h0
 obtain ⟨a1, l1, c1, e1⟩ := Z17 Tryz.underlying23 h1
 obtain ⟨a2, l2, c2, e2⟩ := Z17 Tryz.underlying24 h2
 obtain ⟨ptm, e3, w3⟩ := Z1F (k := .u64) (by kernel_rfl) h3
 obtain ⟨a4, l4, c4, e4⟩ := Z17 Tryz.underlying24 h4
 obtain ⟨a5, l5, c5, e5⟩ := Z17 Tryz.underlying24 h5
 obtain ⟨psk, e6, w6⟩ := Z1F (k := .i64) (by kernel_rfl) h6
 obtain ⟨a7, l7, c7, e7⟩ := Z17 Tryz.underlying22 h7
 obtain ⟨pl, e8, w8⟩ := Z1F (k := .u64) (by kernel_rfl) h8
 have h0' := h0; rw [e0] at h0'
 have h1' := h1; rw [e1] at h1'
 have h2' := h2; rw [e2] at h2'
 have h4' := h4; rw [e4] at h4'
 have h5' := h5; rw [e5] at h5'
 have h7' := h7; rw [e7] at h7'
 obtain ⟨N, L0⟩ := Za6 (v := .slice a0 l0 c0) (d := z0.1) (ps := z0.2) ⟨_, _, _, rfl⟩ ⟨m, h0'⟩
 obtain ⟨TT, b1, L1⟩ := ZdP (v := .slice a1 l1 c1) (d := z1.1) (ps := z1.2) ⟨_, _, _, rfl⟩ ⟨m, h1'⟩
 obtain ⟨HH, b2, L2⟩ := Za3 (v := .slice a2 l2 c2) (d := z2.1) (ps := z2.2) ⟨_, _, _, rfl⟩ ⟨m, h2'⟩
 obtain ⟨OO, b4, L4⟩ := Za3 (v := .slice a4 l4 c4) (d := z4.1) (ps := z4.2) ⟨_, _, _, rfl⟩ ⟨m, h4'⟩
 obtain ⟨BB, b5, L5⟩ := Za3 (v := .slice a5 l5 c5) (d := z5.1) (ps := z5.2) ⟨_, _, _, rfl⟩ ⟨m, h5'⟩
 obtain ⟨LL, L7⟩ := Za6 (v := .slice a7 l7 c7) (d := z7.1) (ps := z7.2) ⟨_, _, _, rfl⟩ ⟨m, h7'⟩
 obtain ⟨x0, y0, q0⟩ := L0.len
 obtain ⟨x1, y1, q1⟩ := L1.len
 obtain ⟨x2, y2, q2⟩ := L2.len
 obtain ⟨x4, y4, q4⟩ := L4.len
 obtain ⟨x5, y5, q5⟩ := L5.len
 obtain ⟨x7, y7, q7⟩ := L7.len
 rw [q0] at L0 e0
 rw [q1] at L1 e1
 rw [q2] at L2 e2
 rw [q4] at L4 e4
 rw [q5] at L5 e5
 rw [q7] at L7 e7
 simp only [List.getElem_toArray, List.getElem_cons_zero, List.getElem_cons_succ] at e0 e1 e2 e3 e4 e5 e6 e7 e8
 simp only [show Tryz.prog.cellsOf 3 = 1 by kernel_rfl, show Tryz.prog.cellsOf 25 = 1 by kernel_rfl, show Tryz.prog.cellsOf 22 = 1 by kernel_rfl, show Tryz.prog.cellsOf 23 = 1 by kernel_rfl, show Tryz.prog.cellsOf 24 = 1 by kernel_rfl] at e0 e1 e2 e3 e4 e5 e6 e7 e8
 refine ⟨_, _, _, _, _, _, _, _, _, _, _, _, N, LL, TT, HH, OO, BB, ptm, psk, pl, agg_of hv ?_, L0, L1, L2, L4, L5, L7, b1, b4, b5, Zau w3, Zag w6, Zau w8⟩
 have := Z1Z e0 (Z1Z e1 (Z1Z e2 (Z1Z e3 (Z1Z e4 (Z1Z e5 (Z1Z e6 (Z1Z e7 (Z1Z e8 (Za8 (hl.trans (show Tryz.prog.cellsOf 27 = 9 by kernel_rfl)))))))))))
 simp only [List.drop_zero] at this
 rw [this]; simp
end
end Go.Proofs.YtenihpghfdcpkaaGreat
