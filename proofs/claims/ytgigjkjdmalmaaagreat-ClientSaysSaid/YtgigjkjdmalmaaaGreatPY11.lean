/- WHAT IS PROVED: contracts and plain laws of SortU, FrameU, OpenC10, StrMap. Conditions: stated with each. -/
import Derived.Test.YtgigjkjdmalmaaaGreatPY04
import Derived.Test.YtgigjkjdmalmaaaGreatPY05
import Derived.Test.YtgigjkjdmalmaaaGreatPY06
import Derived.Test.YtgigjkjdmalmaaaGreatPY10
set_option maxHeartbeats 4000000
set_option maxRecDepth 100000
namespace Go.Proofs.YtgigjkjdmalmaaaGreat
open Go.RowKit
def Z3D (x : Int) : List Value := [.int .u64 x]
theorem Z2C (x : Int) : (Z3D x).length = 1 := rfl
theorem ZaA (x : Int) : (Z3D x).all (·.oneCell') = true := rfl
def ltU (x y : Int) : Bool := decide (x < y)
theorem swU : SW ltU := ⟨fun x y h => by simp [ltU] at h ⊢; omega, fun x y z h1 h2 => by simp [ltU] at h1 h2 ⊢; omega⟩
def Z1U (g n c : Nat) (A : List Int) : Ck := Zc 45 1 (.slice (some ⟨g, 0, none⟩) n c) n (A.flatMap Z3D)
theorem Z67 {g n c : Nat} {A : List Int} {w : World} (h : (Z1U g n c A).ok w) : A.length = n := by
 have := h.1
 rw [Z1p Z3D 1 Z2C] at this
 omega
theorem Z3i {g n c o j : Nat} {A : List Int} {w : World} {x : Int} (h : (Z1U g n c A).ok w) (hx : A[j]? = some x) (ho : o = j) : w.cell? ⟨g, o, none⟩ = some (.int .u64 x) := by
 refine Z68 h rfl ?_
 have := Z2D Z3D 1 Z2C A j 0 x hx (by omega)
 rw [Nat.mul_one, Nat.add_zero] at this
 rw [ho]
 exact this
theorem Z7U {P : Program} {n : Nat} {f : Nat → Value} {w : World} {ty : TypeId} {pos : String} {aft : Array Edge} {gd : Option (Nat × Bool)} {w0 : World} {G : List Ck} {K : Act → World → Prop} {Q : Exit → Act → World → Prop} {dst : Option Tmp} {T : TypeId} {x y : Operand} {g m c o j : Nat} {A : List Int} {u : Int}
  (hd : dst = none) (H : Sat w0 G w) (i : Nat) (hi : G[i]? = some (Z1U g m c A)) (hx : ev n f x = .pointer (some ⟨g, o, none⟩)) (hy : ev n f y = .int .u64 u) (hT : P.cellsOf T = 1) (ho : o = j) (hj : j < A.length)
  (k : ∀ w', Sat w0 (G.set i (Z1U g m c (A.set j u))) w' → K (fr n f) w') : WO P ⟨dst, .store T x y, ty, pos, aft, gd⟩ K Q n f w :=
 Z4V hd H i hi rfl hx hy (vs := [.int .u64 u]) rfl hT (Nat.succ_pos _) (by rw [Z1p Z3D 1 Z2C, ho]; show j + 1 ≤ _; omega) rfl (xs' := (A.set j u).flatMap Z3D) (by subst ho; have := Z7X Z3D 1 Z2C A o u hj; rw [Nat.mul_one] at this; exact this) k
end Go.Proofs.YtgigjkjdmalmaaaGreat
namespace Go.Proofs.YtgigjkjdmalmaaaGreat
open Go.ChangeShapes Go.WideShapes Go.ChangeAt Go.RowKit Go.Deep
section
variable {H : Type} {enc : TypeId × Value → H} {P : Program} {W : World}
theorem ZbK {z : Int} (h : (Lit.int .u64 z).wf = true) : 0 ≤ z ∧ z ≤ 18446744073709551615 := by
 simpa [Lit.wf, IntKind.min, IntKind.max, IntKind.signed, IntKind.bits] using h
end
section
variable {H : Type} {enc : TypeId × Value → H} {W : World}
theorem Z0l {P : Program} {t : TypeId} {fs : Array Field} {n : Nat} {cs : List Value} {y : DataW H × List MemPlace} (ht : P.underlying t = some (.struct fs)) (h : DataW.trod enc P W 0 (fun _ => true) true n t cs = some y) :
  cs.length = P.cellsOf t ∧ ∃ m, ∀ (i : Nat) (g : Field), fs[i]? = some g → ∃ z, DataW.trod enc P W 0 (fun _ => true) true m g.type ((cs.drop g.offset).take (P.cellsOf g.type)) = some z := by
 obtain ⟨xs, m, _, _, hl, hx, hf⟩ := DataW.trod_struct ht h
 refine ⟨hl, m, fun i g hg => ?_⟩
 have h1 := hf i g hg
 have hi : i < xs.length := by
  rw [hx]
  obtain ⟨h, _⟩ := Array.getElem?_eq_some_iff.1 hg
  exact h
 rw [List.getElem?_eq_getElem hi] at h1
 exact ⟨_, h1⟩
theorem Zm {cs A rest : List Value} {o n : Nat} (h : (cs.drop o).take n = A) (hr : cs.drop (o + n) = rest) : cs.drop o = A ++ rest := by
 rw [← h, ← hr, ← List.drop_drop, List.take_append_drop]
theorem Z0V {cs : List Value} {n : Nat} (h : cs.length = n) : cs.drop n = [] := by rw [← h, List.drop_length]
theorem Z5h {t i : TypeId} {f g : Field} {n : Nat} {cs : List Value} {y : DataW H × List MemPlace} (ht : Tryz.prog.underlying t = some (.struct #[f, g])) (hi : Tryz.prog.underlying i = some (.int .i64)) (hf : f.type = i) (hg : g.type = i) (of : f.offset = 0) (og : g.offset = 1) (hc : Tryz.prog.cellsOf i = 1) (hn : Tryz.prog.cellsOf t = 2)
  (h : DataW.trod enc Tryz.prog W 0 (fun _ => true) true n t cs = some y) : ∃ a b : Int, cs = [.int .i64 a, .int .i64 b] ∧ (-9223372036854775808 ≤ a ∧ a ≤ 9223372036854775807) ∧ (-9223372036854775808 ≤ b ∧ b ≤ 9223372036854775807) := by
 obtain ⟨hl, m, hq⟩ := Z0l ht h
 obtain ⟨z0, h0⟩ := hq 0 _ rfl
 obtain ⟨z1, h1⟩ := hq 1 _ rfl
 simp only [List.getElem_toArray, List.getElem_cons_zero, List.getElem_cons_succ, hf, hg, of, og, hc] at h0 h1
 obtain ⟨a, e0, w0⟩ := Zp (k := .i64) hi h0
 obtain ⟨b, e1, w1⟩ := Zp (k := .i64) hi h1
 refine ⟨a, b, ?_, Z5n w0, Z5n w1⟩
 have := Zm e0 (Zm e1 (Z0V (hl.trans hn)))
 simpa using this
theorem Z2E {n : Nat} {cs : List Value} {y : DataW H × List MemPlace} (h : DataW.trod enc Tryz.prog W 0 (fun _ => true) true n 43 cs = some y) : ∃ a b : Int, cs = [.int .i64 a, .int .i64 b] ∧ (-9223372036854775808 ≤ a ∧ a ≤ 9223372036854775807) ∧ (-9223372036854775808 ≤ b ∧ b ≤ 9223372036854775807) :=
 Z5h Tryz.underlying43 Tryz.underlying3 rfl rfl rfl rfl (by kernel_rfl) (by kernel_rfl) h
theorem Z1O {n : Nat} {cs : List Value} {y : DataW H × List MemPlace} (h : DataW.trod enc Tryz.prog W 0 (fun _ => true) true n 47 cs = some y) : ∃ a b : Int, cs = [.int .i64 a, .int .i64 b] ∧ (-9223372036854775808 ≤ a ∧ a ≤ 9223372036854775807) ∧ (-9223372036854775808 ≤ b ∧ b ≤ 9223372036854775807) :=
 Z5h Tryz.underlying47 Tryz.underlying3 rfl rfl rfl rfl (by kernel_rfl) (by kernel_rfl) h
theorem Z4A {n : Nat} {cs : List Value} {y : DataW H × List MemPlace} (h : DataW.trod enc Tryz.prog W 0 (fun _ => true) true n 49 cs = some y) : ∃ x : Zk, cs = ZV x ∧ Z3V x := by
 obtain ⟨hl, m, hf⟩ := Z0l Tryz.underlying49 h
 obtain ⟨z0, h0⟩ := hf 0 _ rfl
 obtain ⟨z1, h1⟩ := hf 1 _ rfl
 obtain ⟨z2, h2⟩ := hf 2 _ rfl
 obtain ⟨z3, h3⟩ := hf 3 _ rfl
 obtain ⟨z4, h4⟩ := hf 4 _ rfl
 obtain ⟨r, e0, w0⟩ := Zp (k := .i64) (by kernel_rfl) h0
 obtain ⟨cl, seq, e1, w1, w2⟩ := Z2E h1
 obtain ⟨hh, e2⟩ := Z1G h2
 obtain ⟨t, e3, w3⟩ := Zp (k := .u64) (by kernel_rfl) h3
 obtain ⟨sb, sm, e4, w4, w5⟩ := Z1O h4
 simp only [List.getElem_toArray, List.getElem_cons_zero, List.getElem_cons_succ] at e0 e1 e2 e3 e4
 simp only [show Tryz.prog.cellsOf 3 = 1 by kernel_rfl, show Tryz.prog.cellsOf 45 = 1 by kernel_rfl, show Tryz.prog.cellsOf 40 = 32 by kernel_rfl, show Tryz.prog.cellsOf 43 = 2 by kernel_rfl, show Tryz.prog.cellsOf 47 = 2 by kernel_rfl] at e0 e1 e2 e3 e4
 have hw0 := Z5n w0
 have hw3 := ZbK w3
 refine ⟨⟨r, cl, seq, hh, t, sb, sm⟩, ?_, ?_⟩
 ·have := Zm e0 (Zm e1 (Zm e2 (Zm e3 (Zm e4 (Z0V (hl.trans (show Tryz.prog.cellsOf 49 = 38 by kernel_rfl)))))))
  simp only [List.drop_zero] at this
  rw [this]; simp [ZV]
 ·unfold Z3V; simp only; omega
theorem Z3C {n : Nat} {cs : List Value} {y : DataW H × List MemPlace} (h : DataW.trod enc Tryz.prog W 0 (fun _ => true) true n 54 cs = some y) : ∃ x : Z0, cs = Z1E x ∧ CoOk x := by
 obtain ⟨hl, m, hf⟩ := Z0l Tryz.underlying54 h
 obtain ⟨z1, h1⟩ := hf 0 _ rfl
 obtain ⟨z2, h2⟩ := hf 1 _ rfl
 obtain ⟨z3, h3⟩ := hf 2 _ rfl
 obtain ⟨z4, h4⟩ := hf 3 _ rfl
 obtain ⟨cl, seq, e1, w1, w2⟩ := Z2E h1
 obtain ⟨hh, e2⟩ := Z1G h2
 obtain ⟨t, e3, w3⟩ := Zp (k := .i64) (by kernel_rfl) h3
 obtain ⟨sb, sm, e4, w4, w5⟩ := Z1O h4
 simp only [List.getElem_toArray, List.getElem_cons_zero, List.getElem_cons_succ] at e1 e2 e3 e4
 simp only [show Tryz.prog.cellsOf 3 = 1 by kernel_rfl, show Tryz.prog.cellsOf 40 = 32 by kernel_rfl, show Tryz.prog.cellsOf 43 = 2 by kernel_rfl, show Tryz.prog.cellsOf 47 = 2 by kernel_rfl] at e1 e2 e3 e4
 have hw3 := Z5n w3
 refine ⟨⟨cl, seq, hh, t, sb, sm⟩, ?_, ?_⟩
 ·have := Zm e1 (Zm e2 (Zm e3 (Zm e4 (Z0V (hl.trans (show Tryz.prog.cellsOf 54 = 37 by kernel_rfl))))))
  simp only [List.drop_zero] at this
  rw [this]; simp [Z1E]
 ·unfold CoOk; simp only; omega
theorem Z7z {v : Value} {d : DataW H} {ps : List MemPlace} (hv : ∃ a len cap, v = .slice a len cap) (h : DataW.Trod enc Tryz.prog W 0 (fun _ => true) true 55 v d ps) : ∃ xs, (∀ x ∈ xs, Z3V x) ∧ ListAt ZV 38 W v xs := by
 obtain ⟨xs, hx⟩ := Z0x (sz := 38) (R := fun w a (x : Zk) => Z1v w a (ZV x) ∧ Z3V x) Tryz.underlying55 (by kernel_rfl) (by omega) hv h (fun cs n y b off hl hcs hy => by
  obtain ⟨x, rfl, hs⟩ := Z4A hy
  refine ⟨x, fun j v hj => ?_, hs⟩
  obtain ⟨hj', rfl⟩ := List.getElem?_eq_some_iff.1 hj
  rw [Addr.add_lit]; exact hcs j hj')
 refine ⟨xs, fun n hn => ?_, SliceOf.imp hx fun a x h => h.1⟩
 obtain ⟨i, hi, rfl⟩ := List.mem_iff_getElem.1 hn
 obtain ⟨b, off, cap, _, _, hall⟩ := hx.some (by omega)
 exact (hall i hi).2
theorem Z8m {n : Nat} {cs : List Value} {y : DataW H × List MemPlace} (h : DataW.trod enc Tryz.prog W 0 (fun _ => true) true n 57 cs = some y) : ∃ (x : Z0) (S : List Zk) (a : Option Addr) (c : Nat), cs = Z1E x ++ [.slice a S.length c] ∧ CoOk x ∧ (∀ s ∈ S, Z3V s) ∧ ListAt ZV 38 W (.slice a S.length c) S := by
 obtain ⟨hl, m, hf⟩ := Z0l Tryz.underlying57 h
 obtain ⟨z1, h1⟩ := hf 0 _ rfl
 obtain ⟨z2, h2⟩ := hf 1 _ rfl
 obtain ⟨x, e1, hx⟩ := Z3C h1
 obtain ⟨a, len, cap, e2⟩ := Z0i Tryz.underlying55 h2
 have h2' := h2
 rw [e2] at h2'
 obtain ⟨S, hS, hL⟩ := Z7z (v := .slice a len cap) (d := z2.1) (ps := z2.2) ⟨_, _, _, rfl⟩ ⟨m, h2'⟩
 obtain ⟨a', c', hv⟩ := hL.len
 rw [hv] at hL e2
 simp only [List.getElem_toArray, List.getElem_cons_zero, List.getElem_cons_succ] at e1 e2
 simp only [show Tryz.prog.cellsOf 55 = 1 by kernel_rfl, show Tryz.prog.cellsOf 54 = 37 by kernel_rfl] at e1 e2
 refine ⟨x, S, a', c', ?_, hx, hS, hL⟩
 have := Zm e1 (Zm e2 (Z0V (hl.trans (show Tryz.prog.cellsOf 57 = 38 by kernel_rfl))))
 simp only [List.drop_zero] at this
 rw [this]; simp
end
end Go.Proofs.YtgigjkjdmalmaaaGreat
namespace Go.Proofs.YtgigjkjdmalmaaaGreat
open Go.RowKit
section
variable {κ ν : Type} [DecidableEq κ] {encK : κ → Value} {encV : ν → Value} {P : Program} {k : TypeId} {w : World} {b : Nat} {l : List (κ × ν)}
end
section
variable {P : Program} {Q : Exit → Act → World → Prop} {n : Nat} {f : Nat → Value} {w0 w : World} {G : List Ck} {dst : Option Tmp} {ty : TypeId} {pos : String} {aft : Array Edge} {gd : Option (Nat × Bool)} {K' : Act → World → Prop}
theorem Zaw {T : TypeId} {x : Operand} {s : List UInt8} (hT : P.underlying T = some .string) (hx : ev n f x = ZD s) :
  (execOp (ev n f) ⟨dst, .call { callee := .builtin .len, args := #[x], argTypes := #[T] }, ty, pos, aft, gd⟩).run P w = .ok (.value (.int .i64 (s.length : Int))) w := by
 have := run_len_string (P := P) (w := w) T ty ⟨s.toArray⟩ hT
 simp [execOp, resolve, invoke, builtin, hx, ZD, this, Result.andThen, ByteArray.size, goInt]
theorem Z6D {T : TypeId} {x y : Operand} {s : List UInt8} {k : IntKind} {z : Int} {q : Nat} (hT : P.underlying T = some .string) (hx : ev n f x = ZD s) (hy : ev n f y = .int k z) (hz : z = (q : Int)) (hq : q ≤ s.length) :
  (execOp (ev n f) ⟨dst, .slice T x none (some y) none, ty, pos, aft, gd⟩).run P w = .ok (.value (ZD (s.take q))) w := by
 subst hz
 have := run_slice_string_to_if (P := P) (w := w) T ⟨s.toArray⟩ k (q : Int) hT
 simp only [execOp, Instr.sliceAt, Option.map, hx, hy, ZD]
 have he : (⟨s.toArray⟩ : ByteArray).extract 0 q = ⟨(s.take q).toArray⟩ := by
  apply ByteArray.ext
  simp
 simp [run_underlying hT, this, Result.andThen, ByteArray.size, hq, he]
end
end Go.Proofs.YtgigjkjdmalmaaaGreat
