/- WHAT IS PROVED: contracts and plain laws of Eqs, ClF, Whole10M, Store10. Conditions: stated with each. -/
import Derived.ChangeKeysEq
import Derived.Test.YtgigjkjdmalmaaaGreatPA03
import Derived.Test.YtgigjkjdmalmaaaGreatPA05
import Derived.Test.YtgigjkjdmalmaaaGreatPA06
import Derived.Test.YtgigjkjdmalmaaaGreatPA09
import Derived.Test.YtgigjkjdmalmaaaGreatPA11
import Derived.Test.YtgigjkjdmalmaaaGreatPA12
set_option maxHeartbeats 4000000
set_option maxRecDepth 100000
namespace Go.Proofs.YtgigjkjdmalmaaaGreat
open Go.RowKit
section
variable {P : Program} {t : TypeId} {X : Type} [DecidableEq X]
structure Flat (P : Program) (t : TypeId) (enc : X → List Value) : Prop where
 eq : ∀ (w : World) (x y : X), (Op.equalIn 10000 t (.agg ⟨enc x⟩) (.agg ⟨enc y⟩)).run P w = .ok (decide (x = y)) w
 held : P.eqGuardType P.depth t = false
variable {enc : X → List Value}
theorem Flat.e_eq (F : Flat P t enc) {n : Nat} {f : Nat → Value} {w : World} {dst : Option Tmp} {ty : TypeId} {pos : String} {aft : Array Edge} {gd : Option (Nat × Bool)} {x y : Operand} {T : TypeId} (a b : X) (hx : ev n f x = .agg ⟨enc a⟩) (hy : ev n f y = .agg ⟨enc b⟩) :
  (execOp (ev n f) ⟨dst, .binOp .eql t x y T, ty, pos, aft, gd⟩).run P w = .ok (.value (.bool (decide (a = b)))) w := by
 have h : (Op.equalIn 10000 t (.agg ⟨enc a⟩) (.agg ⟨enc b⟩)).run P w = .ok (decide (a = b)) w := F.eq w a b
 simp only [execOp, hx, hy]
 simp only [Sem.run_bind, run_eqGuard_agg w _ _ _ _ _ _ F.held, Result.andThen_ok, run_eql_struct, h, Sem.run_pure]
end
instance decEnt : DecidableEq EntD := fun a b =>
 if h : a.cl = b.cl ∧ a.sq = b.sq ∧ a.h = b.h ∧ a.t = b.t then .isTrue (by cases a; cases b; simp_all) else .isFalse (fun e => h (by rw [e]; simp))
instance decRc : DecidableEq RcD := fun a b =>
 if h : a.i = b.i ∧ a.e = b.e then .isTrue (by cases a; cases b; simp_all) else .isFalse (fun e => h (by rw [e]; simp))
structure Z6M where
 p : Int
 t : Int
deriving DecidableEq
def sy0 : Z6M := ⟨0, 0⟩
theorem Z5B (w : World) : (zeroValue 131).run Tryz.prog w = .ok (rcV rc0) w := by kernel_rfl
theorem Z3c (w : World) (a b c d : Int) : (Op.equalIn 9998 43 (.agg ⟨[.int .i64 a, .int .i64 b]⟩) (.agg ⟨[.int .i64 c, .int .i64 d]⟩)).run Tryz.prog w = .ok (decide (a = c ∧ b = d)) w := by
 have ei := fun a b => run_equalIn_int (P := Tryz.prog) w 9996 3 .i64 .i64 a b Tryz.underlying3
 refine (Z1e (d := 9997) _ [a == c, b == d] Tryz.underlying43 (by kernel_rfl)
  ⟨⟨by decide, .int .i64 a, .int .i64 c, by kernel_rfl, by kernel_rfl, ei _ _⟩, ⟨by decide, .int .i64 b, .int .i64 d, by kernel_rfl, by kernel_rfl, ei _ _⟩, trivial⟩).trans ?_
 congr 1
 rw [Bool.eq_iff_iff]
 simp
theorem Z6m (w : World) (s : EntD) : (part 43 ⟨Z44 s⟩ 0).run Tryz.prog w = .ok (.agg ⟨[.int .i64 s.cl, .int .i64 s.sq]⟩) w ∧ (part 40 ⟨Z44 s⟩ 2).run Tryz.prog w = .ok (Z55 s.h) w ∧ (part 45 ⟨Z44 s⟩ 34).run Tryz.prog w = .ok (.int .u64 s.t) w :=
 ⟨by kernel_rfl, by kernel_rfl, by kernel_rfl⟩
theorem Z3y (w : World) (x y : EntD) : (Op.equalIn 9999 73 (.agg ⟨Z44 x⟩) (.agg ⟨Z44 y⟩)).run Tryz.prog w = .ok (decide (x = y)) w := by
 obtain ⟨x1, x2, x3⟩ := Z6m w x
 obtain ⟨y1, y2, y3⟩ := Z6m w y
 have eu := fun a b => run_equalIn_int (P := Tryz.prog) w 9997 45 .u64 .u64 a b Tryz.underlying45
 refine (Z1e (d := 9998) _ [decide (x.cl = y.cl ∧ x.sq = y.sq), decide (x.h = y.h), x.t == y.t] Tryz.underlying73 (by kernel_rfl)
  ⟨⟨by decide, _, _, x1, y1, Z3c w _ _ _ _⟩, ⟨by decide, _, _, x2, y2, Z2j w 9996 _ _⟩, ⟨by decide, _, _, x3, y3, eu _ _⟩, trivial⟩).trans ?_
 congr 1
 obtain ⟨a1, a2, a3, a4⟩ := x
 obtain ⟨b1, b2, b3, b4⟩ := y
 rw [Bool.eq_iff_iff]
 simp [and_assoc]
theorem rcF_i (w : World) (s : RcD) : (part 3 ⟨Z5K s⟩ 0).run Tryz.prog w = .ok (.int .i64 s.i) w ∧ (part 73 ⟨Z5K s⟩ 1).run Tryz.prog w = .ok (.agg ⟨Z44 s.e⟩) w :=
 ⟨by kernel_rfl, by kernel_rfl⟩
theorem rcF : Flat Tryz.prog 131 Z5K := by
 refine ⟨fun w x y => ?_, by kernel_rfl⟩
 obtain ⟨x1, x2⟩ := rcF_i w x
 obtain ⟨y1, y2⟩ := rcF_i w y
 have ei := fun a b => run_equalIn_int (P := Tryz.prog) w 9998 3 .i64 .i64 a b Tryz.underlying3
 refine (Z1e (d := 9999) _ [x.i == y.i, decide (x.e = y.e)] Tryz.underlying131 (by kernel_rfl)
  ⟨⟨by decide, _, _, x1, y1, ei _ _⟩, ⟨by decide, _, _, x2, y2, Z3y w _ _⟩, trivial⟩).trans ?_
 congr 1
 obtain ⟨a1, a2⟩ := x
 obtain ⟨b1, b2⟩ := y
 rw [Bool.eq_iff_iff]
 simp
end Go.Proofs.YtgigjkjdmalmaaaGreat

namespace Go.Proofs.YtgigjkjdmalmaaaGreat
open Go.RowKit
theorem Z1m {a a' : Option Addr} {n c n' c' : Nat} (h : Value.slice a n c = .slice a' n' c') : a = a' := by simp only [Value.slice.injEq] at h; exact h.1
section
variable {P : Program} {ops : Array Oper} {Q : Exit → Act → World → Prop} {md : Region.Mode} {S : World → Prop} {B : Nat → Bool}
end
section
variable {P : Program} {n : Nat} {f : Nat → Value} {w w0 : World} {dst : Option Tmp} {ty : TypeId} {pos : String} {aft : Array Edge} {gd : Option (Nat × Bool)} {K : Act → World → Prop} {Q : Exit → Act → World → Prop} {G : List Ck}
theorem Z2C {α : Type} {enc : α → List Value} {size : Nat} (hs : ∀ x, (enc x).length = size) : ∀ {A : List α} {i off : Nat} {x0 x1 : α} {vs : List Value}, A[i]? = some x0 → off + vs.length ≤ size → Z0z (enc x0) off vs = enc x1 → Z0z (A.flatMap enc) (i * size + off) vs = (A.set i x1).flatMap enc
 | [], i, _, _, _, _, h, _, _ => by simp at h
 | y :: A, 0, off, x0, x1, vs, h, ho, hsp => by
  simp only [List.getElem?_cons_zero, Option.some.injEq] at h
  subst h
  simp only [List.flatMap_cons, List.set_cons_zero, Nat.zero_mul, Nat.zero_add]
  rw [← hsp]
  unfold Z0z
  have hl := hs y
  rw [List.take_append_of_le_length (by omega), List.drop_append_of_le_length (by omega), List.append_assoc, List.append_assoc, List.append_assoc]
 | y :: A, i + 1, off, x0, x1, vs, h, ho, hsp => by
  simp only [List.getElem?_cons_succ] at h
  have ih := Z2C hs h ho hsp
  simp only [List.flatMap_cons, List.set_cons_succ]
  rw [← ih]
  unfold Z0z
  have hl := hs y
  have e : (i + 1) * size + off = (enc y).length + (i * size + off) := by rw [hl, Nat.succ_mul]; omega
  rw [e, List.take_length_add_append, Nat.add_assoc, List.drop_length_add_append, List.append_assoc, List.append_assoc, List.append_assoc]
theorem Z2p {α : Type} {enc : α → List Value} {size e : Nat} (hs : ∀ x, (enc x).length = size) {T : TypeId} {x y : Operand} {u : Value} {vs : List Value} {g c m o : Nat} {A : List α} (hd : dst = none) (H : Sat w0 G w) (j : Nat) (hj : G[j]? = some (Zd e size (.slice (some ⟨g, 0, none⟩) m c) m (A.flatMap enc)))
  (hx : ev n f x = .pointer (some ⟨g, o, none⟩)) (hy : ev n f y = u) (hu : u.cells = ⟨vs⟩) (hN : P.cellsOf T = vs.length) (h0 : 0 < vs.length) (h1 : vs.all (·.oneCell') = true) (i off : Nat) {x0 : α} (x1 : α) (hi : A[i]? = some x0) (ho : o = i * size + off) (hle : off + vs.length ≤ size) (hsp : Z0z (enc x0) off vs = enc x1)
  (kk : ∀ w', Sat w0 (G.set j (Zd e size (.slice (some ⟨g, 0, none⟩) m c) m ((A.set i x1).flatMap enc))) w' → K (fr n f) w') : WO P ⟨dst, .store T x y, ty, pos, aft, gd⟩ K Q n f w := by
 have hil : i < A.length := (List.getElem?_eq_some_iff.1 hi).1
 have hlt : i * size + size ≤ A.length * size := by have := Nat.mul_le_mul_right size (show i + 1 ≤ A.length from hil); rwa [Nat.succ_mul] at this
 exact Z4z hd H j hj rfl hx hy hu hN h0 (by rw [Z1B enc size hs]; omega) h1 (xs' := (A.set i x1).flatMap enc) (by rw [ho]; exact Z2C hs hi hle hsp) kk
end
end Go.Proofs.YtgigjkjdmalmaaaGreat
