/- WHAT IS PROVED: contracts and plain laws of Eqs, ClF, ClM, Whole10M, Store10. Conditions: stated with each. -/
import Derived.ChangeKeysEq
import Derived.Test.YtgigjkjdmalmaaaGreatPS03
import Derived.Test.YtgigjkjdmalmaaaGreatPS05
import Derived.Test.YtgigjkjdmalmaaaGreatPS06
import Derived.Test.YtgigjkjdmalmaaaGreatPS09
import Derived.Test.YtgigjkjdmalmaaaGreatPS11
set_option maxHeartbeats 4000000
set_option maxRecDepth 100000
namespace Go.Proofs.YtgigjkjdmalmaaaGreat
open Go.RowKit
section
variable {P : Program} {t : TypeId} {X : Type} [DecidableEq X]
structure Flat (P : Program) (t : TypeId) (enc : X → List Value) : Prop where
 eq : ∀ (w : World) (x y : X), (Op.equalIn 10000 t (.agg ⟨enc x⟩) (.agg ⟨enc y⟩)).run P w = .ok (decide (x = y)) w
 held : P.eqGuardType P.depth t = false
variable {enc : X → List Value}
theorem Flat.e_eq (F : Flat P t enc) {n : Nat} {f : Nat → Value} {w : World} {dst : Option Tmp} {ty : TypeId} {pos : String} {aft : Array Edge} {gd : Option (Nat × Bool)} {x y : Operand} {T : TypeId} (a b : X) (hx : ev n f x = .agg ⟨enc a⟩) (hy : ev n f y = .agg ⟨enc b⟩) :
  (execOp (ev n f) ⟨dst, .binOp .eql t x y T, ty, pos, aft, gd⟩).run P w = .ok (.value (.bool (decide (a = b)))) w := by
 have h : (Op.equalIn 10000 t (.agg ⟨enc a⟩) (.agg ⟨enc b⟩)).run P w = .ok (decide (a = b)) w := F.eq w a b
 simp only [execOp, hx, hy]
 simp only [Sem.run_bind, run_eqGuard_agg w _ _ _ _ _ _ F.held, Result.andThen_ok, run_eql_struct, h, Sem.run_pure]
end
instance decEnt : DecidableEq EntD := fun a b =>
 if h : a.cl = b.cl ∧ a.sq = b.sq ∧ a.h = b.h ∧ a.t = b.t then .isTrue (by cases a; cases b; simp_all) else .isFalse (fun e => h (by rw [e]; simp))
instance decRc : DecidableEq RcD := fun a b =>
 if h : a.i = b.i ∧ a.e = b.e then .isTrue (by cases a; cases b; simp_all) else .isFalse (fun e => h (by rw [e]; simp))
structure Z2q where
 p : Int
 t : Int
deriving DecidableEq
def encSy (x : Z2q) : List Value := [.int .i64 x.p, .int .u64 x.t]
def syV (x : Z2q) : Value := .agg ⟨encSy x⟩
def sy0 : Z2q := ⟨0, 0⟩
theorem Z5B (w : World) : (zeroValue 131).run Tryz.prog w = .ok (rcV rc0) w := by kernel_rfl
theorem zeroSy (w : World) : (zeroValue 94).run Tryz.prog w = .ok (syV sy0) w := by kernel_rfl
theorem Z3f (w : World) (a b c d : Int) : (Op.equalIn 9998 43 (.agg ⟨[.int .i64 a, .int .i64 b]⟩) (.agg ⟨[.int .i64 c, .int .i64 d]⟩)).run Tryz.prog w = .ok (decide (a = c ∧ b = d)) w := by
 have ei := fun a b => run_equalIn_int (P := Tryz.prog) w 9996 3 .i64 .i64 a b Tryz.underlying3
 refine (Z0Y (d := 9997) _ [a == c, b == d] Tryz.underlying43 (by kernel_rfl)
  ⟨⟨by decide, .int .i64 a, .int .i64 c, by kernel_rfl, by kernel_rfl, ei _ _⟩, ⟨by decide, .int .i64 b, .int .i64 d, by kernel_rfl, by kernel_rfl, ei _ _⟩, trivial⟩).trans ?_
 congr 1
 rw [Bool.eq_iff_iff]
 simp
theorem Z6l (w : World) (s : EntD) : (part 43 ⟨Z43 s⟩ 0).run Tryz.prog w = .ok (.agg ⟨[.int .i64 s.cl, .int .i64 s.sq]⟩) w ∧ (part 40 ⟨Z43 s⟩ 2).run Tryz.prog w = .ok (Z54 s.h) w ∧ (part 45 ⟨Z43 s⟩ 34).run Tryz.prog w = .ok (.int .u64 s.t) w :=
 ⟨by kernel_rfl, by kernel_rfl, by kernel_rfl⟩
theorem Z3w (w : World) (x y : EntD) : (Op.equalIn 9999 73 (.agg ⟨Z43 x⟩) (.agg ⟨Z43 y⟩)).run Tryz.prog w = .ok (decide (x = y)) w := by
 obtain ⟨x1, x2, x3⟩ := Z6l w x
 obtain ⟨y1, y2, y3⟩ := Z6l w y
 have eu := fun a b => run_equalIn_int (P := Tryz.prog) w 9997 45 .u64 .u64 a b Tryz.underlying45
 refine (Z0Y (d := 9998) _ [decide (x.cl = y.cl ∧ x.sq = y.sq), decide (x.h = y.h), x.t == y.t] Tryz.underlying73 (by kernel_rfl)
  ⟨⟨by decide, _, _, x1, y1, Z3f w _ _ _ _⟩, ⟨by decide, _, _, x2, y2, Z2f w 9996 _ _⟩, ⟨by decide, _, _, x3, y3, eu _ _⟩, trivial⟩).trans ?_
 congr 1
 obtain ⟨a1, a2, a3, a4⟩ := x
 obtain ⟨b1, b2, b3, b4⟩ := y
 rw [Bool.eq_iff_iff]
 simp [and_assoc]
theorem rcF_i (w : World) (s : RcD) : (part 3 ⟨Z5O s⟩ 0).run Tryz.prog w = .ok (.int .i64 s.i) w ∧ (part 73 ⟨Z5O s⟩ 1).run Tryz.prog w = .ok (.agg ⟨Z43 s.e⟩) w :=
 ⟨by kernel_rfl, by kernel_rfl⟩
theorem rcF : Flat Tryz.prog 131 Z5O := by
 refine ⟨fun w x y => ?_, by kernel_rfl⟩
 obtain ⟨x1, x2⟩ := rcF_i w x
 obtain ⟨y1, y2⟩ := rcF_i w y
 have ei := fun a b => run_equalIn_int (P := Tryz.prog) w 9998 3 .i64 .i64 a b Tryz.underlying3
 refine (Z0Y (d := 9999) _ [x.i == y.i, decide (x.e = y.e)] Tryz.underlying131 (by kernel_rfl)
  ⟨⟨by decide, _, _, x1, y1, ei _ _⟩, ⟨by decide, _, _, x2, y2, Z3w w _ _⟩, trivial⟩).trans ?_
 congr 1
 obtain ⟨a1, a2⟩ := x
 obtain ⟨b1, b2⟩ := y
 rw [Bool.eq_iff_iff]
 simp
theorem syF : Flat Tryz.prog 94 encSy := by
 refine ⟨fun w x y => ?_, by kernel_rfl⟩
 have ei := fun a b => run_equalIn_int (P := Tryz.prog) w 9998 3 .i64 .i64 a b Tryz.underlying3
 have eu := fun a b => run_equalIn_int (P := Tryz.prog) w 9998 45 .u64 .u64 a b Tryz.underlying45
 refine (Z0Y (d := 9999) _ [x.p == y.p, x.t == y.t] Tryz.underlying94 (by kernel_rfl)
  ⟨⟨by decide, .int .i64 x.p, .int .i64 y.p, by kernel_rfl, by kernel_rfl, ei _ _⟩, ⟨by decide, .int .u64 x.t, .int .u64 y.t, by kernel_rfl, by kernel_rfl, eu _ _⟩, trivial⟩).trans ?_
 congr 1
 obtain ⟨a1, a2⟩ := x
 obtain ⟨b1, b2⟩ := y
 rw [Bool.eq_iff_iff]
 simp
section
variable {κ ν : Type} [DecidableEq κ] {l : List (κ × ν)} {a : κ}
theorem Z5e {x : ν} (h : Zs l a = some x) : (a, x) ∈ l := by
 unfold Zs at h
 obtain ⟨y, hy, rfl⟩ := Option.map_eq_some_iff.1 h
 have h1 := List.find?_some hy
 have h2 := List.mem_of_find?_eq_some hy
 have h3 : y.1 = a := by simpa using h1
 rw [← h3]; exact h2
theorem Z15 : Zs l a = none ↔ a ∉ l.map (·.1) := by
 unfold Zs
 rw [Option.map_eq_none_iff, List.find?_eq_none]
 constructor
 ·intro h hm
  obtain ⟨y, hy, rfl⟩ := List.mem_map.1 hm
  exact h y hy (by simp)
 ·intro h y hy he
  have h3 : y.1 = a := by simpa using he
  exact h (List.mem_map.2 ⟨y, hy, h3⟩)
end
section
set_option linter.unusedSectionVars false
variable {β γ : Type} [DecidableEq β] [DecidableEq γ] {l : List (Int × β)} {k : Int} {v d x : β} {n : Nat}
def Z0U (l : List (Int × β)) (x : β) : Nat := l.countP fun y => decide (y.2 = x)
def Z0I (l : List (Int × β)) (k : Int) (v : β) : List (Int × β) := if k ∈ l.map (·.1) then l else l ++ [(k, v)]
def Z3e (l : List (Int × β)) (n : Nat) : Prop := ∃ y ∈ l, n ≤ Z0U l y.2
theorem Z2r (h : k ∈ l.map (·.1)) : Z0I l k v = l := if_pos h
theorem Z2l (h : k ∉ l.map (·.1)) : Z0I l k v = l ++ [(k, v)] := if_neg h
theorem Z0E : (Z0I l k v).length ≤ l.length + 1 := by unfold Z0I; split <;> simp
theorem Z4o (h : k ∉ l.map (·.1)) : Z1I l k v = Z0I l k v := by rw [Z2l h]; unfold Z1I; rw [if_neg h]
theorem Z5V (h : k ∉ l.map (·.1)) : Zs (l ++ [(k, v)]) k = some v := by
 have q := Z3c l k v
 unfold Z1I at q
 rwa [if_neg h] at q
theorem Z21 (l m : List (Int × β)) (x : β) : Z0U (l ++ m) x = Z0U l x + Z0U m x := List.countP_append
theorem Z2x (k : Int) (v x : β) : Z0U [(k, v)] x = if v = x then 1 else 0 := by
 unfold Z0U
 by_cases h : v = x <;> simp [h]
theorem Z6k : Z0U l x ≤ l.length := List.countP_le_length
theorem Z52 (h : k ∈ l.map (·.1)) : (k, (Zs l k).getD d) ∈ l := by
 cases e : Zs l k with
 | none => exact absurd h (Z15.1 e)
 | some v => exact Z5e e
theorem Z2z (h : k ∉ l.map (·.1)) : (Zs (Z0I l k v) k).getD d = v := by rw [Z2l h, Z5V h]; rfl
theorem Z4l : Z3e (Z0I l k v) n ↔ Z3e l n ∨ n ≤ Z0U (Z0I l k v) ((Zs (Z0I l k v) k).getD d) := by
 by_cases h : k ∈ l.map (·.1)
 ·rw [Z2r h]
  constructor
  ·exact .inl
  ·rintro (q | q)
   ·exact q
   ·exact ⟨_, Z52 h, q⟩
 ·rw [Z2z h, Z2l h]
  constructor
  ·rintro ⟨y, hy, q⟩
   by_cases e : y.2 = v
   ·right; rw [e] at q; exact q
   ·left
    rw [Z21, Z2x, if_neg (fun q => e q.symm), Nat.add_zero] at q
    rcases List.mem_append.1 hy with hy | hy
    ·exact ⟨y, hy, q⟩
    ·exact absurd (by rw [List.mem_singleton.1 hy]) e
  ·rintro (⟨y, hy, q⟩ | q)
   ·exact ⟨y, List.mem_append_left _ hy, by rw [Z21]; omega⟩
   ·exact ⟨(k, v), by simp, q⟩
theorem Z5Y : ¬ Z3e ([] : List (Int × β)) n := by rintro ⟨y, hy, _⟩; cases hy
variable {f : β → γ}
theorem Z4h : (l.map fun e => (e.1, f e.2)).map (·.1) = l.map (·.1) := by rw [List.map_map]; rfl
theorem Z34 : Z0I (l.map fun e => (e.1, f e.2)) k (f v) = (Z0I l k v).map fun e => (e.1, f e.2) := by
 unfold Z0I
 rw [Z4h]
 split
 ·rfl
 ·rw [List.map_append]; rfl
theorem Z6q (hf : ∀ a b, f a = f b → a = b) : Z0U (l.map fun e => (e.1, f e.2)) (f x) = Z0U l x := by
 unfold Z0U
 rw [List.countP_map]
 congr 1
 funext y
 show decide (f y.2 = f x) = decide (y.2 = x)
 by_cases h : y.2 = x
 ·rw [h]; simp
 ·rw [decide_eq_false h, decide_eq_false (fun e => h (hf _ _ e))]
theorem Z5U (k : Int) : Zs (l.map fun e => (e.1, f e.2)) k = (Zs l k).map f := by
 unfold Zs
 rw [List.find?_map, Option.map_map, Option.map_map]
 rfl
theorem Z4e {m : List (Int × β)} (h : l.Perm m) : Z0U l x = Z0U m x := h.countP_eq _
end
end Go.Proofs.YtgigjkjdmalmaaaGreat

namespace Go.Proofs.YtgigjkjdmalmaaaGreat
open Go.RowKit
theorem Z1o {a a' : Option Addr} {n c n' c' : Nat} (h : Value.slice a n c = .slice a' n' c') : a = a' := by simp only [Value.slice.injEq] at h; exact h.1
section
variable {P : Program} {ops : Array Oper} {Q : Exit → Act → World → Prop} {md : Region.Mode} {S : World → Prop} {B : Nat → Bool}
end
section
variable {P : Program} {n : Nat} {f : Nat → Value} {w w0 : World} {dst : Option Tmp} {ty : TypeId} {pos : String} {aft : Array Edge} {gd : Option (Nat × Bool)} {K : Act → World → Prop} {Q : Exit → Act → World → Prop} {G : List Ck}
theorem Z2B {α : Type} {enc : α → List Value} {size : Nat} (hs : ∀ x, (enc x).length = size) : ∀ {A : List α} {i off : Nat} {x0 x1 : α} {vs : List Value}, A[i]? = some x0 → off + vs.length ≤ size → Z0w (enc x0) off vs = enc x1 → Z0w (A.flatMap enc) (i * size + off) vs = (A.set i x1).flatMap enc
 | [], i, _, _, _, _, h, _, _ => by simp at h
 | y :: A, 0, off, x0, x1, vs, h, ho, hsp => by
  simp only [List.getElem?_cons_zero, Option.some.injEq] at h
  subst h
  simp only [List.flatMap_cons, List.set_cons_zero, Nat.zero_mul, Nat.zero_add]
  rw [← hsp]
  unfold Z0w
  have hl := hs y
  rw [List.take_append_of_le_length (by omega), List.drop_append_of_le_length (by omega), List.append_assoc, List.append_assoc, List.append_assoc]
 | y :: A, i + 1, off, x0, x1, vs, h, ho, hsp => by
  simp only [List.getElem?_cons_succ] at h
  have ih := Z2B hs h ho hsp
  simp only [List.flatMap_cons, List.set_cons_succ]
  rw [← ih]
  unfold Z0w
  have hl := hs y
  have e : (i + 1) * size + off = (enc y).length + (i * size + off) := by rw [hl, Nat.succ_mul]; omega
  rw [e, List.take_length_add_append, Nat.add_assoc, List.drop_length_add_append, List.append_assoc, List.append_assoc, List.append_assoc]
theorem Z4f {α : Type} {enc : α → List Value} {size e : Nat} (hs : ∀ x, (enc x).length = size) {T : TypeId} {x y : Operand} {u : Value} {vs : List Value} {g c m o : Nat} {A : List α} (hd : dst = none) (H : Sat w0 G w) (j : Nat) (hj : G[j]? = some (Ze e size (.slice (some ⟨g, 0, none⟩) m c) m (A.flatMap enc)))
  (hx : ev n f x = .pointer (some ⟨g, o, none⟩)) (hy : ev n f y = u) (hu : u.cells = ⟨vs⟩) (hN : P.cellsOf T = vs.length) (h0 : 0 < vs.length) (h1 : vs.all (·.oneCell') = true) (i off : Nat) {x0 : α} (x1 : α) (hi : A[i]? = some x0) (ho : o = i * size + off) (hle : off + vs.length ≤ size) (hsp : Z0w (enc x0) off vs = enc x1)
  (kk : ∀ w', Sat w0 (G.set j (Ze e size (.slice (some ⟨g, 0, none⟩) m c) m ((A.set i x1).flatMap enc))) w' → K (fr n f) w') : WO P ⟨dst, .store T x y, ty, pos, aft, gd⟩ K Q n f w := by
 have hil : i < A.length := (List.getElem?_eq_some_iff.1 hi).1
 have hlt : i * size + size ≤ A.length * size := by have := Nat.mul_le_mul_right size (show i + 1 ≤ A.length from hil); rwa [Nat.succ_mul] at this
 exact Z4x hd H j hj rfl hx hy hu hN h0 (by rw [Z1B enc size hs]; omega) h1 (xs' := (A.set i x1).flatMap enc) (by rw [ho]; exact Z2B hs hi hle hsp) kk
end
end Go.Proofs.YtgigjkjdmalmaaaGreat
