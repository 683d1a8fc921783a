/- WHAT IS PROVED: rows of numbers that are sorted in place: reads, stores. Conditions: stated with each. -/
import Derived.Test.YtenihpghfdcpkaaRowSt
import Derived.Test.YtenihpghfdcpkaaSortMath
namespace Go.Proofs.Ytenihpghfdcpkaa
open Go.RowKit
def encU (x : Int) : List Value := [.int .u64 x]
theorem encU_len (x : Int) : (encU x).length = 1 := rfl
theorem encU_one (x : Int) : (encU x).all (·.oneCell') = true := rfl
def ltU (x y : Int) : Bool := decide (x < y)
theorem swU : SW ltU := ⟨fun x y h => by simp [ltU] at h ⊢; omega, fun x y z h1 h2 => by simp [ltU] at h1 h2 ⊢; omega⟩
/-- a list of numbers at g -/
def rowU (g n c : Nat) (A : List Int) : Ck := rowC 22 1 (.slice (some ⟨g, 0, none⟩) n c) n (A.flatMap encU)
theorem rowU_len {g n c : Nat} {A : List Int} {w : World} (h : (rowU g n c A).ok w) : A.length = n := by
  have := h.1
  rw [flat_len encU 1 encU_len] at this
  omega
theorem rowU_cell {g n c o j : Nat} {A : List Int} {w : World} {x : Int} (h : (rowU g n c A).ok w) (hx : A[j]? = some x) (ho : o = j) : w.cell? ⟨g, o, none⟩ = some (.int .u64 x) := by
  refine row_cell h rfl ?_
  have := flat_get encU 1 encU_len A j 0 x hx (by omega)
  rw [Nat.mul_one, Nat.add_zero] at this
  rw [ho]
  exact this
theorem d_storeU {P : Program} {n : Nat} {f : Nat → Value} {w : World} {ty : TypeId} {pos : String} {aft : Array Edge} {gd : Option (Nat × Bool)} {w0 : World} {G : List Ck} {K : Act → World → Prop} {Q : Exit → Act → World → Prop} {dst : Option Tmp} {T : TypeId} {x y : Operand} {g m c o j : Nat} {A : List Int} {u : Int}
    (hd : dst = none) (H : Sat w0 G w) (i : Nat) (hi : G[i]? = some (rowU g m c A)) (hx : ev n f x = .pointer (some ⟨g, o, none⟩)) (hy : ev n f y = .int .u64 u) (hT : P.cellsOf T = 1) (ho : o = j) (hj : j < A.length)
    (k : ∀ w', Sat w0 (G.set i (rowU g m c (A.set j u))) w' → K (fr n f) w') : WO P ⟨dst, .store T x y, ty, pos, aft, gd⟩ K Q n f w :=
  d_storeRow hd H i hi rfl hx hy (vs := [.int .u64 u]) rfl hT (Nat.succ_pos _) (by rw [flat_len encU 1 encU_len, ho]; show j + 1 ≤ _; omega) rfl (xs' := (A.set j u).flatMap encU) (by subst ho; have := flat_set encU 1 encU_len A o u hj; rw [Nat.mul_one] at this; exact this) k
end Go.Proofs.Ytenihpghfdcpkaa
