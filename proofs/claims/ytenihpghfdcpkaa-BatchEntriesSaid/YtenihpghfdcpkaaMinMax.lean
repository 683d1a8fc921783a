/- WHAT IS PROVED: the least and the greatest of two whole numbers as operations. Conditions: stated with each. -/
import Derived.Test.YtenihpghfdcpkaaEntry
import Derived.Lib.MinMax
namespace Go.Proofs.Ytenihpghfdcpkaa
open Go.RowKit
section
variable {P : Program} {n : Nat} {f : Nat → Value} {w : World} {dst : Option Tmp} {ty : TypeId} {pos : String} {aft : Array Edge} {gd : Option (Nat × Bool)}
theorem e_minI {T : Array TypeId} {x y : Operand} {k : IntKind} {a b z : Int} (hx : ev n f x = .int k a) (hy : ev n f y = .int k b) (hz : min a b = z) :
    (execOp (ev n f) ⟨dst, .call { callee := .builtin .min, args := #[x, y], argTypes := T }, ty, pos, aft, gd⟩).run P w = .ok (.value (.int k z)) w := by
  have := Lib.run_min_ints (P := P) w T ty k k a b
  subst hz
  simp [execOp, resolve, invoke, builtin, hx, hy, this, Result.andThen]
theorem e_min {T : Array TypeId} {x y : Operand} {k : IntKind} {a b z : Int} (hx : ev n f x = .int k a) (hy : ev n f y = .int k b) (hz : min a b = z) :
    (execOp (ev n f) ⟨dst, .call { callee := .builtin .min, args := #[x, y], argTypes := T }, ty, pos, aft, gd⟩).run P w = .ok (.value (.int k z)) w := e_minI hx hy hz
theorem e_maxI {T : Array TypeId} {x y : Operand} {k : IntKind} {a b z : Int} (hx : ev n f x = .int k a) (hy : ev n f y = .int k b) (hz : max a b = z) :
    (execOp (ev n f) ⟨dst, .call { callee := .builtin .max, args := #[x, y], argTypes := T }, ty, pos, aft, gd⟩).run P w = .ok (.value (.int k z)) w := by
  have := Lib.run_max_ints (P := P) w T ty k k a b
  subst hz
  simp [execOp, resolve, invoke, builtin, hx, hy, this, Result.andThen]
end
end Go.Proofs.Ytenihpghfdcpkaa
