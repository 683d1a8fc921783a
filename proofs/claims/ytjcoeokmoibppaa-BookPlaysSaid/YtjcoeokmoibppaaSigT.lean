/- WHAT IS PROVED: when two signatures are unlike. Conditions: stated with each. -/
import Derived.Test.YtjcoeokmoibppaaActs03
namespace Go.Proofs.Ytjcoeokmoibppaa
open Go.RowKit
theorem e_neqSig {n : Nat} {f : Nat → Value} {w : World} {dst : Option Tmp} {ty : TypeId} {pos : String} {aft : Array Edge} {gd : Option (Nat × Bool)} {x y : Operand} {T : TypeId} (a b c d : Int) (hx : ev n f x = .agg ⟨[.int .i64 a, .int .i64 b]⟩) (hy : ev n f y = .agg ⟨[.int .i64 c, .int .i64 d]⟩) :
    (execOp (ev n f) ⟨dst, .binOp .neq 30 x y T, ty, pos, aft, gd⟩).run Try.prog w = .ok (.value (.bool (!decide (a = c ∧ b = d)))) w := by
  simp only [execOp, hx, hy]
  simp [go_sem]
  by_cases h1 : a = c <;> by_cases h2 : b = d <;> simp_all
end Go.Proofs.Ytjcoeokmoibppaa
