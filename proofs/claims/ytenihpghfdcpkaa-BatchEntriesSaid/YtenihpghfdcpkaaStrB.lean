/- WHAT IS PROVED: bytes as texts, and when two texts are the same. Conditions: stated with each. -/
import Derived.Test.YtenihpghfdcpkaaLists
namespace Go.Proofs.Ytenihpghfdcpkaa
open Go.RowKit
section
variable {P : Program} {n : Nat} {f : Nat → Value} {w : World} {dst : Option Tmp} {ty : TypeId} {pos : String} {aft : Array Edge} {gd : Option (Nat × Bool)}
theorem e_convBytes {S D e : TypeId} {x : Operand} {v : Value} {s : List UInt8} (hs : P.underlying S = some (.slice e)) (he : P.underlying e = some (.int .u8)) (hd : P.underlying D = some .string) (hx : ev n f x = v) (hb : BytesAt w v s) :
    (execOp (ev n f) ⟨dst, .convert S D x, ty, pos, aft, gd⟩).run P w = .ok (.value (strV s)) w := by
  simp [execOp, hx, run_bytes_string hb hs he hd, Result.andThen]
theorem e_eqStr {T U : TypeId} {x y : Operand} (a b : List UInt8) (hx : ev n f x = strV a) (hy : ev n f y = strV b) :
    (execOp (ev n f) ⟨dst, .binOp .eql T x y U, ty, pos, aft, gd⟩).run P w = .ok (.value (.bool (decide (a = b)))) w := by
  have : Op.stringOp .eql ⟨a.toArray⟩ ⟨b.toArray⟩ = pure (.bool (decide (a = b))) := by
    simp only [Op.stringOp, ByteArray.toList_mk]
    congr 2
    rw [Bool.eq_iff_iff]; simp
  simp [execOp, hx, hy, strV, binOp, eqGuard, this]
end
end Go.Proofs.Ytenihpghfdcpkaa
