/- WHAT IS PROVED: what operations on bits answer. Conditions: stated with each. -/
import Derived.Test.YtenihpghfdcpkaaSat
import Derived.Lib.BitFns
import Derived.Lib.ItoaNum
namespace Go.Proofs.Ytenihpghfdcpkaa
open Go.RowKit
def bAnd (k : IntKind) (a b : Int) : Int := k.wrap ((BitVec.ofInt k.bits a &&& BitVec.ofInt k.bits b).toNat : Int)
def bOr (k : IntKind) (a b : Int) : Int := k.wrap ((BitVec.ofInt k.bits a ||| BitVec.ofInt k.bits b).toNat : Int)
def bXor (k : IntKind) (a b : Int) : Int := k.wrap ((BitVec.ofInt k.bits a ^^^ BitVec.ofInt k.bits b).toNat : Int)
def bShl (k : IntKind) (a : Int) (m : Int) : Int := k.wrap (a * 2 ^ (min m.toNat k.bits))
theorem wrap_u64 {z : Int} (h : 0 ≤ z ∧ z < 18446744073709551616) : IntKind.u64.wrap z = z := by
  simp [IntKind.wrap, IntKind.signed, IntKind.bits]; omega
theorem wrap_u32 {z : Int} (h : 0 ≤ z ∧ z < 4294967296) : IntKind.u32.wrap z = z := by
  simp [IntKind.wrap, IntKind.signed, IntKind.bits]; omega
theorem wrap_u8 {z : Int} (h : 0 ≤ z ∧ z < 256) : IntKind.u8.wrap z = z := by
  simp [IntKind.wrap, IntKind.signed, IntKind.bits]; omega
theorem wrap_u64_rng (z : Int) : 0 ≤ IntKind.u64.wrap z ∧ IntKind.u64.wrap z < 18446744073709551616 := by
  simp [IntKind.wrap, IntKind.signed, IntKind.bits]; omega
theorem wrap_u32_rng (z : Int) : 0 ≤ IntKind.u32.wrap z ∧ IntKind.u32.wrap z < 4294967296 := by
  simp [IntKind.wrap, IntKind.signed, IntKind.bits]; omega
theorem bAnd_u64 {a b : Int} (h : 0 ≤ b ∧ b < 18446744073709551616) : 0 ≤ bAnd .u64 a b ∧ bAnd .u64 a b ≤ b := by
  have h1 := Nat.and_le_right (n := (BitVec.ofInt 64 a).toNat) (m := (BitVec.ofInt 64 b).toNat)
  have h2 : ((BitVec.ofInt 64 b).toNat : Int) = b := by
    rw [BitVec.toNat_ofInt]; omega
  have e : ((BitVec.ofInt IntKind.u64.bits a &&& BitVec.ofInt IntKind.u64.bits b).toNat : Int) = ((BitVec.ofInt 64 a).toNat &&& (BitVec.ofInt 64 b).toNat : Nat) := by
    rw [BitVec.toNat_and]; rfl
  unfold bAnd
  rw [e, wrap_u64 (by omega)]
  omega
section
variable {P : Program} {n : Nat} {f : Nat → Value} {w : World} {dst : Option Tmp} {ty : TypeId} {pos : String} {aft : Array Edge} {gd : Option (Nat × Bool)}
theorem e_shr {k yk : IntKind} {x y : Operand} {t T : TypeId} {a m D : Int} (hx : ev n f x = .int k a) (hy : ev n f y = .int yk m) (hm : 0 ≤ m) (hD : (2 : Int) ^ (min m.toNat k.bits) = D) (h0 : 0 ≤ D) :
    (execOp (ev n f) ⟨dst, .binOp .shr t x y T, ty, pos, aft, gd⟩).run P w = .ok (.value (.int k (a / D))) w := by
  have hm' : ¬ m < 0 := by omega
  simp only [execOp, hx, hy, binOp, Op.shift]
  simp [hm', eqGuard, hD, Int.fdiv_eq_ediv_of_nonneg _ h0]
theorem e_shl {k yk : IntKind} {x y : Operand} {t T : TypeId} {a m : Int} (hx : ev n f x = .int k a) (hy : ev n f y = .int yk m) (hm : 0 ≤ m) :
    (execOp (ev n f) ⟨dst, .binOp .shl t x y T, ty, pos, aft, gd⟩).run P w = .ok (.value (.int k (bShl k a m))) w := by
  have hm' : ¬ m < 0 := by omega
  simp only [execOp, hx, hy, binOp, Op.shift, bShl]
  simp [hm', eqGuard]
set_option maxRecDepth 100000 in
theorem e_len8 {k : IntKind} {T : TypeId} {x y : Operand} {z : Int} (hT : P.underlying T = some .string) (hx : ev n f x = .string Lib.len8tab) (hy : ev n f y = .int k z) (h0 : 0 ≤ z) (h1 : z ≤ 255) :
    (execOp (ev n f) ⟨dst, .index T x y, ty, pos, aft, gd⟩).run P w = .ok (.value (.int .u8 (Lib.len8 z))) w := by
  have hs : Lib.len8tab.size = 256 := by decide
  have hlt : z.toNat < Lib.len8tab.size := by omega
  simp only [execOp, hx, hy, Instr.index, asIntOf]
  simp [run_underlying hT, Result.andThen, h0, getElem?_pos Lib.len8tab z.toNat hlt]
  unfold Lib.len8
  rw [getElem?_pos Lib.len8tab z.toNat hlt]
  rfl
end
theorem len8_rng (z : Int) (h0 : 0 ≤ z) (h1 : z ≤ 255) : 0 ≤ Lib.len8 z ∧ Lib.len8 z ≤ 8 := by
  have := Lib.bitLen_le8' z h0 h1
  rw [Lib.len8_of z h0 h1]; omega
/-- how long a number is, in bits -/
theorem bitLen_rng (x : Nat) (h : x < 18446744073709551616) : Lib.bitLen x ≤ 64 ∧ x < 2 ^ Lib.bitLen x ∧ (0 < x → 2 ^ Lib.bitLen x ≤ 2 * x) := by
  refine ⟨Lib.bitLen_le x 64 (by omega) h, ?_, ?_⟩
  · by_cases h0 : x = 0
    · subst h0; exact Nat.pos_of_ne_zero (by simp)
    · exact (Lib.bitLenAux_bounds 64 x h h0).2.2
  · intro h0
    obtain ⟨h1, h2, _⟩ := Lib.bitLenAux_bounds 64 x h (by omega)
    have e : 2 ^ Lib.bitLen x = 2 * 2 ^ (Lib.bitLenAux 64 x - 1) := by
      unfold Lib.bitLen
      rw [← Nat.pow_succ', show (Lib.bitLenAux 64 x - 1).succ = Lib.bitLenAux 64 x by omega]
    rw [e]; omega
end Go.Proofs.Ytenihpghfdcpkaa
