/- WHAT IS PROVED: numbers as bytes, seven digits a byte. Conditions: stated with each. -/
import Derived.Test.YtenihpghfdcpkaaBytesD
import Derived.Test.YtenihpghfdcpkaaBits
namespace Go.Proofs.Ytenihpghfdcpkaa
open Go.RowKit
def varF : Nat → Nat → List UInt8
  | 0, _ => []
  | f + 1, n => if n < 128 then [UInt8.ofNat n] else UInt8.ofNat (n % 128 + 128) :: varF f (n / 128)
/-- a number below 2^64 as bytes -/
def varB (n : Nat) : List UInt8 := varF 10 n
theorem varF_len (f n : Nat) : (varF f n).length ≤ f := by
  induction f generalizing n with
  | zero => simp [varF]
  | succ f ih => unfold varF; split <;> simp; exact ih _
theorem byte_enc {z : Int} (h : 0 ≤ z ∧ z < 256) : ([.int .u8 z] : List Value) = [UInt8.ofNat z.toNat].flatMap encB := by
  have : (UInt8.ofNat z.toNat).toNat = z.toNat := by simp; omega
  simp only [List.flatMap_cons, List.flatMap_nil, List.append_nil, encB, byteV, this, Int.toNat_of_nonneg h.1]
theorem wrap_u8_mod (z : Int) : IntKind.u8.wrap z = z % 256 := by
  simp [IntKind.wrap, IntKind.signed, IntKind.bits]
theorem or_more {z : Int} (_h : 0 ≤ z) : bOr .u8 (z % 256) 128 = z % 128 + 128 := by
  have key : ∀ k : Fin 256, bOr .u8 ((k.val : Nat) : Int) 128 = (((k.val % 128 + 128 : Nat)) : Int) := by decide +kernel
  have hk : (z % 256).toNat < 256 := by omega
  have := key ⟨(z % 256).toNat, hk⟩
  simp only at this
  rw [Int.toNat_of_nonneg (by omega)] at this
  rw [this]; omega
end Go.Proofs.Ytenihpghfdcpkaa
