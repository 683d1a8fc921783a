/- WHAT IS PROVED: denials as data, and their texts. No condition. -/
import Derived.Test.YtenihpghfdcpkaaWt
import Derived.Test.YtenihpghfdcpkaaRt
namespace Go.Proofs.Ytenihpghfdcpkaa
open Go.RowKit
structure DenyD where
  r : Int
  i : Int
  sb : Int
  sm : Int
deriving DecidableEq
def encDn (d : DenyD) : List Value := [.int .i64 d.r, .int .i64 d.i, .int .i64 d.sb, .int .i64 d.sm]
def denV (d : DenyD) : Value := .agg ⟨encDn d⟩
theorem encDn_len (d : DenyD) : (encDn d).length = 4 := rfl
theorem encDn_one (d : DenyD) : (encDn d).all (·.oneCell') = true := by simp [encDn, Value.oneCell']
def deny0 : DenyD := ⟨0, 0, 0, 0⟩
theorem zeroDn (w : World) : (zeroValue 79).run Try.prog w = .ok (denV deny0) w := by kernel_rfl
def denyB (r i : Int) : List UInt8 := [rowB [100, 101, 110, 121], intB r, intB i].flatten
theorem denyB_len (r i : Int) : (denyB r i).length ≤ 40 := by
  unfold denyB
  have h1 := rowB_len [100, 101, 110, 121]
  have h2 := intB_len r
  have h3 := intB_len i
  simp only [List.length_cons, List.length_nil] at h1
  simp only [List.flatten_cons, List.flatten_nil, List.length_append, List.length_nil]
  omega
end Go.Proofs.Ytenihpghfdcpkaa
