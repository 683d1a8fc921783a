/- WHAT IS PROVED: bytes as lists in memory. Conditions: stated with each. -/
import Derived.Test.YtenihpghfdcpkaaBookD
import Derived.Test.YtenihpghfdcpkaaStrB
import Derived.Test.YtenihpghfdcpkaaListAt
import Derived.Test.YtenihpghfdcpkaaSep
namespace Go.Proofs.Ytenihpghfdcpkaa
open Go.RowKit
def encB (c : UInt8) : List Value := [byteV c]
theorem encB_len (x : UInt8) : (encB x).length = 1 := rfl
theorem encB_one (x : UInt8) : (encB x).all (·.oneCell') = true := rfl
theorem list_bytes {w : World} {v : Value} {s : List UInt8} (h : ListAt encB 1 w v s) : BytesAt w v s := by
  rcases h with h | ⟨h0, b', o, c', e, hc, h⟩
  · exact .inl h
  · exact .inr ⟨h0, b', o, c', e, hc, fun i hi => by have := h i hi 0 (byteV s[i]) rfl; rw [Addr.add_lit] at this; exact this⟩
theorem bytes_list {w : World} {v : Value} {s : List UInt8} (h : BytesAt w v s) : ListAt encB 1 w v s := by
  rcases h with h | ⟨h0, b', o, c', e, hc, h⟩
  · exact .inl h
  · refine .inr ⟨h0, b', o, c', e, hc, fun i hi j u hj => ?_⟩
    match j, hj with
    | 0, hj =>
      simp only [encB, List.getElem?_cons_zero, Option.some.injEq] at hj
      subst hj
      rw [Addr.add_lit]; exact h i hi
    | _ + 1, hj => simp [encB] at hj
end Go.Proofs.Ytenihpghfdcpkaa
