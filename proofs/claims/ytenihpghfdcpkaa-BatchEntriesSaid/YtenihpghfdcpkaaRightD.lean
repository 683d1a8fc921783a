/- WHAT IS PROVED: which commitments, stamps and certificates are right, in plain words. Conditions: stated with each. -/
import Derived.Test.YtenihpghfdcpkaaTxtD
import Derived.Test.YtenihpghfdcpkaaMedMath
namespace Go.Proofs.Ytenihpghfdcpkaa
open Go.RowKit
def inB (f r : Int) : Bool := decide (0 ≤ r) && decide (r < 3 * f + 1)
def validC (cn : Int) (x : CommitD) : Bool := decide (0 ≤ x.cl) && decide (x.cl < cn) && decide (1 ≤ x.seq) && decide (x.seq ≤ 1048576) && decide (0 ≤ x.len) && decide (x.len ≤ 256)
def rightC (cn : Int) (L : List Signed) (x : CommitD) : Bool := validC cn x && decide (x.sb = IntKind.i64.wrap (1000 + x.cl)) && rightB L x.sb x.sm (commitB x)
def rightS (f : Int) (L : List Signed) (s : StampD) : Bool := inB f s.r && decide (1 ≤ s.t) && decide (s.t < 18446744073709551615) && decide (s.sb = s.r) && rightB L s.sb s.sm (stampB s)
def sameN (s : StampD) (x : CommitD) : Bool := decide (s.cl = x.cl ∧ s.seq = x.seq) && decide (s.h = x.h)
def okAt (f : Int) (L : List Signed) (x : CommitD) (S : List StampD) (i : Nat) : Bool := (!decide ((i : Int) > 0) || !decide ((S.getD i stamp0).r ≤ (S.getD (i - 1) stamp0).r)) && sameN (S.getD i stamp0) x && rightS f L (S.getD i stamp0)
def rightX (f cn : Int) (L : List Signed) (x : CommitD) (S : List StampD) : Bool := rightC cn L x && decide ((S.length : Int) = 2 * f + 1) && (List.range S.length).all (okAt f L x S)
theorem all_upto {p : Nat → Bool} {n : Nat} (h : ∀ j, j < n → p j = true) : (List.range n).all p = true := by
  rw [List.all_eq_true]; intro j hj; exact h j (List.mem_range.1 hj)
theorem all_not {p : Nat → Bool} {n i : Nat} (hi : i < n) (h : p i = false) : (List.range n).all p = false := by
  rw [Bool.eq_false_iff]; intro hc
  rw [List.all_eq_true] at hc
  rw [hc i (List.mem_range.2 hi)] at h; cases h
def timesD (S : List StampD) : List Int := S.map (·.t)
noncomputable def timeD (S : List StampD) : Int := medV (timesD S)
def StOk (s : StampD) : Prop := s.r ≤ 9223372036854775807 ∧ s.cl ≤ 9223372036854775807 ∧ s.seq ≤ 9223372036854775807 ∧ 0 ≤ s.t ∧ s.t < 18446744073709551616
def CoOk (s : CommitD) : Prop := s.cl ≤ 9223372036854775807 ∧ s.seq ≤ 9223372036854775807 ∧ s.len ≤ 9223372036854775807
theorem e_neqName {n : Nat} {f : Nat → Value} {w : World} {dst : Option Tmp} {ty : TypeId} {pos : String} {aft : Array Edge} {gd : Option (Nat × Bool)} {x y : Operand} {T : TypeId} (a b c d : Int) (hx : ev n f x = .agg ⟨[.int .i64 a, .int .i64 b]⟩) (hy : ev n f y = .agg ⟨[.int .i64 c, .int .i64 d]⟩) :
    (execOp (ev n f) ⟨dst, .binOp .neq 35 x y T, ty, pos, aft, gd⟩).run Try.prog w = .ok (.value (.bool (!decide (a = c ∧ b = d)))) w := by
  simp only [execOp, hx, hy]
  simp [go_sem]
  by_cases h1 : a = c <;> by_cases h2 : b = d <;> simp_all
theorem times_step (S : List StampD) {i : Nat} (h : i < S.length) : timesD (S.take (i + 1)) = timesD (S.take i) ++ [(S.getD i stamp0).t] := by
  unfold timesD
  rw [List.take_add_one, List.getElem?_eq_getElem h, List.map_append, List.getD_eq_getElem?_getD, List.getElem?_eq_getElem h]
  rfl
theorem times_len (S : List StampD) : (timesD S).length = S.length := by simp [timesD]
def StsOk (S : List StampD) : Prop := ∀ i, i < S.length → StOk (S.getD i stamp0)
end Go.Proofs.Ytenihpghfdcpkaa
