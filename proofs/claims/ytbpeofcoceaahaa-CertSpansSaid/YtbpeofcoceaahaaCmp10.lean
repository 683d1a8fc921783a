/- WHAT IS PROVED: when stamps, commitments and names are the same, as '==' says. Conditions: stated with each. -/
import Derived.Test.YtbpeofcoceaahaaRightD
import Derived.Test.YtbpeofcoceaahaaEqs
namespace Go.Proofs.Ytbpeofcoceaahaa
open Go.RowKit
set_option maxRecDepth 100000
noncomputable instance : DecidableEq StampD := fun _ _ => Classical.propDecidable _
noncomputable instance : DecidableEq CommitD := fun _ _ => Classical.propDecidable _
def pairV (a b : Int) : Value := .agg ⟨[.int .i64 a, .int .i64 b]⟩
theorem name_equalIn (w : World) (a b c d : Int) : (Op.equalIn 9999 38 (pairV a b) (pairV c d)).run Try.prog w = .ok (decide (a = c ∧ b = d)) w := by
  have ei := fun a b => run_equalIn_int (P := Try.prog) w 9997 3 .i64 .i64 a b Try.underlying3
  refine (struct_equalIn (d := 9998) _ [a == c, b == d] Try.underlying38 (by kernel_rfl)
    ⟨⟨by decide, .int .i64 a, .int .i64 c, by kernel_rfl, by kernel_rfl, ei _ _⟩, ⟨by decide, .int .i64 b, .int .i64 d, by kernel_rfl, by kernel_rfl, ei _ _⟩, trivial⟩).trans ?_
  congr 1
  rw [Bool.eq_iff_iff]
  simp
theorem sig_equalIn (w : World) (a b c d : Int) : (Op.equalIn 9999 42 (pairV a b) (pairV c d)).run Try.prog w = .ok (decide (a = c ∧ b = d)) w := by
  have ei := fun a b => run_equalIn_int (P := Try.prog) w 9997 3 .i64 .i64 a b Try.underlying3
  refine (struct_equalIn (d := 9998) _ [a == c, b == d] Try.underlying42 (by kernel_rfl)
    ⟨⟨by decide, .int .i64 a, .int .i64 c, by kernel_rfl, by kernel_rfl, ei _ _⟩, ⟨by decide, .int .i64 b, .int .i64 d, by kernel_rfl, by kernel_rfl, ei _ _⟩, trivial⟩).trans ?_
  congr 1
  rw [Bool.eq_iff_iff]
  simp
theorem stampF_i (w : World) (s : StampD) : (part 3 ⟨encSt s⟩ 0).run Try.prog w = .ok (.int .i64 s.r) w ∧ (part 38 ⟨encSt s⟩ 1).run Try.prog w = .ok (pairV s.cl s.seq) w ∧ (part 40 ⟨encSt s⟩ 3).run Try.prog w = .ok (hashV s.h) w ∧ (part 23 ⟨encSt s⟩ 35).run Try.prog w = .ok (.int .u64 s.t) w ∧ (part 42 ⟨encSt s⟩ 36).run Try.prog w = .ok (pairV s.sb s.sm) w :=
  ⟨by kernel_rfl, by kernel_rfl, by kernel_rfl, by kernel_rfl, by kernel_rfl⟩
theorem stampF : Flat Try.prog 49 encSt := by
  refine ⟨fun w x y => ?_, by kernel_rfl⟩
  obtain ⟨x0, x1, x2, x3, x4⟩ := stampF_i w x
  obtain ⟨y0, y1, y2, y3, y4⟩ := stampF_i w y
  have ei := fun a b => run_equalIn_int (P := Try.prog) w 9998 3 .i64 .i64 a b Try.underlying3
  have eu := fun a b => run_equalIn_int (P := Try.prog) w 9998 23 .u64 .u64 a b Try.underlying23
  refine (struct_equalIn (d := 9999) _ [x.r == y.r, decide (x.cl = y.cl ∧ x.seq = y.seq), decide (x.h = y.h), x.t == y.t, decide (x.sb = y.sb ∧ x.sm = y.sm)] Try.underlying49 (by kernel_rfl)
    ⟨⟨by decide, _, _, x0, y0, ei _ _⟩, ⟨by decide, _, _, x1, y1, name_equalIn w _ _ _ _⟩, ⟨by decide, _, _, x2, y2, hash_equalIn w 9997 _ _⟩, ⟨by decide, _, _, x3, y3, eu _ _⟩, ⟨by decide, _, _, x4, y4, sig_equalIn w _ _ _ _⟩, trivial⟩).trans ?_
  congr 1
  obtain ⟨a1, a2, a3, a4, a5, a6, a7⟩ := x
  obtain ⟨b1, b2, b3, b4, b5, b6, b7⟩ := y
  rw [Bool.eq_iff_iff]
  simp [and_assoc]
theorem commitF_i (w : World) (s : CommitD) : (part 38 ⟨encCo s⟩ 0).run Try.prog w = .ok (pairV s.cl s.seq) w ∧ (part 40 ⟨encCo s⟩ 2).run Try.prog w = .ok (hashV s.h) w ∧ (part 3 ⟨encCo s⟩ 34).run Try.prog w = .ok (.int .i64 s.len) w ∧ (part 42 ⟨encCo s⟩ 35).run Try.prog w = .ok (pairV s.sb s.sm) w :=
  ⟨by kernel_rfl, by kernel_rfl, by kernel_rfl, by kernel_rfl⟩
theorem commitF : Flat Try.prog 44 encCo := by
  refine ⟨fun w x y => ?_, by kernel_rfl⟩
  obtain ⟨x1, x2, x3, x4⟩ := commitF_i w x
  obtain ⟨y1, y2, y3, y4⟩ := commitF_i w y
  have ei := fun a b => run_equalIn_int (P := Try.prog) w 9998 3 .i64 .i64 a b Try.underlying3
  refine (struct_equalIn (d := 9999) _ [decide (x.cl = y.cl ∧ x.seq = y.seq), decide (x.h = y.h), x.len == y.len, decide (x.sb = y.sb ∧ x.sm = y.sm)] Try.underlying44 (by kernel_rfl)
    ⟨⟨by decide, _, _, x1, y1, name_equalIn w _ _ _ _⟩, ⟨by decide, _, _, x2, y2, hash_equalIn w 9997 _ _⟩, ⟨by decide, _, _, x3, y3, ei _ _⟩, ⟨by decide, _, _, x4, y4, sig_equalIn w _ _ _ _⟩, trivial⟩).trans ?_
  congr 1
  obtain ⟨a1, a2, a3, a4, a5, a6⟩ := x
  obtain ⟨b1, b2, b3, b4, b5, b6⟩ := y
  rw [Bool.eq_iff_iff]
  simp [and_assoc]
theorem e_eqName {n : Nat} {f : Nat → Value} {w : World} {dst : Option Tmp} {ty : TypeId} {pos : String} {aft : Array Edge} {gd : Option (Nat × Bool)} {x y : Operand} {T : TypeId} (a b c d : Int) (hx : ev n f x = .agg ⟨[.int .i64 a, .int .i64 b]⟩) (hy : ev n f y = .agg ⟨[.int .i64 c, .int .i64 d]⟩) :
    (execOp (ev n f) ⟨dst, .binOp .eql 38 x y T, ty, pos, aft, gd⟩).run Try.prog w = .ok (.value (.bool (decide (a = c ∧ b = d)))) w := by
  simp only [execOp, hx, hy]
  simp [go_sem]
  by_cases h1 : a = c <;> by_cases h2 : b = d <;> simp_all
end Go.Proofs.Ytbpeofcoceaahaa
