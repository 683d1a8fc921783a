/- WHAT IS PROVED: when two states of cores are the same. No condition. -/
import Derived.Test.YthjmbhneifjeeaaEqs
import Derived.Test.YthjmbhneifjeeaaCoreMem
namespace Go.Proofs.Ythjmbhneifjeeaa
open Go.RowKit
set_option maxRecDepth 100000
theorem stateF_i (w : World) (s : StD) : (part 3 ⟨stL s⟩ 0).run Try.prog w = .ok (.int .i64 s.round) w ∧ (part 3 ⟨stL s⟩ 1).run Try.prog w = .ok (.int .i64 s.step) w ∧ (part 3 ⟨stL s⟩ 2).run Try.prog w = .ok (.int .i64 s.lr) w ∧ (part 3 ⟨stL s⟩ 3).run Try.prog w = .ok (.int .i64 s.vr) w :=
  ⟨by kernel_rfl, by kernel_rfl, by kernel_rfl, by kernel_rfl⟩
theorem stateF_h (w : World) (s : StD) : (part 36 ⟨stL s⟩ 4).run Try.prog w = .ok (hashV s.locked) w ∧ (part 36 ⟨stL s⟩ 36).run Try.prog w = .ok (hashV s.valid) w ∧ (part 4 ⟨stL s⟩ 68).run Try.prog w = .ok (.bool s.decided) w ∧ (part 36 ⟨stL s⟩ 69).run Try.prog w = .ok (hashV s.decision) w :=
  ⟨by kernel_rfl, by kernel_rfl, by kernel_rfl, by kernel_rfl⟩
theorem stateF : Flat Try.prog 38 stL := by
  refine ⟨fun w x y => ?_, by kernel_rfl⟩
  obtain ⟨x0, x1, x2, x3⟩ := stateF_i w x
  obtain ⟨y0, y1, y2, y3⟩ := stateF_i w y
  obtain ⟨x4, x5, x6, x7⟩ := stateF_h w x
  obtain ⟨y4, y5, y6, y7⟩ := stateF_h w y
  have ei := fun a b => run_equalIn_int (P := Try.prog) w 9998 3 .i64 .i64 a b Try.underlying3
  have eb := run_equalIn_bool (P := Try.prog) w 9998 4 x.decided y.decided Try.underlying4
  refine (struct_equalIn (d := 9999) _ [x.round == y.round, x.step == y.step, x.lr == y.lr, x.vr == y.vr, decide (x.locked = y.locked), decide (x.valid = y.valid), x.decided == y.decided, decide (x.decision = y.decision)] Try.underlying38 (by kernel_rfl)
    ⟨⟨by decide, _, _, x0, y0, ei _ _⟩, ⟨by decide, _, _, x1, y1, ei _ _⟩, ⟨by decide, _, _, x2, y2, ei _ _⟩, ⟨by decide, _, _, x3, y3, ei _ _⟩, ⟨by decide, _, _, x4, y4, hash_equalIn w 9997 _ _⟩, ⟨by decide, _, _, x5, y5, hash_equalIn w 9997 _ _⟩, ⟨by decide, _, _, x6, y6, eb⟩, ⟨by decide, _, _, x7, y7, hash_equalIn w 9997 _ _⟩, trivial⟩).trans ?_
  congr 1
  obtain ⟨a1, a2, a3, a4, a5, a6, a7, a8⟩ := x
  obtain ⟨b1, b2, b3, b4, b5, b6, b7, b8⟩ := y
  rw [Bool.eq_iff_iff]
  simp
end Go.Proofs.Ythjmbhneifjeeaa
