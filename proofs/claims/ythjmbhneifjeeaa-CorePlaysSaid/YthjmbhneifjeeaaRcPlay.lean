/- WHAT IS PROVED: when acts and states of the document's are the same; a core of the program's and one of the document's as one piece. Conditions: stated with each. -/
import Derived.Test.YthjmbhneifjeeaaState14
import Derived.Test.YthjmbhneifjeeaaRcAbs
import Derived.Test.YthjmbhneifjeeaaObj
namespace Go.Proofs.Ythjmbhneifjeeaa
open Go.RowKit
set_option maxRecDepth 100000
theorem rstateF_i (w : World) (s : StD) : (part 3 ⟨stL s⟩ 0).run Try.prog w = .ok (.int .i64 s.round) w ∧ (part 3 ⟨stL s⟩ 1).run Try.prog w = .ok (.int .i64 s.step) w ∧ (part 3 ⟨stL s⟩ 2).run Try.prog w = .ok (.int .i64 s.lr) w ∧ (part 3 ⟨stL s⟩ 3).run Try.prog w = .ok (.int .i64 s.vr) w :=
  ⟨by kernel_rfl, by kernel_rfl, by kernel_rfl, by kernel_rfl⟩
theorem rstateF_h (w : World) (s : StD) : (part 36 ⟨stL s⟩ 4).run Try.prog w = .ok (hashV s.locked) w ∧ (part 36 ⟨stL s⟩ 36).run Try.prog w = .ok (hashV s.valid) w ∧ (part 4 ⟨stL s⟩ 68).run Try.prog w = .ok (.bool s.decided) w ∧ (part 36 ⟨stL s⟩ 69).run Try.prog w = .ok (hashV s.decision) w :=
  ⟨by kernel_rfl, by kernel_rfl, by kernel_rfl, by kernel_rfl⟩
theorem rstateF : Flat Try.prog 78 stL := by
  refine ⟨fun w x y => ?_, by kernel_rfl⟩
  obtain ⟨x0, x1, x2, x3⟩ := rstateF_i w x
  obtain ⟨y0, y1, y2, y3⟩ := rstateF_i w y
  obtain ⟨x4, x5, x6, x7⟩ := rstateF_h w x
  obtain ⟨y4, y5, y6, y7⟩ := rstateF_h w y
  have ei := fun a b => run_equalIn_int (P := Try.prog) w 9998 3 .i64 .i64 a b Try.underlying3
  have eb := run_equalIn_bool (P := Try.prog) w 9998 4 x.decided y.decided Try.underlying4
  refine (struct_equalIn (d := 9999) _ [x.round == y.round, x.step == y.step, x.lr == y.lr, x.vr == y.vr, decide (x.locked = y.locked), decide (x.valid = y.valid), x.decided == y.decided, decide (x.decision = y.decision)] Try.underlying78 (by kernel_rfl)
    ⟨⟨by decide, _, _, x0, y0, ei _ _⟩, ⟨by decide, _, _, x1, y1, ei _ _⟩, ⟨by decide, _, _, x2, y2, ei _ _⟩, ⟨by decide, _, _, x3, y3, ei _ _⟩, ⟨by decide, _, _, x4, y4, hash_equalIn w 9997 _ _⟩, ⟨by decide, _, _, x5, y5, hash_equalIn w 9997 _ _⟩, ⟨by decide, _, _, x6, y6, eb⟩, ⟨by decide, _, _, x7, y7, hash_equalIn w 9997 _ _⟩, trivial⟩).trans ?_
  congr 1
  obtain ⟨a1, a2, a3, a4, a5, a6, a7, a8⟩ := x
  obtain ⟨b1, b2, b3, b4, b5, b6, b7, b8⟩ := y
  rw [Bool.eq_iff_iff]
  simp
theorem ractF_i (w : World) (s : ActD) : (part 3 ⟨encA s⟩ 0).run Try.prog w = .ok (.int .i64 s.kind) w ∧ (part 3 ⟨encA s⟩ 1).run Try.prog w = .ok (.int .i64 s.round) w ∧ (part 3 ⟨encA s⟩ 2).run Try.prog w = .ok (.int .i64 s.valid) w ∧ (part 36 ⟨encA s⟩ 3).run Try.prog w = .ok (hashV s.h) w :=
  ⟨by kernel_rfl, by kernel_rfl, by kernel_rfl, by kernel_rfl⟩
theorem ractF : Flat Try.prog 102 encA := by
  refine ⟨fun w x y => ?_, by kernel_rfl⟩
  obtain ⟨x0, x1, x2, x3⟩ := ractF_i w x
  obtain ⟨y0, y1, y2, y3⟩ := ractF_i w y
  have ei := fun a b => run_equalIn_int (P := Try.prog) w 9998 3 .i64 .i64 a b Try.underlying3
  refine (struct_equalIn (d := 9999) _ [x.kind == y.kind, x.round == y.round, x.valid == y.valid, decide (x.h = y.h)] Try.underlying102 (by kernel_rfl)
    ⟨⟨by decide, _, _, x0, y0, ei _ _⟩, ⟨by decide, _, _, x1, y1, ei _ _⟩, ⟨by decide, _, _, x2, y2, ei _ _⟩, ⟨by decide, _, _, x3, y3, hash_equalIn w 9997 _ _⟩, trivial⟩).trans ?_
  congr 1
  obtain ⟨a1, a2, a3, a4⟩ := x
  obtain ⟨b1, b2, b3, b4⟩ := y
  rw [Bool.eq_iff_iff]
  simp
section
variable {w0 w w' : World} {G L R : List Ck} {A B P : Ck}
/-- a call that turned a pair -/
theorem Sat.turned2 (H : Sat w0 G w) (i : Nat) (js : List Nat) (hn : (i :: js).Pairwise (fun a b => Nat.beq a b = false)) (hi : G[i]? = some P) (hj : (js.filterMap fun i => G[i]?) = R)
    (h : Sat w [A, B, restC w P.fp] w') : Sat w0 (sepC [A, B] :: R) w' :=
  Sat.closeL (L := [A, B]) (R := R) (Sat.turn1 (L' := [A, B]) (R := R) H i js hn hi hj h)
end
end Go.Proofs.Ythjmbhneifjeeaa
