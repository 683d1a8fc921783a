/- WHAT IS PROVED: the inputs that come to this chapter's statements, as data. Conditions: stated with each. -/
import Derived.Test.YthjmbhneifjeeaaSmall
import Derived.Test.YthjmbhneifjeeaaBreak
import Derived.Test.YthjmbhneifjeeaaIns
import Derived.Test.YthjmbhneifjeeaaCoreMem
import Derived.Test.YthjmbhneifjeeaaEqs
namespace Go.Proofs.Ythjmbhneifjeeaa
open Go.RowKit
structure InputD where
  doo : Int
  kind : Int
  round : Int
  valid : Int
  replica : Int
  h : Hash
  ok : Bool
  raw : Bool
def inL (x : InputD) : List Value := [.int .i64 x.doo, .int .i64 x.kind, .int .i64 x.round, .int .i64 x.valid, .int .i64 x.replica] ++ hc x.h ++ [.bool x.ok, .bool x.raw]
def inD0 : InputD := ⟨0, 0, 0, 0, 0, hash0, false, false⟩
/-- 2 to 5: a vote -/
def isVote (x : InputD) : Bool := decide (withinV x.doo 8 ≥ 2) && decide (withinV x.doo 8 ≤ 5)
def cutI (n : Int) (x : InputD) : InputD :=
  if x.raw = true then x
  else ⟨x.doo, if (isVote x && decide (1 + withinV x.kind 3 = 3)) = true then 1 else 1 + withinV x.kind 3, withinV x.round 4, withinV x.valid 4 - 1, withinV x.replica n, hash1 (x.h.l.getD 0 0 % 3), x.ok, x.raw⟩
def InputsAt (w : World) (v : Value) (xs : List InputD) : Prop := SliceOf (fun w a x => RunAt w a (inL x)) 39 w v xs
def turnL (x : Turn) : List Value := [.int .i64 x.kind, .int .i64 x.round]
theorem p20 (w : World) (x : Turn) : (part 3 ⟨turnL x⟩ (0 * Try.prog.cellsOf 3)).run Try.prog w = .ok (.int .i64 x.kind) w := by kernel_rfl
theorem p21 (w : World) (x : Turn) : (part 3 ⟨turnL x⟩ (1 * Try.prog.cellsOf 3)).run Try.prog w = .ok (.int .i64 x.round) w := by kernel_rfl
set_option maxRecDepth 100000 in
theorem arr2F : Flat Try.prog 66 turnL := by
  refine ⟨fun w x y => ?_, by kernel_rfl⟩
  have e1 := run_equalIn_int (P := Try.prog) w 9998 3 .i64 .i64 x.kind y.kind Try.underlying3
  have e2 := run_equalIn_int (P := Try.prog) w 9998 3 .i64 .i64 x.round y.round Try.underlying3
  refine (array_equalIn (n := 2) (e := 3) (by kernel_rfl) (i := Try.t3) (by kernel_rfl) (eqItems_all [0, 1] [x.kind == y.kind, x.round == y.round] ⟨⟨_, _, p20 w x, p20 w y, e1⟩, ⟨_, _, p21 w x, p21 w y, e2⟩, trivial⟩)).trans ?_
  congr 1
  obtain ⟨x1, x2⟩ := x
  obtain ⟨y1, y2⟩ := y
  rw [Bool.eq_iff_iff]
  simp
set_option maxRecDepth 100000 in
theorem arr2K : KeyTy Try.prog 66 turnV := arr2F.keyTy (by kernel_rfl) (fun w em a => by cases em <;> kernel_rfl) (fun a => same_ints _ (by simp [turnL]))
end Go.Proofs.Ythjmbhneifjeeaa
