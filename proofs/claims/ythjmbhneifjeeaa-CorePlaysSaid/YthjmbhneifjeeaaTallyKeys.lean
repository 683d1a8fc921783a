/- WHAT IS PROVED: the keys of a tally's maps as data. No condition. -/
import Derived.Test.YthjmbhneifjeeaaHash
namespace Go.Proofs.Ythjmbhneifjeeaa
open Go.RowKit
set_option maxRecDepth 100000
structure Voter where
  kind : Int
  round : Int
  replica : Int
  deriving DecidableEq
def voterV (x : Voter) : Value := .agg ⟨[.int .i64 x.kind, .int .i64 x.round, .int .i64 x.replica]⟩
structure Turn where
  kind : Int
  round : Int
  deriving DecidableEq
def turnV (x : Turn) : Value := .agg ⟨[.int .i64 x.kind, .int .i64 x.round]⟩
structure Choice where
  kind : Int
  round : Int
  h : Hash
  deriving DecidableEq
def choiceV (x : Choice) : Value := .agg ⟨[.int .i64 x.kind, .int .i64 x.round] ++ hc x.h⟩
theorem voterK : KeyTy Try.prog 120 voterV := KeyTy.deep (by kernel_rfl) (fun w em a => by cases em <;> kernel_rfl) (fun w x y => by
  simp only [Op.equal, Op.maxDepth, voterV]
  simp [go_sem]
  obtain ⟨x1, x2, x3⟩ := x
  obtain ⟨y1, y2, y3⟩ := y
  by_cases h1 : x1 = y1 <;> by_cases h2 : x2 = y2 <;> by_cases h3 : x3 = y3 <;> simp_all) (fun a => same_ints _ (by simp))
theorem turnK : KeyTy Try.prog 124 turnV := KeyTy.deep (by kernel_rfl) (fun w em a => by cases em <;> kernel_rfl) (fun w x y => by
  simp only [Op.equal, Op.maxDepth, turnV]
  simp [go_sem]
  obtain ⟨x1, x2⟩ := x
  obtain ⟨y1, y2⟩ := y
  by_cases h1 : x1 = y1 <;> by_cases h2 : x2 = y2 <;> simp_all) (fun a => same_ints _ (by simp))
theorem choice_run (w : World) (X Y : Array Value) (x y : Choice)
    (q1 : (part 3 X 0).run Try.prog w = .ok (.int .i64 x.kind) w) (q2 : (part 3 Y 0).run Try.prog w = .ok (.int .i64 y.kind) w)
    (r1 : (part 3 X 1).run Try.prog w = .ok (.int .i64 x.round) w) (r2 : (part 3 Y 1).run Try.prog w = .ok (.int .i64 y.round) w)
    (p1 : (part 36 X 2).run Try.prog w = .ok (hashV x.h) w) (p2 : (part 36 Y 2).run Try.prog w = .ok (hashV y.h) w) :
    (Op.equalIn 10000 122 (.agg X) (.agg Y)).run Try.prog w = .ok (decide (x = y)) w := by
  have hh := hash_equalIn w 9997 x.h y.h
  have e1 := run_equalIn_int (P := Try.prog) w 9998 3 .i64 .i64 x.kind y.kind Try.underlying3
  have e2 := run_equalIn_int (P := Try.prog) w 9998 3 .i64 .i64 x.round y.round Try.underlying3
  refine (struct_equalIn (d := 9999) _ [x.kind == y.kind, x.round == y.round, decide (x.h = y.h)] Try.underlying122 (by kernel_rfl) ⟨⟨by decide, _, _, q1, q2, e1⟩, ⟨by decide, _, _, r1, r2, e2⟩, ⟨by decide, _, _, p1, p2, hh⟩, trivial⟩).trans ?_
  congr 1
  obtain ⟨x1, x2, x3⟩ := x
  obtain ⟨y1, y2, y3⟩ := y
  rw [Bool.eq_iff_iff]
  simp
theorem part_h (w : World) (a b : Int) (h : Hash) : (part 36 ⟨[.int .i64 a, .int .i64 b] ++ hc h⟩ 2).run Try.prog w = .ok (hashV h) w := by kernel_rfl
theorem part_0 (w : World) (a b : Int) (h : Hash) : (part 3 ⟨[.int .i64 a, .int .i64 b] ++ hc h⟩ 0).run Try.prog w = .ok (.int .i64 a) w := by kernel_rfl
theorem part_1 (w : World) (a b : Int) (h : Hash) : (part 3 ⟨[.int .i64 a, .int .i64 b] ++ hc h⟩ 1).run Try.prog w = .ok (.int .i64 b) w := by kernel_rfl
theorem choice_eq (w : World) (x y : Choice) : (Op.equal 122 (choiceV x) (choiceV y)).run Try.prog w = .ok (decide (x = y)) w :=
  choice_run w _ _ x y (part_0 w _ _ _) (part_0 w _ _ _) (part_1 w _ _ _) (part_1 w _ _ _) (part_h w _ _ _) (part_h w _ _ _)
theorem choice_ints (x : Choice) : ∀ v ∈ [Value.int .i64 x.kind, .int .i64 x.round] ++ hc x.h, ∃ k z, v = Value.int k z := by
  intro v hv
  rcases List.mem_append.1 hv with h | h
  · simp at h; rcases h with rfl | rfl <;> exact ⟨_, _, rfl⟩
  · exact hc_ints _ v h
theorem choiceK : KeyTy Try.prog 122 choiceV := KeyTy.deep (by kernel_rfl) (fun w em a => by cases em <;> kernel_rfl) choice_eq (fun a => same_ints _ (choice_ints a))
end Go.Proofs.Ythjmbhneifjeeaa
