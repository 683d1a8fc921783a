/- WHAT IS PROVED: the votes that come to the statements of this chapter, as data. Conditions: stated with each. -/
import Derived.Test.YtfhhljgjppcdlaaSmall
import Derived.Test.YtfhhljgjppcdlaaBreak
namespace Go.Proofs.Ytfhhljgjppcdlaa
open Go.RowKit
structure VoteIn where
  kind : Int
  round : Int
  replica : Int
  h : Hash
  small : Bool
def voteL (x : VoteIn) : List Value := [.int .i64 x.kind, .int .i64 x.round, .int .i64 x.replica] ++ hc x.h ++ [.bool x.small]
def VoteIn.cut (x : VoteIn) : VoteIn := if x.small = true then ⟨1 + withinV x.kind 2, withinV x.round 3, withinV x.replica 7, hash1 (x.h.l.getD 0 0 % 3), x.small⟩ else x
/-- a row of cells somewhere -/
def CellsAt (w : World) (a : Addr) (vs : List Value) : Prop := ∀ j v, vs[j]? = some v → w.cell? (a.add j) = some v
def VotesAt (w : World) (v : Value) (xs : List VoteIn) : Prop := SliceOf (fun w a x => CellsAt w a (voteL x)) 36 w v xs
section
variable {P : Program} {n : Nat} {f : Nat → Value} {w : World} {dst : Option Tmp} {ty : TypeId} {pos : String} {aft : Array Edge} {gd : Option (Nat × Bool)}
theorem e_loadA {T : TypeId} {x : Operand} {p : Addr} {vs : List Value} (hx : ev n f x = .pointer (some p)) (hT : aggTy P T = true) (hN : P.cellsOf T = vs.length) (h0 : 0 < vs.length) (hc : CellsAt w p vs) :
    (execOp (ev n f) ⟨dst, .load T x, ty, pos, aft, gd⟩).run P w = .ok (.value (.agg ⟨vs⟩)) w := by
  have hl : (loadCells p vs.length).run P w = .ok vs.toArray w := run_loadCells_list w p vs hc
  simp only [execOp, Instr.loadAt, hx, Instr.sureAddr, loadVar]
  simp [run_isAgg_agg hT, run_sizeOf_cells hN h0, hl, Result.andThen]
end
end Go.Proofs.Ytfhhljgjppcdlaa
