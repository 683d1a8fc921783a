/-
  No cell of these rows narrows 'for every input' (looked for: loops, veiled, ifaces, maps, wideKeys, modest, calm, conditions, laid).
  DERIVED. THE GIVEN ROWS OF THIS SEAT. 5 by the template 'for every input the law returns true; each argument reads behind the call as it read before'; 0 by the template 'total and deterministic' (their statements: YtoiplcicbjimlaaTotals.lean).
  GIVEN WITH THE SEED: the statements are not yours to turn. If you find one false, say at which input.
  Laid BY PROGRAM, IN A SANDBOX (cutbox-rows.mjs): the forced cells as the released guide's own fill.sh prints them over the translation 487a2e39156ad1d7… (all of the seat's roots in one cut). By AI agents, Wed Nov 11 2026. No macro, syntax, notation, axiom, sorry.
-/
import Derived.Test.YtoiplcicbjimlaaChecked
import GoSem.Claim
import GoSem.ClaimJoined
import GoSem.ClaimMapViews
import Derived.JoinedTies
import Derived.KernelRfl
namespace Go.Proofs.Ytoiplcicbjimlaa
/- THE CELL 'sum', in the pinned program and in every row, IS THE sha256 OF THE DUMP (.gsa) THAT YtoiplcicbjimlaaProg.lean LOADS. Nothing in Lean hashes anything: it is a label: what it is worth is what the hold of that sum in a sandbox is worth. -/
noncomputable def Try.pinned : Pinned := { name := "ytoiplcicbjimlaa", sum := "487a2e39156ad1d7f76de92ffb92646e218200b652f5746ac363eb5d1d57e368", checked := Try.checked }
namespace Rows
def none {H : Type} : Left H := { results := [], args := [] }

/-- 'gavellaw16.RevealMatches': WHATEVER THE INPUT: true; the input reads as it did. -/
def revealMatchesSpec : ChangeSpec := { name := "revealMatches", fn := fun _ => fun
  | [d1, d2, d3] => { results := [.lit (.bool true)], args := [d1, d2, d3] }
  | _ => none }
def revealMatchesRow : OpenClaim := { program := "ytoiplcicbjimlaa", sum := "487a2e39156ad1d7f76de92ffb92646e218200b652f5746ac363eb5d1d57e368", func := "gavel/gavellaw16.RevealMatches", spec := "revealMatches", plainKeys := false, apart := false }
def RevealMatchesSaid : Prop := revealMatchesRow.holds Try.pinned (OpenSpec.ofChange revealMatchesSpec)

/-- ITS FALSE NEIGHBOUR: 'it returns false'. Refute it at one input. -/
def revealMatchesWrong : ChangeSpec := { name := "revealMatches", fn := fun _ => fun
  | [d1, d2, d3] => { results := [.lit (.bool false)], args := [d1, d2, d3] }
  | _ => none }
def RevealMatchesWrongFalsely : Prop := revealMatchesRow.holds Try.pinned (OpenSpec.ofChange revealMatchesWrong)

/-- 'gavellaw16.RevealEither': WHATEVER THE INPUT: true; the input reads as it did. -/
def revealEitherSpec : ChangeSpec := { name := "revealEither", fn := fun _ => fun
  | [d] => { results := [.lit (.bool true)], args := [d] }
  | _ => none }
def revealEitherRow : OpenClaim := { program := "ytoiplcicbjimlaa", sum := "487a2e39156ad1d7f76de92ffb92646e218200b652f5746ac363eb5d1d57e368", func := "gavel/gavellaw16.RevealEither", spec := "revealEither", inPlace := ["maps.clone"], unfollowed := true, recurses := true, plainKeys := false, apart := false }
def RevealEitherSaid : Prop := revealEitherRow.holds Try.pinned (OpenSpec.ofChange revealEitherSpec)

/-- ITS FALSE NEIGHBOUR: 'it returns false'. Refute it at one input. -/
def revealEitherWrong : ChangeSpec := { name := "revealEither", fn := fun _ => fun
  | [d] => { results := [.lit (.bool false)], args := [d] }
  | _ => none }
def RevealEitherWrongFalsely : Prop := revealEitherRow.holds Try.pinned (OpenSpec.ofChange revealEitherWrong)

/-- 'gavellaw16.RevealTimes': WHATEVER THE INPUT: true; the input reads as it did. -/
def revealTimesSpec : ChangeSpec := { name := "revealTimes", fn := fun _ => fun
  | [d1, d2, d3] => { results := [.lit (.bool true)], args := [d1, d2, d3] }
  | _ => none }
def revealTimesRow : OpenClaim := { program := "ytoiplcicbjimlaa", sum := "487a2e39156ad1d7f76de92ffb92646e218200b652f5746ac363eb5d1d57e368", func := "gavel/gavellaw16.RevealTimes", spec := "revealTimes", inPlace := ["maps.clone"], unfollowed := true, recurses := true, plainKeys := false, apart := false }
def RevealTimesSaid : Prop := revealTimesRow.holds Try.pinned (OpenSpec.ofChange revealTimesSpec)

/-- ITS FALSE NEIGHBOUR: 'it returns false'. Refute it at one input. -/
def revealTimesWrong : ChangeSpec := { name := "revealTimes", fn := fun _ => fun
  | [d1, d2, d3] => { results := [.lit (.bool false)], args := [d1, d2, d3] }
  | _ => none }
def RevealTimesWrongFalsely : Prop := revealTimesRow.holds Try.pinned (OpenSpec.ofChange revealTimesWrong)

/-- 'gavellaw16.RevealTombs': WHATEVER THE INPUT: true; the input reads as it did. -/
def revealTombsSpec : ChangeSpec := { name := "revealTombs", fn := fun _ => fun
  | [d1, d2, d3] => { results := [.lit (.bool true)], args := [d1, d2, d3] }
  | _ => none }
def revealTombsRow : OpenClaim := { program := "ytoiplcicbjimlaa", sum := "487a2e39156ad1d7f76de92ffb92646e218200b652f5746ac363eb5d1d57e368", func := "gavel/gavellaw16.RevealTombs", spec := "revealTombs", inPlace := ["maps.clone"], unfollowed := true, recurses := true, plainKeys := false, apart := false }
def RevealTombsSaid : Prop := revealTombsRow.holds Try.pinned (OpenSpec.ofChange revealTombsSpec)

/-- ITS FALSE NEIGHBOUR: 'it returns false'. Refute it at one input. -/
def revealTombsWrong : ChangeSpec := { name := "revealTombs", fn := fun _ => fun
  | [d1, d2, d3] => { results := [.lit (.bool false)], args := [d1, d2, d3] }
  | _ => none }
def RevealTombsWrongFalsely : Prop := revealTombsRow.holds Try.pinned (OpenSpec.ofChange revealTombsWrong)

/-- 'gavellaw16.RevealRises': WHATEVER THE INPUT: true; the input reads as it did. -/
def revealRisesSpec : ChangeSpec := { name := "revealRises", fn := fun _ => fun
  | [d] => { results := [.lit (.bool true)], args := [d] }
  | _ => none }
def revealRisesRow : OpenClaim := { program := "ytoiplcicbjimlaa", sum := "487a2e39156ad1d7f76de92ffb92646e218200b652f5746ac363eb5d1d57e368", func := "gavel/gavellaw16.RevealRises", spec := "revealRises", inPlace := ["maps.clone"], unfollowed := true, recurses := true, plainKeys := false, apart := false }
def RevealRisesSaid : Prop := revealRisesRow.holds Try.pinned (OpenSpec.ofChange revealRisesSpec)

/-- ITS FALSE NEIGHBOUR: 'it returns false'. Refute it at one input. -/
def revealRisesWrong : ChangeSpec := { name := "revealRises", fn := fun _ => fun
  | [d] => { results := [.lit (.bool false)], args := [d] }
  | _ => none }
def RevealRisesWrongFalsely : Prop := revealRisesRow.holds Try.pinned (OpenSpec.ofChange revealRisesWrong)

/- THE SECOND FORM. 'bulk': how many values and letters a reading holds, each counted each time it is reached (what is shared counts as often as it is met; a slice's spare places count too). A statement '..UptoSaid' is the law's where the arguments, and the package variables that the reading takes, are together of bulk at most 1048576: NARROWER than '..Said'. Prove '..Said' where nothing that the law and all that it calls make is longer than what came in: it says more and counts as full. Else prove '..UptoSaid'. A law counts once. -/
mutual
def uptoBulk {H : Type} : DataW H → Nat
  | .lit (.string bytes) => bytes.length + 1
  | .lit _ => 1
  | .nil => 1
  | .ptr d => uptoBulk d + 1
  | .slice elems spare => uptoBulkAll elems + uptoBulkAll spare + 1
  | .agg parts => uptoBulkAll parts + 1
  | .iface _ d => uptoBulk d + 1
  | .map entries => uptoBulkEntries entries + 1
  | .held _ => 1
def uptoBulkAll {H : Type} : List (DataW H) → Nat
  | [] => 0
  | d :: r => uptoBulk d + uptoBulkAll r
def uptoBulkEntries {H : Type} : List (Lit × DataW H) → Nat
  | [] => 0
  | x :: r => uptoBulkEntry x + uptoBulkEntries r
def uptoBulkEntry {H : Type} : Lit × DataW H → Nat
  | (.string bytes, d) => bytes.length + uptoBulk d + 1
  | (_, d) => uptoBulk d + 1
 end
def uptoSmall : (H : Type) → List (DataW H) → Bool := fun _ ds => decide (uptoBulkAll ds ≤ 1048576)
def OpenSpec.upto (s : _root_.Go.ChangeSpec) : _root_.Go.OpenSpec := { _root_.Go.OpenSpec.ofChange s with cond := some uptoSmall }

/-- 'gavellaw16.RevealMatches', WHERE WHAT IT READS IS OF BULK AT MOST 1048576: true; the input reads as it did. -/
def revealMatchesUptoRow : OpenClaim := { program := "ytoiplcicbjimlaa", sum := "487a2e39156ad1d7f76de92ffb92646e218200b652f5746ac363eb5d1d57e368", func := "gavel/gavellaw16.RevealMatches", spec := "revealMatches", plainKeys := false, apart := false, narrowed := true }
def RevealMatchesUptoSaid : Prop := revealMatchesUptoRow.holds Try.pinned (OpenSpec.upto revealMatchesSpec)

/-- 'gavellaw16.RevealEither', WHERE WHAT IT READS IS OF BULK AT MOST 1048576: true; the input reads as it did. -/
def revealEitherUptoRow : OpenClaim := { program := "ytoiplcicbjimlaa", sum := "487a2e39156ad1d7f76de92ffb92646e218200b652f5746ac363eb5d1d57e368", func := "gavel/gavellaw16.RevealEither", spec := "revealEither", inPlace := ["maps.clone"], unfollowed := true, recurses := true, plainKeys := false, apart := false, narrowed := true }
def RevealEitherUptoSaid : Prop := revealEitherUptoRow.holds Try.pinned (OpenSpec.upto revealEitherSpec)

/-- 'gavellaw16.RevealTimes', WHERE WHAT IT READS IS OF BULK AT MOST 1048576: true; the input reads as it did. -/
def revealTimesUptoRow : OpenClaim := { program := "ytoiplcicbjimlaa", sum := "487a2e39156ad1d7f76de92ffb92646e218200b652f5746ac363eb5d1d57e368", func := "gavel/gavellaw16.RevealTimes", spec := "revealTimes", inPlace := ["maps.clone"], unfollowed := true, recurses := true, plainKeys := false, apart := false, narrowed := true }
def RevealTimesUptoSaid : Prop := revealTimesUptoRow.holds Try.pinned (OpenSpec.upto revealTimesSpec)

/-- 'gavellaw16.RevealTombs', WHERE WHAT IT READS IS OF BULK AT MOST 1048576: true; the input reads as it did. -/
def revealTombsUptoRow : OpenClaim := { program := "ytoiplcicbjimlaa", sum := "487a2e39156ad1d7f76de92ffb92646e218200b652f5746ac363eb5d1d57e368", func := "gavel/gavellaw16.RevealTombs", spec := "revealTombs", inPlace := ["maps.clone"], unfollowed := true, recurses := true, plainKeys := false, apart := false, narrowed := true }
def RevealTombsUptoSaid : Prop := revealTombsUptoRow.holds Try.pinned (OpenSpec.upto revealTombsSpec)

/-- 'gavellaw16.RevealRises', WHERE WHAT IT READS IS OF BULK AT MOST 1048576: true; the input reads as it did. -/
def revealRisesUptoRow : OpenClaim := { program := "ytoiplcicbjimlaa", sum := "487a2e39156ad1d7f76de92ffb92646e218200b652f5746ac363eb5d1d57e368", func := "gavel/gavellaw16.RevealRises", spec := "revealRises", inPlace := ["maps.clone"], unfollowed := true, recurses := true, plainKeys := false, apart := false, narrowed := true }
def RevealRisesUptoSaid : Prop := revealRisesUptoRow.holds Try.pinned (OpenSpec.upto revealRisesSpec)

end Rows
end Go.Proofs.Ytoiplcicbjimlaa
