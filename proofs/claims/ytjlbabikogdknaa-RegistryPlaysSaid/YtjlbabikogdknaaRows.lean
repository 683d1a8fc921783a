/-
  No cell of these rows narrows 'for every input' (looked for: loops, veiled, ifaces, maps, wideKeys, modest, calm, conditions, laid).
  DERIVED. THE GIVEN ROWS OF THIS SEAT. 4 by the template 'for every input the law returns true; each argument reads behind the call as it read before'; 0 by the template 'total and deterministic' (their statements: YtjlbabikogdknaaTotals.lean).
  GIVEN WITH THE SEED: the statements are not yours to turn. If you find one false, say at which input.
  Laid BY PROGRAM, IN A SANDBOX (cutbox-rows.mjs): the forced cells as the released guide's own fill.sh prints them over the translation 357d174bf7870f3d… (all of the seat's roots in one cut). By AI agents, Wed Nov 11 2026. No macro, syntax, notation, axiom, sorry.
-/
import Derived.Test.YtjlbabikogdknaaChecked
import GoSem.Claim
import GoSem.ClaimJoined
import GoSem.ClaimMapViews
import Derived.JoinedTies
import Derived.KernelRfl
namespace Go.Proofs.Ytjlbabikogdknaa
/- THE CELL 'sum', in the pinned program and in every row, IS THE sha256 OF THE DUMP (.gsa) THAT YtjlbabikogdknaaProg.lean LOADS. Nothing in Lean hashes anything: it is a label: what it is worth is what the hold of that sum in a sandbox is worth. -/
noncomputable def Try.pinned : Pinned := { name := "ytjlbabikogdknaa", sum := "357d174bf7870f3d0479e903ca74d3489d9e521a3c4a7e48c6de86d8cac39fe3", checked := Try.checked }
namespace Rows
def none {H : Type} : Left H := { results := [], args := [] }

/-- 'gavellaw18.RegistryLimits': WHATEVER THE INPUT: true; the input reads as it did. -/
def registryLimitsSpec : ChangeSpec := { name := "registryLimits", fn := fun _ => fun
  | [d1, d2] => { results := [.lit (.bool true)], args := [d1, d2] }
  | _ => none }
def registryLimitsRow : OpenClaim := { program := "ytjlbabikogdknaa", sum := "357d174bf7870f3d0479e903ca74d3489d9e521a3c4a7e48c6de86d8cac39fe3", func := "gavel/gavellaw18.RegistryLimits", spec := "registryLimits", unfollowed := true, recurses := true, apart := false }
def RegistryLimitsSaid : Prop := registryLimitsRow.holds Try.pinned (OpenSpec.ofChange registryLimitsSpec)

/-- ITS FALSE NEIGHBOUR: 'it returns false'. Refute it at one input. -/
def registryLimitsWrong : ChangeSpec := { name := "registryLimits", fn := fun _ => fun
  | [d1, d2] => { results := [.lit (.bool false)], args := [d1, d2] }
  | _ => none }
def RegistryLimitsWrongFalsely : Prop := registryLimitsRow.holds Try.pinned (OpenSpec.ofChange registryLimitsWrong)

/-- 'gavellaw18.RegistryFirst': WHATEVER THE INPUT: true; the input reads as it did. -/
def registryFirstSpec : ChangeSpec := { name := "registryFirst", fn := fun _ => fun
  | [d1, d2] => { results := [.lit (.bool true)], args := [d1, d2] }
  | _ => none }
def registryFirstRow : OpenClaim := { program := "ytjlbabikogdknaa", sum := "357d174bf7870f3d0479e903ca74d3489d9e521a3c4a7e48c6de86d8cac39fe3", func := "gavel/gavellaw18.RegistryFirst", spec := "registryFirst", unfollowed := true, recurses := true, apart := false }
def RegistryFirstSaid : Prop := registryFirstRow.holds Try.pinned (OpenSpec.ofChange registryFirstSpec)

/-- ITS FALSE NEIGHBOUR: 'it returns false'. Refute it at one input. -/
def registryFirstWrong : ChangeSpec := { name := "registryFirst", fn := fun _ => fun
  | [d1, d2] => { results := [.lit (.bool false)], args := [d1, d2] }
  | _ => none }
def RegistryFirstWrongFalsely : Prop := registryFirstRow.holds Try.pinned (OpenSpec.ofChange registryFirstWrong)

/-- 'gavellaw18.RegistryBack': WHATEVER THE INPUT: true; the input reads as it did. -/
def registryBackSpec : ChangeSpec := { name := "registryBack", fn := fun _ => fun
  | [d1, d2] => { results := [.lit (.bool true)], args := [d1, d2] }
  | _ => none }
def registryBackRow : OpenClaim := { program := "ytjlbabikogdknaa", sum := "357d174bf7870f3d0479e903ca74d3489d9e521a3c4a7e48c6de86d8cac39fe3", func := "gavel/gavellaw18.RegistryBack", spec := "registryBack", unfollowed := true, recurses := true, apart := false }
def RegistryBackSaid : Prop := registryBackRow.holds Try.pinned (OpenSpec.ofChange registryBackSpec)

/-- ITS FALSE NEIGHBOUR: 'it returns false'. Refute it at one input. -/
def registryBackWrong : ChangeSpec := { name := "registryBack", fn := fun _ => fun
  | [d1, d2] => { results := [.lit (.bool false)], args := [d1, d2] }
  | _ => none }
def RegistryBackWrongFalsely : Prop := registryBackRow.holds Try.pinned (OpenSpec.ofChange registryBackWrong)

/-- 'gavellaw18.RegistryPlays': WHATEVER THE INPUT: true; the input reads as it did. -/
def registryPlaysSpec : ChangeSpec := { name := "registryPlays", fn := fun _ => fun
  | [d1, d2] => { results := [.lit (.bool true)], args := [d1, d2] }
  | _ => none }
def registryPlaysRow : OpenClaim := { program := "ytjlbabikogdknaa", sum := "357d174bf7870f3d0479e903ca74d3489d9e521a3c4a7e48c6de86d8cac39fe3", func := "gavel/gavellaw18.RegistryPlays", spec := "registryPlays", inPlace := ["maps.clone"], unfollowed := true, recurses := true, apart := false }
def RegistryPlaysSaid : Prop := registryPlaysRow.holds Try.pinned (OpenSpec.ofChange registryPlaysSpec)

/-- ITS FALSE NEIGHBOUR: 'it returns false'. Refute it at one input. -/
def registryPlaysWrong : ChangeSpec := { name := "registryPlays", fn := fun _ => fun
  | [d1, d2] => { results := [.lit (.bool false)], args := [d1, d2] }
  | _ => none }
def RegistryPlaysWrongFalsely : Prop := registryPlaysRow.holds Try.pinned (OpenSpec.ofChange registryPlaysWrong)

/- THE SECOND FORM. 'bulk': how many values and letters a reading holds, each counted each time it is reached (what is shared counts as often as it is met; a slice's spare places count too). A statement '..UptoSaid' is the law's where the arguments, and the package variables that the reading takes, are together of bulk at most 1048576: NARROWER than '..Said'. Prove '..Said' where nothing that the law and all that it calls make is longer than what came in: it says more and counts as full. Else prove '..UptoSaid'. A law counts once. -/
mutual
def uptoBulk {H : Type} : DataW H → Nat
  | .lit (.string bytes) => bytes.length + 1
  | .lit _ => 1
  | .nil => 1
  | .ptr d => uptoBulk d + 1
  | .slice elems spare => uptoBulkAll elems + uptoBulkAll spare + 1
  | .agg parts => uptoBulkAll parts + 1
  | .iface _ d => uptoBulk d + 1
  | .map entries => uptoBulkEntries entries + 1
  | .held _ => 1
def uptoBulkAll {H : Type} : List (DataW H) → Nat
  | [] => 0
  | d :: r => uptoBulk d + uptoBulkAll r
def uptoBulkEntries {H : Type} : List (Lit × DataW H) → Nat
  | [] => 0
  | x :: r => uptoBulkEntry x + uptoBulkEntries r
def uptoBulkEntry {H : Type} : Lit × DataW H → Nat
  | (.string bytes, d) => bytes.length + uptoBulk d + 1
  | (_, d) => uptoBulk d + 1
 end
def uptoSmall : (H : Type) → List (DataW H) → Bool := fun _ ds => decide (uptoBulkAll ds ≤ 1048576)
def OpenSpec.upto (s : _root_.Go.ChangeSpec) : _root_.Go.OpenSpec := { _root_.Go.OpenSpec.ofChange s with cond := some uptoSmall }

/-- 'gavellaw18.RegistryLimits', WHERE WHAT IT READS IS OF BULK AT MOST 1048576: true; the input reads as it did. -/
def registryLimitsUptoRow : OpenClaim := { program := "ytjlbabikogdknaa", sum := "357d174bf7870f3d0479e903ca74d3489d9e521a3c4a7e48c6de86d8cac39fe3", func := "gavel/gavellaw18.RegistryLimits", spec := "registryLimits", unfollowed := true, recurses := true, apart := false, narrowed := true }
def RegistryLimitsUptoSaid : Prop := registryLimitsUptoRow.holds Try.pinned (OpenSpec.upto registryLimitsSpec)

/-- 'gavellaw18.RegistryFirst', WHERE WHAT IT READS IS OF BULK AT MOST 1048576: true; the input reads as it did. -/
def registryFirstUptoRow : OpenClaim := { program := "ytjlbabikogdknaa", sum := "357d174bf7870f3d0479e903ca74d3489d9e521a3c4a7e48c6de86d8cac39fe3", func := "gavel/gavellaw18.RegistryFirst", spec := "registryFirst", unfollowed := true, recurses := true, apart := false, narrowed := true }
def RegistryFirstUptoSaid : Prop := registryFirstUptoRow.holds Try.pinned (OpenSpec.upto registryFirstSpec)

/-- 'gavellaw18.RegistryBack', WHERE WHAT IT READS IS OF BULK AT MOST 1048576: true; the input reads as it did. -/
def registryBackUptoRow : OpenClaim := { program := "ytjlbabikogdknaa", sum := "357d174bf7870f3d0479e903ca74d3489d9e521a3c4a7e48c6de86d8cac39fe3", func := "gavel/gavellaw18.RegistryBack", spec := "registryBack", unfollowed := true, recurses := true, apart := false, narrowed := true }
def RegistryBackUptoSaid : Prop := registryBackUptoRow.holds Try.pinned (OpenSpec.upto registryBackSpec)

/-- 'gavellaw18.RegistryPlays', WHERE WHAT IT READS IS OF BULK AT MOST 1048576: true; the input reads as it did. -/
def registryPlaysUptoRow : OpenClaim := { program := "ytjlbabikogdknaa", sum := "357d174bf7870f3d0479e903ca74d3489d9e521a3c4a7e48c6de86d8cac39fe3", func := "gavel/gavellaw18.RegistryPlays", spec := "registryPlays", inPlace := ["maps.clone"], unfollowed := true, recurses := true, apart := false, narrowed := true }
def RegistryPlaysUptoSaid : Prop := registryPlaysUptoRow.holds Try.pinned (OpenSpec.upto registryPlaysSpec)

end Rows
end Go.Proofs.Ytjlbabikogdknaa
