/-
  No cell of these rows narrows 'for every input' (looked for: loops, veiled, ifaces, maps, wideKeys, modest, calm, conditions, laid).
  DERIVED. THE GIVEN ROWS OF THIS SEAT. 7 by the template 'for every input the law returns true; each argument reads behind the call as it read before'; 0 by the template 'total and deterministic' (their statements: YtenihpghfdcpkaaGreatTotals.lean).
  GIVEN WITH THE SEED: the statements are not yours to turn. If you find one false, say at which input.
  Laid BY PROGRAM, IN A SANDBOX (cutbox-rows.mjs): the forced cells as the released guide's own fill.sh prints them over the translation 957e53fc216086e1… (all of the seat's roots in one cut). By AI agents, Wed Nov 11 2026. No macro, syntax, notation, axiom, sorry.
-/
import Derived.Test.YtenihpghfdcpkaaGreatChecked
import GoSem.Claim
import GoSem.ClaimJoined
import GoSem.ClaimMapViews
import Derived.JoinedTies
import Derived.KernelRfl
namespace Go.Proofs.YtenihpghfdcpkaaGreat
/- THE CELL 'sum', in the pinned program and in every row, IS THE sha256 OF THE DUMP (.gsa) THAT YtenihpghfdcpkaaGreatProg.lean LOADS. Nothing in Lean hashes anything: it is a label: what it is worth is what the hold of that sum in a sandbox is worth. -/
noncomputable def Tryz.pinned : Pinned := { name := "ytenihpghfdcpkaagreat", sum := "957e53fc216086e158936a0b6fbd86bce3aaef9eb862592f63d9a7a569270f76", checked := Tryz.checked }
namespace Rows
def none {H : Type} : Left H := { results := [], args := [] }

/-- 'gavellaw12.BatchApart': WHATEVER THE INPUT: true; the input reads as it did. -/
def batchApartSpec : ChangeSpec := { name := "batchApart", fn := fun _ => fun
  | [d1, d2, d3] => { results := [.lit (.bool true)], args := [d1, d2, d3] }
  | _ => none }
def batchApartRow : OpenClaim := { program := "ytenihpghfdcpkaagreat", sum := "957e53fc216086e158936a0b6fbd86bce3aaef9eb862592f63d9a7a569270f76", func := "gavel/gavellaw12.BatchApart", spec := "batchApart", inPlace := ["internal/bytealg.Compare"], unfollowed := true, recurses := true, plainKeys := false, apart := false }
def BatchApartSaid : Prop := batchApartRow.holds Tryz.pinned (OpenSpec.ofChange batchApartSpec)

/-- ITS FALSE NEIGHBOUR: 'it returns false'. Refute it at one input. -/
def batchApartWrong : ChangeSpec := { name := "batchApart", fn := fun _ => fun
  | [d1, d2, d3] => { results := [.lit (.bool false)], args := [d1, d2, d3] }
  | _ => none }
def BatchApartWrongFalsely : Prop := batchApartRow.holds Tryz.pinned (OpenSpec.ofChange batchApartWrong)

/-- 'gavellaw12.BatchUnion': WHATEVER THE INPUT: true; the input reads as it did. -/
def batchUnionSpec : ChangeSpec := { name := "batchUnion", fn := fun _ => fun
  | [d1, d2] => { results := [.lit (.bool true)], args := [d1, d2] }
  | _ => none }
def batchUnionRow : OpenClaim := { program := "ytenihpghfdcpkaagreat", sum := "957e53fc216086e158936a0b6fbd86bce3aaef9eb862592f63d9a7a569270f76", func := "gavel/gavellaw12.BatchUnion", spec := "batchUnion", inPlace := ["internal/bytealg.Compare"], unfollowed := true, recurses := true, plainKeys := false, apart := false }
def BatchUnionSaid : Prop := batchUnionRow.holds Tryz.pinned (OpenSpec.ofChange batchUnionSpec)

/-- ITS FALSE NEIGHBOUR: 'it returns false'. Refute it at one input. -/
def batchUnionWrong : ChangeSpec := { name := "batchUnion", fn := fun _ => fun
  | [d1, d2] => { results := [.lit (.bool false)], args := [d1, d2] }
  | _ => none }
def BatchUnionWrongFalsely : Prop := batchUnionRow.holds Tryz.pinned (OpenSpec.ofChange batchUnionWrong)

/-- 'gavellaw12.BatchTurns': WHATEVER THE INPUT: true; the input reads as it did. -/
def batchTurnsSpec : ChangeSpec := { name := "batchTurns", fn := fun _ => fun
  | [d1, d2, d3] => { results := [.lit (.bool true)], args := [d1, d2, d3] }
  | _ => none }
def batchTurnsRow : OpenClaim := { program := "ytenihpghfdcpkaagreat", sum := "957e53fc216086e158936a0b6fbd86bce3aaef9eb862592f63d9a7a569270f76", func := "gavel/gavellaw12.BatchTurns", spec := "batchTurns", inPlace := ["internal/bytealg.Compare"], unfollowed := true, recurses := true, plainKeys := false, apart := false }
def BatchTurnsSaid : Prop := batchTurnsRow.holds Tryz.pinned (OpenSpec.ofChange batchTurnsSpec)

/-- ITS FALSE NEIGHBOUR: 'it returns false'. Refute it at one input. -/
def batchTurnsWrong : ChangeSpec := { name := "batchTurns", fn := fun _ => fun
  | [d1, d2, d3] => { results := [.lit (.bool false)], args := [d1, d2, d3] }
  | _ => none }
def BatchTurnsWrongFalsely : Prop := batchTurnsRow.holds Tryz.pinned (OpenSpec.ofChange batchTurnsWrong)

/-- 'gavellaw12.BatchLogged': WHATEVER THE INPUT: true; the input reads as it did. -/
def batchLoggedSpec : ChangeSpec := { name := "batchLogged", fn := fun _ => fun
  | [d1, d2] => { results := [.lit (.bool true)], args := [d1, d2] }
  | _ => none }
def batchLoggedRow : OpenClaim := { program := "ytenihpghfdcpkaagreat", sum := "957e53fc216086e158936a0b6fbd86bce3aaef9eb862592f63d9a7a569270f76", func := "gavel/gavellaw12.BatchLogged", spec := "batchLogged", inPlace := ["internal/bytealg.Compare"], unfollowed := true, recurses := true, plainKeys := false, apart := false }
def BatchLoggedSaid : Prop := batchLoggedRow.holds Tryz.pinned (OpenSpec.ofChange batchLoggedSpec)

/-- ITS FALSE NEIGHBOUR: 'it returns false'. Refute it at one input. -/
def batchLoggedWrong : ChangeSpec := { name := "batchLogged", fn := fun _ => fun
  | [d1, d2] => { results := [.lit (.bool false)], args := [d1, d2] }
  | _ => none }
def BatchLoggedWrongFalsely : Prop := batchLoggedRow.holds Tryz.pinned (OpenSpec.ofChange batchLoggedWrong)

/-- 'gavellaw12.BatchValid': WHATEVER THE INPUT: true; the input reads as it did. -/
def batchValidSpec : ChangeSpec := { name := "batchValid", fn := fun _ => fun
  | [d1, d2, d3, d4, d5] => { results := [.lit (.bool true)], args := [d1, d2, d3, d4, d5] }
  | _ => none }
def batchValidRow : OpenClaim := { program := "ytenihpghfdcpkaagreat", sum := "957e53fc216086e158936a0b6fbd86bce3aaef9eb862592f63d9a7a569270f76", func := "gavel/gavellaw12.BatchValid", spec := "batchValid", inPlace := ["internal/bytealg.Compare"], unfollowed := true, recurses := true, plainKeys := false, apart := false }
def BatchValidSaid : Prop := batchValidRow.holds Tryz.pinned (OpenSpec.ofChange batchValidSpec)

/-- ITS FALSE NEIGHBOUR: 'it returns false'. Refute it at one input. -/
def batchValidWrong : ChangeSpec := { name := "batchValid", fn := fun _ => fun
  | [d1, d2, d3, d4, d5] => { results := [.lit (.bool false)], args := [d1, d2, d3, d4, d5] }
  | _ => none }
def BatchValidWrongFalsely : Prop := batchValidRow.holds Tryz.pinned (OpenSpec.ofChange batchValidWrong)

/-- 'gavellaw12.BatchMakes': WHATEVER THE INPUT: true; the input reads as it did. -/
def batchMakesSpec : ChangeSpec := { name := "batchMakes", fn := fun _ => fun
  | [d1, d2, d3] => { results := [.lit (.bool true)], args := [d1, d2, d3] }
  | _ => none }
def batchMakesRow : OpenClaim := { program := "ytenihpghfdcpkaagreat", sum := "957e53fc216086e158936a0b6fbd86bce3aaef9eb862592f63d9a7a569270f76", func := "gavel/gavellaw12.BatchMakes", spec := "batchMakes", inPlace := ["internal/bytealg.Compare"], unfollowed := true, recurses := true, plainKeys := false, apart := false }
def BatchMakesSaid : Prop := batchMakesRow.holds Tryz.pinned (OpenSpec.ofChange batchMakesSpec)

/-- ITS FALSE NEIGHBOUR: 'it returns false'. Refute it at one input. -/
def batchMakesWrong : ChangeSpec := { name := "batchMakes", fn := fun _ => fun
  | [d1, d2, d3] => { results := [.lit (.bool false)], args := [d1, d2, d3] }
  | _ => none }
def BatchMakesWrongFalsely : Prop := batchMakesRow.holds Tryz.pinned (OpenSpec.ofChange batchMakesWrong)

/-- 'gavellaw12.BatchOrder': WHATEVER THE INPUT: true; the input reads as it did. -/
def batchOrderSpec : ChangeSpec := { name := "batchOrder", fn := fun _ => fun
  | [d1, d2] => { results := [.lit (.bool true)], args := [d1, d2] }
  | _ => none }
def batchOrderRow : OpenClaim := { program := "ytenihpghfdcpkaagreat", sum := "957e53fc216086e158936a0b6fbd86bce3aaef9eb862592f63d9a7a569270f76", func := "gavel/gavellaw12.BatchOrder", spec := "batchOrder", inPlace := ["internal/bytealg.Compare"], unfollowed := true, recurses := true, plainKeys := false, apart := false }
def BatchOrderSaid : Prop := batchOrderRow.holds Tryz.pinned (OpenSpec.ofChange batchOrderSpec)

/-- ITS FALSE NEIGHBOUR: 'it returns false'. Refute it at one input. -/
def batchOrderWrong : ChangeSpec := { name := "batchOrder", fn := fun _ => fun
  | [d1, d2] => { results := [.lit (.bool false)], args := [d1, d2] }
  | _ => none }
def BatchOrderWrongFalsely : Prop := batchOrderRow.holds Tryz.pinned (OpenSpec.ofChange batchOrderWrong)

/- THE SECOND FORM. 'bulk': how many values and letters a reading holds, each counted each time it is reached (what is shared counts as often as it is met; a slice's spare places count too). A statement '..UptoSaid' is the law's where the arguments, and the package variables that the reading takes, are together of bulk at most 1048576: NARROWER than '..Said'. Prove '..Said' where nothing that the law and all that it calls make is longer than what came in: it says more and counts as full. Else prove '..UptoSaid'. A law counts once. -/
mutual
def uptoBulk {H : Type} : DataW H → Nat
  | .lit (.string bytes) => bytes.length + 1
  | .lit _ => 1
  | .nil => 1
  | .ptr d => uptoBulk d + 1
  | .slice elems spare => uptoBulkAll elems + uptoBulkAll spare + 1
  | .agg parts => uptoBulkAll parts + 1
  | .iface _ d => uptoBulk d + 1
  | .map entries => uptoBulkEntries entries + 1
  | .held _ => 1
def uptoBulkAll {H : Type} : List (DataW H) → Nat
  | [] => 0
  | d :: r => uptoBulk d + uptoBulkAll r
def uptoBulkEntries {H : Type} : List (Lit × DataW H) → Nat
  | [] => 0
  | x :: r => uptoBulkEntry x + uptoBulkEntries r
def uptoBulkEntry {H : Type} : Lit × DataW H → Nat
  | (.string bytes, d) => bytes.length + uptoBulk d + 1
  | (_, d) => uptoBulk d + 1
 end
def uptoSmall : (H : Type) → List (DataW H) → Bool := fun _ ds => decide (uptoBulkAll ds ≤ 1048576)
def OpenSpec.upto (s : _root_.Go.ChangeSpec) : _root_.Go.OpenSpec := { _root_.Go.OpenSpec.ofChange s with cond := some uptoSmall }

/-- 'gavellaw12.BatchApart', WHERE WHAT IT READS IS OF BULK AT MOST 1048576: true; the input reads as it did. -/
def batchApartUptoRow : OpenClaim := { program := "ytenihpghfdcpkaagreat", sum := "957e53fc216086e158936a0b6fbd86bce3aaef9eb862592f63d9a7a569270f76", func := "gavel/gavellaw12.BatchApart", spec := "batchApart", inPlace := ["internal/bytealg.Compare"], unfollowed := true, recurses := true, plainKeys := false, apart := false, narrowed := true }
def BatchApartUptoSaid : Prop := batchApartUptoRow.holds Tryz.pinned (OpenSpec.upto batchApartSpec)

/-- 'gavellaw12.BatchUnion', WHERE WHAT IT READS IS OF BULK AT MOST 1048576: true; the input reads as it did. -/
def batchUnionUptoRow : OpenClaim := { program := "ytenihpghfdcpkaagreat", sum := "957e53fc216086e158936a0b6fbd86bce3aaef9eb862592f63d9a7a569270f76", func := "gavel/gavellaw12.BatchUnion", spec := "batchUnion", inPlace := ["internal/bytealg.Compare"], unfollowed := true, recurses := true, plainKeys := false, apart := false, narrowed := true }
def BatchUnionUptoSaid : Prop := batchUnionUptoRow.holds Tryz.pinned (OpenSpec.upto batchUnionSpec)

/-- 'gavellaw12.BatchTurns', WHERE WHAT IT READS IS OF BULK AT MOST 1048576: true; the input reads as it did. -/
def batchTurnsUptoRow : OpenClaim := { program := "ytenihpghfdcpkaagreat", sum := "957e53fc216086e158936a0b6fbd86bce3aaef9eb862592f63d9a7a569270f76", func := "gavel/gavellaw12.BatchTurns", spec := "batchTurns", inPlace := ["internal/bytealg.Compare"], unfollowed := true, recurses := true, plainKeys := false, apart := false, narrowed := true }
def BatchTurnsUptoSaid : Prop := batchTurnsUptoRow.holds Tryz.pinned (OpenSpec.upto batchTurnsSpec)

/-- 'gavellaw12.BatchLogged', WHERE WHAT IT READS IS OF BULK AT MOST 1048576: true; the input reads as it did. -/
def batchLoggedUptoRow : OpenClaim := { program := "ytenihpghfdcpkaagreat", sum := "957e53fc216086e158936a0b6fbd86bce3aaef9eb862592f63d9a7a569270f76", func := "gavel/gavellaw12.BatchLogged", spec := "batchLogged", inPlace := ["internal/bytealg.Compare"], unfollowed := true, recurses := true, plainKeys := false, apart := false, narrowed := true }
def BatchLoggedUptoSaid : Prop := batchLoggedUptoRow.holds Tryz.pinned (OpenSpec.upto batchLoggedSpec)

/-- 'gavellaw12.BatchValid', WHERE WHAT IT READS IS OF BULK AT MOST 1048576: true; the input reads as it did. -/
def batchValidUptoRow : OpenClaim := { program := "ytenihpghfdcpkaagreat", sum := "957e53fc216086e158936a0b6fbd86bce3aaef9eb862592f63d9a7a569270f76", func := "gavel/gavellaw12.BatchValid", spec := "batchValid", inPlace := ["internal/bytealg.Compare"], unfollowed := true, recurses := true, plainKeys := false, apart := false, narrowed := true }
def BatchValidUptoSaid : Prop := batchValidUptoRow.holds Tryz.pinned (OpenSpec.upto batchValidSpec)

/-- 'gavellaw12.BatchMakes', WHERE WHAT IT READS IS OF BULK AT MOST 1048576: true; the input reads as it did. -/
def batchMakesUptoRow : OpenClaim := { program := "ytenihpghfdcpkaagreat", sum := "957e53fc216086e158936a0b6fbd86bce3aaef9eb862592f63d9a7a569270f76", func := "gavel/gavellaw12.BatchMakes", spec := "batchMakes", inPlace := ["internal/bytealg.Compare"], unfollowed := true, recurses := true, plainKeys := false, apart := false, narrowed := true }
def BatchMakesUptoSaid : Prop := batchMakesUptoRow.holds Tryz.pinned (OpenSpec.upto batchMakesSpec)

/-- 'gavellaw12.BatchOrder', WHERE WHAT IT READS IS OF BULK AT MOST 1048576: true; the input reads as it did. -/
def batchOrderUptoRow : OpenClaim := { program := "ytenihpghfdcpkaagreat", sum := "957e53fc216086e158936a0b6fbd86bce3aaef9eb862592f63d9a7a569270f76", func := "gavel/gavellaw12.BatchOrder", spec := "batchOrder", inPlace := ["internal/bytealg.Compare"], unfollowed := true, recurses := true, plainKeys := false, apart := false, narrowed := true }
def BatchOrderUptoSaid : Prop := batchOrderUptoRow.holds Tryz.pinned (OpenSpec.upto batchOrderSpec)

end Rows
end Go.Proofs.YtenihpghfdcpkaaGreat
