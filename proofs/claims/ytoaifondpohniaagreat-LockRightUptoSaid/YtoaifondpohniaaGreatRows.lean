/-
  No cell of these rows narrows 'for every input' (looked for: loops, veiled, ifaces, maps, wideKeys, modest, calm, conditions, laid).
  DERIVED. THE GIVEN ROWS OF THIS SEAT. 4 by the template 'for every input the law returns true; each argument reads behind the call as it read before'; 0 by the template 'total and deterministic' (their statements: YtoaifondpohniaaGreatTotals.lean).
  GIVEN WITH THE SEED: the statements are not yours to turn. If you find one false, say at which input.
  Laid BY PROGRAM, IN A SANDBOX (cutbox-rows.mjs): the forced cells as the released guide's own fill.sh prints them over the translation 3e8fe179c5806b87… (all of the seat's roots in one cut). By AI agents, Wed Nov 11 2026. No macro, syntax, notation, axiom, sorry.
-/
import Derived.Test.YtoaifondpohniaaGreatChecked
import GoSem.Claim
import GoSem.ClaimJoined
import GoSem.ClaimMapViews
import Derived.JoinedTies
import Derived.KernelRfl
namespace Go.Proofs.YtoaifondpohniaaGreat
/- THE CELL 'sum', in the pinned program and in every row, IS THE sha256 OF THE DUMP (.gsa) THAT YtoaifondpohniaaGreatProg.lean LOADS. Nothing in Lean hashes anything: it is a label: what it is worth is what the hold of that sum in a sandbox is worth. -/
noncomputable def Tryz.pinned : Pinned := { name := "ytoaifondpohniaagreat", sum := "3e8fe179c5806b871d1d2da6c88331a7dd3424cf7d696af7dfcd06be22e79435", checked := Tryz.checked }
namespace Rows
def none {H : Type} : Left H := { results := [], args := [] }

/-- 'gavellaw11.LockRight': WHATEVER THE INPUT: true; the input reads as it did. -/
def lockRightSpec : ChangeSpec := { name := "lockRight", fn := fun _ => fun
  | [d1, d2, d3, d4, d5, d6] => { results := [.lit (.bool true)], args := [d1, d2, d3, d4, d5, d6] }
  | _ => none }
def lockRightRow : OpenClaim := { program := "ytoaifondpohniaagreat", sum := "3e8fe179c5806b871d1d2da6c88331a7dd3424cf7d696af7dfcd06be22e79435", func := "gavel/gavellaw11.LockRight", spec := "lockRight", unfollowed := true, recurses := true, plainKeys := false, apart := false }
def LockRightSaid : Prop := lockRightRow.holds Tryz.pinned (OpenSpec.ofChange lockRightSpec)

/-- ITS FALSE NEIGHBOUR: 'it returns false'. Refute it at one input. -/
def lockRightWrong : ChangeSpec := { name := "lockRight", fn := fun _ => fun
  | [d1, d2, d3, d4, d5, d6] => { results := [.lit (.bool false)], args := [d1, d2, d3, d4, d5, d6] }
  | _ => none }
def LockRightWrongFalsely : Prop := lockRightRow.holds Tryz.pinned (OpenSpec.ofChange lockRightWrong)

/-- 'gavellaw11.LockSpans': WHATEVER THE INPUT: true; the input reads as it did. -/
def lockSpansSpec : ChangeSpec := { name := "lockSpans", fn := fun _ => fun
  | [d1, d2, d3, d4] => { results := [.lit (.bool true)], args := [d1, d2, d3, d4] }
  | _ => none }
def lockSpansRow : OpenClaim := { program := "ytoaifondpohniaagreat", sum := "3e8fe179c5806b871d1d2da6c88331a7dd3424cf7d696af7dfcd06be22e79435", func := "gavel/gavellaw11.LockSpans", spec := "lockSpans", unfollowed := true, recurses := true, plainKeys := false, apart := false }
def LockSpansSaid : Prop := lockSpansRow.holds Tryz.pinned (OpenSpec.ofChange lockSpansSpec)

/-- ITS FALSE NEIGHBOUR: 'it returns false'. Refute it at one input. -/
def lockSpansWrong : ChangeSpec := { name := "lockSpans", fn := fun _ => fun
  | [d1, d2, d3, d4] => { results := [.lit (.bool false)], args := [d1, d2, d3, d4] }
  | _ => none }
def LockSpansWrongFalsely : Prop := lockSpansRow.holds Tryz.pinned (OpenSpec.ofChange lockSpansWrong)

/-- 'gavellaw11.LockMeets': WHATEVER THE INPUT: true; the input reads as it did. -/
def lockMeetsSpec : ChangeSpec := { name := "lockMeets", fn := fun _ => fun
  | [d1, d2, d3, d4, d5] => { results := [.lit (.bool true)], args := [d1, d2, d3, d4, d5] }
  | _ => none }
def lockMeetsRow : OpenClaim := { program := "ytoaifondpohniaagreat", sum := "3e8fe179c5806b871d1d2da6c88331a7dd3424cf7d696af7dfcd06be22e79435", func := "gavel/gavellaw11.LockMeets", spec := "lockMeets", unfollowed := true, recurses := true, plainKeys := false, apart := false }
def LockMeetsSaid : Prop := lockMeetsRow.holds Tryz.pinned (OpenSpec.ofChange lockMeetsSpec)

/-- ITS FALSE NEIGHBOUR: 'it returns false'. Refute it at one input. -/
def lockMeetsWrong : ChangeSpec := { name := "lockMeets", fn := fun _ => fun
  | [d1, d2, d3, d4, d5] => { results := [.lit (.bool false)], args := [d1, d2, d3, d4, d5] }
  | _ => none }
def LockMeetsWrongFalsely : Prop := lockMeetsRow.holds Tryz.pinned (OpenSpec.ofChange lockMeetsWrong)

/-- 'gavellaw11.LockPlays': WHATEVER THE INPUT: true; the input reads as it did. -/
def lockPlaysSpec : ChangeSpec := { name := "lockPlays", fn := fun _ => fun
  | [d1, d2, d3, d4] => { results := [.lit (.bool true)], args := [d1, d2, d3, d4] }
  | _ => none }
def lockPlaysRow : OpenClaim := { program := "ytoaifondpohniaagreat", sum := "3e8fe179c5806b871d1d2da6c88331a7dd3424cf7d696af7dfcd06be22e79435", func := "gavel/gavellaw11.LockPlays", spec := "lockPlays", inPlace := ["maps.clone"], unfollowed := true, recurses := true, plainKeys := false, apart := false }
def LockPlaysSaid : Prop := lockPlaysRow.holds Tryz.pinned (OpenSpec.ofChange lockPlaysSpec)

/-- ITS FALSE NEIGHBOUR: 'it returns false'. Refute it at one input. -/
def lockPlaysWrong : ChangeSpec := { name := "lockPlays", fn := fun _ => fun
  | [d1, d2, d3, d4] => { results := [.lit (.bool false)], args := [d1, d2, d3, d4] }
  | _ => none }
def LockPlaysWrongFalsely : Prop := lockPlaysRow.holds Tryz.pinned (OpenSpec.ofChange lockPlaysWrong)

/- THE SECOND FORM. 'bulk': how many values and letters a reading holds, each counted each time it is reached (what is shared counts as often as it is met; a slice's spare places count too). A statement '..UptoSaid' is the law's where the arguments, and the package variables that the reading takes, are together of bulk at most 1048576: NARROWER than '..Said'. Prove '..Said' where nothing that the law and all that it calls make is longer than what came in: it says more and counts as full. Else prove '..UptoSaid'. A law counts once. -/
mutual
def uptoBulk {H : Type} : DataW H → Nat
  | .lit (.string bytes) => bytes.length + 1
  | .lit _ => 1
  | .nil => 1
  | .ptr d => uptoBulk d + 1
  | .slice elems spare => uptoBulkAll elems + uptoBulkAll spare + 1
  | .agg parts => uptoBulkAll parts + 1
  | .iface _ d => uptoBulk d + 1
  | .map entries => uptoBulkEntries entries + 1
  | .held _ => 1
def uptoBulkAll {H : Type} : List (DataW H) → Nat
  | [] => 0
  | d :: r => uptoBulk d + uptoBulkAll r
def uptoBulkEntries {H : Type} : List (Lit × DataW H) → Nat
  | [] => 0
  | x :: r => uptoBulkEntry x + uptoBulkEntries r
def uptoBulkEntry {H : Type} : Lit × DataW H → Nat
  | (.string bytes, d) => bytes.length + uptoBulk d + 1
  | (_, d) => uptoBulk d + 1
 end
def uptoSmall : (H : Type) → List (DataW H) → Bool := fun _ ds => decide (uptoBulkAll ds ≤ 1048576)
def OpenSpec.upto (s : _root_.Go.ChangeSpec) : _root_.Go.OpenSpec := { _root_.Go.OpenSpec.ofChange s with cond := some uptoSmall }

/-- 'gavellaw11.LockRight', WHERE WHAT IT READS IS OF BULK AT MOST 1048576: true; the input reads as it did. -/
def lockRightUptoRow : OpenClaim := { program := "ytoaifondpohniaagreat", sum := "3e8fe179c5806b871d1d2da6c88331a7dd3424cf7d696af7dfcd06be22e79435", func := "gavel/gavellaw11.LockRight", spec := "lockRight", unfollowed := true, recurses := true, plainKeys := false, apart := false, narrowed := true }
def LockRightUptoSaid : Prop := lockRightUptoRow.holds Tryz.pinned (OpenSpec.upto lockRightSpec)

/-- 'gavellaw11.LockSpans', WHERE WHAT IT READS IS OF BULK AT MOST 1048576: true; the input reads as it did. -/
def lockSpansUptoRow : OpenClaim := { program := "ytoaifondpohniaagreat", sum := "3e8fe179c5806b871d1d2da6c88331a7dd3424cf7d696af7dfcd06be22e79435", func := "gavel/gavellaw11.LockSpans", spec := "lockSpans", unfollowed := true, recurses := true, plainKeys := false, apart := false, narrowed := true }
def LockSpansUptoSaid : Prop := lockSpansUptoRow.holds Tryz.pinned (OpenSpec.upto lockSpansSpec)

/-- 'gavellaw11.LockMeets', WHERE WHAT IT READS IS OF BULK AT MOST 1048576: true; the input reads as it did. -/
def lockMeetsUptoRow : OpenClaim := { program := "ytoaifondpohniaagreat", sum := "3e8fe179c5806b871d1d2da6c88331a7dd3424cf7d696af7dfcd06be22e79435", func := "gavel/gavellaw11.LockMeets", spec := "lockMeets", unfollowed := true, recurses := true, plainKeys := false, apart := false, narrowed := true }
def LockMeetsUptoSaid : Prop := lockMeetsUptoRow.holds Tryz.pinned (OpenSpec.upto lockMeetsSpec)

/-- 'gavellaw11.LockPlays', WHERE WHAT IT READS IS OF BULK AT MOST 1048576: true; the input reads as it did. -/
def lockPlaysUptoRow : OpenClaim := { program := "ytoaifondpohniaagreat", sum := "3e8fe179c5806b871d1d2da6c88331a7dd3424cf7d696af7dfcd06be22e79435", func := "gavel/gavellaw11.LockPlays", spec := "lockPlays", inPlace := ["maps.clone"], unfollowed := true, recurses := true, plainKeys := false, apart := false, narrowed := true }
def LockPlaysUptoSaid : Prop := lockPlaysUptoRow.holds Tryz.pinned (OpenSpec.upto lockPlaysSpec)

end Rows
end Go.Proofs.YtoaifondpohniaaGreat
