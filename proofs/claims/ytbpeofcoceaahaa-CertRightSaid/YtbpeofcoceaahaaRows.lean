/-
  No cell of these rows narrows 'for every input' (looked for: loops, veiled, ifaces, maps, wideKeys, modest, calm, conditions, laid).
  DERIVED. THE GIVEN ROWS OF THIS SEAT. 8 by the template 'for every input the law returns true; each argument reads behind the call as it read before'; 0 by the template 'total and deterministic' (their statements: YtbpeofcoceaahaaTotals.lean).
  GIVEN WITH THE SEED: the statements are not yours to turn. If you find one false, say at which input.
  Laid BY PROGRAM, IN A SANDBOX (cutbox-rows.mjs): the forced cells as the released guide's own fill.sh prints them over the translation dd859800b160d082… (all of the seat's roots in one cut). By AI agents, Wed Nov 11 2026. No macro, syntax, notation, axiom, sorry.
-/
import Derived.Test.YtbpeofcoceaahaaChecked
import GoSem.Claim
import GoSem.ClaimJoined
import GoSem.ClaimMapViews
import Derived.JoinedTies
import Derived.KernelRfl
namespace Go.Proofs.Ytbpeofcoceaahaa
/- THE CELL 'sum', in the pinned program and in every row, IS THE sha256 OF THE DUMP (.gsa) THAT YtbpeofcoceaahaaProg.lean LOADS. Nothing in Lean hashes anything: it is a label: what it is worth is what the hold of that sum in a sandbox is worth. -/
noncomputable def Try.pinned : Pinned := { name := "ytbpeofcoceaahaa", sum := "dd859800b160d08291529de5ea75ff1f0f1d2242edb133aa5c3c7f593c7966aa", checked := Try.checked }
namespace Rows
def none {H : Type} : Left H := { results := [], args := [] }

/-- 'gavellaw10.CertMoved': WHATEVER THE INPUT: true; the input reads as it did. -/
def certMovedSpec : ChangeSpec := { name := "certMoved", fn := fun _ => fun
  | [d1, d2, d3, d4] => { results := [.lit (.bool true)], args := [d1, d2, d3, d4] }
  | _ => none }
def certMovedRow : OpenClaim := { program := "ytbpeofcoceaahaa", sum := "dd859800b160d08291529de5ea75ff1f0f1d2242edb133aa5c3c7f593c7966aa", func := "gavel/gavellaw10.CertMoved", spec := "certMoved", unfollowed := true, recurses := true, plainKeys := false, apart := false }
def CertMovedSaid : Prop := certMovedRow.holds Try.pinned (OpenSpec.ofChange certMovedSpec)

/-- ITS FALSE NEIGHBOUR: 'it returns false'. Refute it at one input. -/
def certMovedWrong : ChangeSpec := { name := "certMoved", fn := fun _ => fun
  | [d1, d2, d3, d4] => { results := [.lit (.bool false)], args := [d1, d2, d3, d4] }
  | _ => none }
def CertMovedWrongFalsely : Prop := certMovedRow.holds Try.pinned (OpenSpec.ofChange certMovedWrong)

/-- 'gavellaw10.CertMedians': WHATEVER THE INPUT: true; the input reads as it did. -/
def certMediansSpec : ChangeSpec := { name := "certMedians", fn := fun _ => fun
  | [d] => { results := [.lit (.bool true)], args := [d] }
  | _ => none }
def certMediansRow : OpenClaim := { program := "ytbpeofcoceaahaa", sum := "dd859800b160d08291529de5ea75ff1f0f1d2242edb133aa5c3c7f593c7966aa", func := "gavel/gavellaw10.CertMedians", spec := "certMedians", unfollowed := true, recurses := true, plainKeys := false, apart := false }
def CertMediansSaid : Prop := certMediansRow.holds Try.pinned (OpenSpec.ofChange certMediansSpec)

/-- ITS FALSE NEIGHBOUR: 'it returns false'. Refute it at one input. -/
def certMediansWrong : ChangeSpec := { name := "certMedians", fn := fun _ => fun
  | [d] => { results := [.lit (.bool false)], args := [d] }
  | _ => none }
def CertMediansWrongFalsely : Prop := certMediansRow.holds Try.pinned (OpenSpec.ofChange certMediansWrong)

/-- 'gavellaw10.CertBetween': WHATEVER THE INPUT: true; the input reads as it did. -/
def certBetweenSpec : ChangeSpec := { name := "certBetween", fn := fun _ => fun
  | [d1, d2, d3, d4] => { results := [.lit (.bool true)], args := [d1, d2, d3, d4] }
  | _ => none }
def certBetweenRow : OpenClaim := { program := "ytbpeofcoceaahaa", sum := "dd859800b160d08291529de5ea75ff1f0f1d2242edb133aa5c3c7f593c7966aa", func := "gavel/gavellaw10.CertBetween", spec := "certBetween", unfollowed := true, recurses := true, plainKeys := false, apart := false }
def CertBetweenSaid : Prop := certBetweenRow.holds Try.pinned (OpenSpec.ofChange certBetweenSpec)

/-- ITS FALSE NEIGHBOUR: 'it returns false'. Refute it at one input. -/
def certBetweenWrong : ChangeSpec := { name := "certBetween", fn := fun _ => fun
  | [d1, d2, d3, d4] => { results := [.lit (.bool false)], args := [d1, d2, d3, d4] }
  | _ => none }
def CertBetweenWrongFalsely : Prop := certBetweenRow.holds Try.pinned (OpenSpec.ofChange certBetweenWrong)

/-- 'gavellaw10.CertRaw': WHATEVER THE INPUT: true; the input reads as it did. -/
def certRawSpec : ChangeSpec := { name := "certRaw", fn := fun _ => fun
  | [d1, d2, d3] => { results := [.lit (.bool true)], args := [d1, d2, d3] }
  | _ => none }
def certRawRow : OpenClaim := { program := "ytbpeofcoceaahaa", sum := "dd859800b160d08291529de5ea75ff1f0f1d2242edb133aa5c3c7f593c7966aa", func := "gavel/gavellaw10.CertRaw", spec := "certRaw", unfollowed := true, recurses := true, plainKeys := false, apart := false }
def CertRawSaid : Prop := certRawRow.holds Try.pinned (OpenSpec.ofChange certRawSpec)

/-- ITS FALSE NEIGHBOUR: 'it returns false'. Refute it at one input. -/
def certRawWrong : ChangeSpec := { name := "certRaw", fn := fun _ => fun
  | [d1, d2, d3] => { results := [.lit (.bool false)], args := [d1, d2, d3] }
  | _ => none }
def CertRawWrongFalsely : Prop := certRawRow.holds Try.pinned (OpenSpec.ofChange certRawWrong)

/-- 'gavellaw10.CertRight': WHATEVER THE INPUT: true; the input reads as it did. -/
def certRightSpec : ChangeSpec := { name := "certRight", fn := fun _ => fun
  | [d1, d2, d3, d4, d5, d6, d7] => { results := [.lit (.bool true)], args := [d1, d2, d3, d4, d5, d6, d7] }
  | _ => none }
def certRightRow : OpenClaim := { program := "ytbpeofcoceaahaa", sum := "dd859800b160d08291529de5ea75ff1f0f1d2242edb133aa5c3c7f593c7966aa", func := "gavel/gavellaw10.CertRight", spec := "certRight", unfollowed := true, recurses := true, plainKeys := false, apart := false }
def CertRightSaid : Prop := certRightRow.holds Try.pinned (OpenSpec.ofChange certRightSpec)

/-- ITS FALSE NEIGHBOUR: 'it returns false'. Refute it at one input. -/
def certRightWrong : ChangeSpec := { name := "certRight", fn := fun _ => fun
  | [d1, d2, d3, d4, d5, d6, d7] => { results := [.lit (.bool false)], args := [d1, d2, d3, d4, d5, d6, d7] }
  | _ => none }
def CertRightWrongFalsely : Prop := certRightRow.holds Try.pinned (OpenSpec.ofChange certRightWrong)

/-- 'gavellaw10.CertMakes': WHATEVER THE INPUT: true; the input reads as it did. -/
def certMakesSpec : ChangeSpec := { name := "certMakes", fn := fun _ => fun
  | [d1, d2, d3, d4, d5] => { results := [.lit (.bool true)], args := [d1, d2, d3, d4, d5] }
  | _ => none }
def certMakesRow : OpenClaim := { program := "ytbpeofcoceaahaa", sum := "dd859800b160d08291529de5ea75ff1f0f1d2242edb133aa5c3c7f593c7966aa", func := "gavel/gavellaw10.CertMakes", spec := "certMakes", unfollowed := true, recurses := true, plainKeys := false, apart := false }
def CertMakesSaid : Prop := certMakesRow.holds Try.pinned (OpenSpec.ofChange certMakesSpec)

/-- ITS FALSE NEIGHBOUR: 'it returns false'. Refute it at one input. -/
def certMakesWrong : ChangeSpec := { name := "certMakes", fn := fun _ => fun
  | [d1, d2, d3, d4, d5] => { results := [.lit (.bool false)], args := [d1, d2, d3, d4, d5] }
  | _ => none }
def CertMakesWrongFalsely : Prop := certMakesRow.holds Try.pinned (OpenSpec.ofChange certMakesWrong)

/-- 'gavellaw10.CertWhole': WHATEVER THE INPUT: true; the input reads as it did. -/
def certWholeSpec : ChangeSpec := { name := "certWhole", fn := fun _ => fun
  | [d1, d2, d3, d4] => { results := [.lit (.bool true)], args := [d1, d2, d3, d4] }
  | _ => none }
def certWholeRow : OpenClaim := { program := "ytbpeofcoceaahaa", sum := "dd859800b160d08291529de5ea75ff1f0f1d2242edb133aa5c3c7f593c7966aa", func := "gavel/gavellaw10.CertWhole", spec := "certWhole", unfollowed := true, recurses := true, plainKeys := false, apart := false }
def CertWholeSaid : Prop := certWholeRow.holds Try.pinned (OpenSpec.ofChange certWholeSpec)

/-- ITS FALSE NEIGHBOUR: 'it returns false'. Refute it at one input. -/
def certWholeWrong : ChangeSpec := { name := "certWhole", fn := fun _ => fun
  | [d1, d2, d3, d4] => { results := [.lit (.bool false)], args := [d1, d2, d3, d4] }
  | _ => none }
def CertWholeWrongFalsely : Prop := certWholeRow.holds Try.pinned (OpenSpec.ofChange certWholeWrong)

/-- 'gavellaw10.CertSpans': WHATEVER THE INPUT: true; the input reads as it did. -/
def certSpansSpec : ChangeSpec := { name := "certSpans", fn := fun _ => fun
  | [d1, d2, d3] => { results := [.lit (.bool true)], args := [d1, d2, d3] }
  | _ => none }
def certSpansRow : OpenClaim := { program := "ytbpeofcoceaahaa", sum := "dd859800b160d08291529de5ea75ff1f0f1d2242edb133aa5c3c7f593c7966aa", func := "gavel/gavellaw10.CertSpans", spec := "certSpans", unfollowed := true, recurses := true, plainKeys := false, apart := false }
def CertSpansSaid : Prop := certSpansRow.holds Try.pinned (OpenSpec.ofChange certSpansSpec)

/-- ITS FALSE NEIGHBOUR: 'it returns false'. Refute it at one input. -/
def certSpansWrong : ChangeSpec := { name := "certSpans", fn := fun _ => fun
  | [d1, d2, d3] => { results := [.lit (.bool false)], args := [d1, d2, d3] }
  | _ => none }
def CertSpansWrongFalsely : Prop := certSpansRow.holds Try.pinned (OpenSpec.ofChange certSpansWrong)

/- THE SECOND FORM. 'bulk': how many values and letters a reading holds, each counted each time it is reached (what is shared counts as often as it is met; a slice's spare places count too). A statement '..UptoSaid' is the law's where the arguments, and the package variables that the reading takes, are together of bulk at most 1048576: NARROWER than '..Said'. Prove '..Said' where nothing that the law and all that it calls make is longer than what came in: it says more and counts as full. Else prove '..UptoSaid'. A law counts once. -/
mutual
def uptoBulk {H : Type} : DataW H → Nat
  | .lit (.string bytes) => bytes.length + 1
  | .lit _ => 1
  | .nil => 1
  | .ptr d => uptoBulk d + 1
  | .slice elems spare => uptoBulkAll elems + uptoBulkAll spare + 1
  | .agg parts => uptoBulkAll parts + 1
  | .iface _ d => uptoBulk d + 1
  | .map entries => uptoBulkEntries entries + 1
  | .held _ => 1
def uptoBulkAll {H : Type} : List (DataW H) → Nat
  | [] => 0
  | d :: r => uptoBulk d + uptoBulkAll r
def uptoBulkEntries {H : Type} : List (Lit × DataW H) → Nat
  | [] => 0
  | x :: r => uptoBulkEntry x + uptoBulkEntries r
def uptoBulkEntry {H : Type} : Lit × DataW H → Nat
  | (.string bytes, d) => bytes.length + uptoBulk d + 1
  | (_, d) => uptoBulk d + 1
 end
def uptoSmall : (H : Type) → List (DataW H) → Bool := fun _ ds => decide (uptoBulkAll ds ≤ 1048576)
def OpenSpec.upto (s : _root_.Go.ChangeSpec) : _root_.Go.OpenSpec := { _root_.Go.OpenSpec.ofChange s with cond := some uptoSmall }

/-- 'gavellaw10.CertMoved', WHERE WHAT IT READS IS OF BULK AT MOST 1048576: true; the input reads as it did. -/
def certMovedUptoRow : OpenClaim := { program := "ytbpeofcoceaahaa", sum := "dd859800b160d08291529de5ea75ff1f0f1d2242edb133aa5c3c7f593c7966aa", func := "gavel/gavellaw10.CertMoved", spec := "certMoved", unfollowed := true, recurses := true, plainKeys := false, apart := false, narrowed := true }
def CertMovedUptoSaid : Prop := certMovedUptoRow.holds Try.pinned (OpenSpec.upto certMovedSpec)

/-- 'gavellaw10.CertMedians', WHERE WHAT IT READS IS OF BULK AT MOST 1048576: true; the input reads as it did. -/
def certMediansUptoRow : OpenClaim := { program := "ytbpeofcoceaahaa", sum := "dd859800b160d08291529de5ea75ff1f0f1d2242edb133aa5c3c7f593c7966aa", func := "gavel/gavellaw10.CertMedians", spec := "certMedians", unfollowed := true, recurses := true, plainKeys := false, apart := false, narrowed := true }
def CertMediansUptoSaid : Prop := certMediansUptoRow.holds Try.pinned (OpenSpec.upto certMediansSpec)

/-- 'gavellaw10.CertBetween', WHERE WHAT IT READS IS OF BULK AT MOST 1048576: true; the input reads as it did. -/
def certBetweenUptoRow : OpenClaim := { program := "ytbpeofcoceaahaa", sum := "dd859800b160d08291529de5ea75ff1f0f1d2242edb133aa5c3c7f593c7966aa", func := "gavel/gavellaw10.CertBetween", spec := "certBetween", unfollowed := true, recurses := true, plainKeys := false, apart := false, narrowed := true }
def CertBetweenUptoSaid : Prop := certBetweenUptoRow.holds Try.pinned (OpenSpec.upto certBetweenSpec)

/-- 'gavellaw10.CertRaw', WHERE WHAT IT READS IS OF BULK AT MOST 1048576: true; the input reads as it did. -/
def certRawUptoRow : OpenClaim := { program := "ytbpeofcoceaahaa", sum := "dd859800b160d08291529de5ea75ff1f0f1d2242edb133aa5c3c7f593c7966aa", func := "gavel/gavellaw10.CertRaw", spec := "certRaw", unfollowed := true, recurses := true, plainKeys := false, apart := false, narrowed := true }
def CertRawUptoSaid : Prop := certRawUptoRow.holds Try.pinned (OpenSpec.upto certRawSpec)

/-- 'gavellaw10.CertRight', WHERE WHAT IT READS IS OF BULK AT MOST 1048576: true; the input reads as it did. -/
def certRightUptoRow : OpenClaim := { program := "ytbpeofcoceaahaa", sum := "dd859800b160d08291529de5ea75ff1f0f1d2242edb133aa5c3c7f593c7966aa", func := "gavel/gavellaw10.CertRight", spec := "certRight", unfollowed := true, recurses := true, plainKeys := false, apart := false, narrowed := true }
def CertRightUptoSaid : Prop := certRightUptoRow.holds Try.pinned (OpenSpec.upto certRightSpec)

/-- 'gavellaw10.CertMakes', WHERE WHAT IT READS IS OF BULK AT MOST 1048576: true; the input reads as it did. -/
def certMakesUptoRow : OpenClaim := { program := "ytbpeofcoceaahaa", sum := "dd859800b160d08291529de5ea75ff1f0f1d2242edb133aa5c3c7f593c7966aa", func := "gavel/gavellaw10.CertMakes", spec := "certMakes", unfollowed := true, recurses := true, plainKeys := false, apart := false, narrowed := true }
def CertMakesUptoSaid : Prop := certMakesUptoRow.holds Try.pinned (OpenSpec.upto certMakesSpec)

/-- 'gavellaw10.CertWhole', WHERE WHAT IT READS IS OF BULK AT MOST 1048576: true; the input reads as it did. -/
def certWholeUptoRow : OpenClaim := { program := "ytbpeofcoceaahaa", sum := "dd859800b160d08291529de5ea75ff1f0f1d2242edb133aa5c3c7f593c7966aa", func := "gavel/gavellaw10.CertWhole", spec := "certWhole", unfollowed := true, recurses := true, plainKeys := false, apart := false, narrowed := true }
def CertWholeUptoSaid : Prop := certWholeUptoRow.holds Try.pinned (OpenSpec.upto certWholeSpec)

/-- 'gavellaw10.CertSpans', WHERE WHAT IT READS IS OF BULK AT MOST 1048576: true; the input reads as it did. -/
def certSpansUptoRow : OpenClaim := { program := "ytbpeofcoceaahaa", sum := "dd859800b160d08291529de5ea75ff1f0f1d2242edb133aa5c3c7f593c7966aa", func := "gavel/gavellaw10.CertSpans", spec := "certSpans", unfollowed := true, recurses := true, plainKeys := false, apart := false, narrowed := true }
def CertSpansUptoSaid : Prop := certSpansUptoRow.holds Try.pinned (OpenSpec.upto certSpansSpec)

end Rows
end Go.Proofs.Ytbpeofcoceaahaa
