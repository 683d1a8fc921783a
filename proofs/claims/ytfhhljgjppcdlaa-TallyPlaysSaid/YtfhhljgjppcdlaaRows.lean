/-
  No cell of these rows narrows 'for every input' (looked for: loops, veiled, ifaces, maps, wideKeys, modest, calm, conditions, laid).
  DERIVED. THE GIVEN ROWS OF THIS SEAT. 4 by the template 'for every input the law returns true; each argument reads behind the call as it read before'; 0 by the template 'total and deterministic' (their statements: YtfhhljgjppcdlaaTotals.lean).
  GIVEN WITH THE SEED: the statements are not yours to turn. If you find one false, say at which input.
  Laid BY PROGRAM, IN A SANDBOX (cutbox-rows.mjs): the forced cells as the released guide's own fill.sh prints them over the translation eee353d33ae4b8df… (all of the seat's roots in one cut). By AI agents, Wed Nov 11 2026. No macro, syntax, notation, axiom, sorry.
-/
import Derived.Test.YtfhhljgjppcdlaaChecked
import GoSem.Claim
import GoSem.ClaimJoined
import GoSem.ClaimMapViews
import Derived.JoinedTies
import Derived.KernelRfl
namespace Go.Proofs.Ytfhhljgjppcdlaa
/- THE CELL 'sum', in the pinned program and in every row, IS THE sha256 OF THE DUMP (.gsa) THAT YtfhhljgjppcdlaaProg.lean LOADS. Nothing in Lean hashes anything: it is a label: what it is worth is what the hold of that sum in a sandbox is worth. -/
noncomputable def Try.pinned : Pinned := { name := "ytfhhljgjppcdlaa", sum := "eee353d33ae4b8dff44a126da591c5375cd9207b2ccf8f0bbfec81f09409cb8d", checked := Try.checked }
namespace Rows
def none {H : Type} : Left H := { results := [], args := [] }

/-- 'gavellaw13.TallyQuorums': WHATEVER THE INPUT: true; the input reads as it did. -/
def tallyQuorumsSpec : ChangeSpec := { name := "tallyQuorums", fn := fun _ => fun
  | [d1, d2, d3, d4, d5] => { results := [.lit (.bool true)], args := [d1, d2, d3, d4, d5] }
  | _ => none }
def tallyQuorumsRow : OpenClaim := { program := "ytfhhljgjppcdlaa", sum := "eee353d33ae4b8dff44a126da591c5375cd9207b2ccf8f0bbfec81f09409cb8d", func := "gavel/gavellaw13.TallyQuorums", spec := "tallyQuorums", plainKeys := false, apart := false }
def TallyQuorumsSaid : Prop := tallyQuorumsRow.holds Try.pinned (OpenSpec.ofChange tallyQuorumsSpec)

/-- ITS FALSE NEIGHBOUR: 'it returns false'. Refute it at one input. -/
def tallyQuorumsWrong : ChangeSpec := { name := "tallyQuorums", fn := fun _ => fun
  | [d1, d2, d3, d4, d5] => { results := [.lit (.bool false)], args := [d1, d2, d3, d4, d5] }
  | _ => none }
def TallyQuorumsWrongFalsely : Prop := tallyQuorumsRow.holds Try.pinned (OpenSpec.ofChange tallyQuorumsWrong)

/-- 'gavellaw13.TallyCounts': WHATEVER THE INPUT: true; the input reads as it did. -/
def tallyCountsSpec : ChangeSpec := { name := "tallyCounts", fn := fun _ => fun
  | [d] => { results := [.lit (.bool true)], args := [d] }
  | _ => none }
def tallyCountsRow : OpenClaim := { program := "ytfhhljgjppcdlaa", sum := "eee353d33ae4b8dff44a126da591c5375cd9207b2ccf8f0bbfec81f09409cb8d", func := "gavel/gavellaw13.TallyCounts", spec := "tallyCounts", inPlace := ["internal/bytealg.Compare"], plainKeys := false, apart := false }
def TallyCountsSaid : Prop := tallyCountsRow.holds Try.pinned (OpenSpec.ofChange tallyCountsSpec)

/-- ITS FALSE NEIGHBOUR: 'it returns false'. Refute it at one input. -/
def tallyCountsWrong : ChangeSpec := { name := "tallyCounts", fn := fun _ => fun
  | [d] => { results := [.lit (.bool false)], args := [d] }
  | _ => none }
def TallyCountsWrongFalsely : Prop := tallyCountsRow.holds Try.pinned (OpenSpec.ofChange tallyCountsWrong)

/-- 'gavellaw13.TallyMost': WHATEVER THE INPUT: true; the input reads as it did. -/
def tallyMostSpec : ChangeSpec := { name := "tallyMost", fn := fun _ => fun
  | [d1, d2] => { results := [.lit (.bool true)], args := [d1, d2] }
  | _ => none }
def tallyMostRow : OpenClaim := { program := "ytfhhljgjppcdlaa", sum := "eee353d33ae4b8dff44a126da591c5375cd9207b2ccf8f0bbfec81f09409cb8d", func := "gavel/gavellaw13.TallyMost", spec := "tallyMost", inPlace := ["internal/bytealg.Compare"], plainKeys := false, apart := false }
def TallyMostSaid : Prop := tallyMostRow.holds Try.pinned (OpenSpec.ofChange tallyMostSpec)

/-- ITS FALSE NEIGHBOUR: 'it returns false'. Refute it at one input. -/
def tallyMostWrong : ChangeSpec := { name := "tallyMost", fn := fun _ => fun
  | [d1, d2] => { results := [.lit (.bool false)], args := [d1, d2] }
  | _ => none }
def TallyMostWrongFalsely : Prop := tallyMostRow.holds Try.pinned (OpenSpec.ofChange tallyMostWrong)

/-- 'gavellaw13.TallyPlays': WHATEVER THE INPUT: true; the input reads as it did. -/
def tallyPlaysSpec : ChangeSpec := { name := "tallyPlays", fn := fun _ => fun
  | [d1, d2, d3] => { results := [.lit (.bool true)], args := [d1, d2, d3] }
  | _ => none }
def tallyPlaysRow : OpenClaim := { program := "ytfhhljgjppcdlaa", sum := "eee353d33ae4b8dff44a126da591c5375cd9207b2ccf8f0bbfec81f09409cb8d", func := "gavel/gavellaw13.TallyPlays", spec := "tallyPlays", inPlace := ["internal/bytealg.Compare", "maps.clone"], plainKeys := false, apart := false }
def TallyPlaysSaid : Prop := tallyPlaysRow.holds Try.pinned (OpenSpec.ofChange tallyPlaysSpec)

/-- ITS FALSE NEIGHBOUR: 'it returns false'. Refute it at one input. -/
def tallyPlaysWrong : ChangeSpec := { name := "tallyPlays", fn := fun _ => fun
  | [d1, d2, d3] => { results := [.lit (.bool false)], args := [d1, d2, d3] }
  | _ => none }
def TallyPlaysWrongFalsely : Prop := tallyPlaysRow.holds Try.pinned (OpenSpec.ofChange tallyPlaysWrong)

/- THE SECOND FORM. 'bulk': how many values and letters a reading holds, each counted each time it is reached (what is shared counts as often as it is met; a slice's spare places count too). A statement '..UptoSaid' is the law's where the arguments, and the package variables that the reading takes, are together of bulk at most 1048576: NARROWER than '..Said'. Prove '..Said' where nothing that the law and all that it calls make is longer than what came in: it says more and counts as full. Else prove '..UptoSaid'. A law counts once. -/
mutual
def uptoBulk {H : Type} : DataW H → Nat
  | .lit (.string bytes) => bytes.length + 1
  | .lit _ => 1
  | .nil => 1
  | .ptr d => uptoBulk d + 1
  | .slice elems spare => uptoBulkAll elems + uptoBulkAll spare + 1
  | .agg parts => uptoBulkAll parts + 1
  | .iface _ d => uptoBulk d + 1
  | .map entries => uptoBulkEntries entries + 1
  | .held _ => 1
def uptoBulkAll {H : Type} : List (DataW H) → Nat
  | [] => 0
  | d :: r => uptoBulk d + uptoBulkAll r
def uptoBulkEntries {H : Type} : List (Lit × DataW H) → Nat
  | [] => 0
  | x :: r => uptoBulkEntry x + uptoBulkEntries r
def uptoBulkEntry {H : Type} : Lit × DataW H → Nat
  | (.string bytes, d) => bytes.length + uptoBulk d + 1
  | (_, d) => uptoBulk d + 1
 end
def uptoSmall : (H : Type) → List (DataW H) → Bool := fun _ ds => decide (uptoBulkAll ds ≤ 1048576)
def OpenSpec.upto (s : _root_.Go.ChangeSpec) : _root_.Go.OpenSpec := { _root_.Go.OpenSpec.ofChange s with cond := some uptoSmall }

/-- 'gavellaw13.TallyQuorums', WHERE WHAT IT READS IS OF BULK AT MOST 1048576: true; the input reads as it did. -/
def tallyQuorumsUptoRow : OpenClaim := { program := "ytfhhljgjppcdlaa", sum := "eee353d33ae4b8dff44a126da591c5375cd9207b2ccf8f0bbfec81f09409cb8d", func := "gavel/gavellaw13.TallyQuorums", spec := "tallyQuorums", plainKeys := false, apart := false, narrowed := true }
def TallyQuorumsUptoSaid : Prop := tallyQuorumsUptoRow.holds Try.pinned (OpenSpec.upto tallyQuorumsSpec)

/-- 'gavellaw13.TallyCounts', WHERE WHAT IT READS IS OF BULK AT MOST 1048576: true; the input reads as it did. -/
def tallyCountsUptoRow : OpenClaim := { program := "ytfhhljgjppcdlaa", sum := "eee353d33ae4b8dff44a126da591c5375cd9207b2ccf8f0bbfec81f09409cb8d", func := "gavel/gavellaw13.TallyCounts", spec := "tallyCounts", inPlace := ["internal/bytealg.Compare"], plainKeys := false, apart := false, narrowed := true }
def TallyCountsUptoSaid : Prop := tallyCountsUptoRow.holds Try.pinned (OpenSpec.upto tallyCountsSpec)

/-- 'gavellaw13.TallyMost', WHERE WHAT IT READS IS OF BULK AT MOST 1048576: true; the input reads as it did. -/
def tallyMostUptoRow : OpenClaim := { program := "ytfhhljgjppcdlaa", sum := "eee353d33ae4b8dff44a126da591c5375cd9207b2ccf8f0bbfec81f09409cb8d", func := "gavel/gavellaw13.TallyMost", spec := "tallyMost", inPlace := ["internal/bytealg.Compare"], plainKeys := false, apart := false, narrowed := true }
def TallyMostUptoSaid : Prop := tallyMostUptoRow.holds Try.pinned (OpenSpec.upto tallyMostSpec)

/-- 'gavellaw13.TallyPlays', WHERE WHAT IT READS IS OF BULK AT MOST 1048576: true; the input reads as it did. -/
def tallyPlaysUptoRow : OpenClaim := { program := "ytfhhljgjppcdlaa", sum := "eee353d33ae4b8dff44a126da591c5375cd9207b2ccf8f0bbfec81f09409cb8d", func := "gavel/gavellaw13.TallyPlays", spec := "tallyPlays", inPlace := ["internal/bytealg.Compare", "maps.clone"], plainKeys := false, apart := false, narrowed := true }
def TallyPlaysUptoSaid : Prop := tallyPlaysUptoRow.holds Try.pinned (OpenSpec.upto tallyPlaysSpec)

end Rows
end Go.Proofs.Ytfhhljgjppcdlaa
