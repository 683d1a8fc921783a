/-
  No cell of these rows narrows 'for every input' (looked for: loops, veiled, ifaces, maps, wideKeys, modest, calm, conditions, laid).
  DERIVED. THE GIVEN ROWS OF THIS SEAT. 10 by the template 'for every input the law returns true; each argument reads behind the call as it read before'; 0 by the template 'total and deterministic' (their statements: YthjmbhneifjeeaaTotals.lean).
  GIVEN WITH THE SEED: the statements are not yours to turn. If you find one false, say at which input.
  Laid BY PROGRAM, IN A SANDBOX (cutbox-rows.mjs): the forced cells as the released guide's own fill.sh prints them over the translation 6f16d86e3801a69f… (all of the seat's roots in one cut). By AI agents, Wed Nov 11 2026. No macro, syntax, notation, axiom, sorry.
-/
import Derived.Test.YthjmbhneifjeeaaChecked
import GoSem.Claim
import GoSem.ClaimJoined
import GoSem.ClaimMapViews
import Derived.JoinedTies
import Derived.KernelRfl
namespace Go.Proofs.Ythjmbhneifjeeaa
/- THE CELL 'sum', in the pinned program and in every row, IS THE sha256 OF THE DUMP (.gsa) THAT YthjmbhneifjeeaaProg.lean LOADS. Nothing in Lean hashes anything: it is a label: what it is worth is what the hold of that sum in a sandbox is worth. -/
noncomputable def Try.pinned : Pinned := { name := "ythjmbhneifjeeaa", sum := "6f16d86e3801a69ff370a55dd9a890636b49f27fbbd7167c1e88edb402fbf6ca", checked := Try.checked }
namespace Rows
def none {H : Type} : Left H := { results := [], args := [] }

/-- 'gavellaw14.CoreSkips': WHATEVER THE INPUT: true; the input reads as it did. -/
def coreSkipsSpec : ChangeSpec := { name := "coreSkips", fn := fun _ => fun
  | [d1, d2, d3, d4] => { results := [.lit (.bool true)], args := [d1, d2, d3, d4] }
  | _ => none }
def coreSkipsRow : OpenClaim := { program := "ythjmbhneifjeeaa", sum := "6f16d86e3801a69ff370a55dd9a890636b49f27fbbd7167c1e88edb402fbf6ca", func := "gavel/gavellaw14.CoreSkips", spec := "coreSkips", plainKeys := false, apart := false }
def CoreSkipsSaid : Prop := coreSkipsRow.holds Try.pinned (OpenSpec.ofChange coreSkipsSpec)

/-- ITS FALSE NEIGHBOUR: 'it returns false'. Refute it at one input. -/
def coreSkipsWrong : ChangeSpec := { name := "coreSkips", fn := fun _ => fun
  | [d1, d2, d3, d4] => { results := [.lit (.bool false)], args := [d1, d2, d3, d4] }
  | _ => none }
def CoreSkipsWrongFalsely : Prop := coreSkipsRow.holds Try.pinned (OpenSpec.ofChange coreSkipsWrong)

/-- 'gavellaw14.CoreLocked': WHATEVER THE INPUT: true; the input reads as it did. -/
def coreLockedSpec : ChangeSpec := { name := "coreLocked", fn := fun _ => fun
  | [d1, d2, d3, d4, d5] => { results := [.lit (.bool true)], args := [d1, d2, d3, d4, d5] }
  | _ => none }
def coreLockedRow : OpenClaim := { program := "ythjmbhneifjeeaa", sum := "6f16d86e3801a69ff370a55dd9a890636b49f27fbbd7167c1e88edb402fbf6ca", func := "gavel/gavellaw14.CoreLocked", spec := "coreLocked", plainKeys := false, apart := false }
def CoreLockedSaid : Prop := coreLockedRow.holds Try.pinned (OpenSpec.ofChange coreLockedSpec)

/-- ITS FALSE NEIGHBOUR: 'it returns false'. Refute it at one input. -/
def coreLockedWrong : ChangeSpec := { name := "coreLocked", fn := fun _ => fun
  | [d1, d2, d3, d4, d5] => { results := [.lit (.bool false)], args := [d1, d2, d3, d4, d5] }
  | _ => none }
def CoreLockedWrongFalsely : Prop := coreLockedRow.holds Try.pinned (OpenSpec.ofChange coreLockedWrong)

/-- 'gavellaw14.CoreCalm': WHATEVER THE INPUT: true; the input reads as it did. -/
def coreCalmSpec : ChangeSpec := { name := "coreCalm", fn := fun _ => fun
  | [d1, d2, d3, d4] => { results := [.lit (.bool true)], args := [d1, d2, d3, d4] }
  | _ => none }
def coreCalmRow : OpenClaim := { program := "ythjmbhneifjeeaa", sum := "6f16d86e3801a69ff370a55dd9a890636b49f27fbbd7167c1e88edb402fbf6ca", func := "gavel/gavellaw14.CoreCalm", spec := "coreCalm", plainKeys := false, apart := false }
def CoreCalmSaid : Prop := coreCalmRow.holds Try.pinned (OpenSpec.ofChange coreCalmSpec)

/-- ITS FALSE NEIGHBOUR: 'it returns false'. Refute it at one input. -/
def coreCalmWrong : ChangeSpec := { name := "coreCalm", fn := fun _ => fun
  | [d1, d2, d3, d4] => { results := [.lit (.bool false)], args := [d1, d2, d3, d4] }
  | _ => none }
def CoreCalmWrongFalsely : Prop := coreCalmRow.holds Try.pinned (OpenSpec.ofChange coreCalmWrong)

/-- 'gavellaw14.CoreDecides': WHATEVER THE INPUT: true; the input reads as it did. -/
def coreDecidesSpec : ChangeSpec := { name := "coreDecides", fn := fun _ => fun
  | [d1, d2, d3, d4, d5, d6] => { results := [.lit (.bool true)], args := [d1, d2, d3, d4, d5, d6] }
  | _ => none }
def coreDecidesRow : OpenClaim := { program := "ythjmbhneifjeeaa", sum := "6f16d86e3801a69ff370a55dd9a890636b49f27fbbd7167c1e88edb402fbf6ca", func := "gavel/gavellaw14.CoreDecides", spec := "coreDecides", plainKeys := false, apart := false }
def CoreDecidesSaid : Prop := coreDecidesRow.holds Try.pinned (OpenSpec.ofChange coreDecidesSpec)

/-- ITS FALSE NEIGHBOUR: 'it returns false'. Refute it at one input. -/
def coreDecidesWrong : ChangeSpec := { name := "coreDecides", fn := fun _ => fun
  | [d1, d2, d3, d4, d5, d6] => { results := [.lit (.bool false)], args := [d1, d2, d3, d4, d5, d6] }
  | _ => none }
def CoreDecidesWrongFalsely : Prop := coreDecidesRow.holds Try.pinned (OpenSpec.ofChange coreDecidesWrong)

/-- 'gavellaw14.CoreDoubles': WHATEVER THE INPUT: true; the input reads as it did. -/
def coreDoublesSpec : ChangeSpec := { name := "coreDoubles", fn := fun _ => fun
  | [d1, d2] => { results := [.lit (.bool true)], args := [d1, d2] }
  | _ => none }
def coreDoublesRow : OpenClaim := { program := "ythjmbhneifjeeaa", sum := "6f16d86e3801a69ff370a55dd9a890636b49f27fbbd7167c1e88edb402fbf6ca", func := "gavel/gavellaw14.CoreDoubles", spec := "coreDoubles", plainKeys := false, apart := false }
def CoreDoublesSaid : Prop := coreDoublesRow.holds Try.pinned (OpenSpec.ofChange coreDoublesSpec)

/-- ITS FALSE NEIGHBOUR: 'it returns false'. Refute it at one input. -/
def coreDoublesWrong : ChangeSpec := { name := "coreDoubles", fn := fun _ => fun
  | [d1, d2] => { results := [.lit (.bool false)], args := [d1, d2] }
  | _ => none }
def CoreDoublesWrongFalsely : Prop := coreDoublesRow.holds Try.pinned (OpenSpec.ofChange coreDoublesWrong)

/-- 'gavellaw14.CoreLater': WHATEVER THE INPUT: true; the input reads as it did. -/
def coreLaterSpec : ChangeSpec := { name := "coreLater", fn := fun _ => fun
  | [d1, d2, d3, d4] => { results := [.lit (.bool true)], args := [d1, d2, d3, d4] }
  | _ => none }
def coreLaterRow : OpenClaim := { program := "ythjmbhneifjeeaa", sum := "6f16d86e3801a69ff370a55dd9a890636b49f27fbbd7167c1e88edb402fbf6ca", func := "gavel/gavellaw14.CoreLater", spec := "coreLater", plainKeys := false, apart := false }
def CoreLaterSaid : Prop := coreLaterRow.holds Try.pinned (OpenSpec.ofChange coreLaterSpec)

/-- ITS FALSE NEIGHBOUR: 'it returns false'. Refute it at one input. -/
def coreLaterWrong : ChangeSpec := { name := "coreLater", fn := fun _ => fun
  | [d1, d2, d3, d4] => { results := [.lit (.bool false)], args := [d1, d2, d3, d4] }
  | _ => none }
def CoreLaterWrongFalsely : Prop := coreLaterRow.holds Try.pinned (OpenSpec.ofChange coreLaterWrong)

/-- 'gavellaw14.CoreTimes': WHATEVER THE INPUT: true; the input reads as it did. -/
def coreTimesSpec : ChangeSpec := { name := "coreTimes", fn := fun _ => fun
  | [d1, d2, d3] => { results := [.lit (.bool true)], args := [d1, d2, d3] }
  | _ => none }
def coreTimesRow : OpenClaim := { program := "ythjmbhneifjeeaa", sum := "6f16d86e3801a69ff370a55dd9a890636b49f27fbbd7167c1e88edb402fbf6ca", func := "gavel/gavellaw14.CoreTimes", spec := "coreTimes", plainKeys := false, apart := false }
def CoreTimesSaid : Prop := coreTimesRow.holds Try.pinned (OpenSpec.ofChange coreTimesSpec)

/-- ITS FALSE NEIGHBOUR: 'it returns false'. Refute it at one input. -/
def coreTimesWrong : ChangeSpec := { name := "coreTimes", fn := fun _ => fun
  | [d1, d2, d3] => { results := [.lit (.bool false)], args := [d1, d2, d3] }
  | _ => none }
def CoreTimesWrongFalsely : Prop := coreTimesRow.holds Try.pinned (OpenSpec.ofChange coreTimesWrong)

/-- 'gavellaw14.CoreOnce': WHATEVER THE INPUT: true; the input reads as it did. -/
def coreOnceSpec : ChangeSpec := { name := "coreOnce", fn := fun _ => fun
  | [d1, d2, d3] => { results := [.lit (.bool true)], args := [d1, d2, d3] }
  | _ => none }
def coreOnceRow : OpenClaim := { program := "ythjmbhneifjeeaa", sum := "6f16d86e3801a69ff370a55dd9a890636b49f27fbbd7167c1e88edb402fbf6ca", func := "gavel/gavellaw14.CoreOnce", spec := "coreOnce", plainKeys := false, apart := false }
def CoreOnceSaid : Prop := coreOnceRow.holds Try.pinned (OpenSpec.ofChange coreOnceSpec)

/-- ITS FALSE NEIGHBOUR: 'it returns false'. Refute it at one input. -/
def coreOnceWrong : ChangeSpec := { name := "coreOnce", fn := fun _ => fun
  | [d1, d2, d3] => { results := [.lit (.bool false)], args := [d1, d2, d3] }
  | _ => none }
def CoreOnceWrongFalsely : Prop := coreOnceRow.holds Try.pinned (OpenSpec.ofChange coreOnceWrong)

/-- 'gavellaw14.CoreAgrees': WHATEVER THE INPUT: true; the input reads as it did. -/
def coreAgreesSpec : ChangeSpec := { name := "coreAgrees", fn := fun _ => fun
  | [d1, d2, d3, d4] => { results := [.lit (.bool true)], args := [d1, d2, d3, d4] }
  | _ => none }
def coreAgreesRow : OpenClaim := { program := "ythjmbhneifjeeaa", sum := "6f16d86e3801a69ff370a55dd9a890636b49f27fbbd7167c1e88edb402fbf6ca", func := "gavel/gavellaw14.CoreAgrees", spec := "coreAgrees", plainKeys := false, apart := false }
def CoreAgreesSaid : Prop := coreAgreesRow.holds Try.pinned (OpenSpec.ofChange coreAgreesSpec)

/-- ITS FALSE NEIGHBOUR: 'it returns false'. Refute it at one input. -/
def coreAgreesWrong : ChangeSpec := { name := "coreAgrees", fn := fun _ => fun
  | [d1, d2, d3, d4] => { results := [.lit (.bool false)], args := [d1, d2, d3, d4] }
  | _ => none }
def CoreAgreesWrongFalsely : Prop := coreAgreesRow.holds Try.pinned (OpenSpec.ofChange coreAgreesWrong)

/-- 'gavellaw14.CorePlays': WHATEVER THE INPUT: true; the input reads as it did. -/
def corePlaysSpec : ChangeSpec := { name := "corePlays", fn := fun _ => fun
  | [d1, d2, d3, d4, d5, d6] => { results := [.lit (.bool true)], args := [d1, d2, d3, d4, d5, d6] }
  | _ => none }
def corePlaysRow : OpenClaim := { program := "ythjmbhneifjeeaa", sum := "6f16d86e3801a69ff370a55dd9a890636b49f27fbbd7167c1e88edb402fbf6ca", func := "gavel/gavellaw14.CorePlays", spec := "corePlays", inPlace := ["maps.clone"], plainKeys := false, apart := false }
def CorePlaysSaid : Prop := corePlaysRow.holds Try.pinned (OpenSpec.ofChange corePlaysSpec)

/-- ITS FALSE NEIGHBOUR: 'it returns false'. Refute it at one input. -/
def corePlaysWrong : ChangeSpec := { name := "corePlays", fn := fun _ => fun
  | [d1, d2, d3, d4, d5, d6] => { results := [.lit (.bool false)], args := [d1, d2, d3, d4, d5, d6] }
  | _ => none }
def CorePlaysWrongFalsely : Prop := corePlaysRow.holds Try.pinned (OpenSpec.ofChange corePlaysWrong)

/- THE SECOND FORM. 'bulk': how many values and letters a reading holds, each counted each time it is reached (what is shared counts as often as it is met; a slice's spare places count too). A statement '..UptoSaid' is the law's where the arguments, and the package variables that the reading takes, are together of bulk at most 1048576: NARROWER than '..Said'. Prove '..Said' where nothing that the law and all that it calls make is longer than what came in: it says more and counts as full. Else prove '..UptoSaid'. A law counts once. -/
mutual
def uptoBulk {H : Type} : DataW H → Nat
  | .lit (.string bytes) => bytes.length + 1
  | .lit _ => 1
  | .nil => 1
  | .ptr d => uptoBulk d + 1
  | .slice elems spare => uptoBulkAll elems + uptoBulkAll spare + 1
  | .agg parts => uptoBulkAll parts + 1
  | .iface _ d => uptoBulk d + 1
  | .map entries => uptoBulkEntries entries + 1
  | .held _ => 1
def uptoBulkAll {H : Type} : List (DataW H) → Nat
  | [] => 0
  | d :: r => uptoBulk d + uptoBulkAll r
def uptoBulkEntries {H : Type} : List (Lit × DataW H) → Nat
  | [] => 0
  | x :: r => uptoBulkEntry x + uptoBulkEntries r
def uptoBulkEntry {H : Type} : Lit × DataW H → Nat
  | (.string bytes, d) => bytes.length + uptoBulk d + 1
  | (_, d) => uptoBulk d + 1
 end
def uptoSmall : (H : Type) → List (DataW H) → Bool := fun _ ds => decide (uptoBulkAll ds ≤ 1048576)
def OpenSpec.upto (s : _root_.Go.ChangeSpec) : _root_.Go.OpenSpec := { _root_.Go.OpenSpec.ofChange s with cond := some uptoSmall }

/-- 'gavellaw14.CoreSkips', WHERE WHAT IT READS IS OF BULK AT MOST 1048576: true; the input reads as it did. -/
def coreSkipsUptoRow : OpenClaim := { program := "ythjmbhneifjeeaa", sum := "6f16d86e3801a69ff370a55dd9a890636b49f27fbbd7167c1e88edb402fbf6ca", func := "gavel/gavellaw14.CoreSkips", spec := "coreSkips", plainKeys := false, apart := false, narrowed := true }
def CoreSkipsUptoSaid : Prop := coreSkipsUptoRow.holds Try.pinned (OpenSpec.upto coreSkipsSpec)

/-- 'gavellaw14.CoreLocked', WHERE WHAT IT READS IS OF BULK AT MOST 1048576: true; the input reads as it did. -/
def coreLockedUptoRow : OpenClaim := { program := "ythjmbhneifjeeaa", sum := "6f16d86e3801a69ff370a55dd9a890636b49f27fbbd7167c1e88edb402fbf6ca", func := "gavel/gavellaw14.CoreLocked", spec := "coreLocked", plainKeys := false, apart := false, narrowed := true }
def CoreLockedUptoSaid : Prop := coreLockedUptoRow.holds Try.pinned (OpenSpec.upto coreLockedSpec)

/-- 'gavellaw14.CoreCalm', WHERE WHAT IT READS IS OF BULK AT MOST 1048576: true; the input reads as it did. -/
def coreCalmUptoRow : OpenClaim := { program := "ythjmbhneifjeeaa", sum := "6f16d86e3801a69ff370a55dd9a890636b49f27fbbd7167c1e88edb402fbf6ca", func := "gavel/gavellaw14.CoreCalm", spec := "coreCalm", plainKeys := false, apart := false, narrowed := true }
def CoreCalmUptoSaid : Prop := coreCalmUptoRow.holds Try.pinned (OpenSpec.upto coreCalmSpec)

/-- 'gavellaw14.CoreDecides', WHERE WHAT IT READS IS OF BULK AT MOST 1048576: true; the input reads as it did. -/
def coreDecidesUptoRow : OpenClaim := { program := "ythjmbhneifjeeaa", sum := "6f16d86e3801a69ff370a55dd9a890636b49f27fbbd7167c1e88edb402fbf6ca", func := "gavel/gavellaw14.CoreDecides", spec := "coreDecides", plainKeys := false, apart := false, narrowed := true }
def CoreDecidesUptoSaid : Prop := coreDecidesUptoRow.holds Try.pinned (OpenSpec.upto coreDecidesSpec)

/-- 'gavellaw14.CoreDoubles', WHERE WHAT IT READS IS OF BULK AT MOST 1048576: true; the input reads as it did. -/
def coreDoublesUptoRow : OpenClaim := { program := "ythjmbhneifjeeaa", sum := "6f16d86e3801a69ff370a55dd9a890636b49f27fbbd7167c1e88edb402fbf6ca", func := "gavel/gavellaw14.CoreDoubles", spec := "coreDoubles", plainKeys := false, apart := false, narrowed := true }
def CoreDoublesUptoSaid : Prop := coreDoublesUptoRow.holds Try.pinned (OpenSpec.upto coreDoublesSpec)

/-- 'gavellaw14.CoreLater', WHERE WHAT IT READS IS OF BULK AT MOST 1048576: true; the input reads as it did. -/
def coreLaterUptoRow : OpenClaim := { program := "ythjmbhneifjeeaa", sum := "6f16d86e3801a69ff370a55dd9a890636b49f27fbbd7167c1e88edb402fbf6ca", func := "gavel/gavellaw14.CoreLater", spec := "coreLater", plainKeys := false, apart := false, narrowed := true }
def CoreLaterUptoSaid : Prop := coreLaterUptoRow.holds Try.pinned (OpenSpec.upto coreLaterSpec)

/-- 'gavellaw14.CoreTimes', WHERE WHAT IT READS IS OF BULK AT MOST 1048576: true; the input reads as it did. -/
def coreTimesUptoRow : OpenClaim := { program := "ythjmbhneifjeeaa", sum := "6f16d86e3801a69ff370a55dd9a890636b49f27fbbd7167c1e88edb402fbf6ca", func := "gavel/gavellaw14.CoreTimes", spec := "coreTimes", plainKeys := false, apart := false, narrowed := true }
def CoreTimesUptoSaid : Prop := coreTimesUptoRow.holds Try.pinned (OpenSpec.upto coreTimesSpec)

/-- 'gavellaw14.CoreOnce', WHERE WHAT IT READS IS OF BULK AT MOST 1048576: true; the input reads as it did. -/
def coreOnceUptoRow : OpenClaim := { program := "ythjmbhneifjeeaa", sum := "6f16d86e3801a69ff370a55dd9a890636b49f27fbbd7167c1e88edb402fbf6ca", func := "gavel/gavellaw14.CoreOnce", spec := "coreOnce", plainKeys := false, apart := false, narrowed := true }
def CoreOnceUptoSaid : Prop := coreOnceUptoRow.holds Try.pinned (OpenSpec.upto coreOnceSpec)

/-- 'gavellaw14.CoreAgrees', WHERE WHAT IT READS IS OF BULK AT MOST 1048576: true; the input reads as it did. -/
def coreAgreesUptoRow : OpenClaim := { program := "ythjmbhneifjeeaa", sum := "6f16d86e3801a69ff370a55dd9a890636b49f27fbbd7167c1e88edb402fbf6ca", func := "gavel/gavellaw14.CoreAgrees", spec := "coreAgrees", plainKeys := false, apart := false, narrowed := true }
def CoreAgreesUptoSaid : Prop := coreAgreesUptoRow.holds Try.pinned (OpenSpec.upto coreAgreesSpec)

/-- 'gavellaw14.CorePlays', WHERE WHAT IT READS IS OF BULK AT MOST 1048576: true; the input reads as it did. -/
def corePlaysUptoRow : OpenClaim := { program := "ythjmbhneifjeeaa", sum := "6f16d86e3801a69ff370a55dd9a890636b49f27fbbd7167c1e88edb402fbf6ca", func := "gavel/gavellaw14.CorePlays", spec := "corePlays", inPlace := ["maps.clone"], plainKeys := false, apart := false, narrowed := true }
def CorePlaysUptoSaid : Prop := corePlaysUptoRow.holds Try.pinned (OpenSpec.upto corePlaysSpec)

end Rows
end Go.Proofs.Ythjmbhneifjeeaa
