/-
  No cell of these rows narrows 'for every input' (looked for: loops, veiled, ifaces, maps, wideKeys, modest, calm, conditions, laid).
  DERIVED. THE GIVEN ROWS OF THIS SEAT. 5 by the template 'for every input the law returns true; each argument reads behind the call as it read before'; 0 by the template 'total and deterministic' (their statements: YtgigjkjdmalmaaaGreatTotals.lean).
  GIVEN WITH THE SEED: the statements are not yours to turn. If you find one false, say at which input.
  Laid BY PROGRAM, IN A SANDBOX (cutbox-rows.mjs): the forced cells as the released guide's own fill.sh prints them over the translation e0e390b1197dd324… (all of the seat's roots in one cut). By AI agents, Wed Nov 11 2026. No macro, syntax, notation, axiom, sorry.
-/
import Derived.Test.YtgigjkjdmalmaaaGreatChecked
import GoSem.Claim
import GoSem.ClaimJoined
import GoSem.ClaimMapViews
import Derived.JoinedTies
import Derived.KernelRfl
namespace Go.Proofs.YtgigjkjdmalmaaaGreat
/- THE CELL 'sum', in the pinned program and in every row, IS THE sha256 OF THE DUMP (.gsa) THAT YtgigjkjdmalmaaaGreatProg.lean LOADS. Nothing in Lean hashes anything: it is a label: what it is worth is what the hold of that sum in a sandbox is worth. -/
noncomputable def Tryz.pinned : Pinned := { name := "ytgigjkjdmalmaaagreat", sum := "e0e390b1197dd3240c8ca614d7d11afd886d5b5e3c549a82126bf1ba7dab9347", checked := Tryz.checked }
namespace Rows
def none {H : Type} : Left H := { results := [], args := [] }

/-- 'gavellaw22.ClientCerts': WHATEVER THE INPUT: true; the input reads as it did. -/
def clientCertsSpec : ChangeSpec := { name := "clientCerts", fn := fun _ => fun
  | [d1, d2, d3, d4] => { results := [.lit (.bool true)], args := [d1, d2, d3, d4] }
  | _ => none }
def clientCertsRow : OpenClaim := { program := "ytgigjkjdmalmaaagreat", sum := "e0e390b1197dd3240c8ca614d7d11afd886d5b5e3c549a82126bf1ba7dab9347", func := "gavel/gavellaw22.ClientCerts", spec := "clientCerts", unfollowed := true, recurses := true, plainKeys := false, apart := false }
def ClientCertsSaid : Prop := clientCertsRow.holds Tryz.pinned (OpenSpec.ofChange clientCertsSpec)

/-- ITS FALSE NEIGHBOUR: 'it returns false'. Refute it at one input. -/
def clientCertsWrong : ChangeSpec := { name := "clientCerts", fn := fun _ => fun
  | [d1, d2, d3, d4] => { results := [.lit (.bool false)], args := [d1, d2, d3, d4] }
  | _ => none }
def ClientCertsWrongFalsely : Prop := clientCertsRow.holds Tryz.pinned (OpenSpec.ofChange clientCertsWrong)

/-- 'gavellaw22.ClientSays': WHATEVER THE INPUT: true; the input reads as it did. -/
def clientSaysSpec : ChangeSpec := { name := "clientSays", fn := fun _ => fun
  | [d1, d2, d3, d4, d5] => { results := [.lit (.bool true)], args := [d1, d2, d3, d4, d5] }
  | _ => none }
def clientSaysRow : OpenClaim := { program := "ytgigjkjdmalmaaagreat", sum := "e0e390b1197dd3240c8ca614d7d11afd886d5b5e3c549a82126bf1ba7dab9347", func := "gavel/gavellaw22.ClientSays", spec := "clientSays", unfollowed := true, recurses := true, plainKeys := false, apart := false }
def ClientSaysSaid : Prop := clientSaysRow.holds Tryz.pinned (OpenSpec.ofChange clientSaysSpec)

/-- ITS FALSE NEIGHBOUR: 'it returns false'. Refute it at one input. -/
def clientSaysWrong : ChangeSpec := { name := "clientSays", fn := fun _ => fun
  | [d1, d2, d3, d4, d5] => { results := [.lit (.bool false)], args := [d1, d2, d3, d4, d5] }
  | _ => none }
def ClientSaysWrongFalsely : Prop := clientSaysRow.holds Tryz.pinned (OpenSpec.ofChange clientSaysWrong)

/-- 'gavellaw22.ClientSilent': WHATEVER THE INPUT: true; the input reads as it did. -/
def clientSilentSpec : ChangeSpec := { name := "clientSilent", fn := fun _ => fun
  | [d1, d2, d3, d4, d5] => { results := [.lit (.bool true)], args := [d1, d2, d3, d4, d5] }
  | _ => none }
def clientSilentRow : OpenClaim := { program := "ytgigjkjdmalmaaagreat", sum := "e0e390b1197dd3240c8ca614d7d11afd886d5b5e3c549a82126bf1ba7dab9347", func := "gavel/gavellaw22.ClientSilent", spec := "clientSilent", unfollowed := true, recurses := true, plainKeys := false, apart := false }
def ClientSilentSaid : Prop := clientSilentRow.holds Tryz.pinned (OpenSpec.ofChange clientSilentSpec)

/-- ITS FALSE NEIGHBOUR: 'it returns false'. Refute it at one input. -/
def clientSilentWrong : ChangeSpec := { name := "clientSilent", fn := fun _ => fun
  | [d1, d2, d3, d4, d5] => { results := [.lit (.bool false)], args := [d1, d2, d3, d4, d5] }
  | _ => none }
def ClientSilentWrongFalsely : Prop := clientSilentRow.holds Tryz.pinned (OpenSpec.ofChange clientSilentWrong)

/-- 'gavellaw22.ClientReplies': WHATEVER THE INPUT: true; the input reads as it did. -/
def clientRepliesSpec : ChangeSpec := { name := "clientReplies", fn := fun _ => fun
  | [d1, d2, d3] => { results := [.lit (.bool true)], args := [d1, d2, d3] }
  | _ => none }
def clientRepliesRow : OpenClaim := { program := "ytgigjkjdmalmaaagreat", sum := "e0e390b1197dd3240c8ca614d7d11afd886d5b5e3c549a82126bf1ba7dab9347", func := "gavel/gavellaw22.ClientReplies", spec := "clientReplies", unfollowed := true, recurses := true, plainKeys := false, apart := false }
def ClientRepliesSaid : Prop := clientRepliesRow.holds Tryz.pinned (OpenSpec.ofChange clientRepliesSpec)

/-- ITS FALSE NEIGHBOUR: 'it returns false'. Refute it at one input. -/
def clientRepliesWrong : ChangeSpec := { name := "clientReplies", fn := fun _ => fun
  | [d1, d2, d3] => { results := [.lit (.bool false)], args := [d1, d2, d3] }
  | _ => none }
def ClientRepliesWrongFalsely : Prop := clientRepliesRow.holds Tryz.pinned (OpenSpec.ofChange clientRepliesWrong)

/-- 'gavellaw22.ClientApart': WHATEVER THE INPUT: true; the input reads as it did. -/
def clientApartSpec : ChangeSpec := { name := "clientApart", fn := fun _ => fun
  | [d1, d2, d3] => { results := [.lit (.bool true)], args := [d1, d2, d3] }
  | _ => none }
def clientApartRow : OpenClaim := { program := "ytgigjkjdmalmaaagreat", sum := "e0e390b1197dd3240c8ca614d7d11afd886d5b5e3c549a82126bf1ba7dab9347", func := "gavel/gavellaw22.ClientApart", spec := "clientApart", unfollowed := true, recurses := true, plainKeys := false, apart := false }
def ClientApartSaid : Prop := clientApartRow.holds Tryz.pinned (OpenSpec.ofChange clientApartSpec)

/-- ITS FALSE NEIGHBOUR: 'it returns false'. Refute it at one input. -/
def clientApartWrong : ChangeSpec := { name := "clientApart", fn := fun _ => fun
  | [d1, d2, d3] => { results := [.lit (.bool false)], args := [d1, d2, d3] }
  | _ => none }
def ClientApartWrongFalsely : Prop := clientApartRow.holds Tryz.pinned (OpenSpec.ofChange clientApartWrong)

/- THE SECOND FORM. 'bulk': how many values and letters a reading holds, each counted each time it is reached (what is shared counts as often as it is met; a slice's spare places count too). A statement '..UptoSaid' is the law's where the arguments, and the package variables that the reading takes, are together of bulk at most 1048576: NARROWER than '..Said'. Prove '..Said' where nothing that the law and all that it calls make is longer than what came in: it says more and counts as full. Else prove '..UptoSaid'. A law counts once. -/
mutual
def uptoBulk {H : Type} : DataW H → Nat
  | .lit (.string bytes) => bytes.length + 1
  | .lit _ => 1
  | .nil => 1
  | .ptr d => uptoBulk d + 1
  | .slice elems spare => uptoBulkAll elems + uptoBulkAll spare + 1
  | .agg parts => uptoBulkAll parts + 1
  | .iface _ d => uptoBulk d + 1
  | .map entries => uptoBulkEntries entries + 1
  | .held _ => 1
def uptoBulkAll {H : Type} : List (DataW H) → Nat
  | [] => 0
  | d :: r => uptoBulk d + uptoBulkAll r
def uptoBulkEntries {H : Type} : List (Lit × DataW H) → Nat
  | [] => 0
  | x :: r => uptoBulkEntry x + uptoBulkEntries r
def uptoBulkEntry {H : Type} : Lit × DataW H → Nat
  | (.string bytes, d) => bytes.length + uptoBulk d + 1
  | (_, d) => uptoBulk d + 1
 end
def uptoSmall : (H : Type) → List (DataW H) → Bool := fun _ ds => decide (uptoBulkAll ds ≤ 1048576)
def OpenSpec.upto (s : _root_.Go.ChangeSpec) : _root_.Go.OpenSpec := { _root_.Go.OpenSpec.ofChange s with cond := some uptoSmall }

/-- 'gavellaw22.ClientCerts', WHERE WHAT IT READS IS OF BULK AT MOST 1048576: true; the input reads as it did. -/
def clientCertsUptoRow : OpenClaim := { program := "ytgigjkjdmalmaaagreat", sum := "e0e390b1197dd3240c8ca614d7d11afd886d5b5e3c549a82126bf1ba7dab9347", func := "gavel/gavellaw22.ClientCerts", spec := "clientCerts", unfollowed := true, recurses := true, plainKeys := false, apart := false, narrowed := true }
def ClientCertsUptoSaid : Prop := clientCertsUptoRow.holds Tryz.pinned (OpenSpec.upto clientCertsSpec)

/-- 'gavellaw22.ClientSays', WHERE WHAT IT READS IS OF BULK AT MOST 1048576: true; the input reads as it did. -/
def clientSaysUptoRow : OpenClaim := { program := "ytgigjkjdmalmaaagreat", sum := "e0e390b1197dd3240c8ca614d7d11afd886d5b5e3c549a82126bf1ba7dab9347", func := "gavel/gavellaw22.ClientSays", spec := "clientSays", unfollowed := true, recurses := true, plainKeys := false, apart := false, narrowed := true }
def ClientSaysUptoSaid : Prop := clientSaysUptoRow.holds Tryz.pinned (OpenSpec.upto clientSaysSpec)

/-- 'gavellaw22.ClientSilent', WHERE WHAT IT READS IS OF BULK AT MOST 1048576: true; the input reads as it did. -/
def clientSilentUptoRow : OpenClaim := { program := "ytgigjkjdmalmaaagreat", sum := "e0e390b1197dd3240c8ca614d7d11afd886d5b5e3c549a82126bf1ba7dab9347", func := "gavel/gavellaw22.ClientSilent", spec := "clientSilent", unfollowed := true, recurses := true, plainKeys := false, apart := false, narrowed := true }
def ClientSilentUptoSaid : Prop := clientSilentUptoRow.holds Tryz.pinned (OpenSpec.upto clientSilentSpec)

/-- 'gavellaw22.ClientReplies', WHERE WHAT IT READS IS OF BULK AT MOST 1048576: true; the input reads as it did. -/
def clientRepliesUptoRow : OpenClaim := { program := "ytgigjkjdmalmaaagreat", sum := "e0e390b1197dd3240c8ca614d7d11afd886d5b5e3c549a82126bf1ba7dab9347", func := "gavel/gavellaw22.ClientReplies", spec := "clientReplies", unfollowed := true, recurses := true, plainKeys := false, apart := false, narrowed := true }
def ClientRepliesUptoSaid : Prop := clientRepliesUptoRow.holds Tryz.pinned (OpenSpec.upto clientRepliesSpec)

/-- 'gavellaw22.ClientApart', WHERE WHAT IT READS IS OF BULK AT MOST 1048576: true; the input reads as it did. -/
def clientApartUptoRow : OpenClaim := { program := "ytgigjkjdmalmaaagreat", sum := "e0e390b1197dd3240c8ca614d7d11afd886d5b5e3c549a82126bf1ba7dab9347", func := "gavel/gavellaw22.ClientApart", spec := "clientApart", unfollowed := true, recurses := true, plainKeys := false, apart := false, narrowed := true }
def ClientApartUptoSaid : Prop := clientApartUptoRow.holds Tryz.pinned (OpenSpec.upto clientApartSpec)

end Rows
end Go.Proofs.YtgigjkjdmalmaaaGreat
