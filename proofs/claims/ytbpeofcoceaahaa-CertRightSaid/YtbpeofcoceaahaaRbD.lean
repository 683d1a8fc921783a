/- WHAT IS PROVED: the document's book in memory, as a list of signed texts. No condition. -/
import Derived.Test.YtbpeofcoceaahaaBytesD
namespace Go.Proofs.Ytbpeofcoceaahaa
open Go.RowKit
def encS (x : Signed) : List Value := [.int .i64 x.p, strV x.s]
theorem encS_len (x : Signed) : (encS x).length = 2 := rfl
theorem encS_one (x : Signed) : (encS x).all (·.oneCell') = true := rfl
/-- the document's book at r; v: its list -/
def rbC (r : Nat) (v : Value) (L : List Signed) : Ck := sepC [cellC r 88 [v], rowC 120 2 v L.length (L.flatMap encS)]
theorem rbC_parts {r : Nat} {v : Value} {L : List Signed} {w : World} (h : (rbC r v L).ok w) : (cellC r 88 [v]).ok w ∧ (rowC 120 2 v L.length (L.flatMap encS)).ok w :=
  ⟨h.1 _ (by simp), h.1 _ (by simp)⟩
theorem BytesAt.now {W w : World} {G : List Ck} {v : Value} {s : List UInt8} (H : Sat W G w) (j : Nat) (hj : G[j]? = Option.some (restC W fun _ => False)) (hv : BytesAt W v s) : BytesAt w v s :=
  SliceOf.mono hv fun _ _ h => H.cellR j hj h (fun h => h)
end Go.Proofs.Ytbpeofcoceaahaa
