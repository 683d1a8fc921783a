/- WHAT IS PROVED: a tally as data and as pieces of memory. No condition. -/
import Derived.Test.YthjmbhneifjeeaaSmall
import Derived.Test.YthjmbhneifjeeaaTallyKeys
namespace Go.Proofs.Ythjmbhneifjeeaa
open Go.RowKit
structure TallyS where
  f : Int
  c : Int
  hv : List (Voter × Bool)
  count : List (Choice × Int)
  all : List (Turn × Int)
  last : List (Int × Int)
def tallyL (t hb cb ab lb : Nat) (T : TallyS) : List Ck :=
  [cellC t 115 [.int .i64 T.f, .int .i64 T.c, .map (some hb), .map (some cb), .map (some ab), .map (some lb)], mapC hb voterV Value.bool T.hv, mapC cb choiceV (Value.int .i64) T.count, mapC ab turnV (Value.int .i64) T.all, mapC lb (Value.int .i64) (Value.int .i64) T.last]
def tallyC (t hb cb ab lb : Nat) (T : TallyS) : Ck := sepC (tallyL t hb cb ab lb T)
theorem tallyC_fp {t hb cb ab lb : Nat} {T : TallyS} {b : Nat} (h : (tallyC t hb cb ab lb T).fp b) : b ∈ [t, hb, cb, ab, lb] := by
  simp [tallyC, tallyL, sepC, cellC, mapC] at h; simp; omega
theorem tallyC_of {t hb cb ab lb : Nat} {T : TallyS} {b : Nat} (h : b ∈ [t, hb, cb, ab, lb]) : (tallyC t hb cb ab lb T).fp b := by
  simp [tallyC, tallyL, sepC, cellC, mapC]; simp at h; omega
theorem tallyC_parts {t hb cb ab lb : Nat} {T : TallyS} {w : World} (h : (tallyC t hb cb ab lb T).ok w) :
    w.heap[t]? = some (.cells ⟨[.int .i64 T.f, .int .i64 T.c, .map (some hb), .map (some cb), .map (some ab), .map (some lb)]⟩ 115 (0, 0)) ∧ MapAt w hb voterV Value.bool T.hv ∧ MapAt w cb choiceV (Value.int .i64) T.count ∧ MapAt w ab turnV (Value.int .i64) T.all ∧ MapAt w lb (Value.int .i64) (Value.int .i64) T.last := by
  have h1 := h.1
  simp only [tallyL, List.forall_mem_cons, List.not_mem_nil, false_implies, implies_true, and_true] at h1
  exact h1
def badB (T : TallyS) (kind round replica : Int) : Bool :=
  (!decide (kind = 1) && !decide (kind = 2)) || decide (round < 0) || decide (round > 1048576) || !inB T.f replica || (lookM T.hv ⟨kind, round, replica⟩).getD false
def addT (T : TallyS) (kind round replica : Int) (h : Hash) : TallyS :=
  { T with hv := putM T.hv ⟨kind, round, replica⟩ true, count := putM T.count ⟨kind, round, h⟩ ((lookM T.count ⟨kind, round, h⟩).getD 0 + 1), all := putM T.all ⟨kind, round⟩ ((lookM T.all ⟨kind, round⟩).getD 0 + 1),
           last := if (!(lookM T.last replica).isSome || decide (round > (lookM T.last replica).getD 0)) = true then putM T.last replica round else T.last }
def heardT (T : TallyS) (round : Int) : Int := ((T.last.filter fun y => decide (y.2 ≥ round)).length : Int)
/-- the counts are small -/
def TallyS.Small (T : TallyS) (B : Int) : Prop := (-21 ≤ T.f ∧ T.f ≤ 21) ∧ (∀ x, 0 ≤ (lookM T.count x).getD 0 ∧ (lookM T.count x).getD 0 ≤ B) ∧ ∀ x, 0 ≤ (lookM T.all x).getD 0 ∧ (lookM T.all x).getD 0 ≤ B
end Go.Proofs.Ythjmbhneifjeeaa
