/- WHAT IS PROVED: slices.AppendSeq over slices.Values: a list of the call's own; lists that stand in a cell block. Conditions: stated with each. -/
import Derived.Test.YtbpeofcoceaahaaIterU
import Derived.Test.YtbpeofcoceaahaaListAt
namespace Go.Proofs.Ytbpeofcoceaahaa
open Go.RowKit
theorem ListAt.ofCells {α : Type} {enc : α → List Value} {sz b T n : Nat} {w : World} {xs : List α} {vs : List Value} (hs : ∀ x, (enc x).length = sz) (hp : 0 < n ∧ n ≤ 1000000) (hn : xs.length = n) (h : (cellC b T vs).ok w) (hv : vs = xs.flatMap enc) : ListAt enc sz w (.slice (some ⟨b, 0, none⟩) n n) xs := by
  subst hv; subst hn
  refine .inr ⟨hp.1, b, 0, xs.length, rfl, ⟨Nat.le_refl _, by unfold maxLen; omega⟩, fun i hi j u hj => ?_⟩
  have hjl : j < sz := by rw [← hs xs[i]]; exact (List.getElem?_eq_some_iff.1 hj).1
  rw [Addr.add_lit, cell_of_heap h]
  have := flat_get enc sz hs xs i j xs[i] (List.getElem?_eq_getElem hi) hjl
  simpa [this] using hj
theorem cell_own {w : World} {e size n base : Nat} {v : Value} {xs : List Value} (h : w.ownsRow base e size v n xs) : (rowC e size v n xs).ok w ∧ ∀ b, v.ownBlock = some b → base ≤ b := by
  refine ⟨⟨h.1, ?_⟩, fun b hb => ?_⟩
  · rcases h.2 with hn | ⟨g, cap, cur, hv, hb, rest⟩
    · exact .inl hn
    · exact .inr ⟨g, cap, cur, hv, Nat.zero_le _, rest⟩
  · rcases h.2 with ⟨rfl, _⟩ | ⟨g, cap, cur, rfl, hg, _⟩
    · simp [Value.ownBlock] at hb
    · simp [Value.ownBlock] at hb; omega
theorem mapU (xs : List Int) : xs.map (Value.int .u64) = xs.flatMap encU := by
  induction xs with
  | nil => rfl
  | cons x xs ih => rw [List.map_cons, List.flatMap_cons, ih]; rfl
theorem appendSeqU_any (w : World) (b : Nat) (v : Value) (xs : List Int) (hb : (cellC b 22 [v]).ok w) (hv : ListAt encU 1 w v xs) (hx : xs.length ≤ 1000000000) :
    Calls Try.prog 79 #[.slice none 0 0, .func (.func 59) #[] #[.pointer (some ⟨b, 0, none⟩)]] w fun e w' => ∃ u, e = .returned u ∧ (rowC 23 1 u xs.length (xs.flatMap encU)).ok w' ∧ Upd [] w w' ∧ ∀ k, u.ownBlock = some k → w.heap.size ≤ k := by
  have hm : w.cell? ⟨b, 0, none⟩ = some v := by rw [cell_of_heap hb 0]; rfl
  have hv' : SliceOf CellOfU 1 w v xs := by
    rcases hv with h | ⟨h0, b', o, c', e, hc, h⟩
    · exact .inl h
    · exact .inr ⟨h0, b', o, c', e, hc, fun i hi => by have := h i hi 0 ((Value.int .u64) xs[i]) rfl; rw [Addr.add_lit] at this; exact this⟩
  refine (callsIn_wide.1 (appendSeqU_in b xs v w hm hv' hx)).mono ?_
  rintro e w' ⟨u, rfl, h, hl⟩
  obtain ⟨h1, h2⟩ := cell_own h
  exact ⟨u, rfl, mapU xs ▸ h1, Below.upd hl, h2⟩
end Go.Proofs.Ytbpeofcoceaahaa
