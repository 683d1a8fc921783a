/- WHAT IS PROVED: the document's tally in memory, as a list of votes. No condition. -/
import Derived.Test.YthjmbhneifjeeaaLists
import Derived.Test.YthjmbhneifjeeaaTallyAbs
import Derived.Test.YthjmbhneifjeeaaVInv
namespace Go.Proofs.Ythjmbhneifjeeaa
open Go.RowKit
def encV (x : VoteD) : List Value := [.int .i64 x.kind, .int .i64 x.round, .int .i64 x.replica] ++ hc x.h
theorem encV_len (x : VoteD) : (encV x).length = 35 := by simp [encV, hc_eq, x.h.len]
theorem encV_one (x : VoteD) : (encV x).all (·.oneCell') = true := by
  simp only [encV, List.all_append, hc_eq]
  simp [Value.oneCell', byteV]
/-- the document's tally at r; v: its list -/
def rtC (r : Nat) (v : Value) (f c : Int) (L : List VoteD) : Ck := sepC [cellC r 101 [.int .i64 f, .int .i64 c, v], rowC 143 35 v L.length (L.flatMap encV)]
theorem dropHash (x : VoteD) : ((encV x).drop 3).take (hc x.h).length = hc x.h := List.take_of_length_le (Nat.le_refl _)
theorem rtC_parts {r : Nat} {v : Value} {f c : Int} {L : List VoteD} {w : World} (h : (rtC r v f c L).ok w) : (cellC r 101 [.int .i64 f, .int .i64 c, v]).ok w ∧ (rowC 143 35 v L.length (L.flatMap encV)).ok w :=
  ⟨h.1 _ (by simp), h.1 _ (by simp)⟩
def forP (kind round : Int) (h : Hash) (v : VoteD) : Bool := decide (v.kind = kind ∧ v.round = round ∧ v.h = h)
def allP (kind round : Int) (v : VoteD) : Bool := decide (v.kind = kind ∧ v.round = round)
def isP (kind round replica : Int) (v : VoteD) : Bool := decide (v.kind = kind ∧ v.round = round ∧ v.replica = replica)
theorem rtC_dis {r : Nat} {v : Value} {f c : Int} {L : List VoteD} {w : World} (h : (rtC r v f c L).ok w) : ∀ b, (rowC 143 35 v L.length (L.flatMap encV)).fp b → ¬ (cellC r 101 [.int .i64 f, .int .i64 c, v]).fp b := fun b h1 h2 => (List.pairwise_cons.1 h.2).1 _ (by simp) b h2 h1
def badArg (f kind round replica : Int) : Bool := (!decide (kind = 1) && !decide (kind = 2)) || decide (round < 0) || decide (round > 1048576) || !inB f replica
theorem okV_eq (f : Int) (L : List VoteD) (k r p : Int) : okV f L k r p = !(badArg f k r p || L.any (isP k r p)) := rfl
theorem take_any {α : Type} {L : List α} {i : Nat} {x : α} {p : α → Bool} (hx : L[i]? = some x) : (L.take (i + 1)).any p = ((L.take i).any p || p x) := by
  rw [List.take_add_one, hx]; simp
theorem any_of {α : Type} {L : List α} {i : Nat} {x : α} {p : α → Bool} (hx : L[i]? = some x) (hp : p x = true) : L.any p = true :=
  List.any_eq_true.2 ⟨x, List.mem_of_getElem? hx, hp⟩
theorem row_snoc (e s : Nat) (v : Value) (L : List VoteD) (x : VoteD) : rowC e s v (L.length + 1) (L.flatMap encV ++ encV x) = rowC e s v (L ++ [x]).length ((L ++ [x]).flatMap encV) := by
  simp [List.flatMap_append]
theorem rt_fp {w0 w : World} {G : List Ck} {r : Nat} {v u : Value} {f c : Int} {L M : List VoteD} (H : Sat w0 G w) {cs : List Value} (i j k : Nat) (hi : G[i]? = some (cellC r 101 [.int .i64 f, .int .i64 c, u])) (hj : G[j]? = some (rowC 143 35 u M.length (M.flatMap encV))) (hk : G[k]? = some (restC w0 (cellC r 101 cs).fp)) (h1 : Nat.beq j i = false) (h2 : Nat.beq j k = false) :
    ∀ b, (rtC r u f c M).fp b → (rtC r v f c L).fp b ∨ w0.heap.size ≤ b := by
  rintro b ⟨A, hA, hfp⟩
  rcases List.mem_cons.1 hA with rfl | hA
  · exact .inl ⟨_, List.mem_cons_self .., hfp⟩
  · obtain rfl := List.mem_singleton.1 hA
    rcases Nat.lt_or_ge b w0.heap.size with hb | hb
    · exact absurd ⟨hb, fun hd => H.apart j i hj hi h1 b hfp hd⟩ (H.apart j k hj hk h2 b hfp)
    · exact .inr hb
theorem rt_keep {w w' : World} {G : List Ck} {r : Nat} {v : Value} {f c : Int} {L : List VoteD} {cs : List Value} (hT : (rtC r v f c L).ok w) (H : Sat w G w') (i k : Nat) (hi : G[i]? = some (cellC r 101 [.int .i64 f, .int .i64 c, v])) (hk : G[k]? = some (restC w (cellC r 101 cs).fp)) : (rtC r v f c L).ok w' := by
  refine ⟨fun A hA => ?_, hT.2⟩
  rcases List.mem_cons.1 hA with rfl | hA
  · exact H.at i hi
  · obtain rfl := List.mem_singleton.1 hA
    exact H.roCk k hk (rtC_parts hT).2 (rtC_dis hT)
def enc1 (z : Int) : List Value := [.int .i64 z]
def heardStep (round : Int) (acc : List Int) (x : VoteD) : List Int := if round ≤ x.round ∧ x.replica ∉ acc then acc ++ [x.replica] else acc
def heardF (round : Int) (L : List VoteD) : List Int := L.foldl (heardStep round) []
theorem heardF_take {L : List VoteD} {i : Nat} {x : VoteD} {round : Int} (hx : L[i]? = some x) : heardF round (L.take (i + 1)) = heardStep round (heardF round (L.take i)) x := by
  rw [List.take_add_one, hx]; simp [heardF]
theorem heardStep_no1 {round : Int} {acc : List Int} {x : VoteD} (h : ¬ x.round ≥ round) : heardStep round acc x = acc := if_neg fun q => h q.1
theorem heardStep_no2 {round : Int} {acc : List Int} {x : VoteD} {k : Nat} (h : ((acc.take k).any fun y => decide (y = x.replica)) = true) : heardStep round acc x = acc := if_neg fun q => by
  obtain ⟨y, hy, he⟩ := List.any_eq_true.1 h
  simp only [decide_eq_true_eq] at he
  exact q.2 (he ▸ List.mem_of_mem_take hy)
theorem heardStep_yes {round : Int} {acc : List Int} {x : VoteD} {k : Nat} (h1 : x.round ≥ round) (h : ((acc.take k).any fun y => decide (y = x.replica)) = false) (hk : acc.length ≤ k) : heardStep round acc x = acc ++ [x.replica] := if_pos ⟨h1, fun hm => by
  rw [List.take_of_length_le hk] at h
  have := List.any_eq_false.1 h x.replica hm
  simp at this⟩
theorem row_snoc1 (e s : Nat) (v : Value) (L : List Int) (x : Int) : rowC e s v (L.length + 1) (L.flatMap enc1 ++ enc1 x) = rowC e s v (L ++ [x]).length ((L ++ [x]).flatMap enc1) := by
  simp [List.flatMap_append]
theorem enc1_one (x : Int) : (enc1 x).all (·.oneCell') = true := rfl
theorem heardF_mem (round : Int) (y : Int) : ∀ (L : List VoteD) (acc : List Int), y ∈ L.foldl (heardStep round) acc ↔ y ∈ acc ∨ ∃ x ∈ L, round ≤ x.round ∧ x.replica = y
  | [], acc => by simp
  | x :: L, acc => by
    rw [List.foldl_cons, heardF_mem round y L]
    unfold heardStep
    split
    · rename_i h
      simp only [List.mem_append, List.mem_cons, List.not_mem_nil, or_false, exists_eq_or_imp]
      constructor
      · rintro ((h1 | h1) | h1)
        · exact .inl h1
        · exact .inr (.inl ⟨h.1, h1.symm⟩)
        · exact .inr (.inr h1)
      · rintro (h1 | ⟨_, h1⟩ | h1)
        · exact .inl (.inl h1)
        · exact .inl (.inr h1.symm)
        · exact .inr h1
    · rename_i h
      simp only [List.mem_cons, exists_eq_or_imp]
      constructor
      · rintro (h1 | h1)
        · exact .inl h1
        · exact .inr (.inr h1)
      · rintro (h1 | ⟨h1, h2⟩ | h1)
        · exact .inl h1
        · refine .inl (Decidable.byContradiction fun hn => h ⟨h1, h2 ▸ hn⟩)
        · exact .inr h1
theorem heardF_nodup (round : Int) : ∀ (L : List VoteD) (acc : List Int), acc.Nodup → (L.foldl (heardStep round) acc).Nodup
  | [], acc, h => h
  | x :: L, acc, h => by
    rw [List.foldl_cons]
    refine heardF_nodup round L _ ?_
    unfold heardStep
    split
    · rename_i h1
      rw [List.nodup_append]
      refine ⟨h, by simp, ?_⟩
      rintro a ha b hb rfl
      simp at hb
      exact h1.2 (hb ▸ ha)
    · exact h
theorem heardF_len {f : Int} {L : List VoteD} (h : VInv f L) (round : Int) : ((heardF round L).length : Int) = heardV f L round := by
  have hmem : ∀ y, y ∈ heardF round L ↔ ∃ x ∈ L, round ≤ x.round ∧ x.replica = y := fun y => by
    have := heardF_mem round y L []
    simpa [heardF] using this
  have hnd : (heardF round L).Nodup := heardF_nodup round L [] (by simp)
  have hrng : ∀ y ∈ heardF round L, 0 ≤ y ∧ y < 3 * f + 1 := fun y hy => by
    obtain ⟨x, hx, _, rfl⟩ := (hmem y).1 hy
    have := h.rng x hx
    simpa [inB] using this
  unfold heardV
  have h1 : ((heardF round L).map Int.toNat).length ≤ ((List.range (3 * f + 1).toNat).filter fun (i : Nat) => L.any fun v => decide (v.replica = (i : Int) ∧ round ≤ v.round)).length := by
    refine nodup_sub_len _ _ ?_ ?_
    · rw [List.nodup_iff_pairwise_ne, List.pairwise_map]
      refine List.Pairwise.imp_of_mem ?_ (List.nodup_iff_pairwise_ne.1 hnd)
      intro a b ha hb hab e
      have := hrng a ha
      have := hrng b hb
      exact hab (by omega)
    · intro y hy
      obtain ⟨z, hz, rfl⟩ := List.mem_map.1 hy
      have h2 := hrng z hz
      obtain ⟨x, hx, h3, h4⟩ := (hmem z).1 hz
      simp only [List.mem_filter, List.mem_range, List.any_eq_true, decide_eq_true_eq]
      exact ⟨by omega, x, hx, by omega, h3⟩
  have h2 : (((List.range (3 * f + 1).toNat).filter fun (i : Nat) => L.any fun v => decide (v.replica = (i : Int) ∧ round ≤ v.round)).map fun i : Nat => (i : Int)).length ≤ (heardF round L).length := by
    refine nodup_sub_len _ _ ?_ ?_
    · rw [List.nodup_iff_pairwise_ne, List.pairwise_map]
      refine List.Pairwise.imp ?_ (List.Pairwise.filter _ (List.nodup_iff_pairwise_ne.1 (List.nodup_range (n := (3 * f + 1).toNat))))
      intro a b hab e
      exact hab (by omega)
    · intro y hy
      obtain ⟨i, hi, rfl⟩ := List.mem_map.1 hy
      simp only [List.mem_filter, List.mem_range, List.any_eq_true, decide_eq_true_eq] at hi
      obtain ⟨_, x, hx, h3, h4⟩ := hi
      exact (hmem _).2 ⟨x, hx, h4, h3⟩
  simp only [List.length_map] at h1 h2
  omega
end Go.Proofs.Ythjmbhneifjeeaa
