/- WHAT IS PROVED: plain laws on lists of votes that were counted. Conditions: stated with each. -/
import Derived.Test.YtfhhljgjppcdlaaMostAbs
import Derived.Test.YtfhhljgjppcdlaaCut
namespace Go.Proofs.Ytfhhljgjppcdlaa
open Go.RowKit
/-- each voted once a kind and round, and is a replica -/
structure VInv (f : Int) (L : List VoteD) : Prop where
  rng : ∀ v ∈ L, inB f v.replica = true
  one : L.Pairwise fun u v => ¬ (u.kind = v.kind ∧ u.round = v.round ∧ u.replica = v.replica)
theorem VInv.nil (f : Int) : VInv f [] := ⟨by simp, by simp⟩
theorem VInv.add {f : Int} {L : List VoteD} (h : VInv f L) (v : VoteD) : VInv f (addV f L v) := by
  unfold addV
  split
  · rename_i hok
    simp [okV] at hok
    obtain ⟨⟨_, h2⟩, h3⟩ := hok
    refine ⟨?_, List.pairwise_append.2 ⟨h.one, by simp, ?_⟩⟩
    · intro u hu
      rcases List.mem_append.1 hu with hu | hu
      · exact h.rng u hu
      · simp at hu; rw [hu]; exact h2
    · intro u hu x hx
      simp at hx
      subst hx
      rintro ⟨a, b, c⟩
      exact h3 u hu a b c
  · exact h
theorem addV_len (f : Int) (L : List VoteD) (v : VoteD) : (addV f L v).length ≤ L.length + 1 := by
  unfold addV; split <;> simp
theorem addV_no {f : Int} {L : List VoteD} {v : VoteD} (h : okV f L v.kind v.round v.replica = false) : addV f L v = L := by
  unfold addV; rw [h]; simp
theorem addV_yes {f : Int} {L : List VoteD} {v : VoteD} (h : okV f L v.kind v.round v.replica = true) : addV f L v = L ++ [v] := by
  unfold addV; rw [if_pos h]
/-- who has voted cannot vote again -/
theorem okV_again (f : Int) (L : List VoteD) (v : VoteD) : okV f (addV f L v) v.kind v.round v.replica = false := by
  cases h : okV f L v.kind v.round v.replica
  · rw [addV_no h]; exact h
  · rw [addV_yes h]
    simp [okV]
theorem addV_again (f : Int) (L : List VoteD) (v : VoteD) (h : Hash) : addV f (addV f L v) ⟨v.kind, v.round, v.replica, h⟩ = addV f L v := addV_no (v := ⟨v.kind, v.round, v.replica, h⟩) (okV_again f L v)
theorem allV_ok {f : Int} {L : List VoteD} {v : VoteD} (h : okV f L v.kind v.round v.replica = true) : allV (addV f L v) v.kind v.round = allV L v.kind v.round + 1 := by
  rw [addV_yes h]; unfold allV; simp [List.countP_append]
theorem allV_no {f : Int} {L : List VoteD} {v : VoteD} (h : okV f L v.kind v.round v.replica = false) : allV (addV f L v) v.kind v.round = allV L v.kind v.round := by rw [addV_no h]
theorem heard_le {f : Int} (hf : 0 ≤ 3 * f + 1) (L : List VoteD) (r : Int) : 0 ≤ heardV f L r ∧ heardV f L r ≤ 3 * f + 1 := by
  unfold heardV
  have := List.length_filter_le (fun (i : Nat) => L.any fun v => decide (v.replica = (i : Int) ∧ r ≤ v.round)) (List.range (3 * f + 1).toNat)
  simp only [List.length_range] at this
  omega
theorem heard_mono (f : Int) (L : List VoteD) (r s : Int) (h : r ≤ s) : heardV f L s ≤ heardV f L r := by
  unfold heardV
  rw [← List.countP_eq_length_filter, ← List.countP_eq_length_filter]
  have := List.countP_mono_left (l := List.range (3 * f + 1).toNat) (p := fun (i : Nat) => L.any fun v => decide (v.replica = (i : Int) ∧ s ≤ v.round)) (q := fun (i : Nat) => L.any fun v => decide (v.replica = (i : Int) ∧ r ≤ v.round)) (fun i _ hi => by
    simp only [List.any_eq_true, decide_eq_true_eq] at hi ⊢
    obtain ⟨v, hv, h1, h2⟩ := hi
    exact ⟨v, hv, h1, by omega⟩)
  omega
theorem all_heard {f : Int} {L : List VoteD} (h : VInv f L) (k r : Int) : allV L k r ≤ heardV f L r := by
  unfold allV heardV
  rw [List.countP_eq_length_filter]
  have h1 : ((L.filter fun v => decide (v.kind = k ∧ v.round = r)).map fun v => v.replica.toNat).length ≤ ((List.range (3 * f + 1).toNat).filter fun (i : Nat) => L.any fun v => decide (v.replica = (i : Int) ∧ r ≤ v.round)).length := by
    refine nodup_sub_len _ _ ?_ ?_
    · rw [List.nodup_iff_pairwise_ne, List.pairwise_map]
      refine List.Pairwise.imp_of_mem ?_ (List.Pairwise.filter _ h.one)
      intro a b ha hb hab e
      simp only [List.mem_filter, decide_eq_true_eq] at ha hb
      have p1 := h.rng a ha.1
      have p2 := h.rng b hb.1
      simp [inB] at p1 p2
      exact hab ⟨by rw [ha.2.1, hb.2.1], by rw [ha.2.2, hb.2.2], by omega⟩
    · intro x hx
      obtain ⟨v, hv, rfl⟩ := List.mem_map.1 hx
      simp only [List.mem_filter, decide_eq_true_eq] at hv
      have p1 := h.rng v hv.1
      simp [inB] at p1
      simp only [List.mem_filter, List.mem_range, List.any_eq_true, decide_eq_true_eq]
      exact ⟨by omega, v, hv.1, by omega, by omega⟩
  simp only [List.length_map] at h1
  omega
theorem forV_nonneg (L : List VoteD) (k r : Int) (h : Hash) : 0 ≤ forV L k r h := by unfold forV; omega
theorem h01 : hash1 0 ≠ hash1 1 := by decide
theorem h02 : hash1 0 ≠ hash1 2 := by decide
theorem h12 : hash1 1 ≠ hash1 2 := by decide
theorem hash1_0 : hash1 0 = hash0 := by decide
theorem all_split {L : List VoteD} (h : ∀ v ∈ L, v.h = hash1 0 ∨ v.h = hash1 1 ∨ v.h = hash1 2) (k r : Int) : allV L k r = forV L k r (hash1 0) + forV L k r (hash1 1) + forV L k r (hash1 2) := by
  unfold allV forV
  induction L with
  | nil => simp
  | cons v L ih =>
    have ih' := ih (fun u hu => h u (List.mem_cons_of_mem _ hu))
    have hv := h v (by simp)
    simp only [List.countP_cons]
    by_cases hk : v.kind = k ∧ v.round = r
    · obtain ⟨rfl, rfl⟩ := hk
      rcases hv with e | e | e <;> rw [e] <;> simp [h01, h02, h12, h01.symm, h02.symm, h12.symm] at ih' ⊢ <;> omega
    · have n1 : ∀ g : Hash, ¬ (v.kind = k ∧ v.round = r ∧ v.h = g) := fun g ⟨a, b, _⟩ => hk ⟨a, b⟩
      simp only [hk, n1, decide_false, Bool.false_eq_true, if_false]
      omega
/-- the votes that come, made small -/
def vin (x : VoteIn) : VoteD := ⟨1 + withinV x.kind 2, withinV x.round 3, withinV x.replica 7, hash1 (x.h.l.getD 0 0 % 3)⟩
def voteD (l : List VoteIn) (k : Nat) : VoteIn := l.getD k ⟨0, 0, 0, hash0, false⟩
def smallL (l : List VoteIn) : Nat → List VoteD
  | 0 => []
  | k + 1 => addV 2 (smallL l k) (vin (voteD l k))
theorem smallL_len (l : List VoteIn) : ∀ k, (smallL l k).length ≤ k
  | 0 => by simp [smallL]
  | k + 1 => by have := addV_len 2 (smallL l k) (vin (voteD l k)); have := smallL_len l k; simp only [smallL]; omega
theorem smallL_inv (l : List VoteIn) : ∀ k, VInv 2 (smallL l k)
  | 0 => VInv.nil 2
  | k + 1 => (smallL_inv l k).add _
theorem mod3 (x : UInt8) : hash1 (x % 3) = hash1 0 ∨ hash1 (x % 3) = hash1 1 ∨ hash1 (x % 3) = hash1 2 := by
  have h : (x % 3).toNat < 3 := by rw [UInt8.toNat_mod]; exact Nat.mod_lt _ (by decide)
  generalize x % 3 = y at h
  have h3 : y.toNat = (0 : UInt8).toNat ∨ y.toNat = (1 : UInt8).toNat ∨ y.toNat = (2 : UInt8).toNat := by
    show y.toNat = 0 ∨ y.toNat = 1 ∨ y.toNat = 2
    omega
  rcases h3 with e | e | e
  · rw [UInt8.toNat_inj.1 e]; exact .inl rfl
  · rw [UInt8.toNat_inj.1 e]; exact .inr (.inl rfl)
  · rw [UInt8.toNat_inj.1 e]; exact .inr (.inr rfl)
theorem smallL_h (l : List VoteIn) : ∀ k, ∀ v ∈ smallL l k, v.h = hash1 0 ∨ v.h = hash1 1 ∨ v.h = hash1 2
  | 0, v, hv => by simp [smallL] at hv
  | k + 1, v, hv => by
    simp only [smallL, addV] at hv
    split at hv
    · rcases List.mem_append.1 hv with hv | hv
      · exact smallL_h l k v hv
      · simp at hv; rw [hv]; exact mod3 _
    · exact smallL_h l k v hv
def sumH (L : List VoteD) (k r : Int) : Nat → Int
  | 0 => 0
  | j + 1 => sumH L k r j + forV L k r (hash1 (UInt8.ofNat j))
theorem sumH_3 {L : List VoteD} (h : ∀ v ∈ L, v.h = hash1 0 ∨ v.h = hash1 1 ∨ v.h = hash1 2) (k r : Int) : sumH L k r 3 = allV L k r := by
  rw [all_split h]; simp only [sumH]; simp
theorem forV_bd (L : List VoteD) (k r : Int) (h : Hash) : 0 ≤ forV L k r h ∧ forV L k r h ≤ L.length := by
  unfold forV
  have := List.countP_le_length (l := L) (p := fun v => decide (v.kind = k ∧ v.round = r ∧ v.h = h))
  omega
theorem allV_bd (L : List VoteD) (k r : Int) : 0 ≤ allV L k r ∧ allV L k r ≤ L.length := by
  unfold allV
  have := List.countP_le_length (l := L) (p := fun v => decide (v.kind = k ∧ v.round = r))
  omega
theorem sumH_bd (L : List VoteD) (k r : Int) (j : Nat) (hj : j ≤ 3) : 0 ≤ sumH L k r j ∧ sumH L k r j ≤ 3 * L.length := by
  have a := forV_bd L k r
  have := a (hash1 (UInt8.ofNat 0)); have := a (hash1 (UInt8.ofNat 1)); have := a (hash1 (UInt8.ofNat 2))
  rcases Nat.lt_or_ge j 1 with h | h
  · obtain rfl : j = 0 := by omega
    simp only [sumH]; omega
  · rcases Nat.lt_or_ge j 2 with h | h
    · obtain rfl : j = 1 := by omega
      simp only [sumH]; omega
    · rcases Nat.lt_or_ge j 3 with h | h
      · obtain rfl : j = 2 := by omega
        simp only [sumH]; omega
      · obtain rfl : j = 3 := by omega
        simp only [sumH]; omega
theorem most_pos {L : List VoteD} {k r : Int} {h : Hash} {n : Int} (hp : MostP L k r h n) (hn : n > 0) : forV L k r h = n := by
  rcases hp with ⟨h1, _⟩ | ⟨_, h2, _⟩
  · omega
  · exact h2
theorem most_zero {L : List VoteD} {k r : Int} {h : Hash} {n : Int} (hL : ∀ v ∈ L, v.h = hash1 0 ∨ v.h = hash1 1 ∨ v.h = hash1 2) (hp : MostP L k r h n) (hn : n = 0) : allV L k r = 0 ∧ h = hash0 := by
  rcases hp with ⟨_, h2, h3⟩ | ⟨h1, _⟩
  · rw [all_split hL, h3, h3, h3]; exact ⟨rfl, h2⟩
  · omega
theorem u8_ofNat (j : Nat) : IntKind.u8.wrap (j : Int) = ((UInt8.ofNat j).toNat : Int) := by
  simp [IntKind.wrap, IntKind.signed, IntKind.bits, UInt8.toNat_ofNat']
theorem within_self (v n : Int) (h1 : 0 ≤ v) (h2 : v < n) : withinV v n = v := by
  unfold withinV; rw [if_neg (by omega)]; exact Int.emod_eq_of_lt h1 h2
end Go.Proofs.Ytfhhljgjppcdlaa
