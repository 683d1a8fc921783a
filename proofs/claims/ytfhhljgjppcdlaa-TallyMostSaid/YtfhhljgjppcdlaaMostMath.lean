/- WHAT IS PROVED: the least of two whole numbers as an operation; the votes of the replicas in two orders: plain laws. Conditions: stated with each. -/
import Derived.Test.YtfhhljgjppcdlaaVotesMath
import Derived.Lib.MinMax
namespace Go.Proofs.Ytfhhljgjppcdlaa
open Go.RowKit
section
variable {P : Program} {n : Nat} {f : Nat → Value} {w : World} {dst : Option Tmp} {ty : TypeId} {pos : String} {aft : Array Edge} {gd : Option (Nat × Bool)}
theorem e_min {T : Array TypeId} {x y : Operand} {k : IntKind} {a b z : Int} (hx : ev n f x = .int k a) (hy : ev n f y = .int k b) (hz : min a b = z) :
    (execOp (ev n f) ⟨dst, .call { callee := .builtin .min, args := #[x, y], argTypes := T }, ty, pos, aft, gd⟩).run P w = .ok (.value (.int k z)) w := by
  have := Lib.run_min_ints (P := P) w T ty k k a b
  subst hz
  simp [execOp, resolve, invoke, builtin, hx, hy, this, Result.andThen]
end
/-- the vote of replica p -/
def pv (l : List VoteIn) (p : Nat) : VoteD := ⟨2, 1, (p : Int), hash1 ((voteD l p).h.l.getD 0 0 % 3)⟩
def jS (i : Nat) : Nat := i
def jT (turn : Int) (n i : Nat) : Nat := (((i : Int) + withinV turn (n : Int)) % (n : Int)).toNat
def stL (l : List VoteIn) (j : Nat → Nat) : Nat → List VoteD
  | 0 => []
  | k + 1 => addV 2 (stL l j k) (pv l (j k))
theorem stL_len (l : List VoteIn) (j : Nat → Nat) : ∀ k, (stL l j k).length ≤ k
  | 0 => by simp [stL]
  | k + 1 => by have := addV_len 2 (stL l j k) (pv l (j k)); have := stL_len l j k; simp only [stL]; omega
theorem stL_map (l : List VoteIn) (j : Nat → Nat) (n : Nat) (hj : ∀ i, i < n → j i < 7) (hi : ∀ a b, a < n → b < n → j a = j b → a = b) : ∀ k, k ≤ n → stL l j k = (List.range k).map fun i => pv l (j i)
  | 0, _ => rfl
  | k + 1, hk => by
    have ih := stL_map l j n hj hi k (by omega)
    have hok : okV 2 (stL l j k) 2 1 ((j k : Nat) : Int) = true := by
      rw [ih]
      have h7 := hj k (by omega)
      have hno : ((List.range k).map fun i => pv l (j i)).any (fun v => decide (v.kind = 2 ∧ v.round = 1 ∧ v.replica = (j k : Int))) = false := by
        rw [List.any_eq_false]
        intro v hv
        obtain ⟨i, hir, rfl⟩ := List.mem_map.1 hv
        have hir := List.mem_range.1 hir
        simp only [pv, true_and, decide_eq_true_eq]
        intro e
        have := hi i k (by omega) (by omega) (by omega)
        omega
      unfold okV
      rw [hno]
      simp [inB]
      omega
    simp only [stL]
    rw [addV_yes (v := pv l (j k)) hok, ih, List.range_succ, List.map_append]
    rfl
theorem jT_lt (turn : Int) (n i : Nat) (hn : 0 < n) : jT turn n i < n := by
  unfold jT
  have h1 := Int.emod_lt_of_pos ((i : Int) + withinV turn n) (show (0 : Int) < n by omega)
  have h2 := Int.emod_nonneg ((i : Int) + withinV turn n) (show (n : Int) ≠ 0 by omega)
  omega
theorem jT_int (turn : Int) (n i : Nat) (hn : 0 < n) : ((i : Int) + withinV turn (n : Int)) % (n : Int) = ((jT turn n i : Nat) : Int) := by
  unfold jT
  have h2 := Int.emod_nonneg ((i : Int) + withinV turn n) (show (n : Int) ≠ 0 by omega)
  omega
theorem jT_inj (turn : Int) (n a b : Nat) (ha : a < n) (hb : b < n) (h : jT turn n a = jT turn n b) : a = b := by
  have hn : 0 < n := by omega
  have hm := within_lim turn n (by omega)
  have h1 := jT_int turn n a hn
  have h2 := jT_int turn n b hn
  rw [h, ← h2] at h1
  have e1 := Int.emod_add_mul_ediv ((a : Int) + withinV turn n) n
  have e2 := Int.emod_add_mul_ediv ((b : Int) + withinV turn n) n
  rw [h1] at e1
  have e3 : (n : Int) * (((a : Int) + withinV turn n) / n - ((b : Int) + withinV turn n) / n) = (a : Int) - b := by rw [Int.mul_sub]; omega
  generalize ((a : Int) + withinV turn n) / n - ((b : Int) + withinV turn n) / n = q at e3
  rcases Int.lt_trichotomy q 0 with hq | hq | hq
  · have := Int.mul_le_mul_of_nonneg_left (show q ≤ -1 by omega) (show (0 : Int) ≤ n by omega)
    omega
  · subst hq; simp at e3; omega
  · have := Int.mul_le_mul_of_nonneg_left (show 1 ≤ q by omega) (show (0 : Int) ≤ n by omega)
    omega
theorem stS (l : List VoteIn) (n : Nat) (h : n ≤ 7) : stL l jS n = (List.range n).map (pv l) := stL_map l jS n (fun i hi => by unfold jS; omega) (fun a b _ _ h => h) n (Nat.le_refl n)
theorem stT (l : List VoteIn) (turn : Int) (n : Nat) (h : n ≤ 7) : stL l (jT turn n) n = (List.range n).map fun i => pv l (jT turn n i) :=
  stL_map l (jT turn n) n (fun i hi => Nat.lt_of_lt_of_le (jT_lt turn n i (by omega)) h) (fun a b ha hb e => jT_inj turn n a b ha hb e) n (Nat.le_refl n)
theorem perm_range (n : Nat) (j : Nat → Nat) (hj : ∀ i, i < n → j i < n) (hi : ∀ a b, a < n → b < n → j a = j b → a = b) : ((List.range n).map j).Perm (List.range n) := by
  have hnd : ((List.range n).map j).Nodup := by
    rw [List.nodup_iff_pairwise_ne, List.pairwise_map]
    refine List.Pairwise.imp_of_mem ?_ (List.nodup_iff_pairwise_ne.1 (List.nodup_range (n := n)))
    intro a b ha hb hne e
    exact hne (hi a b (List.mem_range.1 ha) (List.mem_range.1 hb) e)
  have hsub : ∀ x ∈ (List.range n).map j, x ∈ List.range n := by
    intro x hx
    obtain ⟨i, hir, rfl⟩ := List.mem_map.1 hx
    exact List.mem_range.2 (hj i (List.mem_range.1 hir))
  refine (List.perm_ext_iff_of_nodup hnd List.nodup_range).2 fun x => ⟨hsub x, fun hx => ?_⟩
  refine Decidable.byContradiction fun hno => ?_
  have h1 := nodup_sub_len (x :: (List.range n).map j) (List.range n) (List.nodup_cons.2 ⟨hno, hnd⟩) (fun y hy => by
    rcases List.mem_cons.1 hy with rfl | hy
    · exact hx
    · exact hsub y hy)
  simp at h1
  omega
theorem st_perm (l : List VoteIn) (turn : Int) (n : Nat) (h : n ≤ 7) : (stL l jS n).Perm (stL l (jT turn n) n) := by
  rw [stS l n h, stT l turn n h]
  have := (perm_range n (jT turn n) (fun i hi => jT_lt turn n i (by omega)) (fun a b ha hb e => jT_inj turn n a b ha hb e)).map (pv l)
  rw [List.map_map] at this
  exact this.symm
theorem most_uniq {L M : List VoteD} {h g : Hash} {n m : Int} (hLM : L.Perm M) (h1 : MostP L 2 1 h n) (h2 : MostP M 2 1 g m) : h = g ∧ n = m := by
  have hf : ∀ x, forV L 2 1 x = forV M 2 1 x := fun x => by unfold forV; rw [hLM.countP_eq]
  rcases h1 with ⟨a1, a2, a3⟩ | ⟨a1, a2, a3⟩ <;> rcases h2 with ⟨b1, b2, b3⟩ | ⟨b1, b2, b3⟩
  · exact ⟨by rw [a2, b2], by omega⟩
  · have := a3 g; rw [hf] at this; omega
  · have := b3 h; rw [← hf] at this; omega
  · have c1 := (a3 g).1
    have c2 := (b3 h).1
    rw [hf] at c1
    rw [← hf] at c2
    have e : n = m := by omega
    refine ⟨Decidable.byContradiction fun hne => ?_, e⟩
    exact LessH.asymm ((a3 g).2 (by rw [hf]; omega) (fun x => hne x.symm)) ((b3 h).2 (by rw [← hf]; omega) hne)
theorem st_all (l : List VoteIn) (n : Nat) (h : n ≤ 7) : allV (stL l jS n) 2 1 = n := by
  rw [stS l n h]; unfold allV
  rw [List.countP_eq_length.2 (fun v hv => by obtain ⟨i, _, rfl⟩ := List.mem_map.1 hv; simp [pv])]
  simp
theorem st_h (l : List VoteIn) (n : Nat) (h : n ≤ 7) : ∀ v ∈ stL l jS n, v.h = hash1 0 ∨ v.h = hash1 1 ∨ v.h = hash1 2 := by
  rw [stS l n h]
  intro v hv
  obtain ⟨i, _, rfl⟩ := List.mem_map.1 hv
  exact mod3 _
theorem st_heard0 (l : List VoteIn) (n : Nat) (h : n ≤ 7) : heardV 2 (stL l jS n) 0 = n := by
  rw [stS l n h]; unfold heardV
  have e : ∀ i ∈ List.range (3 * (2 : Int) + 1).toNat, (((List.range n).map (pv l)).any fun v => decide (v.replica = (i : Int) ∧ 0 ≤ v.round)) = decide (i < n) := by
    intro i _
    by_cases hi : i < n
    · rw [decide_eq_true hi, List.any_eq_true]
      exact ⟨pv l i, List.mem_map.2 ⟨i, List.mem_range.2 hi, rfl⟩, by simp [pv]⟩
    · rw [decide_eq_false hi, List.any_eq_false]
      intro v hv
      obtain ⟨k, hk, rfl⟩ := List.mem_map.1 hv
      have := List.mem_range.1 hk
      simp [pv]
      omega
  rw [List.filter_congr e]
  have h7 : n = 0 ∨ n = 1 ∨ n = 2 ∨ n = 3 ∨ n = 4 ∨ n = 5 ∨ n = 6 ∨ n = 7 := by omega
  rcases h7 with rfl | rfl | rfl | rfl | rfl | rfl | rfl | rfl <;> rfl
theorem st_heard2 (l : List VoteIn) (n : Nat) (h : n ≤ 7) : heardV 2 (stL l jS n) 2 = 0 := by
  rw [stS l n h]; unfold heardV
  rw [List.filter_eq_nil_iff.2]
  · rfl
  · intro i _ he
    obtain ⟨v, hv, h1⟩ := List.any_eq_true.1 he
    obtain ⟨k, _, rfl⟩ := List.mem_map.1 hv
    simp [pv] at h1
theorem for_le_all (L : List VoteD) (k r : Int) (h : Hash) : forV L k r h ≤ allV L k r := by
  unfold forV allV
  have := List.countP_mono_left (l := L) (p := fun v => decide (v.kind = k ∧ v.round = r ∧ v.h = h)) (q := fun v => decide (v.kind = k ∧ v.round = r)) (fun v _ hv => by
    simp only [decide_eq_true_eq] at hv ⊢
    exact ⟨hv.1, hv.2.1⟩)
  omega
theorem most_all {L : List VoteD} {h : Hash} {n : Int} (hp : MostP L 2 1 h n) : n ≤ allV L 2 1 := by
  have := for_le_all L 2 1 h
  have := allV_bd L 2 1
  rcases hp with ⟨h1, _⟩ | ⟨_, h2, _⟩ <;> omega
theorem most_bd {L : List VoteD} {h : Hash} {n : Int} (hp : MostP L 2 1 h n) (g : Hash) : forV L 2 1 g ≤ n := by
  rcases hp with ⟨h1, _, h3⟩ | ⟨_, _, h3⟩
  · rw [h3]; omega
  · exact (h3 g).1
theorem hash1_at0 (x : UInt8) : (hash1 x).at 0 = x := rfl
theorem hash1_at (x : UInt8) (i : Nat) (h : 0 < i) (h2 : i < 32) : (hash1 x).at i = 0 := by
  obtain ⟨k, rfl⟩ : ∃ k, i = k + 1 := ⟨i - 1, by omega⟩
  simp only [Hash.at, hash1]
  have h31 : k = 0 ∨ k = 1 ∨ k = 2 ∨ k = 3 ∨ k = 4 ∨ k = 5 ∨ k = 6 ∨ k = 7 ∨ k = 8 ∨ k = 9 ∨ k = 10 ∨ k = 11 ∨ k = 12 ∨ k = 13 ∨ k = 14 ∨ k = 15 ∨ k = 16 ∨ k = 17 ∨ k = 18 ∨ k = 19 ∨ k = 20 ∨ k = 21 ∨ k = 22 ∨ k = 23 ∨ k = 24 ∨ k = 25 ∨ k = 26 ∨ k = 27 ∨ k = 28 ∨ k = 29 ∨ k = 30 := by omega
  rcases h31 with rfl | rfl | rfl | rfl | rfl | rfl | rfl | rfl | rfl | rfl | rfl | rfl | rfl | rfl | rfl | rfl | rfl | rfl | rfl | rfl | rfl | rfl | rfl | rfl | rfl | rfl | rfl | rfl | rfl | rfl | rfl <;> rfl
theorem less_hash1 {x y : UInt8} (h : LessH (hash1 x) (hash1 y)) : x < y := by
  obtain ⟨i, hi, h1, _⟩ := h
  rcases Nat.eq_zero_or_pos i with rfl | hp
  · exact h1
  · rw [hash1_at x i hp hi, hash1_at y i hp hi] at h1
    exact absurd h1 (by simp [UInt8.lt_irrefl])
theorem most_least {L : List VoteD} {h : Hash} {n : Int} {j : UInt8} (hL : ∀ v ∈ L, v.h = hash1 0 ∨ v.h = hash1 1 ∨ v.h = hash1 2) (hp : MostP L 2 1 h n) (hx : forV L 2 1 (hash1 j) = n) (hpos : 0 < allV L 2 1) : ¬ (j.toNat : Int) < ((h.l.getD 0 0).toNat : Int) := by
  rcases hp with ⟨h1, _, h3⟩ | ⟨h1, h2, h3⟩
  · rw [all_split hL, h3, h3, h3] at hpos; omega
  · have hpv : ∃ v ∈ L, v.h = h := by
      unfold forV at h2
      have hc : 0 < L.countP fun v => decide (v.kind = 2 ∧ v.round = 1 ∧ v.h = h) := by omega
      obtain ⟨v, hv, he⟩ := List.countP_pos_iff.1 hc
      simp only [decide_eq_true_eq] at he
      exact ⟨v, hv, he.2.2⟩
    obtain ⟨v, hv, rfl⟩ := hpv
    obtain ⟨c, hc⟩ : ∃ c, v.h = hash1 c := by
      rcases hL v hv with e | e | e <;> exact ⟨_, e⟩
    rw [hc] at h3 ⊢
    intro hlt
    have hlt2 : j.toNat < c.toNat := by
      have : (hash1 c).l.getD 0 0 = c := rfl
      rw [this] at hlt
      omega
    by_cases e : hash1 j = hash1 c
    · have := congrArg (fun h => Hash.at h 0) e
      simp only [hash1_at0] at this
      rw [this] at hlt2
      omega
    · have := less_hash1 ((h3 (hash1 j)).2 hx e)
      rw [UInt8.lt_iff_toNat_lt] at this
      omega
theorem u8_succ (j : Nat) (h : (UInt8.ofNat j).toNat = j) (hj : j < 3) : IntKind.u8.wrap (((UInt8.ofNat j).toNat : Int) + 1) = ((UInt8.ofNat (j + 1)).toNat : Int) := by
  have h3 : j = 0 ∨ j = 1 ∨ j = 2 := by omega
  rcases h3 with rfl | rfl | rfl <;> rfl
theorem u8_small (j : Nat) (hj : j < 256) : (UInt8.ofNat j).toNat = j := by
  rw [UInt8.toNat_ofNat']; omega
end Go.Proofs.Ytfhhljgjppcdlaa
