/- WHAT IS PROVED: plain laws on a core's rules and on settling. Conditions: stated with each. -/
import Derived.Test.YthjmbhneifjeeaaShort
import Derived.Test.YthjmbhneifjeeaaCoreMem
namespace Go.Proofs.Ythjmbhneifjeeaa
open Go.RowKit
/-- a settled core: no rule holds, or it has decided, or it was not started -/
theorem settle_done {D : CoreD} (h : CI D) : goesB (settleD D).1 = false ∨ ruleD (settleD D).1 = none := by
 have key : ∀ n (D : CoreD), CI D → muD D ≤ n → goesB (settleD D).1 = false ∨ ruleD (settleD D).1 = none := by
  intro n
  induction n with
  | zero =>
   intro D h hn
   cases hg : goesB D
   ·rw [settle_stop hg]; exact .inl hg
   ·cases hr : ruleD D with
    | none => rw [settle_none hr]; exact .inr hr
    | some x => have := (muD_rule (A := x.2) h hg hr).1; omega
  | succ n ih =>
   intro D h hn
   cases hg : goesB D
   ·rw [settle_stop hg]; exact .inl hg
   ·cases hr : ruleD D with
    | none => rw [settle_none hr]; exact .inr hr
    | some x =>
     obtain ⟨D2, A2⟩ := x
     rw [settle_step h hg hr]
     have := (muD_rule h hg hr).1
     exact ih D2 (h.rule hr) (by omega)
 exact key (muD D) D h (Nat.le_refl _)
theorem leastV_neg {f : Int} {L : List VoteD} {P : List (Int × PropD)} (h : ∀ x ∈ P, leastP f L x = false) : leastV f L P = -1 := by
 unfold leastV
 rw [show P.filter (leastP f L) = [] from by rw [List.filter_eq_nil_iff]; intro x hx; simp [h x hx]]
 rfl
theorem farV_neg {f : Int} {L : List VoteD} {a m : Int} (h : ∀ v ∈ L, farP f L a m v.round = false) : farV f L a m = -1 := by
 unfold farV
 rw [show (L.map (·.round)).filter (farP f L a m) = [] from by
  rw [List.filter_eq_nil_iff]
  intro r hr
  obtain ⟨v, hv, rfl⟩ := List.mem_map.1 hr
  simp [h v hv]]
 rfl
/-- when no rule holds -/
structure Still (D : CoreD) : Prop where
 least : ∀ x ∈ D.P, x.2.ok = true → forV D.L 2 x.1 x.2.h < 2 * D.f + 1
 far : ∀ v ∈ D.L, D.s.round < v.round → heardV D.f D.L v.round < D.f + 1
 pre : D.s.step = 1 → hasP D.P D.s.round = true → 0 ≤ (getP D.P D.s.round).valid ∧ forV D.L 1 (getP D.P D.s.round).valid (getP D.P D.s.round).h < 2 * D.f + 1
 lock : 2 ≤ D.s.step → hasP D.P D.s.round = true → (getP D.P D.s.round).ok = true → D.wv = false → forV D.L 1 D.s.round (getP D.P D.s.round).h < 2 * D.f + 1
 nil : D.s.step = 2 → forV D.L 1 D.s.round hash0 < 2 * D.f + 1
 all1 : D.s.step = 2 → D.sp = false → allV D.L 1 D.s.round < 2 * D.f + 1
 all2 : D.sc = false → allV D.L 2 D.s.round < 2 * D.f + 1
theorem Still.none {D : CoreD} (h : Still D) : ruleD D = none := by
 have h1 := leastV_neg (f := D.f) (L := D.L) (P := D.P) (fun x hx => by
  unfold leastP
  cases ho : x.2.ok
  ·rfl
  ·have := h.least x hx ho
   simp only [Bool.true_and, decide_eq_false_iff_not]; omega)
 have h2 := farV_neg (f := D.f) (L := D.L) (a := D.s.round) (m := D.f + 1) (fun v hv => by
  unfold farP
  by_cases hr : D.s.round < v.round
  ·have := h.far v hv hr
   simp only [hr, decide_true, Bool.true_and, decide_eq_false_iff_not]; omega
  ·simp [hr])
 unfold ruleD
 rw [if_neg (by omega), if_neg (by omega), if_neg, if_neg, if_neg, if_neg, if_neg]
 ·rintro ⟨a, b⟩; have := h.all2 a; omega
 ·rintro ⟨a, b, c⟩; have := h.all1 a b; omega
 ·rintro ⟨a, b⟩; have := h.nil a; omega
 ·rintro ⟨a, b, c, d, e⟩; have := h.lock a b c d; omega
 ·rintro ⟨a, b, c⟩
  have := h.pre a b
  unfold chooseD at c
  rw [if_pos this] at c
  cases c
theorem Still.of_none {D : CoreD} (hP : ∀ x ∈ D.P, 0 ≤ x.1) (hrd : 0 ≤ D.s.round) (h : ruleD D = Option.none) : Still D := by
 unfold ruleD at h
 split at h
 ·cases h
 rename_i n1
 split at h
 ·cases h
 rename_i n2
 split at h
 ·cases h
 rename_i n3
 split at h
 ·split at h <;> cases h
 rename_i n4
 split at h
 ·cases h
 rename_i n5
 split at h
 ·cases h
 rename_i n6
 split at h
 ·cases h
 rename_i n7
 refine ⟨?_, ?_, ?_, ?_, ?_, ?_, ?_⟩
 ·intro x hx ho
  rcases leastV_spec D.f D.L D.P hP with ⟨_, h2⟩ | ⟨y, hy, _, h2, _⟩
  ·have := h2 x hx
   unfold leastP at this
   rw [ho, Bool.true_and] at this
   simpa using this
  ·have := hP y hy; omega
 ·intro v hv hr
  rcases farV_spec D.f D.L D.s.round (D.f + 1) hrd with ⟨_, h2⟩ | ⟨y, hy, h3, h2, _⟩
  ·have := h2 v hv
   simpa [farP, hr] using this
  ·simp [farP] at h3; omega
 ·intro h1 h2
  have n3' : (chooseD D (getP D.P D.s.round)).2 ≠ true := fun h3 => n3 ⟨h1, h2, h3⟩
  unfold chooseD at n3'
  split at n3'
  ·assumption
  ·split at n3' <;> exact absurd rfl n3'
 ·intro h1 h2 h3 h4
  rcases Int.lt_or_le (forV D.L 1 D.s.round (getP D.P D.s.round).h) (2 * D.f + 1) with h5 | h5
  ·exact h5
  ·exact absurd ⟨h1, h2, h3, h4, h5⟩ n4
 ·intro h1
  rcases Int.lt_or_le (forV D.L 1 D.s.round hash0) (2 * D.f + 1) with h5 | h5
  ·exact h5
  ·exact absurd ⟨h1, h5⟩ n5
 ·intro h1 h2
  rcases Int.lt_or_le (allV D.L 1 D.s.round) (2 * D.f + 1) with h5 | h5
  ·exact h5
  ·exact absurd ⟨h1, h2, h5⟩ n6
 ·intro h1
  rcases Int.lt_or_le (allV D.L 2 D.s.round) (2 * D.f + 1) with h5 | h5
  ·exact h5
  ·exact absurd ⟨h1, h5⟩ n7
/-- a settled core that goes on is still -/
theorem settle_still {D : CoreD} (h : CI D) (hd : (settleD D).1.s.decided = false) (hs : 0 < (settleD D).1.s.step) : Still (settleD D).1 := by
 have hC := h.settle
 rcases settle_done h with h1 | h1
 ·simp [goesB, hd, hs] at h1
 ·exact Still.of_none (fun x hx => (hC.pr x hx).1) hC.rd.1 h1
/-- each heard replica has a vote -/
theorem heard_le_count (f : Int) (L : List VoteD) (r : Int) : heardV f L r ≤ (L.countP fun v => decide (r ≤ v.round) : Nat) := by
 have h1 : ((List.range (3 * f + 1).toNat).filter fun (i : Nat) => L.any fun v => decide (v.replica = (i : Int) ∧ r ≤ v.round)).length ≤ ((L.filter fun v => decide (r ≤ v.round)).map fun v => v.replica.toNat).length := by
  refine nodup_sub_len _ _ (List.Pairwise.filter _ List.nodup_range) ?_
  intro x hx
  simp only [List.mem_filter, List.mem_range, List.any_eq_true, decide_eq_true_eq] at hx
  obtain ⟨_, v, hv, h1, h2⟩ := hx
  exact List.mem_map.2 ⟨v, List.mem_filter.2 ⟨hv, by simpa using h2⟩, by omega⟩
 rw [List.length_map] at h1
 rw [List.countP_eq_length_filter]
 unfold heardV
 omega
/-- the farthest round, where all that are ahead are one -/
theorem farV_eq {f : Int} {L : List VoteD} {a m r : Int} (h1 : ∀ v ∈ L, a < v.round → v.round = r) (h2 : ∃ v ∈ L, v.round = r) (ha : 0 ≤ a) (har : a < r) (hm : m ≤ heardV f L r) : farV f L a m = r := by
 obtain ⟨u, hu, rfl⟩ := h2
 rcases farV_spec f L a m ha with ⟨_, h4⟩ | ⟨v, hv, h3, h4, _⟩
 ·have := h4 u hu
  simp [farP, har] at this
  omega
 ·rw [h4]
  simp [farP] at h3
  exact h1 v hv h3.1
theorem forV_le_all (L : List VoteD) (k r : Int) (h : Hash) : forV L k r h ≤ allV L k r := by
 unfold forV allV
 have := List.countP_mono_left (l := L) (p := fun v => decide (v.kind = k ∧ v.round = r ∧ v.h = h)) (q := fun v => decide (v.kind = k ∧ v.round = r)) (fun v _ hv => by
  simp only [decide_eq_true_eq] at hv ⊢; exact ⟨hv.1, hv.2.1⟩)
 omega
/-- one replica alone has one vote of a kind and round -/
theorem all_one {f : Int} {L : List VoteD} (h : VInv f L) (k r p : Int) (ho : ∀ v ∈ L, v.kind = k → v.round = r → v.replica = p) : allV L k r ≤ 1 := by
 unfold allV
 rw [List.countP_eq_length_filter]
 have h1 : (L.filter fun v => decide (v.kind = k ∧ v.round = r)).Pairwise fun u v => ¬ (u.kind = v.kind ∧ u.round = v.round ∧ u.replica = v.replica) := List.Pairwise.filter _ h.one
 generalize hM : (L.filter fun v => decide (v.kind = k ∧ v.round = r)) = M at h1
 match M, h1 with
 | [], _ => simp
 | [_], _ => simp
 | a :: b :: M, h1 =>
  exfalso
  have ha : a ∈ L.filter fun v => decide (v.kind = k ∧ v.round = r) := by rw [hM]; simp
  have hb : b ∈ L.filter fun v => decide (v.kind = k ∧ v.round = r) := by rw [hM]; simp
  simp only [List.mem_filter, decide_eq_true_eq] at ha hb
  refine (List.pairwise_cons.1 h1).1 b (by simp) ⟨by rw [ha.2.1, hb.2.1], by rw [ha.2.2, hb.2.2], ?_⟩
  rw [ho a ha.1 ha.2.1 ha.2.2, ho b hb.1 hb.2.1 hb.2.2]
theorem mem_addV {f : Int} {L : List VoteD} {v u : VoteD} (h : u ∈ addV f L v) : u ∈ L ∨ u = v := by
 unfold addV at h
 split at h
 ·rcases List.mem_append.1 h with h | h
  ·exact .inl h
  ·exact .inr (List.mem_singleton.1 h)
 ·exact .inl h
theorem addV_sub {f : Int} {L : List VoteD} {v u : VoteD} (h : u ∈ L) : u ∈ addV f L v := by
 unfold addV
 split
 ·exact List.mem_append_left _ h
 ·exact h
theorem forV_app (L M : List VoteD) (k r : Int) (h : Hash) : forV (L ++ M) k r h = forV L k r h + forV M k r h := by
 unfold forV; rw [List.countP_append]; omega
theorem allV_app (L M : List VoteD) (k r : Int) : allV (L ++ M) k r = allV L k r + allV M k r := by
 unfold allV; rw [List.countP_append]; omega
theorem forV_filter (L : List VoteD) (k r : Int) (h : Hash) : forV L k r h = forV (L.filter fun v => decide (v.kind = k)) k r h := by
 unfold forV
 rw [List.countP_filter]
 congr 2
 funext v
 by_cases hk : v.kind = k <;> simp [hk]
theorem forV_none {L : List VoteD} {k r : Int} {h : Hash} (hn : ∀ v ∈ L, ¬ (v.kind = k ∧ v.round = r ∧ v.h = h)) : forV L k r h = 0 := by
 unfold forV
 have : (L.countP fun v => decide (v.kind = k ∧ v.round = r ∧ v.h = h)) = 0 := List.countP_eq_zero.2 fun v hv => by simpa using hn v hv
 omega
theorem allV_none {L : List VoteD} {k r : Int} (hn : ∀ v ∈ L, ¬ (v.kind = k ∧ v.round = r)) : allV L k r = 0 := by
 unfold allV
 have : (L.countP fun v => decide (v.kind = k ∧ v.round = r)) = 0 := List.countP_eq_zero.2 fun v hv => by simpa using hn v hv
 omega
theorem settle_one {D D' : CoreD} {A : List ActD} (h : CI D) (hg : goesB D = true) (hr : ruleD D = some (D', A)) (hn : goesB D' = false ∨ ruleD D' = none) : settleD D = (D', A) := by
 rw [settle_step h hg hr]
 rcases hn with hn | hn
 ·rw [settle_stop hn]; simp
 ·rw [settle_none hn]; simp
/-- the first n replicas' votes -/
def gv (kind round : Int) (x : Hash) (n : Nat) : List VoteD := (List.range n).map fun (i : Nat) => ⟨kind, round, (i : Int), x⟩
theorem gv_succ (kind round : Int) (x : Hash) (n : Nat) : gv kind round x (n + 1) = gv kind round x n ++ [⟨kind, round, n, x⟩] := by
 unfold gv; rw [List.range_succ, List.map_append]; rfl
theorem gv_mem {kind round : Int} {x : Hash} {n : Nat} {v : VoteD} (h : v ∈ gv kind round x n) : v.kind = kind ∧ v.round = round ∧ v.h = x ∧ 0 ≤ v.replica ∧ v.replica < n := by
 obtain ⟨i, hi, rfl⟩ := List.mem_map.1 h
 rw [List.mem_range] at hi
 exact ⟨rfl, rfl, rfl, by show (0 : Int) ≤ (i : Int); omega, by show (i : Int) < n; omega⟩
theorem gv_for (kind round : Int) (x : Hash) (n : Nat) : forV (gv kind round x n) kind round x = n := by
 unfold forV gv
 rw [List.countP_eq_length.2]
 ·simp
 ·intro v hv
  have := gv_mem hv
  simp [this]
theorem gv_all (kind round : Int) (x : Hash) (n : Nat) : allV (gv kind round x n) kind round = n := by
 unfold allV gv
 rw [List.countP_eq_length.2]
 ·simp
 ·intro v hv
  have := gv_mem hv
  simp [this]
/-- a hash, or where it is none another one -/
def hashB (i : Nat) : Hash := ⟨(List.range 32).map fun j => if j = i then 1 else 0, by simp⟩
def fixH (h : Hash) (i : Nat) : Hash := if h = hash0 then hashB i else h
theorem fixH_ne (h : Hash) (i : Nat) (hi : i < 32) : fixH h i ≠ hash0 := by
 unfold fixH
 split
 ·intro e
  have e0 : hash0.l.getD i 0 = 0 := by
   show (List.replicate 32 0).getD i 0 = 0
   rw [List.getD_eq_getElem?_getD, List.getElem?_replicate]
   split <;> rfl
  have e1 : (hashB i).l.getD i 0 = 1 := by simp [hashB, List.getD, hi]
  rw [e, e0] at e1
  exact absurd e1 (by decide)
 ·assumption
/-- the votes of the first n replicas, handed in -/
noncomputable def votesD (D : CoreD) (kind round : Int) (x : Hash) : Nat → CoreD
 | 0 => D
 | n + 1 => (voteD' (votesD D kind round x n) kind round (n : Int) x).1
theorem votesCI {D : CoreD} (h : CI D) (kind round : Int) (x : Hash) : ∀ n, CI (votesD D kind round x n)
 | 0 => h
 | n + 1 => (votesCI h kind round x n).vote _ _ _ _
/-- what those votes want -/
noncomputable def votesA (D : CoreD) (kind round : Int) (x : Hash) : Nat → List ActD
 | 0 => []
 | n + 1 => votesA D kind round x n ++ (voteD' (votesD D kind round x n) kind round (n : Int) x).2
theorem vote_le {D : CoreD} (h : CI D) (kind round p : Int) (x : Hash) : (voteD' D kind round p x).2.length ≤ 8388620 := by
 unfold voteD'
 split
 ·simp
 ·exact settle_le (h.addD _ _ _ _)
theorem propose_le {D : CoreD} (h : CI D) (round valid : Int) (x : Hash) (ok : Bool) : (proposeD D round valid x ok).2.length ≤ 8388620 := by
 unfold proposeD
 split
 ·simp
 ·rename_i hb; exact settle_le (h.put (by simpa using hb))
theorem start_le {D : CoreD} (h : CI D) : (startD D).2.length ≤ 8388621 := by
 unfold startD
 split
 ·simp
 ·have := settle_le (h.to 0 (by omega))
  rw [List.length_append, enterA_len]; omega
theorem time_le {D : CoreD} (h : CI D) (kind round : Int) : (timeD D kind round).2.length ≤ 8388621 := by
 unfold timeD
 split
 ·simp
 split
 ·have := settle_le (h.own 1 2 (by omega) hash0)
  rw [List.length_append]; simp only [ownA, List.length_singleton]; omega
 split
 ·have := settle_le (h.own 2 3 (by omega) hash0)
  rw [List.length_append]; simp only [ownA, List.length_singleton]; omega
 split
 ·have := settle_le h.next
  have := nextA_len D (D.s.round + 1)
  rw [List.length_append]; omega
 ·have := settle_le h; omega
theorem votesA_len {D : CoreD} (h : CI D) (kind round : Int) (x : Hash) : ∀ n, (votesA D kind round x n).length ≤ n * 8388620
 | 0 => by simp [votesA]
 | n + 1 => by
  have := votesA_len h kind round x n
  have := vote_le (votesCI h kind round x n) kind round (n : Int) x
  simp only [votesA, List.length_append]; omega
structure LaterOk (want : Hash) (A : List ActD) (D : CoreD) : Prop where
 all : ∀ a ∈ A, a.kind = 2 → a.round = 2 ∧ a.h = want
 one : (A.countP fun a => decide (a.kind = 2)) = 1
 rd : D.s.round = 2
 st : D.s.step = 2
theorem gv_len (kind round : Int) (x : Hash) (n : Nat) : (gv kind round x n).length = n := by simp [gv]
theorem gv_inv (f kind round : Int) (x : Hash) (n : Nat) (hn : (n : Int) ≤ 3 * f + 1) : VInv f (gv kind round x n) := by
 refine ⟨?_, ?_⟩
 ·intro v hv
  have := gv_mem hv
  simp [inB]; omega
 ·unfold gv
  rw [List.pairwise_map]
  refine List.Pairwise.imp ?_ (List.nodup_iff_pairwise_ne.1 List.nodup_range)
  intro a b hab e
  have := e.2.2
  simp at this
  omega
/-- the next replica's vote is taken -/
theorem gv_ok {f kind round : Int} {n : Nat} {L : List VoteD} (hL : ∀ v ∈ L, v.kind = kind → v.round = round → v.replica < (n : Int)) (hk : kind = 1 ∨ kind = 2) (hr : 0 ≤ round ∧ round ≤ 1048576) (hn : (n : Int) < 3 * f + 1) : okV f L kind round (n : Int) = true := by
 have hno : (L.any fun v => decide (v.kind = kind ∧ v.round = round ∧ v.replica = (n : Int))) = false := by
  rw [List.any_eq_false]
  intro v hv
  simp only [decide_eq_true_eq]
  rintro ⟨a, b, c⟩
  have := hL v hv a b
  omega
 simp only [okV, hno, inB]
 simp
 omega
end Go.Proofs.Ythjmbhneifjeeaa
