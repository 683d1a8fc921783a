/- WHAT IS PROVED: what comes twice counts once. Conditions: stated with each. -/
import Derived.Test.YthjmbhneifjeeaaCoreRun
import Derived.Test.YthjmbhneifjeeaaInputs14
namespace Go.Proofs.Ythjmbhneifjeeaa
open Go.RowKit
theorem rule_keeps {D D' : CoreD} {A : List ActD} (hr : ruleD D = some (D', A)) : D'.f = D.f ∧ D'.P = D.P ∧ ∀ v ∈ D.L, v ∈ D'.L := by
  have own : ∀ k s x, (ownV D k s x).f = D.f ∧ (ownV D k s x).P = D.P ∧ ∀ v ∈ D.L, v ∈ (ownV D k s x).L := fun k s x => ⟨rfl, rfl, fun v hv => addV_sub hv⟩
  unfold ruleD at hr
  split at hr
  · simp only [Option.some.injEq, Prod.mk.injEq] at hr; obtain ⟨rfl, _⟩ := hr
    exact ⟨rfl, rfl, fun _ h => h⟩
  split at hr
  · simp only [Option.some.injEq, Prod.mk.injEq] at hr; obtain ⟨rfl, _⟩ := hr
    exact ⟨rfl, rfl, fun _ h => h⟩
  split at hr
  · simp only [Option.some.injEq, Prod.mk.injEq] at hr; obtain ⟨rfl, _⟩ := hr
    exact own _ _ _
  split at hr
  · split at hr
    · simp only [Option.some.injEq, Prod.mk.injEq] at hr; obtain ⟨rfl, _⟩ := hr
      exact ⟨rfl, rfl, fun v hv => addV_sub hv⟩
    · simp only [Option.some.injEq, Prod.mk.injEq] at hr; obtain ⟨rfl, _⟩ := hr
      exact ⟨rfl, rfl, fun _ h => h⟩
  split at hr
  · simp only [Option.some.injEq, Prod.mk.injEq] at hr; obtain ⟨rfl, _⟩ := hr
    exact own _ _ _
  split at hr
  · simp only [Option.some.injEq, Prod.mk.injEq] at hr; obtain ⟨rfl, _⟩ := hr
    exact ⟨rfl, rfl, fun _ h => h⟩
  split at hr
  · simp only [Option.some.injEq, Prod.mk.injEq] at hr; obtain ⟨rfl, _⟩ := hr
    exact ⟨rfl, rfl, fun _ h => h⟩
  · cases hr
theorem settle_keeps {D : CoreD} (h : CI D) : (settleD D).1.f = D.f ∧ (settleD D).1.P = D.P ∧ ∀ v ∈ D.L, v ∈ (settleD D).1.L :=
  settle_ind (fun D _ D1 _ => D1.f = D.f ∧ D1.P = D.P ∧ ∀ v ∈ D.L, v ∈ D1.L) h [] (fun _ _ _ _ _ _ hr hp => by
    obtain ⟨a, b, c⟩ := rule_keeps hr
    exact ⟨a.trans hp.1, b.trans hp.2.1, fun v hv => c v (hp.2.2 v hv)⟩) ⟨rfl, rfl, fun _ h => h⟩
theorem look_self (M : List (Int × PropD)) (r : Int) (p : PropD) : (lookM (putM M r p) r).isSome = true := by rw [look_put_same]; rfl
theorem propose_twice {D D2 : CoreD} {A : List ActD} {r v : Int} {x : Hash} {ok : Bool} (h : CI D) (he : proposeD D r v x ok = (D2, A)) (ok2 : Bool) : proposeD D2 r v x ok2 = (D2, []) := by
  have hb : propBad D2 r v x = true := by
    unfold proposeD at he
    split at he
    · rename_i hb
      simp only [Prod.mk.injEq] at he
      rw [← he.1]; exact hb
    · rename_i hb
      have hk := (settle_keeps (h.put (ok := ok) (by simpa using hb))).2.1
      rw [he] at hk
      have hk : D2.P = putM D.P r ⟨v, x, ok⟩ := hk
      simp [propBad, hasP, hk, look_self]
  unfold proposeD
  rw [if_pos hb]
theorem vote_twice {D D2 : CoreD} {A : List ActD} {k r p : Int} {x : Hash} (h : CI D) (he : voteD' D k r p x = (D2, A)) (y : Hash) : voteD' D2 k r p y = (D2, []) := by
  have hb : D2.s.decided = true ∨ okV D2.f D2.L k r p = false := by
    unfold voteD' at he
    split at he
    · rename_i hb
      simp only [Prod.mk.injEq] at he
      rw [← he.1]; exact hb
    · rename_i hb
      have hk := settle_keeps (h.addD k r p x)
      rw [he] at hk
      refine .inr ?_
      have hok : okV D.f D.L k r p = true := by
        cases e : okV D.f D.L k r p
        · exact absurd (.inr e) hb
        · rfl
      have hm : (⟨k, r, p, x⟩ : VoteD) ∈ D2.L := hk.2.2 _ (by show _ ∈ addV D.f D.L ⟨k, r, p, x⟩; rw [addV_yes (v := ⟨k, r, p, x⟩) hok]; simp)
      simp only [okV, Bool.not_eq_false']
      rw [Bool.or_eq_true]
      exact .inr (List.any_eq_true.2 ⟨_, hm, by simp⟩)
  unfold voteD'
  rw [if_pos hb]
noncomputable def dbS (D : CoreD) (x : InputD) : CoreD :=
  if withinV x.doo 8 = 0 ∨ withinV x.doo 8 = 1 then (proposeD D x.round x.valid x.h x.ok).1
  else if withinV x.doo 8 = 6 ∨ withinV x.doo 8 = 7 then D
  else (voteD' D x.kind x.round x.replica x.h).1
noncomputable def dbD (n : Int) (ls : List InputD) (D : CoreD) : Nat → CoreD
  | 0 => D
  | k + 1 => dbS (dbD n ls D k) (cutI n (ls.getD k inD0))
theorem dbCI {n : Int} {ls : List InputD} {D : CoreD} (h : CI D) : ∀ k, CI (dbD n ls D k)
  | 0 => h
  | k + 1 => by
    have ih := dbCI (n := n) (ls := ls) h k
    simp only [dbD, dbS]
    split
    · exact ih.propose _ _ _ _
    split
    · exact ih
    · exact ih.vote _ _ _ _
end Go.Proofs.Ythjmbhneifjeeaa
