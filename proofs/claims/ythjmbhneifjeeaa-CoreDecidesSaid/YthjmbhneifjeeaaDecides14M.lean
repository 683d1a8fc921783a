/- WHAT IS PROVED: when a core decides to which one proposal and the precommits of the first replicas come. Conditions: stated with each. -/
import Derived.Test.YthjmbhneifjeeaaTimes14M
import Derived.Test.YthjmbhneifjeeaaCoreRun
namespace Go.Proofs.Ythjmbhneifjeeaa
open Go.RowKit
structure DK (F R : Int) (x : Hash) (ok pr : Bool) (n : Nat) (D : CoreD) : Prop where
  ci : CI D
  f : D.f = F
  st : 1 ≤ D.s.step
  P : D.P = if pr = true then [(R, ⟨-1, x, ok⟩)] else []
  g : D.L.filter (fun v => decide (v.kind = 2)) = gv 2 R x n
  own : ∀ v ∈ D.L, v.kind = 1 → v.replica = D.replica
  dec : D.s.decided = true → pr = true ∧ ok = true ∧ 2 * F + 1 ≤ n ∧ D.s.decision = x
  nd : D.s.decided = false → D.s.decision = hash0
section
variable {F R : Int} {x : Hash} {ok pr : Bool} {n : Nat} {D : CoreD}
theorem DK.pre (h : DK F R x ok pr n D) (r : Int) : allV D.L 1 r ≤ 1 := all_one h.ci.V 1 r D.replica (fun v hv hk _ => h.own v hv hk)
theorem DK.prex (h : DK F R x ok pr n D) (r : Int) (y : Hash) : forV D.L 1 r y ≤ 1 := Int.le_trans (forV_le_all _ _ _ _) (h.pre r)
theorem DK.com (h : DK F R x ok pr n D) (r : Int) (y : Hash) : forV D.L 2 r y = forV (gv 2 R x n) 2 r y := by rw [forV_filter, h.g]
theorem DK.get (h : DK F R x ok pr n D) {r : Int} (hr : ∃ q ∈ D.P, q.1 = r) : pr = true ∧ r = R ∧ getP D.P r = ⟨-1, x, ok⟩ := by
  obtain ⟨q, hq, rfl⟩ := hr
  rw [h.P] at hq
  split at hq
  · rename_i hp
    rw [List.mem_singleton] at hq
    subst hq
    exact ⟨hp, rfl, by rw [h.P, if_pos hp]; simp [getP, lookM]⟩
  · simp at hq
theorem filter_own {f : Int} {L : List VoteD} {v : VoteD} (hv : v.kind = 1) : (addV f L v).filter (fun v => decide (v.kind = 2)) = L.filter (fun v => decide (v.kind = 2)) := by
  unfold addV
  split
  · rw [List.filter_append]; simp [hv]
  · rfl
theorem DK.rule (h : DK F R x ok pr n D) (hF : 1 ≤ F) {D' : CoreD} {A : List ActD} (hr : ruleD D = some (D', A)) : DK F R x ok pr n D' := by
  have hc := h.ci.rule hr
  have hf := h.f
  unfold ruleD at hr
  split at hr
  · rename_i hl
    simp only [Option.some.injEq, Prod.mk.injEq] at hr; obtain ⟨rfl, _⟩ := hr
    rcases leastV_spec D.f D.L D.P (fun x hx => (h.ci.pr x hx).1) with ⟨h1, _⟩ | ⟨q, hq, h1, h2, _⟩
    · omega
    · obtain ⟨p1, p2, p3⟩ := h.get ⟨q, hq, rfl⟩
      refine ⟨hc, h.f, h.st, h.P, h.g, h.own, fun _ => ?_, fun e => ?_⟩
      · have hq2 : q = (R, ⟨-1, x, ok⟩) := by
          have := hq; rw [h.P, if_pos p1, List.mem_singleton] at this; exact this
        subst hq2
        unfold leastP at h1
        simp only [Bool.and_eq_true, decide_eq_true_eq] at h1
        have h3 := h.com R x
        rw [gv_for] at h3
        refine ⟨p1, h1.1, by omega, ?_⟩
        show (getP D.P (leastV D.f D.L D.P)).h = x
        rw [h2, p3]
      · simp [decideD] at e
  split at hr
  · simp only [Option.some.injEq, Prod.mk.injEq] at hr; obtain ⟨rfl, _⟩ := hr
    exact ⟨hc, h.f, by simp [toD], h.P, h.g, h.own, h.dec, h.nd⟩
  split at hr
  · simp only [Option.some.injEq, Prod.mk.injEq] at hr; obtain ⟨rfl, _⟩ := hr
    refine ⟨hc, h.f, by simp [ownV], h.P, (filter_own rfl).trans h.g, ?_, h.dec, h.nd⟩
    intro v hv hk
    rcases mem_addV hv with hv | rfl
    · exact h.own v hv hk
    · rfl
  split at hr
  · rename_i hc4
    have := h.prex D.s.round (getP D.P D.s.round).h
    omega
  split at hr
  · rename_i hc5
    have := h.prex D.s.round hash0
    omega
  split at hr
  · rename_i hc6
    have := h.pre D.s.round
    omega
  split at hr
  · simp only [Option.some.injEq, Prod.mk.injEq] at hr; obtain ⟨rfl, _⟩ := hr
    exact ⟨hc, h.f, h.st, h.P, h.g, h.own, h.dec, h.nd⟩
  · cases hr
theorem DK.settle (h : DK F R x ok pr n D) (hF : 1 ≤ F) : DK F R x ok pr n (settleD D).1 :=
  settle_ind (fun _ _ D1 _ => DK F R x ok pr n D1) h.ci [] (fun _ _ _ _ _ _ hr hp => hp.rule hF hr) h
/-- settled: it has decided where it can -/
theorem DK.done (h : DK F R x ok pr n D) (hF : 1 ≤ F) : (settleD D).1.s.decided = (pr && ok && decide (2 * F + 1 ≤ (n : Int))) := by
  have h1 := h.settle hF
  cases hd : (settleD D).1.s.decided
  · have hs := settle_still h.ci hd (by have := h1.st; omega)
    cases hp : pr
    · rfl
    · cases ho : ok
      · rfl
      · subst hp ho
        have := hs.least (R, ⟨-1, x, true⟩) (by rw [h1.P]; simp) rfl
        rw [h1.com, gv_for, h1.f] at this
        simp; omega
  · obtain ⟨a, b, c, _⟩ := h1.dec hd
    simp [a, b, c]
end
structure DKs (F R : Int) (x : Hash) (ok pr : Bool) (n : Nat) (D : CoreD) : Prop where
  k : DK F R x ok pr n D
  d : D.s.decided = (pr && ok && decide (2 * F + 1 ≤ (n : Int)))
section
variable {F R : Int} {x : Hash} {ok pr : Bool} {n : Nat} {D : CoreD}
theorem DK.s (h : DK F R x ok pr n D) (hF : 1 ≤ F) : DKs F R x ok pr n (settleD D).1 := ⟨h.settle hF, h.done hF⟩
theorem DKs.start (hf : 1 ≤ F ∧ F ≤ 3) : DKs F R x ok false 0 (startD (newD F 1 0 (3 * F + 1 - 1))).1 := by
  have h0 : DK F R x ok false 0 (toD (newD F 1 0 (3 * F + 1 - 1)) 0) := by
    refine ⟨(CI.new (newOk14 hf)).to 0 (by omega), rfl, by simp [toD], rfl, rfl, by simp [toD, newD], by simp [toD, newD, newS], fun _ => rfl⟩
  have : (startD (newD F 1 0 (3 * F + 1 - 1))).1 = (settleD (toD (newD F 1 0 (3 * F + 1 - 1)) 0)).1 := by
    unfold startD
    rw [if_neg (by simp [newD, newS])]
  rw [this]
  exact h0.s hf.1
theorem DKs.propose (h : DKs F R x ok false n D) (hf : 1 ≤ F) (hR : 0 ≤ R ∧ R ≤ 1048576) (hx : x ≠ hash0) : DKs F R x ok true n (proposeD D R (-1) x ok).1 := by
  have hb : propBad D R (-1) x = false := by
    have hd : D.s.decided = false := by rw [h.d]; rfl
    have hP := h.k.P
    rw [if_neg (by simp)] at hP
    simp [propBad, hd, hasP, hP, lookM, hx]
    omega
  unfold proposeD
  rw [if_neg (by rw [hb]; simp)]
  refine DK.s ⟨h.k.ci.put hb, h.k.f, h.k.st, ?_, h.k.g, h.k.own, fun e => ?_, h.k.nd⟩ hf
  · have hP := h.k.P
    rw [if_neg (by simp)] at hP
    simp [putD, hP, putM]
  · have : D.s.decided = true := e
    rw [h.d] at this; cases this
theorem DKs.vote (h : DKs F R x ok pr n D) (hf : 1 ≤ F) (hR : 0 ≤ R ∧ R ≤ 1048576) (hn : (n : Int) < 2 * F + 1) : DKs F R x ok pr (n + 1) (voteD' D 2 R (n : Int) x).1 := by
  have hd : D.s.decided = false := by rw [h.d, show decide (2 * F + 1 ≤ (n : Int)) = false from decide_eq_false (by omega), Bool.and_false]
  have hok : okV D.f D.L 2 R (n : Int) = true := by
    rw [h.k.f]
    have hno : (D.L.any fun v => decide (v.kind = 2 ∧ v.round = R ∧ v.replica = (n : Int))) = false := by
      rw [List.any_eq_false]
      intro v hv
      simp only [decide_eq_true_eq]
      rintro ⟨a, b, c⟩
      have hm : v ∈ gv 2 R x n := by rw [← h.k.g]; exact List.mem_filter.2 ⟨hv, by simpa using a⟩
      have := gv_mem hm
      omega
    simp only [okV, hno, inB]
    simp
    omega
  unfold voteD'
  rw [if_neg (by rw [hd, hok]; simp)]
  have hL : (addD D 2 R (n : Int) x).L = D.L ++ [⟨2, R, n, x⟩] := addV_yes (v := ⟨2, R, n, x⟩) hok
  refine DK.s ⟨h.k.ci.addD _ _ _ _, h.k.f, h.k.st, h.k.P, ?_, ?_, fun e => ?_, h.k.nd⟩ hf
  · rw [hL, List.filter_append, h.k.g, gv_succ]; rfl
  · rw [hL]
    intro v hv hk
    rcases List.mem_append.1 hv with hv | hv
    · exact h.k.own v hv hk
    · rw [List.mem_singleton] at hv; subst hv; simp at hk
  · have : D.s.decided = true := e
    rw [hd] at this; cases this
theorem DKs.votes (h : DKs F R x ok pr 0 D) (hf : 1 ≤ F) (hR : 0 ≤ R ∧ R ≤ 1048576) : ∀ n : Nat, (n : Int) ≤ 2 * F + 1 → DKs F R x ok pr n (votesD D 2 R x n)
  | 0, _ => h
  | n + 1, hn => (DKs.votes h hf hR n (by omega)).vote hf hR (by omega)
theorem DKs.fin (h : DKs F R x ok true n D) {want : Bool} (hw : want = (ok && decide (2 * F + 1 ≤ (n : Int)))) : D.s.decided = want ∧ (want = true → D.s.decision = x) ∧ (want = false → D.s.decision = hash0) := by
  have hd : D.s.decided = want := by rw [h.d, hw]; rfl
  exact ⟨hd, fun e => (h.k.dec (hd.trans e)).2.2.2, fun e => h.k.nd (hd.trans e)⟩
end
end Go.Proofs.Ythjmbhneifjeeaa
