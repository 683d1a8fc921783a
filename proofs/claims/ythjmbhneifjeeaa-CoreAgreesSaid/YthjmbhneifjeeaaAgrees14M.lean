/- WHAT IS PROVED: cores that hear one another, of which some lie, do not decide unlike hashes. Conditions: stated with each. -/
import Derived.Test.YthjmbhneifjeeaaSaid14
import Derived.Test.YthjmbhneifjeeaaCoreRun
namespace Go.Proofs.Ythjmbhneifjeeaa
open Go.RowKit
theorem forV_add {f : Int} {L : List VoteD} (v : VoteD) (k r : Int) (h : Hash) : forV L k r h ≤ forV (addV f L v) k r h := by
  unfold addV
  split
  · rw [forV_app]
    have := forV_nonneg [v] k r h
    omega
  · exact Int.le_refl _
/-- what a core's own doing keeps, over all that it ever wanted -/
structure LI (A : List ActD) (D : CoreD) : Prop where
  ci : CI D
  rd : ∀ a ∈ A, a.kind = 2 ∨ a.kind = 3 → a.round ≤ D.s.round
  st : ∀ a ∈ A, a.kind = 2 ∨ a.kind = 3 → a.round = D.s.round → a.kind ≤ D.s.step
  one : ∀ a ∈ A, ∀ b ∈ A, a.kind = 2 ∨ a.kind = 3 → a.kind = b.kind → a.round = b.round → a.h = b.h
  pc : ∀ a ∈ A, a.kind = 3 → a.h ≠ hash0 → 2 * D.f + 1 ≤ forV D.L 1 a.round a.h ∧ a.round ≤ D.s.lr ∧ (a.round = D.s.lr → a.h = D.s.locked)
  lk : 0 ≤ D.s.lr → 2 * D.f + 1 ≤ forV D.L 1 D.s.lr D.s.locked
  lr : D.s.lr ≤ D.s.round ∧ (D.s.step ≤ 1 → D.s.lr < D.s.round)
  pv : ∀ a ∈ A, ∀ b ∈ A, a.kind = 2 → a.h ≠ hash0 → b.kind = 3 → b.h ≠ hash0 → b.round < a.round → a.h = b.h ∨ ∃ v, b.round ≤ v ∧ v < a.round ∧ 2 * D.f + 1 ≤ forV D.L 1 v a.h
  dec : D.s.decided = true → D.s.decision ≠ hash0 ∧ ∃ r, 2 * D.f + 1 ≤ forV D.L 2 r D.s.decision
  own : ∀ v ∈ D.L, v.replica = D.replica → ∃ a ∈ A, a.kind = v.kind + 1 ∧ a.round = v.round ∧ a.h = v.h
/-- only the state's other parts, the timers' marks, the proposals, or acts that are no votes -/
theorem LI.same {A B : List ActD} {D D' : CoreD} (h : LI A D) (hc : CI D') (hf : D'.f = D.f) (hp : D'.replica = D.replica) (hL : D'.L = D.L) (h1 : D'.s.round = D.s.round) (h2 : D'.s.step = D.s.step) (h3 : D'.s.lr = D.s.lr) (h4 : D'.s.locked = D.s.locked) (h5 : D'.s.decided = true → D'.s.decision ≠ hash0 ∧ ∃ r, 2 * D.f + 1 ≤ forV D.L 2 r D'.s.decision)
    (hB : ∀ a ∈ B, a.kind ≠ 2 ∧ a.kind ≠ 3) : LI (A ++ B) D' := by
  have hm : ∀ a ∈ A ++ B, a.kind = 2 ∨ a.kind = 3 → a ∈ A := fun a ha hk => by
    rcases List.mem_append.1 ha with ha | ha
    · exact ha
    · have := hB a ha; omega
  refine ⟨hc, ?_, ?_, ?_, ?_, ?_, ?_, ?_, ?_, ?_⟩
  · intro a ha hk; rw [h1]; exact h.rd a (hm a ha hk) hk
  · intro a ha hk; rw [h1, h2]; exact h.st a (hm a ha hk) hk
  · intro a ha b hb hk hab; exact h.one a (hm a ha hk) b (hm b hb (by omega)) hk hab
  · intro a ha hk; rw [hf, hL, h3, h4]; exact h.pc a (hm a ha (.inr hk)) hk
  · rw [hf, hL, h3, h4]; exact h.lk
  · rw [h1, h2, h3]; exact h.lr
  · intro a ha b hb hk h0 hk2; rw [hf, hL]; exact h.pv a (hm a ha (.inl hk)) b (hm b hb (.inr hk2)) hk h0 hk2
  · rw [hf, hL]; exact h5
  · intro v hv hr; rw [hL] at hv; rw [hp] at hr
    obtain ⟨a, ha, q⟩ := h.own v hv hr
    exact ⟨a, List.mem_append_left _ ha, q⟩
/-- somebody else's vote, or one that was said -/
theorem LI.more {A : List ActD} {D : CoreD} (h : LI A D) (kind round p : Int) (x : Hash) (ho : p = D.replica → ∃ a ∈ A, a.kind = kind + 1 ∧ a.round = round ∧ a.h = x) : LI A (addD D kind round p x) := by
  have hm := fun k r y => forV_add (f := D.f) (L := D.L) ⟨kind, round, p, x⟩ k r y
  refine ⟨h.ci.addD _ _ _ _, h.rd, h.st, h.one, ?_, ?_, h.lr, ?_, ?_, ?_⟩
  · intro a ha hk h0
    have := h.pc a ha hk h0
    exact ⟨Int.le_trans this.1 (hm _ _ _), this.2⟩
  · intro hl; exact Int.le_trans (h.lk hl) (hm _ _ _)
  · intro a ha b hb h1 h2 h3 h4 h5
    rcases h.pv a ha b hb h1 h2 h3 h4 h5 with q | ⟨v, q1, q2, q3⟩
    · exact .inl q
    · exact .inr ⟨v, q1, q2, Int.le_trans q3 (hm _ _ _)⟩
  · intro hd
    obtain ⟨q1, r, q2⟩ := h.dec hd
    exact ⟨q1, r, Int.le_trans q2 (hm _ _ _)⟩
  · intro v hv hr
    rcases mem_addV hv with hv | rfl
    · exact h.own v hv hr
    · exact ho hr
/-- a vote of its own -/
theorem LI.vote {A : List ActD} {D : CoreD} (h : LI A D) (kind : Int) (hk : kind = 1 ∨ kind = 2) (hs : D.s.step = kind) (x : Hash)
    (h1 : kind = 1 → x ≠ hash0 → ∀ b ∈ A, b.kind = 3 → b.h ≠ hash0 → b.round < D.s.round → x = b.h ∨ ∃ v, b.round ≤ v ∧ v < D.s.round ∧ 2 * D.f + 1 ≤ forV D.L 1 v x)
    (h2 : kind = 2 → x ≠ hash0 → 2 * D.f + 1 ≤ forV D.L 1 D.s.round x ∧ D.s.lr = D.s.round ∧ D.s.locked = x) (hlr : kind = 1 → D.s.lr < D.s.round) :
    LI (A ++ ownA D (kind + 1) x) (ownV D kind (kind + 1) x) := by
  have hm := fun k r y => forV_add (f := D.f) (L := D.L) ⟨kind, D.s.round, D.replica, x⟩ k r y
  have ha : ∀ a ∈ A ++ ownA D (kind + 1) x, a ∈ A ∨ a = ⟨kind + 1, D.s.round, -1, x⟩ := fun a ha => by
    rcases List.mem_append.1 ha with q | q
    · exact .inl q
    · exact .inr (List.mem_singleton.1 q)
  have hno : ∀ a ∈ A, a.kind = kind + 1 → a.round ≠ D.s.round := fun a hA hk' hr => by
    have := h.st a hA (by omega) hr
    omega
  refine ⟨h.ci.own _ _ (by omega) _, ?_, ?_, ?_, ?_, ?_, ?_, ?_, ?_, ?_⟩
  · intro a hA hk'
    rcases ha a hA with q | rfl
    · exact h.rd a q hk'
    · exact Int.le_refl _
  · intro a hA hk' hr
    rcases ha a hA with q | rfl
    · have := h.st a q hk' hr
      show _ ≤ kind + 1
      omega
    · exact Int.le_refl _
  · intro a hA b hB hk' hab hr
    rcases ha a hA with q | rfl <;> rcases ha b hB with p | rfl
    · exact h.one a q b p hk' hab hr
    · exact absurd hr (hno a q hab)
    · exact absurd hr.symm (hno b p hab.symm)
    · rfl
  · intro a hA hk' h0
    rcases ha a hA with q | rfl
    · have := h.pc a q hk' h0
      exact ⟨Int.le_trans this.1 (hm _ _ _), this.2⟩
    · have hk2 : kind = 2 := by simp only at hk'; omega
      obtain ⟨p1, p2, p3⟩ := h2 hk2 h0
      exact ⟨Int.le_trans p1 (hm _ _ _), by show D.s.round ≤ D.s.lr; omega, fun _ => p3.symm⟩
  · intro hl; exact Int.le_trans (h.lk hl) (hm _ _ _)
  · refine ⟨h.lr.1, fun hs' => ?_⟩
    have : kind + 1 ≤ 1 := hs'
    omega
  · intro a hA b hB k1 z1 k2 z2 hlt
    rcases ha a hA with q | rfl
    · rcases ha b hB with p | rfl
      · rcases h.pv a q b p k1 z1 k2 z2 hlt with r | ⟨v, r1, r2, r3⟩
        · exact .inl r
        · exact .inr ⟨v, r1, r2, Int.le_trans r3 (hm _ _ _)⟩
      · have h4 := h.rd a q (.inl k1)
        have h5 : D.s.round < a.round := hlt
        omega
    · rcases ha b hB with p | rfl
      · have hk1 : kind = 1 := by simp only at k1; omega
        rcases h1 hk1 z1 b p k2 z2 hlt with r | ⟨v, r1, r2, r3⟩
        · exact .inl r
        · exact .inr ⟨v, r1, r2, Int.le_trans r3 (hm _ _ _)⟩
      · have h5 : D.s.round < D.s.round := hlt
        omega
  · intro hd
    obtain ⟨q1, r, q2⟩ := h.dec hd
    exact ⟨q1, r, Int.le_trans q2 (hm _ _ _)⟩
  · intro v hv hr
    rcases mem_addV hv with hv | rfl
    · obtain ⟨a, hA, q⟩ := h.own v hv hr
      exact ⟨a, List.mem_append_left _ hA, q⟩
    · exact ⟨⟨kind + 1, D.s.round, -1, x⟩, List.mem_append_right _ (List.mem_singleton.2 rfl), rfl, rfl, rfl⟩
/-- a later round -/
theorem LI.to {A B : List ActD} {D : CoreD} (h : LI A D) (r : Int) (hr : D.s.round < r ∧ r ≤ 1048576) (hB : ∀ a ∈ B, a.kind ≠ 2 ∧ a.kind ≠ 3) : LI (A ++ B) (toD D r) := by
  have hm : ∀ a ∈ A ++ B, a.kind = 2 ∨ a.kind = 3 → a ∈ A := fun a ha hk => by
    rcases List.mem_append.1 ha with ha | ha
    · exact ha
    · have := hB a ha; omega
  have h0 := h.ci.rd
  refine ⟨h.ci.to r (by omega), ?_, ?_, ?_, ?_, h.lk, ?_, ?_, h.dec, ?_⟩
  · intro a ha hk
    have := h.rd a (hm a ha hk) hk
    show a.round ≤ r
    omega
  · intro a ha hk hr'
    have := h.rd a (hm a ha hk) hk
    have h2 : a.round = r := hr'
    omega
  · intro a ha b hb hk hab; exact h.one a (hm a ha hk) b (hm b hb (by omega)) hk hab
  · intro a ha hk; exact h.pc a (hm a ha (.inr hk)) hk
  · have := h.lr.1
    exact ⟨by show D.s.lr ≤ r; omega, fun _ => by show D.s.lr < r; omega⟩
  · intro a ha b hb hk z hk2; exact h.pv a (hm a ha (.inl hk)) b (hm b hb (.inr hk2)) hk z hk2
  · intro v hv hr'
    obtain ⟨a, ha, q⟩ := h.own v hv hr'
    exact ⟨a, List.mem_append_left _ ha, q⟩
theorem enterA_no (D : CoreD) (r : Int) : ∀ a ∈ enterA D r, a.kind ≠ 2 ∧ a.kind ≠ 3 := by
  intro a ha
  unfold enterA at ha
  split at ha <;> (obtain rfl := List.mem_singleton.1 ha; exact ⟨by simp, by simp⟩)
theorem getP_mem {P : List (Int × PropD)} {r : Int} (hn : (P.map (·.1)).Nodup) (h : hasP P r = true) : (r, getP P r) ∈ P := by
  unfold hasP at h
  obtain ⟨p, hp⟩ := Option.isSome_iff_exists.1 h
  unfold getP
  rw [hp]
  exact (look_mem hn r p).1 hp
/-- each rule keeps it -/
theorem LI.rule {A A' : List ActD} {D D' : CoreD} (h : LI A D) (hr : ruleD D = some (D', A')) : LI (A ++ A') D' := by
  have hC := h.ci
  have hC' := hC.rule hr
  unfold ruleD at hr
  split at hr
  · rename_i hl
    simp only [Option.some.injEq, Prod.mk.injEq] at hr; obtain ⟨rfl, rfl⟩ := hr
    refine h.same hC' rfl rfl rfl rfl rfl rfl rfl (fun _ => ?_) (by simp)
    rcases leastV_spec D.f D.L D.P (fun x hx => (hC.pr x hx).1) with ⟨h1, _⟩ | ⟨x, hx, h1, h2, _⟩
    · omega
    · have hgp : getP D.P x.1 = x.2 := by
        unfold getP
        rw [(look_mem hC.pk x.1 x.2).2 hx]; rfl
      show (getP D.P (leastV D.f D.L D.P)).h ≠ hash0 ∧ ∃ r, 2 * D.f + 1 ≤ forV D.L 2 r (getP D.P (leastV D.f D.L D.P)).h
      rw [h2, hgp]
      simp [leastP] at h1
      exact ⟨(hC.pr x hx).2.2.2.2, x.1, h1.2⟩
  split at hr
  · rename_i hf
    simp only [Option.some.injEq, Prod.mk.injEq] at hr; obtain ⟨rfl, rfl⟩ := hr
    exact h.to _ (farV_lim hC hf) (enterA_no _ _)
  split at hr
  · rename_i hc
    obtain ⟨c1, c2, c3⟩ := hc
    simp only [Option.some.injEq, Prod.mk.injEq] at hr; obtain ⟨rfl, rfl⟩ := hr
    have hl := h.lr.2 (by omega)
    refine h.vote 1 (.inl rfl) c1 _ (fun _ h0 b hb k1 k2 hlt => ?_) (fun e => by cases e) (fun _ => hl)
    obtain ⟨p1, p2, p3⟩ := h.pc b hb k1 k2
    generalize hp : getP D.P D.s.round = p at *
    have hpr := hC.pr _ (getP_mem hC.pk c2)
    rw [hp] at hpr
    unfold chooseD at h0 c3 ⊢
    split at c3
    · simp at c3
    · rename_i hq
      rw [if_neg hq] at h0 ⊢
      split at h0
      · rename_i hy
        rw [if_pos hy]
        show p.h = b.h ∨ _
        have hb0 : 0 ≤ b.round ∨ b.round < 0 := by omega
        rcases hy.2 with hm | hm
        · unfold mayB at hm
          split at hm
          · rename_i hv
            have hm' : D.s.lr ≤ p.valid := by simpa using hm
            refine .inr ⟨p.valid, by omega, hpr.2.2.2.1, ?_⟩
            rcases Int.lt_or_le (forV D.L 1 p.valid p.h) (2 * D.f + 1) with h5 | h5
            · exact absurd ⟨hv, h5⟩ hq
            · exact h5
          · have hm' : D.s.lr < 0 := by simpa using hm
            have hz : b.round < 0 := by omega
            have h6 := p1
            -- no votes of a round below none
            rw [forV_none (fun v hv => by
              rintro ⟨_, q2, _⟩
              have := (hC.R v hv).2.1
              omega)] at h6
            have := hC.f
            omega
        · by_cases he : b.round = D.s.lr
          · exact .inl (by rw [← hm, p3 he])
          · refine .inr ⟨D.s.lr, by omega, hl, ?_⟩
            rw [← hm]
            refine h.lk ?_
            rcases Int.lt_or_le b.round 0 with hz | hz
            · have h6 := p1
              rw [forV_none (fun v hv => by
                rintro ⟨_, q2, _⟩
                have := (hC.R v hv).2.1
                omega)] at h6
              have := hC.f
              omega
            · omega
      · exact absurd rfl h0
  split at hr
  · rename_i hc
    obtain ⟨c1, c2, c3, c4, c5⟩ := hc
    have hpr := hC.pr _ (getP_mem hC.pk c2)
    split at hr
    · rename_i hs
      simp only [Option.some.injEq, Prod.mk.injEq] at hr; obtain ⟨rfl, rfl⟩ := hr
      have h1 : LI A (lockD (wvD D) (getP D.P D.s.round).h) := by
        refine ⟨⟨hC.f, hC.ep, hC.rp, hC.rd, hC.st, hC.V, hC.R, hC.pk, hC.pr⟩, h.rd, h.st, h.one, ?_, fun _ => c5, ?_, h.pv, h.dec, h.own⟩
        · intro a ha hk h0
          obtain ⟨p1, p2, p3⟩ := h.pc a ha hk h0
          refine ⟨p1, h.rd a ha (.inr hk), fun he => ?_⟩
          have he' : a.round = D.s.round := he
          have := h.st a ha (.inr hk) he'
          omega
        · refine ⟨Int.le_refl _, fun hs' => ?_⟩
          have : D.s.step ≤ 1 := hs'
          omega
      have h2 := h1.vote 2 (.inr rfl) hs (getP D.P D.s.round).h (fun e => by cases e) (fun _ _ => ⟨c5, rfl, rfl⟩) (fun e => by cases e)
      have h3 := h2.same (B := []) (D' := validD (ownV (lockD (wvD D) (getP D.P D.s.round).h) 2 3 (getP D.P D.s.round).h) (getP D.P D.s.round).h) hC' rfl rfl rfl rfl rfl rfl rfl h2.dec (by simp)
      rw [List.append_nil] at h3
      exact h3
    · simp only [Option.some.injEq, Prod.mk.injEq] at hr; obtain ⟨rfl, rfl⟩ := hr
      exact h.same hC' rfl rfl rfl rfl rfl rfl rfl h.dec (by simp)
  split at hr
  · rename_i hc
    simp only [Option.some.injEq, Prod.mk.injEq] at hr; obtain ⟨rfl, rfl⟩ := hr
    exact h.vote 2 (.inr rfl) hc.1 _ (fun e => by cases e) (fun _ h0 => absurd rfl h0) (fun e => by cases e)
  split at hr
  · simp only [Option.some.injEq, Prod.mk.injEq] at hr; obtain ⟨rfl, rfl⟩ := hr
    exact h.same hC' rfl rfl rfl rfl rfl rfl rfl h.dec (by simp)
  split at hr
  · simp only [Option.some.injEq, Prod.mk.injEq] at hr; obtain ⟨rfl, rfl⟩ := hr
    exact h.same hC' rfl rfl rfl rfl rfl rfl rfl h.dec (by simp)
  · cases hr
/-- who it is, and whose votes it has, at a core's end -/
structure Grew (D D' : CoreD) : Prop where
  f : D'.f = D.f
  rp : D'.replica = D.replica
  L : ∀ v ∈ D'.L, v ∈ D.L ∨ v.replica = D.replica
theorem Grew.refl (D : CoreD) : Grew D D := ⟨rfl, rfl, fun _ h => .inl h⟩
theorem Grew.trans {D D1 D2 : CoreD} (h : Grew D D1) (k : Grew D1 D2) : Grew D D2 :=
  ⟨k.f.trans h.f, k.rp.trans h.rp, fun v hv => (k.L v hv).elim (h.L v) fun q => .inr (q.trans h.rp)⟩
theorem Grew.own (D : CoreD) (kind step : Int) (x : Hash) : Grew D (ownV D kind step x) :=
  ⟨rfl, rfl, fun v hv => (mem_addV hv).elim .inl fun q => .inr (by rw [q])⟩
theorem Grew.rule {D D' : CoreD} {A' : List ActD} (hr : ruleD D = some (D', A')) : Grew D D' := by
  unfold ruleD at hr
  split at hr
  · simp only [Option.some.injEq, Prod.mk.injEq] at hr; obtain ⟨rfl, rfl⟩ := hr
    exact ⟨rfl, rfl, fun _ h => .inl h⟩
  split at hr
  · simp only [Option.some.injEq, Prod.mk.injEq] at hr; obtain ⟨rfl, rfl⟩ := hr
    exact ⟨rfl, rfl, fun _ h => .inl h⟩
  split at hr
  · simp only [Option.some.injEq, Prod.mk.injEq] at hr; obtain ⟨rfl, rfl⟩ := hr
    exact Grew.own _ _ _ _
  split at hr
  · split at hr
    · simp only [Option.some.injEq, Prod.mk.injEq] at hr; obtain ⟨rfl, rfl⟩ := hr
      exact ⟨rfl, rfl, fun v hv => (Grew.own (lockD (wvD D) (getP D.P D.s.round).h) 2 3 (getP D.P D.s.round).h).L v hv⟩
    · simp only [Option.some.injEq, Prod.mk.injEq] at hr; obtain ⟨rfl, rfl⟩ := hr
      exact ⟨rfl, rfl, fun _ h => .inl h⟩
  split at hr
  · simp only [Option.some.injEq, Prod.mk.injEq] at hr; obtain ⟨rfl, rfl⟩ := hr
    exact Grew.own _ _ _ _
  split at hr
  · simp only [Option.some.injEq, Prod.mk.injEq] at hr; obtain ⟨rfl, rfl⟩ := hr
    exact ⟨rfl, rfl, fun _ h => .inl h⟩
  split at hr
  · simp only [Option.some.injEq, Prod.mk.injEq] at hr; obtain ⟨rfl, rfl⟩ := hr
    exact ⟨rfl, rfl, fun _ h => .inl h⟩
  · cases hr
theorem LI.settle {A : List ActD} {D : CoreD} (h : LI A D) : LI (A ++ (settleD D).2) (settleD D).1 ∧ Grew D (settleD D).1 :=
  settle_ind (fun D A0 D1 A1 => LI (A0 ++ A1) D1 ∧ Grew D D1) h.ci A (fun _ _ _ _ _ _ hr hp => ⟨by rw [← List.append_assoc]; exact hp.1.rule hr, hp.2.trans (Grew.rule hr)⟩) ⟨by rw [List.append_nil]; exact h, Grew.refl D⟩
theorem LI.propose {A : List ActD} {D : CoreD} (h : LI A D) (round valid : Int) (x : Hash) (ok : Bool) : LI (A ++ (proposeD D round valid x ok).2) (proposeD D round valid x ok).1 ∧ Grew D (proposeD D round valid x ok).1 := by
  unfold proposeD
  split
  · exact ⟨by rw [List.append_nil]; exact h, Grew.refl D⟩
  · rename_i hb
    have h1 : LI A (putD D round valid x ok) := by
      have := h.same (B := []) (D' := putD D round valid x ok) (h.ci.put (by simpa using hb)) rfl rfl rfl rfl rfl rfl rfl h.dec (by simp)
      rwa [List.append_nil] at this
    have h2 := h1.settle
    exact ⟨h2.1, h2.2.f, h2.2.rp, h2.2.L⟩
theorem LI.voted {A : List ActD} {D : CoreD} (h : LI A D) (kind round p : Int) (x : Hash) (ho : p = D.replica → ∃ a ∈ A, a.kind = kind + 1 ∧ a.round = round ∧ a.h = x) : LI (A ++ (voteD' D kind round p x).2) (voteD' D kind round p x).1 ∧ (voteD' D kind round p x).1.f = D.f ∧ (voteD' D kind round p x).1.replica = D.replica ∧ ∀ v ∈ (voteD' D kind round p x).1.L, v ∈ D.L ∨ v.replica = D.replica ∨ v = ⟨kind, round, p, x⟩ := by
  unfold voteD'
  split
  · exact ⟨by rw [List.append_nil]; exact h, rfl, rfl, fun _ h => .inl h⟩
  · have h2 := (h.more kind round p x ho).settle
    refine ⟨h2.1, h2.2.f, h2.2.rp, fun v hv => ?_⟩
    rcases h2.2.L v hv with q | q
    · rcases mem_addV q with q | q
      · exact .inl q
      · exact .inr (.inr q)
    · exact .inr (.inl q)
theorem LI.timed {A : List ActD} {D : CoreD} (h : LI A D) (kind round : Int) : LI (A ++ (timeD D kind round).2) (timeD D kind round).1 ∧ Grew D (timeD D kind round).1 := by
  unfold timeD
  split
  · exact ⟨by rw [List.append_nil]; exact h, Grew.refl D⟩
  rename_i h0
  split
  · rename_i hc
    have h1 := (h.vote 1 (.inl rfl) hc.2 hash0 (fun _ q => absurd rfl q) (fun e => by cases e) (fun _ => h.lr.2 (by omega))).settle
    exact ⟨by rw [← List.append_assoc]; exact h1.1, (Grew.own _ _ _ _).trans h1.2⟩
  split
  · rename_i hc
    have h1 := (h.vote 2 (.inr rfl) hc.2 hash0 (fun e => by cases e) (fun _ q => absurd rfl q) (fun e => by cases e)).settle
    exact ⟨by rw [← List.append_assoc]; exact h1.1, (Grew.own _ _ _ _).trans h1.2⟩
  split
  · unfold nextD nextA
    split
    · rename_i hl
      have h1 := (h.to (B := enterA D (D.s.round + 1)) (D.s.round + 1) ⟨by omega, hl⟩ (enterA_no _ _)).settle
      exact ⟨by rw [← List.append_assoc]; exact h1.1, ⟨h1.2.f, h1.2.rp, h1.2.L⟩⟩
    · have h1 := h.settle
      exact ⟨by simpa using h1.1, h1.2⟩
  · exact h.settle
/-- a new core, started -/
theorem LI.born {f c ep r : Int} (h : newOk f c ep r = true) : LI (startD (newD f c ep r)).2 (startD (newD f c ep r)).1 ∧ Grew (newD f c ep r) (startD (newD f c ep r)).1 := by
  have h0 : LI (enterA (newD f c ep r) 0) (toD (newD f c ep r) 0) := by
    have hn := enterA_no (newD f c ep r) 0
    refine ⟨(CI.new h).to 0 (by omega), ?_, ?_, ?_, ?_, ?_, ?_, ?_, ?_, ?_⟩
    · intro a ha hk; have := hn a ha; omega
    · intro a ha hk; have := hn a ha; omega
    · intro a ha _ _ hk; have := hn a ha; omega
    · intro a ha hk; have := hn a ha; omega
    · intro hl; exact absurd hl (by simp [toD, newD, newS])
    · exact ⟨by simp [toD, newD, newS], fun _ => by simp [toD, newD, newS]⟩
    · intro a ha _ _ hk; have := hn a ha; omega
    · intro hd; cases hd
    · intro v hv; simp [toD, newD] at hv
  have h1 := h0.settle
  unfold startD
  rw [if_neg (by simp [newD, newS])]
  exact ⟨h1.1, ⟨h1.2.f, h1.2.rp, h1.2.L⟩⟩
/-! ### all cores -/
theorem quorums_meet {f : Int} (hf : 1 ≤ f) {L M : List VoteD} (hL : VInv f L) (hM : VInv f M) {k r k' r' : Int} {x y : Hash} (h1 : 2 * f + 1 ≤ forV L k r x) (h2 : 2 * f + 1 ≤ forV M k' r' y) :
    ∃ p, 0 ≤ p ∧ p < 2 * f + 1 ∧ ⟨k, r, p, x⟩ ∈ L ∧ ⟨k', r', p, y⟩ ∈ M := by
  have key : ∀ {L : List VoteD} {k r : Int} {x : Hash}, VInv f L → 2 * f + 1 ≤ forV L k r x → ∃ S : List Nat, S.Nodup ∧ (∀ p ∈ S, (p : Int) < 2 * f + 1 ∧ (⟨k, r, (p : Int), x⟩ : VoteD) ∈ L) ∧ f + 1 ≤ (S.length : Int) := by
    intro L k r x hL h1
    let P : VoteD → Bool := fun v => decide (v.kind = k ∧ v.round = r ∧ v.h = x)
    have hnd : ((L.filter P).map fun v => v.replica.toNat).Nodup := by
      rw [List.nodup_iff_pairwise_ne, List.pairwise_map]
      refine List.Pairwise.imp_of_mem ?_ (List.Pairwise.filter _ hL.one)
      intro a b ha hb hab e
      simp only [P, List.mem_filter, decide_eq_true_eq] at ha hb
      have p1 := hL.rng a ha.1
      have p2 := hL.rng b hb.1
      simp [inB] at p1 p2
      exact hab ⟨by rw [ha.2.1, hb.2.1], by rw [ha.2.2.1, hb.2.2.1], by omega⟩
    have hlen : (((L.filter P).map fun v => v.replica.toNat).length : Int) = forV L k r x := by
      unfold forV; rw [List.length_map, List.countP_eq_length_filter]
    generalize hS : (L.filter P).map (fun v => v.replica.toNat) = S at hnd hlen
    have hmem : ∀ p ∈ S, (p : Int) < 3 * f + 1 ∧ (⟨k, r, (p : Int), x⟩ : VoteD) ∈ L := by
      intro p hp
      rw [← hS] at hp
      obtain ⟨v, hv, rfl⟩ := List.mem_map.1 hp
      simp only [P, List.mem_filter, decide_eq_true_eq] at hv
      have p1 := hL.rng v hv.1
      simp [inB] at p1
      refine ⟨by omega, ?_⟩
      have : v = ⟨k, r, ((v.replica.toNat : Nat) : Int), x⟩ := by
        obtain ⟨a, b, c, d⟩ := v
        simp only at hv p1 ⊢
        rw [hv.2.1, hv.2.2.1, hv.2.2.2, Int.toNat_of_nonneg p1.1]
      rw [← this]; exact hv.1
    refine ⟨S.filter fun (p : Nat) => decide ((p : Int) < 2 * f + 1), hnd.filter _, ?_, ?_⟩
    · intro p hp
      simp only [List.mem_filter, decide_eq_true_eq] at hp
      exact ⟨hp.2, (hmem p hp.1).2⟩
    · have hbad : (S.filter fun (p : Nat) => !decide ((p : Int) < 2 * f + 1)).length ≤ ((List.range f.toNat).map fun i => i + (2 * f + 1).toNat).length := by
        refine nodup_sub_len _ _ (hnd.filter _) ?_
        intro p hp
        simp only [List.mem_filter, Bool.not_eq_true', decide_eq_false_iff_not] at hp
        have := (hmem p hp.1).1
        exact List.mem_map.2 ⟨p - (2 * f + 1).toNat, by rw [List.mem_range]; omega, by omega⟩
      rw [List.length_map, List.length_range] at hbad
      have hsum := List.length_eq_countP_add_countP (fun (p : Nat) => decide ((p : Int) < 2 * f + 1)) (l := S)
      rw [List.countP_eq_length_filter, List.countP_eq_length_filter] at hsum
      have e2 : (S.filter fun (p : Nat) => !decide ((p : Int) < 2 * f + 1)) = S.filter (fun (p : Nat) => decide (¬ decide ((p : Int) < 2 * f + 1) = true)) := by
        refine List.filter_congr fun p _ => by cases decide ((p : Int) < 2 * f + 1) <;> rfl
      rw [e2] at hbad
      omega
  obtain ⟨S, s1, s2, s3⟩ := key hL h1
  obtain ⟨T, t1, t2, t3⟩ := key hM h2
  by_cases hx : ∃ p, p ∈ S ∧ p ∈ T
  · obtain ⟨p, p1, p2⟩ := hx
    exact ⟨(p : Int), by omega, (s2 p p1).1, (s2 p p1).2, (t2 p p2).2⟩
  · exfalso
    have hle : (S ++ T).length ≤ (List.range (2 * f + 1).toNat).length := by
      refine nodup_sub_len _ _ (List.nodup_append.2 ⟨s1, t1, fun a ha b hb e => hx ⟨a, ha, e ▸ hb⟩⟩) ?_
      intro p hp
      rw [List.mem_range]
      rcases List.mem_append.1 hp with hp | hp
      · have := (s2 p hp).1; omega
      · have := (t2 p hp).1; omega
    rw [List.length_append, List.length_range] at hle
    omega
/-- a core wanted this vote -/
def Saw (As : List (List ActD)) (kind round p : Int) (x : Hash) : Prop := ∃ (j : Nat) (A : List ActD), p = (j : Int) ∧ As[j]? = some A ∧ ∃ a ∈ A, a.kind = kind + 1 ∧ a.round = round ∧ a.h = x
structure AgI (F : Int) (Ds : List CoreD) (As : List (List ActD)) (all : List SaidD) : Prop where
  len : As.length = Ds.length
  li : ∀ (i : Nat) D A, Ds[i]? = some D → As[i]? = some A → LI A D ∧ D.f = F ∧ D.replica = (i : Int)
  said : ∀ s ∈ all, s.vote = true → Saw As s.kind s.round s.from' s.h
  auth : ∀ (i : Nat) D, Ds[i]? = some D → ∀ v ∈ D.L, v.replica < 2 * F + 1 → Saw As v.kind v.round v.replica v.h
theorem Saw.grow {As : List (List ActD)} {i : Nat} {A B : List ActD} (hA : As[i]? = some A) {kind round p : Int} {x : Hash} (h : Saw As kind round p x) : Saw (As.set i (A ++ B)) kind round p x := by
  obtain ⟨j, C, h1, h2, a, h3, h4⟩ := h
  by_cases hj : i = j
  · subst hj
    obtain rfl : A = C := by rw [hA] at h2; exact Option.some.inj h2
    refine ⟨i, A ++ B, h1, ?_, a, List.mem_append_left _ h3, h4⟩
    rw [List.getElem?_set_self (List.getElem?_eq_some_iff.1 hA).1]
  · exact ⟨j, C, h1, by rw [List.getElem?_set_ne hj]; exact h2, a, h3, h4⟩
theorem Saw.snoc {As : List (List ActD)} {B : List ActD} {kind round p : Int} {x : Hash} (h : Saw As kind round p x) : Saw (As ++ [B]) kind round p x := by
  obtain ⟨j, C, h1, h2, q⟩ := h
  exact ⟨j, C, h1, by rw [List.getElem?_append_left (List.getElem?_eq_some_iff.1 h2).1]; exact h2, q⟩
theorem speak_saw {from' : Int} {B : List ActD} {s : SaidD} (hs : s ∈ B.flatMap (speakA from')) (hv : s.vote = true) : s.from' = from' ∧ ∃ a ∈ B, a.kind = s.kind + 1 ∧ a.round = s.round ∧ a.h = s.h := by
  obtain ⟨a, ha, hs⟩ := List.mem_flatMap.1 hs
  unfold speakA at hs
  split at hs
  · obtain rfl := List.mem_singleton.1 hs; cases hv
  split at hs
  · rename_i hk; obtain rfl := List.mem_singleton.1 hs; exact ⟨rfl, a, ha, by simp [hk], rfl, rfl⟩
  split at hs
  · rename_i hk; obtain rfl := List.mem_singleton.1 hs; exact ⟨rfl, a, ha, by simp [hk], rfl, rfl⟩
  · simp at hs
/-- one core does something -/
theorem AgI.step {F : Int} {Ds : List CoreD} {As : List (List ActD)} {all : List SaidD} (h : AgI F Ds As all) {i : Nat} {D D' : CoreD} {A B : List ActD} (hD : Ds[i]? = some D) (hA : As[i]? = some A) (hl : LI (A ++ B) D') (hf : D'.f = D.f) (hp : D'.replica = D.replica)
    (hL : ∀ v ∈ D'.L, v ∈ D.L ∨ v.replica = D.replica ∨ v.replica ≥ 2 * F + 1 ∨ Saw As v.kind v.round v.replica v.h) : AgI F (Ds.set i D') (As.set i (A ++ B)) (all ++ B.flatMap (speakA (i : Int))) := by
  have hiA := (List.getElem?_eq_some_iff.1 hA).1
  have hiD := (List.getElem?_eq_some_iff.1 hD).1
  obtain ⟨_, h2, h3⟩ := h.li i D A hD hA
  refine ⟨by simp [h.len], ?_, ?_, ?_⟩
  · intro j E C hE hC
    by_cases hj : i = j
    · subst hj
      rw [List.getElem?_set_self hiD] at hE
      rw [List.getElem?_set_self hiA] at hC
      obtain rfl := Option.some.inj hE
      obtain rfl := Option.some.inj hC
      exact ⟨hl, hf.trans h2, hp.trans h3⟩
    · rw [List.getElem?_set_ne hj] at hE hC
      exact h.li j E C hE hC
  · intro s hs hv
    rcases List.mem_append.1 hs with hs | hs
    · exact (h.said s hs hv).grow hA
    · obtain ⟨q1, a, q2, q3⟩ := speak_saw hs hv
      exact ⟨i, A ++ B, q1, List.getElem?_set_self hiA, a, List.mem_append_right _ q2, q3⟩
  · intro j E hE v hv hr
    by_cases hj : i = j
    · subst hj
      rw [List.getElem?_set_self hiD] at hE
      obtain rfl := Option.some.inj hE
      rcases hL v hv with q | q | q | q
      · exact (h.auth i D hD v q hr).grow hA
      · obtain ⟨a, ha, q2⟩ := hl.own v hv (q.trans hp.symm)
        exact ⟨i, A ++ B, q.trans h3, List.getElem?_set_self hiA, a, ha, q2⟩
      · omega
      · exact q.grow hA
    · rw [List.getElem?_set_ne hj] at hE
      exact (h.auth j E hE v hv hr).grow hA
theorem AgI.nil (F : Int) : AgI F [] [] [] := ⟨rfl, by simp, by simp, by simp⟩
theorem AgI.born {F : Int} {Ds : List CoreD} {As : List (List ActD)} {all : List SaidD} (h : AgI F Ds As all) {c ep : Int} (hn : newOk F c ep (Ds.length : Int) = true) : AgI F (Ds ++ [(startD (newD F c ep (Ds.length : Int))).1]) (As ++ [(startD (newD F c ep (Ds.length : Int))).2]) (all ++ (startD (newD F c ep (Ds.length : Int))).2.flatMap (speakA (Ds.length : Int))) := by
  obtain ⟨h1, h2⟩ := LI.born hn
  refine ⟨by simp [h.len], ?_, ?_, ?_⟩
  · intro j E C hE hC
    rcases Nat.lt_or_ge j Ds.length with hj | hj
    · rw [List.getElem?_append_left hj] at hE
      rw [List.getElem?_append_left (by rw [h.len]; exact hj)] at hC
      exact h.li j E C hE hC
    · rw [List.getElem?_append_right hj] at hE
      rw [List.getElem?_append_right (by rw [h.len]; exact hj)] at hC
      have hj' : j = Ds.length := by
        have := (List.getElem?_eq_some_iff.1 hE).1
        simp at this; omega
      subst hj'
      simp [h.len] at hE hC
      subst hE hC
      exact ⟨h1, h2.f, h2.rp⟩
  · intro s hs hv
    rcases List.mem_append.1 hs with hs | hs
    · exact (h.said s hs hv).snoc
    · obtain ⟨q1, a, q2, q3⟩ := speak_saw hs hv
      exact ⟨Ds.length, _, q1, by rw [← h.len]; simp, a, q2, q3⟩
  · intro j E hE v hv hr
    rcases Nat.lt_or_ge j Ds.length with hj | hj
    · rw [List.getElem?_append_left hj] at hE
      exact (h.auth j E hE v hv hr).snoc
    · rw [List.getElem?_append_right hj] at hE
      have hj' : j = Ds.length := by
        have := (List.getElem?_eq_some_iff.1 hE).1
        simp at this; omega
      subst hj'
      simp at hE
      subst hE
      have q := (h2.L v hv)
      rcases q with q | q
      · simp [newD] at q
      · obtain ⟨a, ha, q2⟩ := h1.own v hv (q.trans h2.rp.symm)
        exact ⟨Ds.length, _, q, by rw [← h.len]; simp, a, ha, q2⟩
section
variable {F : Int} {Ds : List CoreD} {As : List (List ActD)} {all : List SaidD}
theorem AgI.core (h : AgI F Ds As all) {j : Nat} {A : List ActD} (hA : As[j]? = some A) : ∃ D, Ds[j]? = some D ∧ LI A D ∧ D.f = F := by
  have := (List.getElem?_eq_some_iff.1 hA).1
  rw [h.len] at this
  refine ⟨Ds[j], List.getElem?_eq_getElem this, ?_⟩
  have := h.li j _ A (List.getElem?_eq_getElem this) hA
  exact ⟨this.1, this.2.1⟩
/-- a quorum of precommits locks: no other hash has a quorum of prevotes from then on -/
theorem AgI.locked (h : AgI F Ds As all) {i : Nat} {D : CoreD} (hD : Ds[i]? = some D) (hf : 1 ≤ F) {r : Int} {x : Hash} (hx : x ≠ hash0) (hq : 2 * F + 1 ≤ forV D.L 2 r x) :
    ∀ (n : Nat) (j : Nat) (E : CoreD) (v : Int) (y : Hash), v = r + n → Ds[j]? = some E → y ≠ hash0 → 2 * F + 1 ≤ forV E.L 1 v y → y = x := by
  have ofD : ∀ (j : Nat) (E : CoreD), Ds[j]? = some E → CI E ∧ E.f = F := fun j E hE => by
    have hj := (List.getElem?_eq_some_iff.1 hE).1
    have := h.li j E _ hE (List.getElem?_eq_getElem (by rw [h.len]; exact hj))
    exact ⟨this.1.ci, this.2.1⟩
  intro n
  induction n using Nat.strongRecOn with
  | _ n ih =>
    intro j E v y hv hE hy hq2
    obtain ⟨cD, fD⟩ := ofD i D hD
    obtain ⟨cE, fE⟩ := ofD j E hE
    obtain ⟨p, p0, p1, p2, p3⟩ := quorums_meet hf (fD ▸ cD.V) (fE ▸ cE.V) hq hq2
    obtain ⟨k, A, e1, hA, a, ha, a1, a2, a3⟩ := h.auth i D hD _ p2 p1
    obtain ⟨k', A', e2, hA', b, hb, b1, b2, b3⟩ := h.auth j E hE _ p3 p1
    simp only at e1 e2 a1 a2 a3 b1 b2 b3
    obtain rfl : k = k' := by omega
    obtain rfl : A = A' := by rw [hA] at hA'; exact Option.some.inj hA'
    obtain ⟨G, hG, lG, fG⟩ := h.core hA
    have hpc := lG.pc a ha (by omega) (by rw [a3]; exact hx)
    rw [fG, a2, a3] at hpc
    by_cases hn : n = 0
    · subst hn
      have hvr : v = r := by omega
      subst hvr
      obtain ⟨q, q0, q1, q2, q3⟩ := quorums_meet hf (fG ▸ lG.ci.V) (fE ▸ cE.V) hpc.1 hq2
      obtain ⟨m, B, e3, hB, c, hc, c1, c2, c3⟩ := h.auth k G hG _ q2 q1
      obtain ⟨m', B', e4, hB', d, hd, d1, d2, d3⟩ := h.auth j E hE _ q3 q1
      simp only at e3 e4 c1 c2 c3 d1 d2 d3
      obtain rfl : m = m' := by omega
      obtain rfl : B = B' := by rw [hB] at hB'; exact Option.some.inj hB'
      obtain ⟨_, _, lH, _⟩ := h.core hB
      have := lH.one c hc d hd (by omega) (by omega) (by omega)
      rw [← d3, ← c3, this]
    · rcases lG.pv b hb a ha (by omega) (by rw [b3]; exact hy) (by omega) (by rw [a3]; exact hx) (by omega) with q | ⟨u, u1, u2, u3⟩
      · rw [← b3, ← a3, q]
      · rw [fG, b3] at u3
        have := ih (u - r).toNat (by omega) k G u y (by omega) hG hy u3
        exact this
/-- what is decided is one -/
theorem AgI.agree (h : AgI F Ds As all) (hf : 1 ≤ F) {i j : Nat} {D E : CoreD} (hD : Ds[i]? = some D) (hE : Ds[j]? = some E) (d1 : D.s.decided = true) (d2 : E.s.decided = true) : D.s.decision ≠ hash0 ∧ D.s.decision = E.s.decision := by
  have ofD : ∀ (j : Nat) (E : CoreD), Ds[j]? = some E → ∃ A, LI A E ∧ E.f = F := fun j E hE => by
    have hj := (List.getElem?_eq_some_iff.1 hE).1
    have := h.li j E _ hE (List.getElem?_eq_getElem (by rw [h.len]; exact hj))
    exact ⟨_, this.1, this.2.1⟩
  -- who decided later has a quorum of prevotes
  have key : ∀ {i j : Nat} {D E : CoreD}, Ds[i]? = some D → Ds[j]? = some E → ∀ {r s : Int} {x y : Hash}, x ≠ hash0 → y ≠ hash0 → 2 * F + 1 ≤ forV D.L 2 r x → 2 * F + 1 ≤ forV E.L 2 s y → r ≤ s → y = x := by
    intro i j D E hD hE r s x y hx hy q1 q2 hrs
    obtain ⟨_, lE, fE⟩ := ofD j E hE
    obtain ⟨p, p0, p1, p2, _⟩ := quorums_meet hf (fE ▸ lE.ci.V) (fE ▸ lE.ci.V) q2 q2
    obtain ⟨k, A, e1, hA, a, ha, a1, a2, a3⟩ := h.auth j E hE _ p2 p1
    simp only at e1 a1 a2 a3
    obtain ⟨G, hG, lG, fG⟩ := h.core hA
    have hpc := lG.pc a ha (by omega) (by rw [a3]; exact hy)
    rw [fG, a2, a3] at hpc
    exact h.locked hD hf hx q1 (s - r).toNat k G s y (by omega) hG hy hpc.1
  obtain ⟨_, lD, fD⟩ := ofD i D hD
  obtain ⟨_, lE, fE⟩ := ofD j E hE
  obtain ⟨x0, r, q1⟩ := lD.dec d1
  obtain ⟨y0, s, q2⟩ := lE.dec d2
  rw [fD] at q1
  rw [fE] at q2
  refine ⟨x0, ?_⟩
  rcases Int.le_total r s with hrs | hrs
  · exact (key hD hE x0 y0 q1 q2 hrs).symm
  · exact key hE hD y0 x0 q2 q1 hrs
end
/-! as the walk sees it -/
def AgE (F : Int) (Ds : List CoreD) (all : List SaidD) : Prop := ∃ As, AgI F Ds As all
section
variable {F : Int} {Ds : List CoreD} {all : List SaidD} {i : Nat} {D D' : CoreD} {A' : List ActD}
theorem AgE.nil (F : Int) : AgE F [] [] := ⟨[], AgI.nil F⟩
theorem AgE.born (h : AgE F Ds all) {c ep : Int} (hn : newOk F c ep (Ds.length : Int) = true) (hst : startD (newD F c ep (Ds.length : Int)) = (D', A')) : AgE F (Ds ++ [D']) (all ++ A'.flatMap (speakA (Ds.length : Int))) := by
  obtain ⟨As, h⟩ := h
  have := h.born hn
  rw [hst] at this
  exact ⟨_, this⟩
theorem AgE.core (h : AgE F Ds all) (hD : Ds[i]? = some D) : CI D ∧ D.f = F := by
  obtain ⟨As, h⟩ := h
  have hj := (List.getElem?_eq_some_iff.1 hD).1
  have := h.li i D _ hD (List.getElem?_eq_getElem (by rw [h.len]; exact hj))
  exact ⟨this.1.ci, this.2.1⟩
theorem AgI.get {As : List (List ActD)} (h : AgI F Ds As all) (hD : Ds[i]? = some D) : ∃ A, As[i]? = some A ∧ LI A D ∧ D.f = F ∧ D.replica = (i : Int) := by
  have hj := (List.getElem?_eq_some_iff.1 hD).1
  have hA := List.getElem?_eq_getElem (l := As) (show i < As.length by rw [h.len]; exact hj)
  exact ⟨_, hA, h.li i D _ hD hA⟩
theorem AgE.propose (h : AgE F Ds all) (hD : Ds[i]? = some D) {round valid : Int} {x : Hash} {ok : Bool} (hst : proposeD D round valid x ok = (D', A')) : AgE F (Ds.set i D') (all ++ A'.flatMap (speakA (i : Int))) := by
  obtain ⟨As, h⟩ := h
  obtain ⟨A, hA, hl, hf, hr⟩ := h.get hD
  have := hl.propose round valid x ok
  rw [hst] at this
  exact ⟨_, h.step hD hA this.1 this.2.f this.2.rp fun v hv => (this.2.L v hv).elim .inl fun q => .inr (.inl q)⟩
theorem AgE.time (h : AgE F Ds all) (hD : Ds[i]? = some D) {kind round : Int} (hst : timeD D kind round = (D', A')) : AgE F (Ds.set i D') (all ++ A'.flatMap (speakA (i : Int))) := by
  obtain ⟨As, h⟩ := h
  obtain ⟨A, hA, hl, hf, hr⟩ := h.get hD
  have := hl.timed kind round
  rw [hst] at this
  exact ⟨_, h.step hD hA this.1 this.2.f this.2.rp fun v hv => (this.2.L v hv).elim .inl fun q => .inr (.inl q)⟩
theorem AgE.lie (h : AgE F Ds all) (hD : Ds[i]? = some D) (hi : (i : Int) < 2 * F + 1) {kind round p : Int} {x : Hash} (hp : 2 * F + 1 ≤ p) (hst : voteD' D kind round p x = (D', A')) : AgE F (Ds.set i D') (all ++ A'.flatMap (speakA (i : Int))) := by
  obtain ⟨As, h⟩ := h
  obtain ⟨A, hA, hl, hf, hr⟩ := h.get hD
  have := hl.voted kind round p x (fun e => by omega)
  rw [hst] at this
  exact ⟨_, h.step hD hA this.1 this.2.1 this.2.2.1 fun v hv => (this.2.2.2 v hv).elim .inl fun q => q.elim (fun q => .inr (.inl q)) fun q => .inr (.inr (.inl (by rw [q]; exact hp)))⟩
theorem AgE.heard (h : AgE F Ds all) (hD : Ds[i]? = some D) {s : SaidD} (hs : s ∈ all) (hv : s.vote = true) (hst : voteD' D s.kind s.round s.from' s.h = (D', A')) : AgE F (Ds.set i D') (all ++ A'.flatMap (speakA (i : Int))) := by
  obtain ⟨As, h⟩ := h
  obtain ⟨A, hA, hl, hf, hr⟩ := h.get hD
  have hsaw := h.said s hs hv
  have := hl.voted s.kind s.round s.from' s.h (fun e => by
    obtain ⟨j, B, e1, hB, q⟩ := hsaw
    obtain rfl : j = i := by omega
    obtain rfl : A = B := by rw [hA] at hB; exact Option.some.inj hB
    exact q)
  rw [hst] at this
  exact ⟨_, h.step hD hA this.1 this.2.1 this.2.2.1 fun v hv => (this.2.2.2 v hv).elim .inl fun q => q.elim (fun q => .inr (.inl q)) fun q => .inr (.inr (.inr (by rw [q]; exact hsaw)))⟩
/-- what was decided so far -/
def AgH (Ds : List CoreD) (x : Hash) : Prop := x = hash0 ∨ ∃ (j : Nat) (E : CoreD), Ds[j]? = some E ∧ E.s.decided = true ∧ x = E.s.decision
theorem AgE.decides (h : AgE F Ds all) (hf : 1 ≤ F) (hD : Ds[i]? = some D) (hd : D.s.decided = true) : D.s.decision ≠ hash0 ∧ ∀ x, AgH Ds x → x ≠ hash0 → x = D.s.decision := by
  obtain ⟨As, h⟩ := h
  refine ⟨(h.agree hf hD hD hd hd).1, ?_⟩
  rintro x (q | ⟨j, E, hE, he, rfl⟩) h0
  · exact absurd q h0
  · exact (h.agree hf hE hD he hd).2
end
end Go.Proofs.Ythjmbhneifjeeaa
