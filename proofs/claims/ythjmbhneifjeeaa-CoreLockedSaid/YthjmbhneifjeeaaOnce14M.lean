/- WHAT IS PROVED: a core votes once a round and kind, and never goes back, whatever comes. Conditions: stated with each. -/
import Derived.Test.YthjmbhneifjeeaaCoreRun
import Derived.Test.YthjmbhneifjeeaaWakes14M
import Derived.Test.YthjmbhneifjeeaaInputs14
namespace Go.Proofs.Ythjmbhneifjeeaa
open Go.RowKit
/-- what an input does -/
noncomputable def stepI (D : CoreD) (x : InputD) : CoreD × List ActD :=
  if withinV x.doo 8 = 0 ∨ withinV x.doo 8 = 1 then proposeD D x.round x.valid x.h x.ok
  else if withinV x.doo 8 = 6 then timeD D x.kind x.round
  else if withinV x.doo 8 = 7 then startD D
  else voteD' D x.kind x.round x.replica x.h
theorem stepCI {D : CoreD} (h : CI D) (x : InputD) : CI (stepI D x).1 := by
  unfold stepI
  split
  · exact h.propose _ _ _ _
  split
  · exact h.time _ _
  split
  · exact h.start
  · exact h.vote _ _ _ _
theorem step_le {D : CoreD} (h : CI D) (x : InputD) : (stepI D x).2.length ≤ 8388621 := by
  unfold stepI
  split
  · have := propose_le h x.round x.valid x.h x.ok; omega
  split
  · exact time_le h _ _
  split
  · exact start_le h
  · have := vote_le h x.kind x.round x.replica x.h; omega
def voteK (k : Int) : Prop := k = 2 ∨ k = 3
def cntA (E : List ActD) (k r : Int) : Nat := E.countP fun a => decide (a.kind = k ∧ a.round = r)
structure OI (E : List ActD) (D : CoreD) : Prop where
  lv : D.s.lr ≤ D.s.vr ∧ D.s.vr ≤ D.s.round
  cnt : ∀ k r, voteK k → cntA E k r ≤ 1
  hi : ∀ a ∈ E, voteK a.kind → a.round ≤ D.s.round
  at2 : D.s.step ≤ 1 → ∀ a ∈ E, voteK a.kind → a.round ≠ D.s.round
  at3 : D.s.step ≤ 2 → ∀ a ∈ E, a.kind = 3 → a.round ≠ D.s.round
/-- .. and what is wanted since is of rounds no lower than R, its proposals this replica's -/
structure OS (E : List ActD) (f ep rp R : Int) (A : List ActD) (D : CoreD) : Prop where
  o : OI (E ++ A) D
  cf : D.f = f ∧ D.epoch = ep ∧ D.replica = rp
  st : 1 ≤ D.s.step
  rd : R ≤ D.s.round
  all : ∀ a ∈ A, a.kind ≠ 5 → R ≤ a.round
  prop : ∀ a ∈ A, a.kind = 1 → proposerV f ep a.round = rp
theorem cnt_app (E A : List ActD) (k r : Int) : cntA (E ++ A) k r = cntA E k r + cntA A k r := by unfold cntA; rw [List.countP_append]
theorem cnt_none {E : List ActD} {k r : Int} (h : ∀ a ∈ E, ¬ (a.kind = k ∧ a.round = r)) : cntA E k r = 0 := by
  unfold cntA
  exact List.countP_eq_zero.2 fun a ha => by simpa using h a ha
section
variable {E A : List ActD} {f ep rp R : Int} {D : CoreD}
/-- an act that is no vote -/
theorem OI.plain {D' : CoreD} {a : ActD} (h : OI E D) (ha : ¬ voteK a.kind) (h1 : D'.s.lr ≤ D'.s.vr ∧ D'.s.vr ≤ D'.s.round) (h2 : D.s.round ≤ D'.s.round) (h3 : D'.s.round = D.s.round → D.s.step ≤ D'.s.step) : OI (E ++ [a]) D' := by
  have hn : ∀ b ∈ E ++ [a], voteK b.kind → b ∈ E := fun b hb hk => by
    rcases List.mem_append.1 hb with hb | hb
    · exact hb
    · rw [List.mem_singleton] at hb; rw [hb] at hk; exact absurd hk ha
  refine ⟨h1, fun k r hk => ?_, fun b hb hk => ?_, fun hs b hb hk => ?_, fun hs b hb hk => ?_⟩
  · rw [cnt_app, cnt_none (E := [a])]
    · exact h.cnt k r hk
    · intro b hb
      rw [List.mem_singleton] at hb
      rintro ⟨e, _⟩
      rw [hb] at e
      exact ha (e ▸ hk)
  · have := h.hi b (hn b hb hk) hk; omega
  · have h4 := h.hi b (hn b hb hk) hk
    intro e
    have h5 : D'.s.round = D.s.round := by omega
    exact h.at2 (by have := h3 h5; omega) b (hn b hb hk) hk (by omega)
  · have h4 := h.hi b (hn b hb (.inr hk)) (.inr hk)
    intro e
    have h5 : D'.s.round = D.s.round := by omega
    exact h.at3 (by have := h3 h5; omega) b (hn b hb (.inr hk)) hk (by omega)
/-- no act -/
theorem OI.quiet {D' : CoreD} (h : OI E D) (h1 : D'.s.lr ≤ D'.s.vr ∧ D'.s.vr ≤ D'.s.round) (h2 : D.s.round ≤ D'.s.round) (h3 : D'.s.round = D.s.round → D.s.step ≤ D'.s.step) : OI E D' := by
  refine ⟨h1, h.cnt, fun b hb hk => ?_, fun hs b hb hk => ?_, fun hs b hb hk => ?_⟩
  · have := h.hi b hb hk; omega
  · have h4 := h.hi b hb hk
    intro e
    have h5 : D'.s.round = D.s.round := by omega
    exact h.at2 (by have := h3 h5; omega) b hb hk (by omega)
  · have h4 := h.hi b hb (.inr hk)
    intro e
    have h5 : D'.s.round = D.s.round := by omega
    exact h.at3 (by have := h3 h5; omega) b hb hk (by omega)
/-- a vote of this round, the first of its kind -/
theorem OI.vote {D' : CoreD} {k : Int} {x : Hash} {v : Int} (h : OI E D) (hk : voteK k) (hs : (k = 2 ∧ D.s.step ≤ 1 ∧ D'.s.step = 2) ∨ (k = 3 ∧ D.s.step ≤ 2 ∧ D'.s.step = 3)) (h1 : D'.s.lr ≤ D'.s.vr ∧ D'.s.vr ≤ D'.s.round) (h2 : D'.s.round = D.s.round) : OI (E ++ [⟨k, D.s.round, v, x⟩]) D' := by
  refine ⟨h1, fun k' r hk' => ?_, fun b hb hb' => ?_, fun hs' => ?_, fun hs' b hb hb' => ?_⟩
  · rw [cnt_app]
    by_cases e : k' = k ∧ r = D.s.round
    · obtain ⟨rfl, rfl⟩ := e
      have h0 : cntA E k' D.s.round = 0 := cnt_none (fun a ha => by
        rintro ⟨e1, e2⟩
        rcases hs with ⟨_, hs, _⟩ | ⟨hk3, hs, _⟩
        · exact h.at2 hs a ha (e1 ▸ hk) e2
        · exact h.at3 hs a ha (e1.trans hk3) e2)
      rw [h0]
      simp [cntA]
    · rw [cnt_none (E := [_])]
      · exact h.cnt k' r hk'
      · intro b hb
        rw [List.mem_singleton] at hb
        subst hb
        exact fun q => e ⟨q.1.symm, q.2.symm⟩
  · rcases List.mem_append.1 hb with hb | hb
    · have := h.hi b hb hb'; omega
    · rw [List.mem_singleton] at hb; subst hb; show D.s.round ≤ _; omega
  · rcases hs with ⟨_, _, hs⟩ | ⟨_, _, hs⟩ <;> omega
  · rcases hs with ⟨hk2, hs1, hs⟩ | ⟨_, _, hs⟩
    · rcases List.mem_append.1 hb with hb | hb
      · rw [h2]; exact h.at3 (by omega) b hb hb'
      · rw [List.mem_singleton] at hb; subst hb
        have hb' : k = 3 := hb'
        omega
    · omega
theorem OS.snoc {D' : CoreD} {a : ActD} (h : OS E f ep rp R A D) (ho : OI ((E ++ A) ++ [a]) D') (hf : D'.f = D.f ∧ D'.epoch = D.epoch ∧ D'.replica = D.replica) (hs : 1 ≤ D'.s.step) (hr : D.s.round ≤ D'.s.round) (ha : a.kind ≠ 5 → R ≤ a.round) (hp : a.kind = 1 → proposerV f ep a.round = rp) : OS E f ep rp R (A ++ [a]) D' := by
  refine ⟨by rw [← List.append_assoc]; exact ho, ⟨hf.1.trans h.cf.1, hf.2.1.trans h.cf.2.1, hf.2.2.trans h.cf.2.2⟩, hs, by have := h.rd; omega, ?_, ?_⟩
  · intro b hb hk
    rcases List.mem_append.1 hb with hb | hb
    · exact h.all b hb hk
    · rw [List.mem_singleton] at hb; rw [hb] at hk ⊢; exact ha hk
  · intro b hb hk
    rcases List.mem_append.1 hb with hb | hb
    · exact h.prop b hb hk
    · rw [List.mem_singleton] at hb; rw [hb] at hk ⊢; exact hp hk
theorem OS.same {D' : CoreD} (h : OS E f ep rp R A D) (ho : OI (E ++ A) D') (hf : D'.f = D.f ∧ D'.epoch = D.epoch ∧ D'.replica = D.replica) (hs : 1 ≤ D'.s.step) (hr : D.s.round ≤ D'.s.round) : OS E f ep rp R A D' :=
  ⟨ho, ⟨hf.1.trans h.cf.1, hf.2.1.trans h.cf.2.1, hf.2.2.trans h.cf.2.2⟩, hs, by have := h.rd; omega, h.all, h.prop⟩
/-- a round is entered -/
theorem OS.enter (h : OS E f ep rp R A D) (r : Int) (hr : D.s.round < r) : OS E f ep rp R (A ++ enterA D r) (toD D r) := by
  have hq := h.o.lv
  have hrd := h.rd
  unfold enterA
  split
  · rename_i hp
    refine h.snoc (h.o.plain (D' := toD D r) (by unfold voteK; simp) ⟨hq.1, by show D.s.vr ≤ r; omega⟩ (by show D.s.round ≤ r; omega) (fun e => ?_)) ⟨rfl, rfl, rfl⟩ (by show (1 : Int) ≤ 1; omega) (by show D.s.round ≤ r; omega) (fun _ => by show R ≤ r; omega) (fun _ => ?_)
    · have : r = D.s.round := e
      omega
    · rw [← h.cf.1, ← h.cf.2.1, ← h.cf.2.2]; exact hp
  · refine h.snoc (h.o.plain (D' := toD D r) (by unfold voteK; simp) ⟨hq.1, by show D.s.vr ≤ r; omega⟩ (by show D.s.round ≤ r; omega) (fun e => ?_)) ⟨rfl, rfl, rfl⟩ (by show (1 : Int) ≤ 1; omega) (by show D.s.round ≤ r; omega) (fun _ => by show R ≤ r; omega) (fun e => by simp at e)
    have : r = D.s.round := e
    omega
theorem OS.own (h : OS E f ep rp R A D) (k step : Int) (hs : (k = 1 ∧ D.s.step = 1 ∧ step = 2) ∨ (k = 2 ∧ D.s.step = 2 ∧ step = 3)) (x : Hash) : OS E f ep rp R (A ++ ownA D (k + 1) x) (ownV D k step x) :=
  h.snoc (h.o.vote (k := k + 1) (D' := ownV D k step x) (by unfold voteK; omega) (by
      rcases hs with ⟨rfl, h1, rfl⟩ | ⟨rfl, h1, rfl⟩
      · exact .inl ⟨rfl, by omega, rfl⟩
      · exact .inr ⟨rfl, by omega, rfl⟩) h.o.lv rfl) ⟨rfl, rfl, rfl⟩ (by show 1 ≤ step; omega) (Int.le_refl _) (fun _ => h.rd) (fun e => by have : k + 1 = 1 := e; omega)
theorem OS.rule (hc : CI D) (h : OS E f ep rp R A D) {D' : CoreD} {A' : List ActD} (hr : ruleD D = some (D', A')) : OS E f ep rp R (A ++ A') D' := by
  have hq := h.o.lv
  have hst := h.st
  have hrd := h.rd
  unfold ruleD at hr
  split at hr
  · rename_i hl
    simp only [Option.some.injEq, Prod.mk.injEq] at hr; obtain ⟨rfl, rfl⟩ := hr
    exact h.snoc (h.o.plain (D' := decideD D (leastV D.f D.L D.P)) (by unfold voteK; simp) hq (Int.le_refl _) (fun _ => Int.le_refl _)) ⟨rfl, rfl, rfl⟩ hst (Int.le_refl _) (fun e => absurd rfl e) (fun e => by simp at e)
  split at hr
  · rename_i hl
    simp only [Option.some.injEq, Prod.mk.injEq] at hr; obtain ⟨rfl, rfl⟩ := hr
    exact h.enter _ (farV_lim hc hl).1
  split at hr
  · rename_i hc3
    simp only [Option.some.injEq, Prod.mk.injEq] at hr; obtain ⟨rfl, rfl⟩ := hr
    exact h.own 1 2 (.inl ⟨rfl, hc3.1, rfl⟩) _
  split at hr
  · rename_i hc4
    split at hr
    · rename_i h2
      simp only [Option.some.injEq, Prod.mk.injEq] at hr; obtain ⟨rfl, rfl⟩ := hr
      refine h.snoc (h.o.vote (k := 3) (by unfold voteK; omega) (.inr ⟨rfl, by omega, rfl⟩) ⟨Int.le_refl _, Int.le_refl _⟩ rfl) ⟨rfl, rfl, rfl⟩ (by show (1 : Int) ≤ 3; omega) (Int.le_refl _) (fun _ => hrd) (fun e => by simp at e)
    · simp only [Option.some.injEq, Prod.mk.injEq] at hr; obtain ⟨rfl, rfl⟩ := hr
      rw [List.append_nil]
      exact h.same (h.o.quiet ⟨by show D.s.lr ≤ D.s.round; omega, Int.le_refl _⟩ (Int.le_refl _) (fun _ => Int.le_refl _)) ⟨rfl, rfl, rfl⟩ hst (Int.le_refl _)
  split at hr
  · rename_i hc5
    simp only [Option.some.injEq, Prod.mk.injEq] at hr; obtain ⟨rfl, rfl⟩ := hr
    exact h.own 2 3 (.inr ⟨rfl, hc5.1, rfl⟩) _
  split at hr
  · simp only [Option.some.injEq, Prod.mk.injEq] at hr; obtain ⟨rfl, rfl⟩ := hr
    exact h.snoc (h.o.plain (by unfold voteK; simp) hq (Int.le_refl _) (fun _ => Int.le_refl _)) ⟨rfl, rfl, rfl⟩ hst (Int.le_refl _) (fun _ => hrd) (fun e => by simp at e)
  split at hr
  · simp only [Option.some.injEq, Prod.mk.injEq] at hr; obtain ⟨rfl, rfl⟩ := hr
    exact h.snoc (h.o.plain (by unfold voteK; simp) hq (Int.le_refl _) (fun _ => Int.le_refl _)) ⟨rfl, rfl, rfl⟩ hst (Int.le_refl _) (fun _ => hrd) (fun e => by simp at e)
  · cases hr
theorem OS.settle (hc : CI D) (h : OS E f ep rp R A D) : OS E f ep rp R (A ++ (settleD D).2) (settleD D).1 :=
  settle_ind (fun _ _ D1 A1 => OS E f ep rp R (A ++ A1) D1) hc [] (fun D1 A1 D2 A2 h1 _ hr hp => by
    rw [← List.append_assoc]; exact OS.rule h1 hp hr) (by rw [List.append_nil]; exact h)
theorem OS.step (hc : CI D) (h : OS E f ep rp R [] D) (x : InputD) : OS E f ep rp R (stepI D x).2 (stepI D x).1 := by
  have hst := h.st
  unfold stepI
  split
  · unfold proposeD
    split
    · exact h
    · rename_i hb
      exact OS.settle (hc.put (by simpa using hb)) (A := []) (h.same (D' := putD D x.round x.valid x.h x.ok) (h.o.quiet h.o.lv (Int.le_refl _) (fun _ => Int.le_refl _)) ⟨rfl, rfl, rfl⟩ hst (Int.le_refl _))
  split
  · rw [timeD_b]
    split
    · exact h
    rename_i hbad
    split
    · rename_i h1
      simp only [Bool.and_eq_true, decide_eq_true_eq] at h1
      exact OS.settle (hc.own 1 2 (by omega) hash0) (h.own 1 2 (.inl ⟨rfl, h1.2, rfl⟩) hash0)
    split
    · rename_i h1
      simp only [Bool.and_eq_true, decide_eq_true_eq] at h1
      exact OS.settle (hc.own 2 3 (by omega) hash0) (h.own 2 3 (.inr ⟨rfl, h1.2, rfl⟩) hash0)
    split
    · refine OS.settle hc.next ?_
      unfold nextD nextA
      split
      · exact h.enter _ (by omega)
      · exact h
    · exact OS.settle hc (A := []) h
  split
  · unfold startD
    rw [if_pos (by omega)]
    exact h
  · unfold voteD'
    split
    · exact h
    · exact OS.settle (hc.addD _ _ _ _) (A := []) (h.same (D' := addD D x.kind x.round x.replica x.h) (h.o.quiet h.o.lv (Int.le_refl _) (fun _ => Int.le_refl _)) ⟨rfl, rfl, rfl⟩ hst (Int.le_refl _))
end
theorem step_dec {D : CoreD} (hd : D.s.decided = true) (hs : 1 ≤ D.s.step) (x : InputD) : stepI D x = (D, []) := by
  unfold stepI
  split
  · unfold proposeD; rw [if_pos (by simp [propBad, hd])]
  split
  · rw [timeD_b, if_pos (by simp [timeBad, hd])]
  split
  · unfold startD; rw [if_pos (by omega)]
  · unfold voteD'; rw [if_pos (.inl hd)]
/-- a core's beginning -/
theorem start_new {f c ep rp : Int} (hf : 1 ≤ f) : startD (newD f c ep rp) = (toD (newD f c ep rp) 0, enterA (newD f c ep rp) 0) := by
  have hs : settleD (toD (newD f c ep rp) 0) = (toD (newD f c ep rp) 0, []) := settle_none (rule_quiet rfl hf (by simp [toD, newD]) (by simp [toD, newD]))
  unfold startD
  rw [if_neg (by simp [newD, newS]), hs, List.append_nil]
/-! ### the statement's run -/
noncomputable def onD (n : Int) (ls : List InputD) (D : CoreD) : Nat → CoreD
  | 0 => D
  | k + 1 => (stepI (onD n ls D k) (cutI n (ls.getD k inD0))).1
noncomputable def onA (n : Int) (ls : List InputD) (D : CoreD) (k : Nat) : List ActD := (stepI (onD n ls D k) (cutI n (ls.getD k inD0))).2
def onP (A0 : List ActD) : Nat → List ActD
  | 0 => A0
  | _ + 1 => []
noncomputable def onE (n : Int) (ls : List InputD) (D : CoreD) (A0 : List ActD) : Nat → List ActD
  | 0 => []
  | k + 1 => onE n ls D A0 k ++ (onP A0 k ++ onA n ls D k)
noncomputable def onR (n : Int) (ls : List InputD) (D : CoreD) : Nat → Int
  | 0 => 0
  | k + 1 => (onD n ls D (k + 1)).s.round
theorem onCI {n : Int} {ls : List InputD} {D : CoreD} (h : CI D) : ∀ k, CI (onD n ls D k)
  | 0 => h
  | k + 1 => stepCI (onCI h k) _
structure OnOk (f ep rp R : Int) (E A : List ActD) (D D' : CoreD) : Prop where
  nodec : D.s.decided = true → A.length = 0
  cnt : ∀ k r, voteK k → cntA (E ++ A) k r ≤ 1
  rds : ∀ a ∈ A, a.kind ≠ 5 → R ≤ a.round
  prop : ∀ a ∈ A, a.kind = 1 → proposerV f ep a.round = rp
  rd : R ≤ D'.s.round
  st : 1 ≤ D'.s.step ∧ D'.s.step ≤ 3
  lv : D'.s.lr ≤ D'.s.vr ∧ D'.s.vr ≤ D'.s.round
theorem on_all {f ep rp : Int} (hok : newOk f 1 ep rp = true) (n : Int) (ls : List InputD) : ∀ k,
    OS (onE n ls (startD (newD f 1 ep rp)).1 (startD (newD f 1 ep rp)).2 k ++ onP (startD (newD f 1 ep rp)).2 k) f ep rp (onD n ls (startD (newD f 1 ep rp)).1 k).s.round [] (onD n ls (startD (newD f 1 ep rp)).1 k)
  | 0 => by
    have hf : 1 ≤ f ∧ f ≤ 21 := (CI.new hok).f
    rw [start_new hf.1]
    have h0 : OI [] (newD f 1 ep rp) := ⟨by simp [newD, newS], by simp [cntA], by simp, by simp, by simp⟩
    have : OI (enterA (newD f 1 ep rp) 0) (toD (newD f 1 ep rp) 0) := by
      unfold enterA
      split
      · exact h0.plain (E := []) (by unfold voteK; simp) ⟨by simp [toD, newD, newS], by simp [toD, newD, newS]⟩ (by simp [toD, newD, newS]) (fun _ => by simp [toD, newD, newS])
      · exact h0.plain (E := []) (by unfold voteK; simp) ⟨by simp [toD, newD, newS], by simp [toD, newD, newS]⟩ (by simp [toD, newD, newS]) (fun _ => by simp [toD, newD, newS])
    exact ⟨by simpa [onE, onP, onD] using this, ⟨rfl, rfl, rfl⟩, by simp [onD, toD], Int.le_refl _, by simp, by simp⟩
  | k + 1 => by
    have h := on_all hok n ls k
    have hc : CI (onD n ls (startD (newD f 1 ep rp)).1 k) := onCI (CI.new hok).start k
    have h2 := OS.step hc h (cutI n (ls.getD k inD0))
    refine ⟨?_, h2.cf, h2.st, Int.le_refl _, by simp, by simp⟩
    have := h2.o
    simp only [onP, onE, onD, onA, List.append_nil] at this ⊢
    rwa [← List.append_assoc]
theorem on_ok {f ep rp : Int} (hok : newOk f 1 ep rp = true) (n : Int) (ls : List InputD) (k : Nat) :
    OnOk f ep rp (onR n ls (startD (newD f 1 ep rp)).1 k) (onE n ls (startD (newD f 1 ep rp)).1 (startD (newD f 1 ep rp)).2 k) (onP (startD (newD f 1 ep rp)).2 k ++ onA n ls (startD (newD f 1 ep rp)).1 k) (onD n ls (startD (newD f 1 ep rp)).1 k) (onD n ls (startD (newD f 1 ep rp)).1 (k + 1)) := by
  have h := on_all hok n ls k
  have hc : CI (onD n ls (startD (newD f 1 ep rp)).1 k) := onCI (CI.new hok).start k
  have h2 := OS.step hc h (cutI n (ls.getD k inD0))
  have hc2 : CI (onD n ls (startD (newD f 1 ep rp)).1 (k + 1)) := onCI (CI.new hok).start (k + 1)
  have hf : 1 ≤ f ∧ f ≤ 21 := (CI.new hok).f
  have hP : ∀ a ∈ onP (startD (newD f 1 ep rp)).2 k, (onR n ls (startD (newD f 1 ep rp)).1 k ≤ a.round) ∧ (a.kind = 1 → proposerV f ep a.round = rp) := by
    intro a ha
    cases k with
    | zero =>
      rw [start_new hf.1] at ha ⊢
      simp only [onP, enterA] at ha
      split at ha
      · rename_i hp; rw [List.mem_singleton] at ha; subst ha; exact ⟨Int.le_refl _, fun _ => hp⟩
      · rw [List.mem_singleton] at ha; subst ha; exact ⟨Int.le_refl _, fun e => by simp at e⟩
    | succ k => simp [onP] at ha
  have hR : onR n ls (startD (newD f 1 ep rp)).1 k ≤ (onD n ls (startD (newD f 1 ep rp)).1 k).s.round := by
    cases k with
    | zero => exact hc.rd.1
    | succ k => exact Int.le_refl _
  refine ⟨fun hd => ?_, ?_, ?_, ?_, Int.le_trans hR h2.rd, ⟨h2.st, hc2.st.2⟩, h2.o.lv⟩
  · have e := step_dec hd h.st (cutI n (ls.getD k inD0))
    cases k with
    | zero =>
      exfalso
      rw [start_new hf.1] at hd
      simp [onD, toD, newD, newS] at hd
    | succ k => simp only [onP, onA, List.nil_append]; rw [e]; rfl
  · intro q r hq
    have := h2.o.cnt q r hq
    rw [List.append_assoc] at this
    exact this
  · intro a ha hk
    rcases List.mem_append.1 ha with ha | ha
    · exact (hP a ha).1
    · exact Int.le_trans hR (h2.all a ha hk)
  · intro a ha hk
    rcases List.mem_append.1 ha with ha | ha
    · exact (hP a ha).2 hk
    · exact h2.prop a ha hk
/-! ### the statement's counts -/
def bumpM (M : List (Turn × Int)) (a : ActD) : List (Turn × Int) := bif decide (a.kind = 2) || decide (a.kind = 3) then putM M ⟨a.kind, a.round⟩ ((lookM M ⟨a.kind, a.round⟩).getD 0 + 1) else M
theorem bumpM_no {M : List (Turn × Int)} {a : ActD} (h2 : decide (a.kind = 2) = false) (h3 : decide (a.kind = 3) = false) : bumpM M a = M := by unfold bumpM; rw [h2, h3]; rfl
def bumps (E : List ActD) : List (Turn × Int) := E.foldl bumpM []
theorem bumps_snoc (E : List ActD) (a : ActD) : bumps (E ++ [a]) = bumpM (bumps E) a := by unfold bumps; rw [List.foldl_append]; rfl
theorem bumps_look (E : List ActD) : ∀ t : Turn, voteK t.kind → (lookM (bumps E) t).getD 0 = (cntA E t.kind t.round : Nat) := by
  have key : ∀ n (E : List ActD), E.length = n → ∀ t : Turn, voteK t.kind → (lookM (bumps E) t).getD 0 = (cntA E t.kind t.round : Nat) := by
    intro n
    induction n with
    | zero => intro E hE t _; rw [List.eq_nil_of_length_eq_zero hE]; simp [bumps, lookM, cntA]
    | succ n ih =>
      intro E hE t ht
      rcases List.eq_nil_or_concat E with rfl | ⟨E', a, rfl⟩
      · simp at hE
      · have ih' := ih E' (by simpa using hE)
        rw [List.concat_eq_append, bumps_snoc, cnt_app]
        unfold bumpM
        cases hb : decide (a.kind = 2) || decide (a.kind = 3)
        · rw [cond_false, ih' t ht, cnt_none (E := [a])]
          · rfl
          · intro b hb'
            rw [List.mem_singleton] at hb'
            subst hb'
            rintro ⟨e, _⟩
            unfold voteK at ht
            simp at hb
            omega
        · rw [cond_true]
          by_cases e : t = ⟨a.kind, a.round⟩
          · subst e
            rw [look_put_same, Option.getD_some, ih' _ ht]
            simp [cntA]
          · rw [look_put_other _ _ _ _ e, ih' t ht, cnt_none (E := [a])]
            · rfl
            · intro b hb'
              rw [List.mem_singleton] at hb'
              subst hb'
              rintro ⟨e1, e2⟩
              exact e (by cases t; simp_all)
  exact key _ E rfl
theorem cnt_take (E A : List ActD) (i : Nat) (k r : Int) : cntA (E ++ A.take i) k r ≤ cntA (E ++ A) k r := by
  rw [cnt_app, cnt_app]
  have : cntA (A.take i) k r ≤ cntA A k r := List.Sublist.countP_le (List.take_sublist i A)
  omega
end Go.Proofs.Ythjmbhneifjeeaa
