/- WHAT IS PROVED: a core as data: its rules, what it wants, and that the rules come to an end. No condition. -/
import Derived.Test.YthjmbhneifjeeaaTallyAbs
import Derived.Test.YthjmbhneifjeeaaVInv
namespace Go.Proofs.Ythjmbhneifjeeaa
open Go.RowKit
structure StD where
  round : Int
  step : Int
  lr : Int
  vr : Int
  locked : Hash
  valid : Hash
  decided : Bool
  decision : Hash
  deriving DecidableEq
structure PropD where
  valid : Int
  h : Hash
  ok : Bool
  deriving DecidableEq
structure ActD where
  kind : Int
  round : Int
  valid : Int
  h : Hash
  deriving DecidableEq
structure CoreD where
  f : Int
  c : Int
  epoch : Int
  replica : Int
  s : StD
  L : List VoteD
  P : List (Int × PropD)
  wv : Bool
  sp : Bool
  sc : Bool
def proposerV (f epoch round : Int) : Int := (max 0 epoch % (3 * f + 1) + max 0 round % (3 * f + 1)) % (3 * f + 1)
def minR (l : List Int) : Int := l.foldl (fun a r => if a < 0 ∨ r < a then r else a) (-1)
def maxR (l : List Int) : Int := l.foldl (fun a r => if a < r then r else a) (-1)
def leastP (f : Int) (L : List VoteD) (x : Int × PropD) : Bool := x.2.ok && decide (2 * f + 1 ≤ forV L 2 x.1 x.2.h)
def leastV (f : Int) (L : List VoteD) (P : List (Int × PropD)) : Int := minR ((P.filter (leastP f L)).map (·.1))
def farP (f : Int) (L : List VoteD) (above many : Int) (r : Int) : Bool := decide (above < r) && decide (many ≤ heardV f L r)
def farV (f : Int) (L : List VoteD) (above many : Int) : Int := maxR ((L.map (·.round)).filter (farP f L above many))
def getP (P : List (Int × PropD)) (r : Int) : PropD := (lookM P r).getD ⟨0, hash0, false⟩
def hasP (P : List (Int × PropD)) (r : Int) : Bool := (lookM P r).isSome
def toD (D : CoreD) (r : Int) : CoreD := { D with s := { D.s with round := r, step := 1 }, wv := false, sp := false, sc := false }
def enterA (D : CoreD) (r : Int) : List ActD := if proposerV D.f D.epoch r = D.replica then [⟨1, r, D.s.vr, D.s.valid⟩] else [⟨4, r, 1, hash0⟩]
/-- a vote of its own -/
def ownV (D : CoreD) (kind step : Int) (h : Hash) : CoreD := { D with s := { D.s with step := step }, L := addV D.f D.L ⟨kind, D.s.round, D.replica, h⟩ }
def ownA (D : CoreD) (kind : Int) (h : Hash) : List ActD := [⟨kind, D.s.round, -1, h⟩]
def mayB (D : CoreD) (p : PropD) : Bool := if 0 ≤ p.valid then decide (D.s.lr ≤ p.valid) else decide (D.s.lr < 0)
def chooseD (D : CoreD) (p : PropD) : Hash × Bool :=
  if 0 ≤ p.valid ∧ forV D.L 1 p.valid p.h < 2 * D.f + 1 then (hash0, false)
  else if p.ok = true ∧ (mayB D p = true ∨ D.s.locked = p.h) then (p.h, true) else (hash0, true)
def decideD (D : CoreD) (r : Int) : CoreD := { D with s := { D.s with decided := true, decision := (getP D.P r).h } }
def lockD (D : CoreD) (h : Hash) : CoreD := { D with s := { D.s with locked := h, lr := D.s.round } }
def validD (D : CoreD) (h : Hash) : CoreD := { D with s := { D.s with valid := h, vr := D.s.round } }
def wvD (D : CoreD) : CoreD := { D with wv := true }
/-- the first rule that holds -/
def ruleD (D : CoreD) : Option (CoreD × List ActD) :=
  if 0 ≤ leastV D.f D.L D.P then some (decideD D (leastV D.f D.L D.P), [⟨5, leastV D.f D.L D.P, -1, (getP D.P (leastV D.f D.L D.P)).h⟩])
  else if 0 ≤ farV D.f D.L D.s.round (D.f + 1) then some (toD D (farV D.f D.L D.s.round (D.f + 1)), enterA D (farV D.f D.L D.s.round (D.f + 1)))
  else if D.s.step = 1 ∧ hasP D.P D.s.round = true ∧ (chooseD D (getP D.P D.s.round)).2 = true then some (ownV D 1 2 (chooseD D (getP D.P D.s.round)).1, ownA D 2 (chooseD D (getP D.P D.s.round)).1)
  else if 2 ≤ D.s.step ∧ hasP D.P D.s.round = true ∧ (getP D.P D.s.round).ok = true ∧ D.wv = false ∧ 2 * D.f + 1 ≤ forV D.L 1 D.s.round (getP D.P D.s.round).h then
    if D.s.step = 2 then some (validD (ownV (lockD (wvD D) (getP D.P D.s.round).h) 2 3 (getP D.P D.s.round).h) (getP D.P D.s.round).h, ownA D 3 (getP D.P D.s.round).h)
    else some (validD (wvD D) (getP D.P D.s.round).h, [])
  else if D.s.step = 2 ∧ 2 * D.f + 1 ≤ forV D.L 1 D.s.round hash0 then some (ownV D 2 3 hash0, ownA D 3 hash0)
  else if D.s.step = 2 ∧ D.sp = false ∧ 2 * D.f + 1 ≤ allV D.L 1 D.s.round then some ({ D with sp := true }, [⟨4, D.s.round, 2, hash0⟩])
  else if D.sc = false ∧ 2 * D.f + 1 ≤ allV D.L 2 D.s.round then some ({ D with sc := true }, [⟨4, D.s.round, 3, hash0⟩])
  else none
def bN (b : Bool) : Nat := bif b then 0 else 1
/-- how many rules may still hold -/
def muD (D : CoreD) : Nat := bN D.s.decided + (3 - D.s.step).toNat + bN D.wv + bN D.sp + bN D.sc + 8 * (1048576 - D.s.round).toNat
def goesB (D : CoreD) : Bool := decide (0 < D.s.step) && !D.s.decided
def settleN : Nat → CoreD → CoreD × List ActD
  | 0, D => (D, [])
  | n + 1, D => if goesB D = true then (match ruleD D with
    | none => (D, [])
    | some (D', A) => ((settleN n D').1, A ++ (settleN n D').2)) else (D, [])
/-- a number that nothing unfolds -/
noncomputable def fuelOf (n : Nat) : Nat := Classical.choose (⟨n, rfl⟩ : ∃ m, m = n)
theorem fuelOf_eq (n : Nat) : fuelOf n = n := Classical.choose_spec (⟨n, rfl⟩ : ∃ m, m = n)
noncomputable def settleD (D : CoreD) : CoreD × List ActD := settleN (fuelOf (muD D)) D
/-- what holds of every core -/
structure CI (D : CoreD) : Prop where
  f : 1 ≤ D.f ∧ D.f ≤ 21
  ep : 0 ≤ D.epoch ∧ D.epoch ≤ 1048576
  rp : 0 ≤ D.replica ∧ D.replica < 3 * D.f + 1
  rd : 0 ≤ D.s.round ∧ D.s.round ≤ 1048576
  st : 0 ≤ D.s.step ∧ D.s.step ≤ 3
  V : VInv D.f D.L
  R : ∀ v ∈ D.L, (v.kind = 1 ∨ v.kind = 2) ∧ 0 ≤ v.round ∧ v.round ≤ 1048576
  pk : (D.P.map (·.1)).Nodup
  pr : ∀ x ∈ D.P, 0 ≤ x.1 ∧ x.1 ≤ 1048576 ∧ -1 ≤ x.2.valid ∧ x.2.valid < x.1 ∧ x.2.h ≠ hash0
theorem minR_mem (l : List Int) : ∀ a, (l.foldl (fun a r => if a < 0 ∨ r < a then r else a) a) = a ∨ (l.foldl (fun a r => if a < 0 ∨ r < a then r else a) a) ∈ l := by
  induction l with
  | nil => simp
  | cons x l ih =>
    intro a
    rw [List.foldl_cons]
    rcases ih (if a < 0 ∨ x < a then x else a) with h | h
    · rw [h]
      split
      · exact .inr (by simp)
      · exact .inl rfl
    · exact .inr (List.mem_cons_of_mem _ h)
theorem maxR_mem (l : List Int) : ∀ a, (l.foldl (fun a r => if a < r then r else a) a) = a ∨ (l.foldl (fun a r => if a < r then r else a) a) ∈ l := by
  induction l with
  | nil => simp
  | cons x l ih =>
    intro a
    rw [List.foldl_cons]
    rcases ih (if a < x then x else a) with h | h
    · rw [h]
      split
      · exact .inr (by simp)
      · exact .inl rfl
    · exact .inr (List.mem_cons_of_mem _ h)
theorem maxR_ge (l : List Int) : ∀ a, a ≤ (l.foldl (fun a r => if a < r then r else a) a) ∧ ∀ x ∈ l, x ≤ (l.foldl (fun a r => if a < r then r else a) a) := by
  induction l with
  | nil => simp
  | cons x l ih =>
    intro a
    rw [List.foldl_cons]
    have h := ih (if a < x then x else a)
    have h1 := h.1
    have h2 : a ≤ (if a < x then x else a) ∧ x ≤ (if a < x then x else a) := by split <;> omega
    refine ⟨Int.le_trans h2.1 h1, ?_⟩
    intro y hy
    rcases List.mem_cons.1 hy with rfl | hy
    · exact Int.le_trans h2.2 h1
    · exact h.2 y hy
theorem minR_le (l : List Int) (hp : ∀ x ∈ l, 0 ≤ x) : ∀ a, (0 ≤ a → (l.foldl (fun a r => if a < 0 ∨ r < a then r else a) a) ≤ a) ∧ ((0 ≤ a ∨ l ≠ []) → 0 ≤ (l.foldl (fun a r => if a < 0 ∨ r < a then r else a) a)) ∧ ∀ x ∈ l, (l.foldl (fun a r => if a < 0 ∨ r < a then r else a) a) ≤ x := by
  induction l with
  | nil => intro a; exact ⟨fun _ => Int.le_refl _, fun h => h.elim id (fun h => absurd rfl h), by simp⟩
  | cons x l ih =>
    intro a
    have hx := hp x (by simp)
    obtain ⟨h1, h2, h3⟩ := ih (fun y hy => hp y (List.mem_cons_of_mem _ hy)) (if a < 0 ∨ x < a then x else a)
    rw [List.foldl_cons]
    have h4 : 0 ≤ (if a < 0 ∨ x < a then x else a) ∧ (if a < 0 ∨ x < a then x else a) ≤ x ∧ (0 ≤ a → (if a < 0 ∨ x < a then x else a) ≤ a) := by
      split <;> omega
    have h5 := h1 h4.1
    refine ⟨fun ha => Int.le_trans h5 (h4.2.2 ha), fun _ => h2 (.inl h4.1), ?_⟩
    intro y hy
    rcases List.mem_cons.1 hy with rfl | hy
    · omega
    · exact h3 y hy
/-- the least one, told by what it is -/
theorem minR_spec (l : List Int) (hp : ∀ x ∈ l, 0 ≤ x) : (l = [] ∧ minR l = -1) ∨ (minR l ∈ l ∧ ∀ x ∈ l, minR l ≤ x) := by
  unfold minR
  by_cases hl : l = []
  · subst hl; exact .inl ⟨rfl, rfl⟩
  · obtain ⟨_, h2, h3⟩ := minR_le l hp (-1)
    refine .inr ⟨?_, h3⟩
    have := h2 (.inr hl)
    rcases minR_mem l (-1) with h | h
    · omega
    · exact h
theorem maxR_spec (l : List Int) (hp : ∀ x ∈ l, 0 ≤ x) : (l = [] ∧ maxR l = -1) ∨ (maxR l ∈ l ∧ ∀ x ∈ l, x ≤ maxR l) := by
  unfold maxR
  by_cases hl : l = []
  · subst hl; exact .inl ⟨rfl, rfl⟩
  · obtain ⟨h2, h3⟩ := maxR_ge l (-1)
    refine .inr ⟨?_, h3⟩
    rcases maxR_mem l (-1) with h | h
    · obtain ⟨x, hx⟩ := List.exists_mem_of_ne_nil l hl
      have := h3 x hx
      have := hp x hx
      omega
    · exact h
theorem minR_ext {l m : List Int} (hl : ∀ x ∈ l, 0 ≤ x) (h : ∀ x, x ∈ l ↔ x ∈ m) : minR l = minR m := by
  have hm : ∀ x ∈ m, 0 ≤ x := fun x hx => hl x ((h x).2 hx)
  rcases minR_spec l hl with ⟨h1, h2⟩ | ⟨h1, h2⟩ <;> rcases minR_spec m hm with ⟨h3, h4⟩ | ⟨h3, h4⟩
  · rw [h2, h4]
  · subst h1; have := (h _).2 h3; simp at this
  · subst h3; have := (h _).1 h1; simp at this
  · have h5 := h2 _ ((h _).2 h3)
    have h6 := h4 _ ((h _).1 h1)
    omega
theorem maxR_ext {l m : List Int} (hl : ∀ x ∈ l, 0 ≤ x) (h : (∀ x ∈ l, ∃ y ∈ m, x ≤ y) ∧ ∀ x ∈ m, ∃ y ∈ l, x ≤ y) (hm : ∀ x ∈ m, 0 ≤ x) : maxR l = maxR m := by
  rcases maxR_spec l hl with ⟨h1, h2⟩ | ⟨h1, h2⟩ <;> rcases maxR_spec m hm with ⟨h3, h4⟩ | ⟨h3, h4⟩
  · rw [h2, h4]
  · subst h1; obtain ⟨y, hy, _⟩ := h.2 _ h3; simp at hy
  · subst h3; obtain ⟨y, hy, _⟩ := h.1 _ h1; simp at hy
  · obtain ⟨y, hy, h5⟩ := h.1 _ h1
    obtain ⟨z, hz, h6⟩ := h.2 _ h3
    have := h2 _ hz
    have := h4 _ hy
    omega
theorem leastV_spec (f : Int) (L : List VoteD) (P : List (Int × PropD)) (hp : ∀ x ∈ P, 0 ≤ x.1) : (leastV f L P = -1 ∧ ∀ x ∈ P, leastP f L x = false) ∨ ∃ x ∈ P, leastP f L x = true ∧ leastV f L P = x.1 ∧ ∀ y ∈ P, leastP f L y = true → x.1 ≤ y.1 := by
  have hp' : ∀ x ∈ (P.filter (leastP f L)).map (·.1), 0 ≤ x := by
    intro x hx
    obtain ⟨y, hy, rfl⟩ := List.mem_map.1 hx
    exact hp y (List.mem_filter.1 hy).1
  rcases minR_spec _ hp' with ⟨h1, h2⟩ | ⟨h1, h2⟩
  · refine .inl ⟨h2, fun x hx => ?_⟩
    rw [List.map_eq_nil_iff, List.filter_eq_nil_iff] at h1
    simpa using h1 x hx
  · obtain ⟨x, hx, he⟩ := List.mem_map.1 h1
    obtain ⟨hx1, hx2⟩ := List.mem_filter.1 hx
    refine .inr ⟨x, hx1, hx2, he.symm, fun y hy hq => ?_⟩
    have := h2 y.1 (List.mem_map.2 ⟨y, List.mem_filter.2 ⟨hy, hq⟩, rfl⟩)
    unfold leastV at *
    omega
theorem farV_spec (f : Int) (L : List VoteD) (above many : Int) (ha : 0 ≤ above) : (farV f L above many = -1 ∧ ∀ v ∈ L, farP f L above many v.round = false) ∨ ∃ v ∈ L, farP f L above many v.round = true ∧ farV f L above many = v.round ∧ ∀ u ∈ L, farP f L above many u.round = true → u.round ≤ v.round := by
  have hp' : ∀ x ∈ (L.map (·.round)).filter (farP f L above many), 0 ≤ x := by
    intro x hx
    have := (List.mem_filter.1 hx).2
    simp [farP] at this
    omega
  rcases maxR_spec _ hp' with ⟨h1, h2⟩ | ⟨h1, h2⟩
  · refine .inl ⟨h2, fun x hx => ?_⟩
    rw [List.filter_eq_nil_iff] at h1
    simpa using h1 x.round (List.mem_map.2 ⟨x, hx, rfl⟩)
  · obtain ⟨hx1, hx2⟩ := List.mem_filter.1 h1
    obtain ⟨v, hv, he⟩ := List.mem_map.1 hx1
    refine .inr ⟨v, hv, by rw [he]; exact hx2, he.symm, fun y hy hq => ?_⟩
    have := h2 y.round (List.mem_filter.2 ⟨List.mem_map.2 ⟨y, hy, rfl⟩, hq⟩)
    unfold farV at *
    omega
theorem farV_lim {D : CoreD} (h : CI D) (hf : 0 ≤ farV D.f D.L D.s.round (D.f + 1)) : D.s.round < farV D.f D.L D.s.round (D.f + 1) ∧ farV D.f D.L D.s.round (D.f + 1) ≤ 1048576 := by
  rcases farV_spec D.f D.L D.s.round (D.f + 1) h.rd.1 with ⟨h1, _⟩ | ⟨v, hv, h1, h2, _⟩
  · omega
  · rw [h2]
    have := (h.R v hv).2.2
    simp [farP] at h1
    omega
theorem addV_R {f : Int} {L : List VoteD} (h : ∀ v ∈ L, (v.kind = 1 ∨ v.kind = 2) ∧ 0 ≤ v.round ∧ v.round ≤ 1048576) (v : VoteD) : ∀ u ∈ addV f L v, (u.kind = 1 ∨ u.kind = 2) ∧ 0 ≤ u.round ∧ u.round ≤ 1048576 := by
  intro u hu
  unfold addV at hu
  split at hu
  · rename_i hok
    rcases List.mem_append.1 hu with hu | hu
    · exact h u hu
    · obtain rfl := List.mem_singleton.1 hu
      simp [okV] at hok
      omega
  · exact h u hu
theorem CI.own {D : CoreD} (h : CI D) (kind step : Int) (hs : 0 ≤ step ∧ step ≤ 3) (x : Hash) : CI (ownV D kind step x) :=
  ⟨h.f, h.ep, h.rp, h.rd, hs, h.V.add _, addV_R h.R _, h.pk, h.pr⟩
theorem CI.to {D : CoreD} (h : CI D) (r : Int) (hr : 0 ≤ r ∧ r ≤ 1048576) : CI (toD D r) :=
  ⟨h.f, h.ep, h.rp, hr, by simp [toD], h.V, h.R, h.pk, h.pr⟩
theorem CI.rule {D D' : CoreD} {A : List ActD} (h : CI D) (hr : ruleD D = some (D', A)) : CI D' := by
  unfold ruleD at hr
  split at hr
  · simp only [Option.some.injEq, Prod.mk.injEq] at hr; obtain ⟨rfl, _⟩ := hr
    exact ⟨h.f, h.ep, h.rp, h.rd, h.st, h.V, h.R, h.pk, h.pr⟩
  split at hr
  · rename_i hf
    simp only [Option.some.injEq, Prod.mk.injEq] at hr; obtain ⟨rfl, _⟩ := hr
    have := farV_lim h hf
    exact h.to _ ⟨hf, this.2⟩
  split at hr
  · simp only [Option.some.injEq, Prod.mk.injEq] at hr; obtain ⟨rfl, _⟩ := hr
    exact h.own _ _ (by omega) _
  split at hr
  · split at hr
    · simp only [Option.some.injEq, Prod.mk.injEq] at hr; obtain ⟨rfl, _⟩ := hr
      have h1 : CI (lockD (wvD D) (getP D.P D.s.round).h) := ⟨h.f, h.ep, h.rp, h.rd, h.st, h.V, h.R, h.pk, h.pr⟩
      have h2 := h1.own 2 3 (by omega) (getP D.P D.s.round).h
      exact ⟨h2.f, h2.ep, h2.rp, h2.rd, h2.st, h2.V, h2.R, h2.pk, h2.pr⟩
    · simp only [Option.some.injEq, Prod.mk.injEq] at hr; obtain ⟨rfl, _⟩ := hr
      exact ⟨h.f, h.ep, h.rp, h.rd, h.st, h.V, h.R, h.pk, h.pr⟩
  split at hr
  · simp only [Option.some.injEq, Prod.mk.injEq] at hr; obtain ⟨rfl, _⟩ := hr
    exact h.own _ _ (by omega) _
  split at hr
  · simp only [Option.some.injEq, Prod.mk.injEq] at hr; obtain ⟨rfl, _⟩ := hr
    exact ⟨h.f, h.ep, h.rp, h.rd, h.st, h.V, h.R, h.pk, h.pr⟩
  split at hr
  · simp only [Option.some.injEq, Prod.mk.injEq] at hr; obtain ⟨rfl, _⟩ := hr
    exact ⟨h.f, h.ep, h.rp, h.rd, h.st, h.V, h.R, h.pk, h.pr⟩
  · cases hr
theorem muD_rule {D D' : CoreD} {A : List ActD} (h : CI D) (hg : goesB D = true) (hr : ruleD D = some (D', A)) : muD D' < muD D ∧ A.length ≤ 1 := by
  have hd : D.s.decided = false := by simp [goesB] at hg; exact hg.2
  have hs : 0 < D.s.step := by simp [goesB] at hg; exact hg.1
  have h1 := h.st
  have h2 := h.rd
  have hen : ∀ r, (enterA D r).length ≤ 1 := fun r => by unfold enterA; split <;> simp
  unfold ruleD at hr
  split at hr
  · simp only [Option.some.injEq, Prod.mk.injEq] at hr; obtain ⟨rfl, rfl⟩ := hr
    simp [muD, decideD, hd, bN]
  split at hr
  · rename_i hf
    simp only [Option.some.injEq, Prod.mk.injEq] at hr; obtain ⟨rfl, rfl⟩ := hr
    have := farV_lim h hf
    refine ⟨?_, hen _⟩
    simp only [muD, toD, hd, bN, cond_false]
    have : bN D.wv ≤ 1 ∧ bN D.sp ≤ 1 ∧ bN D.sc ≤ 1 := by unfold bN; cases D.wv <;> cases D.sp <;> cases D.sc <;> simp
    omega
  split at hr
  · rename_i hc
    simp only [Option.some.injEq, Prod.mk.injEq] at hr; obtain ⟨rfl, rfl⟩ := hr
    simp only [muD, ownV, ownA, List.length_singleton]
    omega
  split at hr
  · rename_i hc
    split at hr
    · simp only [Option.some.injEq, Prod.mk.injEq] at hr; obtain ⟨rfl, rfl⟩ := hr
      simp only [muD, ownV, ownA, lockD, wvD, validD, List.length_singleton, hc.2.2.2.1, bN, cond_true, cond_false]
      omega
    · simp only [Option.some.injEq, Prod.mk.injEq] at hr; obtain ⟨rfl, rfl⟩ := hr
      simp only [muD, wvD, validD, List.length_nil, hc.2.2.2.1, bN, cond_true, cond_false]
      omega
  split at hr
  · rename_i hc
    simp only [Option.some.injEq, Prod.mk.injEq] at hr; obtain ⟨rfl, rfl⟩ := hr
    simp only [muD, ownV, ownA, List.length_singleton]
    omega
  split at hr
  · rename_i hc
    simp only [Option.some.injEq, Prod.mk.injEq] at hr; obtain ⟨rfl, rfl⟩ := hr
    simp only [muD, List.length_singleton, hc.2.1, bN, cond_true, cond_false]
    omega
  split at hr
  · rename_i hc
    simp only [Option.some.injEq, Prod.mk.injEq] at hr; obtain ⟨rfl, rfl⟩ := hr
    simp only [muD, List.length_singleton, hc.1, bN, cond_true, cond_false]
    omega
  · cases hr
theorem settleN_more : ∀ (n : Nat) (D : CoreD), CI D → muD D ≤ n → settleN (n + 1) D = settleN n D := by
  intro n
  induction n with
  | zero =>
    intro D h hn
    rw [settleN]
    cases hg : goesB D
    · simp [settleN, hg]
    · cases hr : ruleD D with
      | none => simp [settleN, hr]
      | some x =>
        have := (muD_rule (A := x.2) h hg hr).1
        omega
  | succ n ih =>
    intro D h hn
    rw [settleN, settleN]
    cases hg : goesB D
    · rfl
    · cases hr : ruleD D with
      | none => rfl
      | some x =>
        obtain ⟨D', A⟩ := x
        have hm := (muD_rule h hg hr).1
        simp only [if_true, ih D' (h.rule hr) (by omega)]
theorem settleN_enough (D : CoreD) (h : CI D) : ∀ n, muD D ≤ n → settleN n D = settleD D := by
  intro n hn
  obtain ⟨k, rfl⟩ := Nat.le.dest hn
  clear hn
  induction k with
  | zero => unfold settleD; rw [fuelOf_eq]; rfl
  | succ k ih => rw [← Nat.add_assoc, settleN_more _ D h (by omega), ih]
theorem settle_step {D D' : CoreD} {A : List ActD} (h : CI D) (hg : goesB D = true) (hr : ruleD D = some (D', A)) : settleD D = ((settleD D').1, A ++ (settleD D').2) := by
  have hm := (muD_rule h hg hr).1
  rw [← settleN_enough D h (muD D + 1) (by omega), settleN]
  simp only [hg, if_true, hr]
  rw [settleN_enough D' (h.rule hr) _ (by omega)]
theorem settle_stop {D : CoreD} (hg : goesB D = false) : settleD D = (D, []) := by
  unfold settleD
  cases fuelOf (muD D) <;> simp [settleN, hg]
theorem settle_none {D : CoreD} (hr : ruleD D = none) : settleD D = (D, []) := by
  unfold settleD
  cases fuelOf (muD D)
  · rfl
  · rw [settleN, hr]; split <;> rfl
/-- what each rule keeps, the settled core has too -/
theorem settle_ind (p : CoreD → List ActD → CoreD → List ActD → Prop) {D : CoreD} (h : CI D) (A0 : List ActD)
    (step : ∀ D1 A1 D2 A2, CI D1 → goesB D1 = true → ruleD D1 = some (D2, A2) → p D A0 D1 A1 → p D A0 D2 (A1 ++ A2)) (h0 : p D A0 D []) : p D A0 (settleD D).1 (settleD D).2 := by
  have key : ∀ n (D1 : CoreD) A1, CI D1 → muD D1 ≤ n → p D A0 D1 A1 → p D A0 (settleD D1).1 (A1 ++ (settleD D1).2) := by
    intro n
    induction n with
    | zero =>
      intro D1 A1 h1 hn hp
      cases hg : goesB D1
      · rw [settle_stop hg]; simpa using hp
      · cases hr : ruleD D1 with
        | none => rw [settle_none hr]; simpa using hp
        | some x => have := (muD_rule (A := x.2) h1 hg hr).1; omega
    | succ n ih =>
      intro D1 A1 h1 hn hp
      cases hg : goesB D1
      · rw [settle_stop hg]; simpa using hp
      · cases hr : ruleD D1 with
        | none => rw [settle_none hr]; simpa using hp
        | some x =>
          obtain ⟨D2, A2⟩ := x
          rw [settle_step h1 hg hr]
          have := (muD_rule h1 hg hr).1
          have := ih D2 (A1 ++ A2) (h1.rule hr) (by omega) (step D1 A1 D2 A2 h1 hg hr hp)
          simpa using this
  simpa using key (muD D) D [] h (Nat.le_refl _) h0
theorem CI.settle {D : CoreD} (h : CI D) : CI (settleD D).1 :=
  settle_ind (fun _ _ D1 _ => CI D1) h [] (fun _ _ _ _ h1 _ hr _ => h1.rule hr) h
theorem settle_len {D : CoreD} (h : CI D) : (settleD D).2.length + muD (settleD D).1 ≤ muD D :=
  settle_ind (fun D _ D1 A1 => A1.length + muD D1 ≤ muD D) h [] (fun D1 A1 D2 A2 h1 hg hr hp => by
    have := muD_rule h1 hg hr
    simp only [List.length_append]; omega) (by simp)
theorem muD_le (D : CoreD) (h : CI D) : muD D ≤ 8388620 := by
  have h1 := h.st
  have h2 := h.rd
  have : bN D.s.decided ≤ 1 ∧ bN D.wv ≤ 1 ∧ bN D.sp ≤ 1 ∧ bN D.sc ≤ 1 := by unfold bN; cases D.s.decided <;> cases D.wv <;> cases D.sp <;> cases D.sc <;> simp
  unfold muD
  omega
theorem settle_le {D : CoreD} (h : CI D) : (settleD D).2.length ≤ 8388620 := by
  have := settle_len h
  have := muD_le D h
  omega
theorem enterA_len (D : CoreD) (r : Int) : (enterA D r).length = 1 := by unfold enterA; split <;> rfl
/-! ### what comes -/
noncomputable def startD (D : CoreD) : CoreD × List ActD :=
  if 0 < D.s.step then (D, []) else ((settleD (toD D 0)).1, enterA D 0 ++ (settleD (toD D 0)).2)
def propBad (D : CoreD) (round valid : Int) (h : Hash) : Bool :=
  D.s.decided || hasP D.P round || decide (round < 0) || decide (round > 1048576) || decide (valid < -1) || decide (valid ≥ round) || decide (h = hash0)
def putD (D : CoreD) (round valid : Int) (h : Hash) (ok : Bool) : CoreD := { D with P := putM D.P round ⟨valid, h, ok⟩ }
noncomputable def proposeD (D : CoreD) (round valid : Int) (h : Hash) (ok : Bool) : CoreD × List ActD :=
  if propBad D round valid h = true then (D, []) else settleD (putD D round valid h ok)
def addD (D : CoreD) (kind round replica : Int) (h : Hash) : CoreD := { D with L := addV D.f D.L ⟨kind, round, replica, h⟩ }
noncomputable def voteD' (D : CoreD) (kind round replica : Int) (h : Hash) : CoreD × List ActD :=
  if D.s.decided = true ∨ okV D.f D.L kind round replica = false then (D, []) else settleD (addD D kind round replica h)
/-- the next round, if there is one -/
def nextD (D : CoreD) (r : Int) : CoreD := if r ≤ 1048576 then toD D r else D
def nextA (D : CoreD) (r : Int) : List ActD := if r ≤ 1048576 then enterA D r else []
noncomputable def timeD (D : CoreD) (kind round : Int) : CoreD × List ActD :=
  if D.s.step = 0 ∨ D.s.decided = true ∨ round ≠ D.s.round then (D, [])
  else if kind = 1 ∧ D.s.step = 1 then ((settleD (ownV D 1 2 hash0)).1, ownA D 2 hash0 ++ (settleD (ownV D 1 2 hash0)).2)
  else if kind = 2 ∧ D.s.step = 2 then ((settleD (ownV D 2 3 hash0)).1, ownA D 3 hash0 ++ (settleD (ownV D 2 3 hash0)).2)
  else if kind = 3 then ((settleD (nextD D (D.s.round + 1))).1, nextA D (D.s.round + 1) ++ (settleD (nextD D (D.s.round + 1))).2)
  else settleD D
theorem nextA_len (D : CoreD) (r : Int) : (nextA D r).length ≤ 1 := by
  unfold nextA
  split
  · rw [enterA_len]; exact Nat.le_refl _
  · simp
theorem CI.next0 {D : CoreD} (h : CI D) : CI (nextD D 0) := by
  unfold nextD
  rw [if_pos (by decide)]
  exact h.to 0 (by omega)
def timeBad (D : CoreD) (round : Int) : Bool := decide (D.s.step = 0) || D.s.decided || !decide (round = D.s.round)
theorem timeD_b (D : CoreD) (kind round : Int) : timeD D kind round =
    if timeBad D round = true then (D, [])
    else if (decide (kind = 1) && decide (D.s.step = 1)) = true then ((settleD (ownV D 1 2 hash0)).1, ownA D 2 hash0 ++ (settleD (ownV D 1 2 hash0)).2)
    else if (decide (kind = 2) && decide (D.s.step = 2)) = true then ((settleD (ownV D 2 3 hash0)).1, ownA D 3 hash0 ++ (settleD (ownV D 2 3 hash0)).2)
    else if kind = 3 then ((settleD (nextD D (D.s.round + 1))).1, nextA D (D.s.round + 1) ++ (settleD (nextD D (D.s.round + 1))).2)
    else settleD D := by
  unfold timeD
  simp only [timeBad, Bool.or_eq_true, Bool.and_eq_true, decide_eq_true_eq, Bool.not_eq_true', decide_eq_false_iff_not, or_assoc, ne_eq]
theorem startD_b (D : CoreD) (h : ¬ 0 < D.s.step) : startD D = ((settleD (nextD D 0)).1, nextA D 0 ++ (settleD (nextD D 0)).2) := by
  unfold startD nextD nextA
  rw [if_neg h, if_pos (by decide), if_pos (by decide)]
def newS : StD := ⟨0, 0, -1, -1, hash0, hash0, false, hash0⟩
def newD (f c epoch replica : Int) : CoreD := ⟨f, c, epoch, replica, newS, [], [], false, false, false⟩
def newOk (f c epoch replica : Int) : Bool := confB f c && decide (0 ≤ epoch) && decide (epoch ≤ 1048576) && inB f replica
theorem CI.new {f c epoch replica : Int} (h : newOk f c epoch replica = true) : CI (newD f c epoch replica) := by
  simp [newOk, confB, inB] at h
  exact ⟨by simp [newD]; omega, by simp [newD]; omega, by simp [newD]; omega, by simp [newD, newS], by simp [newD, newS], VInv.nil _, by simp [newD], by simp [newD], by simp [newD]⟩
theorem CI.put {D : CoreD} (h : CI D) {round valid : Int} {x : Hash} {ok : Bool} (hb : propBad D round valid x = false) : CI (putD D round valid x ok) := by
  simp [propBad] at hb
  refine ⟨h.f, h.ep, h.rp, h.rd, h.st, h.V, h.R, nodup_put h.pk _ _, ?_⟩
  rintro ⟨r, p⟩ hx
  rcases mem_put _ _ hx with ⟨rfl, rfl⟩ | hx
  · refine ⟨by omega, by omega, by show -1 ≤ valid; omega, by show valid < r; omega, hb.2⟩
  · exact h.pr _ hx
theorem CI.addD {D : CoreD} (h : CI D) (kind round replica : Int) (x : Hash) : CI (addD D kind round replica x) :=
  ⟨h.f, h.ep, h.rp, h.rd, h.st, h.V.add _, addV_R h.R _, h.pk, h.pr⟩
theorem CI.next {D : CoreD} (h : CI D) : CI (nextD D (D.s.round + 1)) := by
  unfold nextD
  split
  · exact h.to _ ⟨by have := h.rd; omega, by assumption⟩
  · exact h
theorem CI.start {D : CoreD} (h : CI D) : CI (startD D).1 := by
  unfold startD
  split
  · exact h
  · exact (h.to 0 (by omega)).settle
theorem CI.propose {D : CoreD} (h : CI D) (round valid : Int) (x : Hash) (ok : Bool) : CI (proposeD D round valid x ok).1 := by
  unfold proposeD
  split
  · exact h
  · rename_i hb; exact (h.put (by simpa using hb)).settle
theorem CI.vote {D : CoreD} (h : CI D) (kind round replica : Int) (x : Hash) : CI (voteD' D kind round replica x).1 := by
  unfold voteD'
  split
  · exact h
  · exact (h.addD _ _ _ _).settle
theorem CI.time {D : CoreD} (h : CI D) (kind round : Int) : CI (timeD D kind round).1 := by
  unfold timeD
  split
  · exact h
  split
  · exact (h.own _ _ (by omega) _).settle
  split
  · exact (h.own _ _ (by omega) _).settle
  split
  · exact h.next.settle
  · exact h.settle
/-- so few votes may be -/
def keyN (v : VoteD) : Nat := (v.kind.toNat * 1048577 + v.round.toNat) * 64 + v.replica.toNat
theorem keyN_lt {f : Int} {v : VoteD} (hf : 1 ≤ f ∧ f ≤ 21) (R : (v.kind = 1 ∨ v.kind = 2) ∧ 0 ≤ v.round ∧ v.round ≤ 1048576) (V : inB f v.replica = true) : keyN v < 201326784 := by
  simp [inB] at V
  unfold keyN; omega
theorem keyN_inj {f : Int} {a b : VoteD} (hf : 1 ≤ f ∧ f ≤ 21) (r1 : (a.kind = 1 ∨ a.kind = 2) ∧ 0 ≤ a.round ∧ a.round ≤ 1048576) (p1 : inB f a.replica = true) (r2 : (b.kind = 1 ∨ b.kind = 2) ∧ 0 ≤ b.round ∧ b.round ≤ 1048576) (p2 : inB f b.replica = true) (e : keyN a = keyN b) : a.kind = b.kind ∧ a.round = b.round ∧ a.replica = b.replica := by
  simp [inB] at p1 p2
  unfold keyN at e
  exact ⟨by omega, by omega, by omega⟩
theorem votes_few0 {f : Int} {L : List VoteD} (hf : 1 ≤ f ∧ f ≤ 21) (V : VInv f L) (R : ∀ v ∈ L, (v.kind = 1 ∨ v.kind = 2) ∧ 0 ≤ v.round ∧ v.round ≤ 1048576) (N : Nat) (hN : ∀ v ∈ L, keyN v < N) : L.length ≤ N := by
  have h1 : (L.map keyN).length ≤ (List.range N).length := by
    refine nodup_sub_len _ _ ?_ ?_
    · rw [List.nodup_iff_pairwise_ne, List.pairwise_map]
      refine List.Pairwise.imp_of_mem ?_ V.one
      intro a b ha hb hab e
      exact hab (keyN_inj hf (R a ha) (V.rng a ha) (R b hb) (V.rng b hb) e)
    · intro x hx
      obtain ⟨v, hv, rfl⟩ := List.mem_map.1 hx
      rw [List.mem_range]
      exact hN v hv
  rwa [List.length_map, List.length_range] at h1
theorem votes_few {f : Int} {L : List VoteD} (hf : 1 ≤ f ∧ f ≤ 21) (V : VInv f L) (R : ∀ v ∈ L, (v.kind = 1 ∨ v.kind = 2) ∧ 0 ≤ v.round ∧ v.round ≤ 1048576) : L.length ≤ 1000000000 :=
  Nat.le_trans (votes_few0 hf V R 201326784 (fun v hv => keyN_lt hf (R v hv) (V.rng v hv))) (by decide)
theorem CI.votes {D : CoreD} (h : CI D) : D.L.length ≤ 1000000000 := votes_few h.f h.V h.R
end Go.Proofs.Ythjmbhneifjeeaa
