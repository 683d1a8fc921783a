/- WHAT IS PROVED: a tally stands for the list of the votes that were counted; its functions' contracts in these words. Conditions: stated with each. -/
import Derived.Test.YthjmbhneifjeeaaTally
namespace Go.Proofs.Ythjmbhneifjeeaa
open Go.RowKit
structure VoteD where
  kind : Int
  round : Int
  replica : Int
  h : Hash
  deriving DecidableEq
theorem look_mem {κ ν : Type} [DecidableEq κ] {l : List (κ × ν)} (hn : (l.map (·.1)).Nodup) (a : κ) (m : ν) : lookM l a = some m ↔ (a, m) ∈ l := by
  unfold lookM
  induction l with
  | nil => simp
  | cons x l ih =>
    simp only [List.map_cons, List.nodup_cons] at hn
    by_cases hx : x.1 = a
    · subst hx
      simp only [List.find?_cons, beq_self_eq_true, Option.map_some, Option.some.injEq, List.mem_cons]
      constructor
      · rintro rfl; exact .inl rfl
      · rintro (h | h)
        · rw [← h]
        · exact absurd (List.mem_map.2 ⟨_, h, rfl⟩) hn.1
    · have : (x.1 == a) = false := by simpa using hx
      simp only [List.find?_cons, this, ih hn.2, List.mem_cons]
      constructor
      · exact .inr
      · rintro (h | h)
        · exact absurd (by rw [← h]) hx
        · exact h
structure Tal (T : TallyS) (L : List VoteD) : Prop where
  hv : ∀ k r p, (lookM T.hv ⟨k, r, p⟩).getD false = L.any fun v => decide (v.kind = k ∧ v.round = r ∧ v.replica = p)
  count : ∀ x : Choice, (lookM T.count x).getD 0 = (L.countP fun v => decide (v.kind = x.kind ∧ v.round = x.round ∧ v.h = x.h) : Nat)
  cnod : (T.count.map (·.1)).Nodup
  cpos : ∀ x n, (x, n) ∈ T.count → 0 < n
  all : ∀ x : Turn, (lookM T.all x).getD 0 = (L.countP fun v => decide (v.kind = x.kind ∧ v.round = x.round) : Nat)
  lnod : (T.last.map (·.1)).Nodup
  last1 : ∀ v ∈ L, ∃ m, lookM T.last v.replica = some m ∧ v.round ≤ m
  last2 : ∀ p m, lookM T.last p = some m → ∃ v ∈ L, v.replica = p ∧ v.round = m
  rng : ∀ v ∈ L, inB T.f v.replica = true
  fb : 1 ≤ T.f ∧ T.f ≤ 21
def okV (f : Int) (L : List VoteD) (kind round replica : Int) : Bool :=
  !((!decide (kind = 1) && !decide (kind = 2)) || decide (round < 0) || decide (round > 1048576) || !inB f replica || L.any fun v => decide (v.kind = kind ∧ v.round = round ∧ v.replica = replica))
def addV (f : Int) (L : List VoteD) (v : VoteD) : List VoteD := if okV f L v.kind v.round v.replica = true then L ++ [v] else L
def forV (L : List VoteD) (kind round : Int) (h : Hash) : Int := (L.countP fun v => decide (v.kind = kind ∧ v.round = round ∧ v.h = h) : Nat)
def allV (L : List VoteD) (kind round : Int) : Int := (L.countP fun v => decide (v.kind = kind ∧ v.round = round) : Nat)
def heardV (f : Int) (L : List VoteD) (round : Int) : Int := (((List.range (3 * f + 1).toNat).filter fun (i : Nat) => L.any fun v => decide (v.replica = (i : Int) ∧ round ≤ v.round)).length : Nat)
theorem Tal.new (f c : Int) (h : confB f c = true) : Tal ⟨f, c, [], [], [], []⟩ [] := by
  refine ⟨by simp [lookM], by simp [lookM], by simp, by simp, by simp [lookM], by simp, by simp, by simp [lookM], by simp, ?_⟩
  simp [confB] at h
  exact ⟨h.1.1.1, h.1.1.2⟩
theorem Tal.bad {T : TallyS} {L : List VoteD} (h : Tal T L) (kind round replica : Int) : badB T kind round replica = !okV T.f L kind round replica := by
  simp [badB, okV, h.hv]
theorem nodup_put' {κ ν : Type} [DecidableEq κ] {l : List (κ × ν)} (hn : (l.map (·.1)).Nodup) (a : κ) (v : ν) : ((putM l a v).map (·.1)).Nodup := nodup_put hn a v
theorem mem_put {κ ν : Type} [DecidableEq κ] {l : List (κ × ν)} (a : κ) (v : ν) {x : κ} {y : ν} (h : (x, y) ∈ putM l a v) : (x = a ∧ y = v) ∨ (x, y) ∈ l := by
  unfold putM at h
  split at h
  · obtain ⟨z, hz, e⟩ := List.mem_map.1 h
    split at e
    · exact .inl ⟨by rw [← (Prod.mk.inj e).1], by rw [← (Prod.mk.inj e).2]⟩
    · exact .inr (e ▸ hz)
  · rcases List.mem_append.1 h with h | h
    · exact .inr h
    · simp at h; exact .inl h
theorem Tal.add {T : TallyS} {L : List VoteD} (h : Tal T L) (kind round replica : Int) (hh : Hash) (hok : okV T.f L kind round replica = true) : Tal (addT T kind round replica hh) (L ++ [⟨kind, round, replica, hh⟩]) := by
  refine ⟨?_, ?_, nodup_put h.cnod _ _, ?_, ?_, ?_, ?_, ?_, ?_, h.fb⟩
  · intro k r p
    simp only [addT]
    by_cases e : (⟨k, r, p⟩ : Voter) = ⟨kind, round, replica⟩
    · rw [e, look_put_same]
      simp only [Voter.mk.injEq] at e
      simp [e]
    · rw [look_put_other _ _ _ _ e, h.hv]
      simp only [Voter.mk.injEq] at e
      have : ¬ (kind = k ∧ round = r ∧ replica = p) := fun ⟨a, b, c⟩ => e ⟨a.symm, b.symm, c.symm⟩
      simp [this]
  · intro x
    simp only [addT]
    by_cases e : x = ⟨kind, round, hh⟩
    · subst e
      rw [look_put_same, h.count]
      simp [List.countP_append]
    · rw [look_put_other _ _ _ _ e, h.count]
      have : ¬ (kind = x.kind ∧ round = x.round ∧ hh = x.h) := fun ⟨a, b, c⟩ => e (by cases x; simp_all)
      simp [List.countP_append, this]
  · intro x n hx
    simp only [addT] at hx
    rcases mem_put _ _ hx with ⟨_, rfl⟩ | hx
    · have := h.count ⟨kind, round, hh⟩; omega
    · exact h.cpos x n hx
  · intro x
    simp only [addT]
    by_cases e : x = ⟨kind, round⟩
    · subst e
      rw [look_put_same, h.all]
      simp [List.countP_append]
    · rw [look_put_other _ _ _ _ e, h.all]
      have : ¬ (kind = x.kind ∧ round = x.round) := fun ⟨a, b⟩ => e (by cases x; simp_all)
      simp [List.countP_append, this]
  · simp only [addT]
    split
    · exact nodup_put h.lnod _ _
    · exact h.lnod
  · intro v hv
    simp only [addT]
    rcases List.mem_append.1 hv with hv | hv
    · obtain ⟨m, h1, h2⟩ := h.last1 v hv
      split
      · rename_i hc
        by_cases e : v.replica = replica
        · refine ⟨round, by rw [e, look_put_same], ?_⟩
          rw [e] at h1
          rw [h1] at hc
          simp at hc
          omega
        · exact ⟨m, by rw [look_put_other _ _ _ _ e]; exact h1, h2⟩
      · exact ⟨m, h1, h2⟩
    · simp at hv
      subst hv
      split
      · exact ⟨round, look_put_same _ _ _, Int.le_refl _⟩
      · rename_i hc
        cases hl : lookM T.last replica with
        | none => rw [hl] at hc; simp at hc
        | some m => rw [hl] at hc; simp at hc; exact ⟨m, rfl, hc⟩
  · intro p m hm
    simp only [addT] at hm
    split at hm
    · by_cases e : p = replica
      · subst e
        rw [look_put_same] at hm
        simp at hm
        exact ⟨_, List.mem_append_right _ (List.mem_singleton.2 rfl), rfl, hm⟩
      · rw [look_put_other _ _ _ _ e] at hm
        obtain ⟨v, hv, h1⟩ := h.last2 p m hm
        exact ⟨v, List.mem_append_left _ hv, h1⟩
    · obtain ⟨v, hv, h1⟩ := h.last2 p m hm
      exact ⟨v, List.mem_append_left _ hv, h1⟩
  · intro v hv
    rcases List.mem_append.1 hv with hv | hv
    · exact h.rng v hv
    · simp at hv
      subst hv
      simp [okV] at hok
      exact hok.1.2
theorem nodup_len {α : Type} [DecidableEq α] {a b : List α} (ha : a.Nodup) (hb : b.Nodup) (h : ∀ x, x ∈ a ↔ x ∈ b) : a.length = b.length :=
  ((List.perm_ext_iff_of_nodup ha hb).2 h).length_eq
theorem Tal.heard {T : TallyS} {L : List VoteD} (h : Tal T L) (r : Int) : heardT T r = heardV T.f L r := by
  unfold heardT heardV
  congr 1
  have e1 : (T.last.filter fun y => decide (y.2 ≥ r)).length = ((T.last.filter fun y => decide (y.2 ≥ r)).map (·.1)).length := by simp
  have e2 : ((List.range (3 * T.f + 1).toNat).filter fun (i : Nat) => L.any fun v => decide (v.replica = (i : Int) ∧ r ≤ v.round)).length = (((List.range (3 * T.f + 1).toNat).filter fun (i : Nat) => L.any fun v => decide (v.replica = (i : Int) ∧ r ≤ v.round)).map fun (i : Nat) => (i : Int)).length := by simp
  rw [e1, e2]
  refine nodup_len ?_ ?_ ?_
  · exact List.Nodup.sublist (List.Sublist.map _ (List.filter_sublist)) h.lnod
  · refine List.Pairwise.map _ ?_ (List.Pairwise.filter _ List.nodup_range)
    intro a b hab e
    exact hab (by omega)
  · intro x
    simp only [List.mem_map, List.mem_filter, List.mem_range, List.any_eq_true, decide_eq_true_eq, Prod.exists]
    constructor
    · rintro ⟨p, m, ⟨hm, hr⟩, rfl⟩
      obtain ⟨v, hv, h1, h2⟩ := h.last2 p m ((look_mem h.lnod p m).2 hm)
      have h3 := h.rng v hv
      simp [inB] at h3
      exact ⟨p.toNat, ⟨by omega, v, hv, by omega, by omega⟩, by omega⟩
    · rintro ⟨i, ⟨hi, v, hv, h1, h2⟩, rfl⟩
      obtain ⟨m, h3, h4⟩ := h.last1 v hv
      rw [h1] at h3
      exact ⟨i, m, ⟨(look_mem h.lnod _ m).1 h3, by omega⟩, rfl⟩
theorem nodup_sub_len {α : Type} [DecidableEq α] : ∀ (a b : List α), a.Nodup → (∀ x, x ∈ a → x ∈ b) → a.length ≤ b.length
  | [], _, _, _ => by simp
  | x :: a, b, hn, h => by
    rw [List.nodup_cons] at hn
    have hx : x ∈ b := h x (by simp)
    have ih := nodup_sub_len a (b.erase x) hn.2 (fun y hy => (List.mem_erase_of_ne (fun e => hn.1 (by rw [← e]; exact hy))).2 (h y (List.mem_cons_of_mem _ hy)))
    rw [List.length_erase_of_mem hx] at ih
    have := List.length_pos_of_mem hx
    simp only [List.length_cons]
    omega
theorem Tal.last_len {T : TallyS} {L : List VoteD} (h : Tal T L) : T.last.length ≤ 1000 := by
  have h1 : (T.last.map (·.1)).length ≤ ((List.range 64).map fun (i : Nat) => (i : Int)).length := by
    refine nodup_sub_len _ _ h.lnod ?_
    intro p hp
    obtain ⟨⟨p, m⟩, hm, rfl⟩ := List.mem_map.1 hp
    obtain ⟨v, hv, h1, h2⟩ := h.last2 p m ((look_mem h.lnod p m).2 hm)
    have h3 := h.rng v hv
    have := h.fb
    simp [inB] at h3
    exact List.mem_map.2 ⟨p.toNat, by simp; omega, by simp; omega⟩
  simp at h1
  omega
theorem Tal.small {T : TallyS} {L : List VoteD} (h : Tal T L) (hl : L.length ≤ 1000000000) : T.Small 1000000000 := by
  have := h.fb
  refine ⟨by omega, fun x => ?_, fun x => ?_⟩
  · rw [h.count]
    have := List.countP_le_length (l := L) (p := fun v => decide (v.kind = x.kind ∧ v.round = x.round ∧ v.h = x.h))
    omega
  · rw [h.all]
    have := List.countP_le_length (l := L) (p := fun v => decide (v.kind = x.kind ∧ v.round = x.round))
    omega
/-- a tally that stands for L -/
def talC (t hb cb ab lb : Nat) (f c : Int) (L : List VoteD) : Ck where
  fp b := b ∈ [t, hb, cb, ab, lb]
  ok w := ∃ T, T.f = f ∧ T.c = c ∧ Tal T L ∧ (tallyC t hb cb ab lb T).ok w
  stay h hb := by
    obtain ⟨T, h1, h2, h3, h4⟩ := h
    exact ⟨T, h1, h2, h3, (tallyC _ _ _ _ _ T).stay h4 fun b hfp => hb b (tallyC_fp hfp)⟩
  lt h b hb := by
    obtain ⟨T, h1, h2, h3, h4⟩ := h
    exact (tallyC _ _ _ _ _ T).lt h4 b (tallyC_of hb)
section
variable (w : World) (t hb cb ab lb : Nat) (f c : Int) (L : List VoteD) (hT : (talC t hb cb ab lb f c L).ok w)
include hT
theorem talAdd_any (kind round replica : Int) (h : Hash) (hl : L.length ≤ 1000000000) :
    Calls Try.prog 37 #[.pointer (some ⟨t, 0, none⟩), .int .i64 kind, .int .i64 round, .int .i64 replica, .agg ⟨hc h⟩] w fun e w' =>
      e = .returned (.bool (okV f L kind round replica)) ∧ (talC t hb cb ab lb f c (addV f L ⟨kind, round, replica, h⟩)).ok w' ∧ Upd [t, hb, cb, ab, lb] w w' := by
  obtain ⟨T, rfl, rfl, h3, h4⟩ := hT
  refine (tallyAdd_any w t hb cb ab lb T h4 kind round replica h (h3.small hl)).mono ?_
  rintro e w' ⟨rfl, hok, hu⟩
  rw [h3.bad] at hok ⊢
  refine ⟨by simp, ?_, hu⟩
  unfold addV
  cases hk : okV T.f L kind round replica
  · rw [hk] at hok; exact ⟨T, rfl, rfl, h3, by simpa using hok⟩
  · rw [hk] at hok; exact ⟨addT T kind round replica h, rfl, rfl, h3.add kind round replica h hk, by simpa using hok⟩
theorem talFor_any (kind round : Int) (h : Hash) :
    Calls Try.prog 67 #[.pointer (some ⟨t, 0, none⟩), .int .i64 kind, .int .i64 round, .agg ⟨hc h⟩] w fun e w' => e = .returned (.int .i64 (forV L kind round h)) ∧ Upd [] w w' := by
  obtain ⟨T, rfl, rfl, h3, h4⟩ := hT
  refine (tallyFor_any w t hb cb ab lb T h4 kind round h).mono ?_
  rintro e w' ⟨rfl, hu⟩
  exact ⟨by rw [h3.count]; rfl, hu⟩
theorem talAll_any (kind round : Int) :
    Calls Try.prog 68 #[.pointer (some ⟨t, 0, none⟩), .int .i64 kind, .int .i64 round] w fun e w' => e = .returned (.int .i64 (allV L kind round)) ∧ Upd [] w w' := by
  obtain ⟨T, rfl, rfl, h3, h4⟩ := hT
  refine (tallyAll_any w t hb cb ab lb T h4 kind round).mono ?_
  rintro e w' ⟨rfl, hu⟩
  exact ⟨by rw [h3.all]; rfl, hu⟩
theorem talHeard_any (round : Int) :
    Calls Try.prog 72 #[.pointer (some ⟨t, 0, none⟩), .int .i64 round] w fun e w' => e = .returned (.int .i64 (heardV f L round)) ∧ Upd [] w w' := by
  obtain ⟨T, rfl, rfl, h3, h4⟩ := hT
  refine (tallyHeard_any w t hb cb ab lb T h4 round (by have := h3.last_len; omega)).mono ?_
  rintro e w' ⟨rfl, hu⟩
  exact ⟨by rw [h3.heard], hu⟩
end
theorem talNew_any (w : World) (f c : Int) : Calls Try.prog 34 #[.agg ⟨[.int .i64 f, .int .i64 c]⟩] w fun e w' =>
    (confB f c = true ∧ ∃ t hb cb ab lb, e = .returned (.tuple #[.pointer (some ⟨t, 0, none⟩), .int .i64 0]) ∧ (talC t hb cb ab lb f c []).ok w' ∧ Upd [] w w' ∧ ∀ b, (talC t hb cb ab lb f c []).fp b → w.heap.size ≤ b) ∨ (confB f c = false ∧ e = .returned (.tuple #[.pointer none, .int .i64 1]) ∧ Upd [] w w') := by
  refine (tallyNew_any w f c).mono ?_
  rintro e w' (⟨h1, t, hb, cb, ab, lb, rfl, h2, h3, h4⟩ | h)
  · exact .inl ⟨h1, t, hb, cb, ab, lb, rfl, ⟨_, rfl, rfl, Tal.new f c h1, h2⟩, h3, fun b hb => h4 b (tallyC_of hb)⟩
  · exact .inr h
end Go.Proofs.Ythjmbhneifjeeaa
