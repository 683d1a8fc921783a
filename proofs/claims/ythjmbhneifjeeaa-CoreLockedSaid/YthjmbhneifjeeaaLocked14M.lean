/- WHAT IS PROVED: what a core does that is locked on a hash, in a later round whose votes are for another one. Conditions: stated with each. -/
import Derived.Test.YthjmbhneifjeeaaOnce14M
import Derived.Test.YthjmbhneifjeeaaTimes14M
namespace Go.Proofs.Ythjmbhneifjeeaa
open Go.RowKit
theorem gv_forV (k r k' r' : Int) (x y : Hash) (n : Nat) : forV (gv k r x n) k' r' y = if k = k' ∧ r = r' ∧ x = y then (n : Int) else 0 := by
  split
  · rename_i h; obtain ⟨rfl, rfl, rfl⟩ := h; exact gv_for _ _ _ _
  · rename_i h
    exact forV_none fun v hv e => by
      have := gv_mem hv
      exact h ⟨this.1 ▸ e.1, this.2.1 ▸ e.2.1, this.2.2.1 ▸ e.2.2⟩
theorem gv_allV (k r k' r' : Int) (x : Hash) (n : Nat) : allV (gv k r x n) k' r' = if k = k' ∧ r = r' then (n : Int) else 0 := by
  split
  · rename_i h; obtain ⟨rfl, rfl⟩ := h; exact gv_all _ _ _ _
  · rename_i h
    exact allV_none fun v hv e => by
      have := gv_mem hv
      exact h ⟨this.1 ▸ e.1, this.2.1 ▸ e.2⟩
theorem forV_cons (v : VoteD) (L : List VoteD) (k r : Int) (y : Hash) : forV (v :: L) k r y = (if v.kind = k ∧ v.round = r ∧ v.h = y then 1 else 0) + forV L k r y := by
  unfold forV; rw [List.countP_cons]
  by_cases h : v.kind = k ∧ v.round = r ∧ v.h = y <;> simp [h]; omega
theorem allV_cons (v : VoteD) (L : List VoteD) (k r : Int) : allV (v :: L) k r = (if v.kind = k ∧ v.round = r then 1 else 0) + allV L k r := by
  unfold allV; rw [List.countP_cons]
  by_cases h : v.kind = k ∧ v.round = r <;> simp [h]; omega
theorem forV_nil (k r : Int) (y : Hash) : forV [] k r y = 0 := rfl
theorem allV_nil (k r : Int) : allV [] k r = 0 := rfl
theorem one_forV (v : VoteD) (k r : Int) (y : Hash) : forV [v] k r y = if v.kind = k ∧ v.round = r ∧ v.h = y then 1 else 0 := by
  unfold forV; rw [List.countP_singleton]
  by_cases h : v.kind = k ∧ v.round = r ∧ v.h = y <;> simp [h]
theorem one_allV (v : VoteD) (k r : Int) : allV [v] k r = if v.kind = k ∧ v.round = r then 1 else 0 := by
  unfold allV; rw [List.countP_singleton]
  by_cases h : v.kind = k ∧ v.round = r <;> simp [h]
theorem ok_new {f k r p : Int} {L : List VoteD} (hL : ∀ v ∈ L, ¬ (v.kind = k ∧ v.round = r ∧ v.replica = p)) (hk : k = 1 ∨ k = 2) (hr : 0 ≤ r ∧ r ≤ 1048576) (hp : 0 ≤ p ∧ p < 3 * f + 1) : okV f L k r p = true := by
  have hno : (L.any fun v => decide (v.kind = k ∧ v.round = r ∧ v.replica = p)) = false := by
    rw [List.any_eq_false]
    intro v hv
    simpa using hL v hv
  simp only [okV, hno, inB]
  simp
  omega
def kA (F : Int) (m : Hash) (a : Nat) : List VoteD := [⟨1, 0, 3 * F + 1 - 1, m⟩] ++ gv 1 0 m a
def kL (F : Int) (m x : Hash) (a b c : Nat) : List VoteD := ((kA F m a ++ [⟨2, 0, 3 * F + 1 - 1, m⟩]) ++ gv 1 1 x b) ++ gv 1 2 x c
def kP (m : Hash) : List (Int × PropD) := [(0, ⟨-1, m, true⟩)]
def kB (F : Int) (m : Hash) (a : Nat) : CoreD := ⟨F, 1, 0, 3 * F + 1 - 1, ⟨0, 2, -1, -1, hash0, hash0, false, hash0⟩, kA F m a, kP m, false, false, false⟩
def kC (F : Int) (m x : Hash) (a b c : Nat) (r step : Int) (wv : Bool) : CoreD := ⟨F, 1, 0, 3 * F + 1 - 1, ⟨r, step, 0, 0, m, m, false, hash0⟩, kL F m x a b c, kP m, wv, false, false⟩
theorem kA_mem {F : Int} {m : Hash} {a : Nat} {v : VoteD} (h : v ∈ kA F m a) : v = ⟨1, 0, 3 * F + 1 - 1, m⟩ ∨ v ∈ gv 1 0 m a := by
  simpa [kA] using h
theorem kL_mem {F : Int} {m x : Hash} {a b c : Nat} {v : VoteD} (h : v ∈ kL F m x a b c) : v ∈ kA F m a ∨ v = ⟨2, 0, 3 * F + 1 - 1, m⟩ ∨ v ∈ gv 1 1 x b ∨ v ∈ gv 1 2 x c := by
  simp only [kL, List.mem_append, List.mem_singleton] at h
  rcases h with ((h | h) | h) | h
  · exact .inl h
  · exact .inr (.inl h)
  · exact .inr (.inr (.inl h))
  · exact .inr (.inr (.inr h))
/-- the rule that locks -/
theorem rule_lock {D : CoreD} (h1 : leastV D.f D.L D.P = -1) (h2 : farV D.f D.L D.s.round (D.f + 1) = -1) (h3 : D.s.step = 2) (hh : hasP D.P D.s.round = true) (ho : (getP D.P D.s.round).ok = true) (hw : D.wv = false) (hq : 2 * D.f + 1 ≤ forV D.L 1 D.s.round (getP D.P D.s.round).h) :
    ruleD D = some (validD (ownV (lockD (wvD D) (getP D.P D.s.round).h) 2 3 (getP D.P D.s.round).h) (getP D.P D.s.round).h, ownA D 3 (getP D.P D.s.round).h) := by
  unfold ruleD
  rw [if_neg (by omega), if_neg (by omega), if_neg (by omega), if_pos ⟨by omega, hh, ho, hw, hq⟩, if_pos h3]
section
variable {F : Int} {m x : Hash} (hf : 1 ≤ F ∧ F ≤ 3) (hm : m ≠ hash0) (hx : x ≠ hash0) (hxm : x ≠ m)
include hf
include hm in
theorem kB_still (a : Nat) (ha : (a : Int) < 2 * F) : Still (kB F m a) := by
  have e1 : forV (kA F m a) 1 0 m = 1 + a := by simp [kA, gv_forV, forV_cons]
  have e2 : allV (kA F m a) 1 0 = 1 + a := by simp [kA, gv_allV, allV_cons]
  have e3 : ∀ r y, forV (kA F m a) 2 r y = 0 := fun r y => by simp [kA, gv_forV, forV_cons]
  have e4 : ∀ r, allV (kA F m a) 2 r = 0 := fun r => by simp [kA, gv_allV, allV_cons]
  have e5 : forV (kA F m a) 1 0 hash0 = 0 := by simp [kA, gv_forV, forV_cons, hm]
  refine ⟨?_, ?_, ?_, ?_, ?_, ?_, ?_⟩
  · intro y _ _
    show forV (kA F m a) 2 _ _ < 2 * F + 1
    rw [e3]; omega
  · intro v hv hr
    have hr : 0 < v.round := hr
    rcases kA_mem hv with rfl | hv
    · have : (0 : Int) < 0 := hr
      omega
    · have := gv_mem hv; omega
  · intro h; simp [kB] at h
  · intro _ _ _ _
    show forV (kA F m a) 1 0 m < 2 * F + 1
    rw [e1]; omega
  · intro _
    show forV (kA F m a) 1 0 hash0 < 2 * F + 1
    rw [e5]; omega
  · intro _ _
    show allV (kA F m a) 1 0 < 2 * F + 1
    rw [e2]; omega
  · intro _
    show allV (kA F m a) 2 0 < 2 * F + 1
    rw [e4]; omega
omit hf in
theorem k_ok1 (a : Nat) (ha : (a : Int) < 2 * F) : okV F (kA F m a) 1 0 (a : Int) = true := ok_new (fun v hv => by
  rcases kA_mem hv with rfl | hv
  · rintro ⟨_, _, h⟩
    have : 3 * F + 1 - 1 = (a : Int) := h
    omega
  · have := gv_mem hv; omega) (.inl rfl) (by omega) (by omega)
omit hf in
theorem kB_add (a : Nat) (ha : (a : Int) < 2 * F) : addD (kB F m a) 1 0 (a : Int) m = kB F m (a + 1) := by
  unfold addD kB
  rw [show addV F (kA F m a) ⟨1, 0, a, m⟩ = kA F m (a + 1) from by
    rw [addV_yes (v := ⟨1, 0, a, m⟩) (k_ok1 a ha)]; unfold kA; rw [gv_succ, List.append_assoc]]
include hm in
theorem kB_ci : ∀ a : Nat, (a : Int) ≤ 2 * F → CI (kB F m a)
  | 0, _ => by
    refine ⟨by simp [kB]; omega, by simp [kB], by simp [kB]; omega, by simp [kB], by simp [kB], ⟨?_, by simp [kB, kA, gv]⟩, ?_, by simp [kB, kP], by simp [kB, kP, hm]⟩
    · intro v hv
      simp [kB, kA, gv] at hv
      subst hv
      simp [inB, kB]; omega
    · intro v hv
      simp [kB, kA, gv] at hv
      subst hv
      simp
  | a + 1, ha => by
    rw [← kB_add a (by omega)]
    exact (kB_ci a (by omega)).addD _ _ _ _
omit hf in
theorem kB_vote (a : Nat) (ha : (a : Int) < 2 * F) : voteD' (kB F m a) 1 0 (a : Int) m = settleD (kB F m (a + 1)) := by
  unfold voteD'
  rw [if_neg (by show ¬ (false = true ∨ okV F (kA F m a) 1 0 (a : Int) = false); rw [k_ok1 a ha]; simp), kB_add a ha]
include hm in
theorem kB_votes : ∀ a : Nat, (a : Int) < 2 * F → votesD (kB F m 0) 1 0 m a = kB F m a
  | 0, _ => rfl
  | a + 1, ha => by
    simp only [votesD]
    rw [kB_votes a (by omega), kB_vote a (by omega), settle_none (kB_still hf hm (a + 1) (by omega)).none]
/-- no rule holds, while few are heard of a later round -/
theorem kC_still (a b c : Nat) {r step : Int} {wv : Bool} (hs : (r = 0 ∧ step = 3 ∧ wv = true ∧ (b : Int) ≤ F ∧ c = 0) ∨ (r = 1 ∧ step = 1 ∧ (c : Int) ≤ F) ∨ (r = 2 ∧ step = 1)) : Still (kC F m x a b c r step wv) := by
  have e2 : ∀ r, allV (kL F m x a b c) 2 r ≤ 1 := fun r => by
    simp only [kL, kA, allV_app, gv_allV, allV_cons, allV_nil]
    simp
    split <;> omega
  have e1 : ∀ r y, forV (kL F m x a b c) 2 r y ≤ 1 := fun r y => Int.le_trans (forV_le_all _ _ _ _) (e2 r)
  refine ⟨?_, ?_, ?_, ?_, ?_, ?_, ?_⟩
  · intro y _ _
    have := e1 y.1 y.2.h
    show forV (kL F m x a b c) 2 _ _ < 2 * F + 1
    omega
  · intro v hv hr
    have hr : r < v.round := hr
    have hv : v ∈ kL F m x a b c := hv
    have hc := heard_le_count F (kL F m x a b c) v.round
    show heardV F (kL F m x a b c) v.round < F + 1
    have hc2 : 1 ≤ v.round → ((kL F m x a b c).countP fun u => decide (v.round ≤ u.round)) ≤ (gv 1 1 x b ++ gv 1 2 x c).countP fun u => decide (v.round ≤ u.round) := by
      intro h1
      have h0 : ((kA F m a ++ [(⟨2, 0, 3 * F + 1 - 1, m⟩ : VoteD)]).countP fun u => decide (v.round ≤ u.round)) = 0 := by
        rw [List.countP_eq_zero]
        intro u hu
        simp only [List.mem_append, List.mem_singleton] at hu
        have : u.round = 0 := by
          rcases hu with hu | rfl
          · rcases kA_mem hu with rfl | hu
            · rfl
            · exact (gv_mem hu).2.1
          · rfl
        simp; omega
      unfold kL
      rw [List.append_assoc, List.countP_append, h0]
      omega
    have hl1 := List.countP_le_length (l := gv 1 1 x b) (p := fun u => decide (v.round ≤ u.round))
    have hl2 := List.countP_le_length (l := gv 1 2 x c) (p := fun u => decide (v.round ≤ u.round))
    rw [gv_len] at hl1 hl2
    rw [List.countP_append] at hc2
    have hv2 : v.round ≤ 2 := by
      rcases kL_mem hv with hv | rfl | hv | hv
      · rcases kA_mem hv with rfl | hv
        · show (0 : Int) ≤ 2; omega
        · have := gv_mem hv; omega
      · show (0 : Int) ≤ 2; omega
      · have := gv_mem hv; omega
      · have := gv_mem hv; omega
    rcases hs with ⟨rfl, _, _, hb, rfl⟩ | ⟨rfl, _, hb⟩ | ⟨rfl, _⟩
    · have := hc2 (by omega); omega
    · have h2 : v.round = 2 := by omega
      have h3 : ((gv 1 1 x b).countP fun u => decide (v.round ≤ u.round)) = 0 := by
        rw [List.countP_eq_zero]
        intro u hu
        have := gv_mem hu
        simp; omega
      have := hc2 (by omega); omega
    · omega
  · intro h1 hh
    have h1 : step = 1 := h1
    rcases hs with ⟨rfl, h, _⟩ | ⟨rfl, _⟩ | ⟨rfl, _⟩
    · omega
    · simp [kC, hasP, lookM, kP] at hh
    · simp [kC, hasP, lookM, kP] at hh
  · intro h1 _ _ hw
    have h1 : 2 ≤ step := h1
    have hw' : wv = false := hw
    rcases hs with ⟨rfl, h, h2, _⟩ | ⟨rfl, h, _⟩ | ⟨rfl, h⟩
    · rw [hw'] at h2; cases h2
    · omega
    · omega
  · intro h1
    have h1 : step = 2 := h1
    omega
  · intro h1
    have h1 : step = 2 := h1
    omega
  · intro _
    have := e2 r
    show allV (kL F m x a b c) 2 r < 2 * F + 1
    omega
include hm in
theorem kB_last (a : Nat) (ha : (a : Int) = 2 * F) : settleD (kB F m a) = (kC F m x a 0 0 0 3 true, [⟨3, 0, -1, m⟩]) := by
  have e1 : forV (kA F m a) 1 0 m = 1 + a := by simp [kA, gv_forV, forV_cons]
  have e3 : ∀ r y, forV (kA F m a) 2 r y = 0 := fun r y => by simp [kA, gv_forV, forV_cons]
  refine settle_one (kB_ci hf hm a (by omega)) rfl ?_ (.inr (kC_still hf a 0 0 (.inl ⟨rfl, rfl, rfl, by omega, rfl⟩)).none)
  have h1 : leastV F (kA F m a) (kP m) = -1 := leastV_neg (fun q hq => by
    unfold leastP
    rw [e3]
    cases q.2.ok <;> simp; omega)
  have h2 : farV F (kA F m a) 0 (F + 1) = -1 := farV_neg (fun v hv => by
    have : v.round = 0 := by
      rcases kA_mem hv with rfl | hv
      · rfl
      · exact (gv_mem hv).2.1
    simp [farP, this])
  have hok : okV F (kA F m a) 2 0 (3 * F + 1 - 1) = true := ok_new (fun v hv => by
    rintro ⟨h, _⟩
    rcases kA_mem hv with rfl | hv
    · simp at h
    · have := gv_mem hv; omega) (.inr rfl) (by omega) (by omega)
  have hp : getP (kP m) 0 = ⟨-1, m, true⟩ := by simp [getP, lookM, kP]
  have hh : hasP (kP m) 0 = true := by simp [hasP, lookM, kP]
  refine (rule_lock (D := kB F m a) h1 h2 rfl hh (by show (getP (kP m) 0).ok = true; rw [hp]) rfl (by show 2 * F + 1 ≤ forV (kA F m a) 1 0 (getP (kP m) 0).h; rw [hp, e1]; omega)).trans ?_
  show some (validD (ownV (lockD (wvD (kB F m a)) (getP (kP m) 0).h) 2 3 (getP (kP m) 0).h) (getP (kP m) 0).h, ownA (kB F m a) 3 (getP (kP m) 0).h) = _
  rw [hp]
  have hadd : addV F (kA F m a) ⟨2, 0, 3 * F + 1 - 1, m⟩ = kL F m x a 0 0 := by
    rw [addV_yes (v := ⟨2, 0, 3 * F + 1 - 1, m⟩) hok]; simp [kL, gv]
  simp only [ownV, lockD, wvD, validD, kB, kC, ownA, hadd]
include hm in
/-- locked -/
theorem k_locked (n : Nat) (hn : (n : Int) = 2 * F) : votesD (kB F m 0) 1 0 m n = kC F m x n 0 0 0 3 true := by
  obtain ⟨k, rfl⟩ : ∃ k, n = k + 1 := ⟨n - 1, by omega⟩
  simp only [votesD]
  rw [kB_votes hf hm k (by omega), kB_vote k (by omega), kB_last (x := x) hf hm (k + 1) hn]
omit hf in
theorem k_okb (a b c : Nat) (hb : (b : Int) < 3 * F + 1) : okV F (kL F m x a b c) 1 1 (b : Int) = true := ok_new (fun v hv => by
  rintro ⟨h1, h2, h3⟩
  rcases kL_mem hv with hv | rfl | hv | hv
  · rcases kA_mem hv with rfl | hv
    · simp at h2
    · have := gv_mem hv; omega
  · simp at h1
  · have := gv_mem hv; omega
  · have := gv_mem hv; omega) (.inl rfl) (by omega) (by omega)
omit hf in
theorem k_okc (a b c : Nat) (hb : (c : Int) < 3 * F + 1) : okV F (kL F m x a b c) 1 2 (c : Int) = true := ok_new (fun v hv => by
  rintro ⟨h1, h2, h3⟩
  rcases kL_mem hv with hv | rfl | hv | hv
  · rcases kA_mem hv with rfl | hv
    · simp at h2
    · have := gv_mem hv; omega
  · simp at h1
  · have := gv_mem hv; omega
  · have := gv_mem hv; omega) (.inl rfl) (by omega) (by omega)
omit hf in
theorem kC_voteb (a b : Nat) (hb : (b : Int) < 3 * F + 1) (r step : Int) (wv : Bool) : voteD' (kC F m x a b 0 r step wv) 1 1 (b : Int) x = settleD (kC F m x a (b + 1) 0 r step wv) ∧ addD (kC F m x a b 0 r step wv) 1 1 (b : Int) x = kC F m x a (b + 1) 0 r step wv := by
  have e : addD (kC F m x a b 0 r step wv) 1 1 (b : Int) x = kC F m x a (b + 1) 0 r step wv := by
    unfold addD kC
    rw [show addV F (kL F m x a b 0) ⟨1, 1, b, x⟩ = kL F m x a (b + 1) 0 from by
      rw [addV_yes (v := ⟨1, 1, b, x⟩) (k_okb a b 0 hb)]; unfold kL; rw [gv_succ]; simp [gv]]
  refine ⟨?_, e⟩
  unfold voteD'
  rw [if_neg (by show ¬ (false = true ∨ okV F (kL F m x a b 0) 1 1 (b : Int) = false); rw [k_okb a b 0 hb]; simp), e]
omit hf in
theorem kC_votec (a b c : Nat) (hb : (c : Int) < 3 * F + 1) (r step : Int) (wv : Bool) : voteD' (kC F m x a b c r step wv) 1 2 (c : Int) x = settleD (kC F m x a b (c + 1) r step wv) ∧ addD (kC F m x a b c r step wv) 1 2 (c : Int) x = kC F m x a b (c + 1) r step wv := by
  have e : addD (kC F m x a b c r step wv) 1 2 (c : Int) x = kC F m x a b (c + 1) r step wv := by
    unfold addD kC
    rw [show addV F (kL F m x a b c) ⟨1, 2, c, x⟩ = kL F m x a b (c + 1) from by
      rw [addV_yes (v := ⟨1, 2, c, x⟩) (k_okc a b c hb)]; unfold kL; rw [gv_succ]; simp]
  refine ⟨?_, e⟩
  unfold voteD'
  rw [if_neg (by show ¬ (false = true ∨ okV F (kL F m x a b c) 1 2 (c : Int) = false); rw [k_okc a b c hb]; simp), e]
include hm in
theorem kC_ci (a : Nat) (ha : (a : Int) = 2 * F) : ∀ b : Nat, (b : Int) ≤ 2 * F + 1 → CI (kC F m x a b 0 0 3 true)
  | 0, _ => by
    have := (kB_ci hf hm a (by omega)).settle
    rwa [kB_last (x := x) hf hm a ha] at this
  | b + 1, hb => by
    rw [← (kC_voteb a b (by omega) 0 3 true).2]
    exact (kC_ci a ha b (by omega)).addD _ _ _ _
include hm in
theorem kC_ci2 (a : Nat) (ha : (a : Int) = 2 * F) (b : Nat) (hb : (b : Int) ≤ 2 * F + 1) {r : Int} (hr : r = 1 ∨ r = 2) : ∀ c : Nat, (c : Int) ≤ F + 1 → CI (kC F m x a b c r 1 false)
  | 0, _ => by
    have h := (kC_ci (x := x) hf hm a ha b hb).to r (by omega)
    exact h
  | c + 1, hc => by
    rw [← (kC_votec a b c (by omega) r 1 false).2]
    exact (kC_ci2 a ha b hb hr c (by omega)).addD _ _ _ _
omit hf in
/-- the rule that enters a later round -/
theorem k_far {D : CoreD} {r : Int} (hl : ∀ q ∈ D.P, leastP D.f D.L q = false) (hF : farV D.f D.L D.s.round (D.f + 1) = r) (hr : 0 ≤ r) : ruleD D = some (toD D r, enterA D r) := by
  unfold ruleD
  rw [if_neg (by rw [leastV_neg hl]; omega), if_pos (by rw [hF]; exact hr), hF]
theorem kL_least (a b c : Nat) (q : Int × PropD) : leastP F (kL F m x a b c) q = false := by
  have e2 : allV (kL F m x a b c) 2 q.1 ≤ 1 := by
    simp only [kL, kA, allV_app, gv_allV, allV_cons, allV_nil]
    simp
    split <;> omega
  have e1 := forV_le_all (kL F m x a b c) 2 q.1 q.2.h
  unfold leastP
  cases q.2.ok
  · rfl
  · simp only [Bool.true_and, decide_eq_false_iff_not]; omega
omit hf in
theorem heard_sub {f : Int} {L M : List VoteD} (h : ∀ v ∈ M, v ∈ L) (r : Int) : heardV f M r ≤ heardV f L r := by
  unfold heardV
  rw [← List.countP_eq_length_filter, ← List.countP_eq_length_filter]
  have := List.countP_mono_left (l := List.range (3 * f + 1).toNat) (p := fun (i : Nat) => M.any fun v => decide (v.replica = (i : Int) ∧ r ≤ v.round)) (q := fun (i : Nat) => L.any fun v => decide (v.replica = (i : Int) ∧ r ≤ v.round)) (fun i _ hi => by
    simp only [List.any_eq_true] at hi ⊢
    obtain ⟨v, hv, h1⟩ := hi
    exact ⟨v, h v hv, h1⟩)
  omega
omit hf in
theorem gv_heard (r : Int) (n : Nat) (hn : (n : Int) ≤ 3 * F + 1) : (n : Int) ≤ heardV F (gv 1 r x n) r := by
  have := all_heard (gv_inv F 1 r x n hn) 1 r
  rwa [gv_all] at this
include hm in
theorem kC_go1 (a b : Nat) (ha : (a : Int) = 2 * F) (hb : (b : Int) = F + 1) : (settleD (kC F m x a b 0 0 3 true)).1 = kC F m x a b 0 1 1 false := by
  have h1 := gv_heard (F := F) (x := x) 1 b (by omega)
  have h2 : heardV F (gv 1 1 x b) 1 ≤ heardV F (kL F m x a b 0) 1 := heard_sub (fun v hv => by simp [kL, hv]) 1
  have hfar : farV F (kL F m x a b 0) 0 (F + 1) = 1 := by
    refine farV_eq (fun v hv h => ?_) ⟨⟨1, 1, ((0 : Nat) : Int), x⟩, ?_, rfl⟩ (by omega) (by omega) (by omega)
    · rcases kL_mem hv with hv | rfl | hv | hv
      · rcases kA_mem hv with rfl | hv
        · simp at h
        · have := gv_mem hv; omega
      · simp at h
      · exact (gv_mem hv).2.1
      · simp [gv] at hv
    · have : (⟨1, 1, ((0 : Nat) : Int), x⟩ : VoteD) ∈ gv 1 1 x b := List.mem_map.2 ⟨0, by rw [List.mem_range]; omega, rfl⟩
      exact List.mem_append_left _ (List.mem_append_right _ this)
  rw [settle_one (kC_ci (x := x) hf hm a ha b (by omega)) rfl (k_far (D := kC F m x a b 0 0 3 true) (fun q _ => kL_least hf a b 0 q) hfar (by omega)) (.inr (kC_still (x := x) hf a b 0 (.inr (.inl ⟨rfl, rfl, by omega⟩))).none)]
  rfl
include hm in
theorem kC_go2 (a b c : Nat) (ha : (a : Int) = 2 * F) (hb : (b : Int) ≤ 2 * F + 1) (hc : (c : Int) = F + 1) : (settleD (kC F m x a b c 1 1 false)).1 = kC F m x a b c 2 1 false := by
  have h1 := gv_heard (F := F) (x := x) 2 c (by omega)
  have h2 : heardV F (gv 1 2 x c) 2 ≤ heardV F (kL F m x a b c) 2 := heard_sub (fun v hv => by simp [kL, hv]) 2
  have hfar : farV F (kL F m x a b c) 1 (F + 1) = 2 := by
    refine farV_eq (fun v hv h => ?_) ⟨⟨1, 2, ((0 : Nat) : Int), x⟩, ?_, rfl⟩ (by omega) (by omega) (by omega)
    · rcases kL_mem hv with hv | rfl | hv | hv
      · rcases kA_mem hv with rfl | hv
        · simp at h
        · have := gv_mem hv; omega
      · simp at h
      · have := gv_mem hv; omega
      · exact (gv_mem hv).2.1
    · have : (⟨1, 2, ((0 : Nat) : Int), x⟩ : VoteD) ∈ gv 1 2 x c := List.mem_map.2 ⟨0, by rw [List.mem_range]; omega, rfl⟩
      exact List.mem_append_right _ this
  rw [settle_one (kC_ci2 (x := x) hf hm a ha b hb (.inl rfl) c (by omega)) rfl (k_far (D := kC F m x a b c 1 1 false) (fun q _ => kL_least hf a b c q) hfar (by omega)) (.inr (kC_still (x := x) hf a b c (.inr (.inr ⟨rfl, rfl⟩))).none)]
  rfl
theorem k_votes1 (a : Nat) (ha : (a : Int) = 2 * F) : ∀ b : Nat, (b : Int) ≤ F → votesD (kC F m x a 0 0 0 3 true) 1 1 x b = kC F m x a b 0 0 3 true
  | 0, _ => rfl
  | b + 1, hb => by
    simp only [votesD]
    rw [k_votes1 a ha b (by omega), (kC_voteb a b (by omega) 0 3 true).1, settle_none (kC_still hf a (b + 1) 0 (.inl ⟨rfl, rfl, rfl, hb, rfl⟩)).none]
include hm in
theorem k_votes2 (a : Nat) (ha : (a : Int) = 2 * F) : ∀ b : Nat, F + 1 ≤ (b : Int) → (b : Int) ≤ 2 * F + 1 → votesD (kC F m x a 0 0 0 3 true) 1 1 x b = kC F m x a b 0 1 1 false
  | 0, h, _ => by omega
  | b + 1, h, hb => by
    simp only [votesD]
    by_cases hb' : (b : Int) ≤ F
    · rw [k_votes1 hf a ha b hb', (kC_voteb a b (by omega) 0 3 true).1, kC_go1 hf hm a (b + 1) ha (by omega)]
    · rw [k_votes2 a ha b (by omega) (by omega), (kC_voteb a b (by omega) 1 1 false).1, settle_none (kC_still hf a (b + 1) 0 (.inr (.inl ⟨rfl, rfl, by omega⟩))).none]
theorem k_votes3 (a b : Nat) (ha : (a : Int) = 2 * F) : ∀ c : Nat, (c : Int) ≤ F → votesD (kC F m x a b 0 1 1 false) 1 2 x c = kC F m x a b c 1 1 false
  | 0, _ => rfl
  | c + 1, hb => by
    simp only [votesD]
    rw [k_votes3 a b ha c (by omega), (kC_votec a b c (by omega) 1 1 false).1, settle_none (kC_still hf a b (c + 1) (.inr (.inl ⟨rfl, rfl, hb⟩))).none]
include hm in
theorem k_votes4 (a b n : Nat) (ha : (a : Int) = 2 * F) (hb : (b : Int) ≤ 2 * F + 1) (hn : (n : Int) = F + 1) : votesD (kC F m x a b 0 1 1 false) 1 2 x n = kC F m x a b n 2 1 false := by
  obtain ⟨k, rfl⟩ : ∃ k, n = k + 1 := ⟨n - 1, by omega⟩
  simp only [votesD]
  rw [k_votes3 hf a b ha k (by omega), (kC_votec a b k (by omega) 1 1 false).1, kC_go2 hf hm a b (k + 1) ha hb hn]
/-- what is wanted of the proposal -/
structure LockE (x : Hash) (v : Int) (ok later : Bool) (A : List ActD) : Prop where
  all : ∀ a ∈ A, a.kind = 2 → a.round = 2 → a.h = if v = 1 ∧ ok = true then x else hash0
  some : v < 0 ∨ (v = 1 ∧ later = true) → ∃ a ∈ A, a.kind = 2 ∧ a.round = 2
  none : v = 0 ∨ (v = 1 ∧ later = false) → ∀ a ∈ A, ¬ (a.kind = 2 ∧ a.round = 2)
include hm hx hxm in
theorem k_propose (a b c : Nat) (ha : (a : Int) = 2 * F) (hb : (b : Int) ≤ 2 * F + 1) (hc : (c : Int) = F + 1) (v : Int) (ok later : Bool) (hv : -1 ≤ v ∧ v ≤ 1) (hl : (b : Int) = if later = true then 2 * F + 1 else F + 1) :
    LockE x v ok later (proposeD (kC F m x a b c 2 1 false) 2 v x ok).2 := by
  have hpb : propBad (kC F m x a b c 2 1 false) 2 v x = false := by
    simp [propBad, kC, hasP, lookM, kP, hx]; omega
  have hC := (kC_ci2 (x := x) hf hm a ha b hb (.inr rfl) c (by omega)).put (ok := ok) hpb
  have hgp : getP (putM (kP m) 2 ⟨v, x, ok⟩) 2 = ⟨v, x, ok⟩ := by unfold getP; rw [look_put_same]; rfl
  have hhp : hasP (putM (kP m) 2 ⟨v, x, ok⟩) 2 = true := by unfold hasP; rw [look_put_same]; rfl
  have e1 : forV (kL F m x a b c) 1 1 x = b := by simp [kL, kA, forV_app, gv_forV, forV_cons]
  have e0 : forV (kL F m x a b c) 1 0 x = 0 := by simp [kL, kA, forV_app, gv_forV, forV_cons, Ne.symm hxm]
  have hlst : leastV F (kL F m x a b c) (putM (kP m) 2 ⟨v, x, ok⟩) = -1 := leastV_neg fun q _ => kL_least hf a b c q
  have hfar : farV F (kL F m x a b c) 2 (F + 1) = -1 := farV_neg fun u hu => by
    have : u.round ≤ 2 := by
      rcases kL_mem hu with hu | rfl | hu | hu
      · rcases kA_mem hu with rfl | hu
        · show (0 : Int) ≤ 2; omega
        · have := gv_mem hu; omega
      · show (0 : Int) ≤ 2; omega
      · have := gv_mem hu; omega
      · have := gv_mem hu; omega
    simp [farP]; omega
  unfold proposeD
  rw [if_neg (by rw [hpb]; simp)]
  have hO : OS [] F 0 (3 * F + 1 - 1) 0 [] (putD (kC F m x a b c 2 1 false) 2 v x ok) :=
    ⟨⟨by simp [putD, kC], by simp [cntA], by simp, by simp, by simp⟩, ⟨rfl, rfl, rfl⟩, by simp [putD, kC], by simp [putD, kC], by simp, by simp⟩
  by_cases hno : v = 0 ∨ (v = 1 ∧ later = false)
  · have hst : ruleD (putD (kC F m x a b c 2 1 false) 2 v x ok) = Option.none := by
      have hS := kC_still (m := m) (x := x) hf a b c (r := 2) (step := 1) (wv := false) (.inr (.inr ⟨rfl, rfl⟩))
      refine Still.none ⟨?_, hS.far, ?_, ?_, hS.nil, hS.all1, hS.all2⟩
      · intro q _ ho
        have := kL_least (m := m) (x := x) hf a b c q
        unfold leastP at this
        rw [ho, Bool.true_and] at this
        have := of_decide_eq_false this
        show forV (kL F m x a b c) 2 q.1 q.2.h < 2 * F + 1
        omega
      · intro _ _
        show 0 ≤ (getP (putM (kP m) 2 ⟨v, x, ok⟩) 2).valid ∧ forV (kL F m x a b c) 1 (getP (putM (kP m) 2 ⟨v, x, ok⟩) 2).valid (getP (putM (kP m) 2 ⟨v, x, ok⟩) 2).h < 2 * F + 1
        rw [hgp]
        show 0 ≤ v ∧ forV (kL F m x a b c) 1 v x < 2 * F + 1
        rcases hno with rfl | ⟨rfl, rfl⟩
        · rw [e0]; omega
        · rw [e1, hl]
          have : (if false = true then 2 * F + 1 else F + 1) = F + 1 := rfl
          omega
      · intro h; simp [putD, kC] at h
    rw [settle_none hst]
    exact ⟨by simp, fun h => by rcases hno with rfl | ⟨rfl, rfl⟩ <;> simp at h, by simp⟩
  · obtain ⟨want, hw⟩ : ∃ want, want = if v = 1 ∧ ok = true then x else hash0 := ⟨_, rfl⟩
    have hch : chooseD (putD (kC F m x a b c 2 1 false) 2 v x ok) ⟨v, x, ok⟩ = (want, true) := by
      subst hw
      unfold chooseD
      rw [if_neg (by
        show ¬ (0 ≤ v ∧ forV (kL F m x a b c) 1 v x < 2 * F + 1)
        rintro ⟨h1, h2⟩
        have h3 : v = 1 := by omega
        subst h3
        cases later
        · exact hno (.inr ⟨rfl, rfl⟩)
        · rw [e1, hl] at h2
          have : (if true = true then 2 * F + 1 else F + 1) = 2 * F + 1 := rfl
          omega)]
      by_cases h1 : v = 1
      · subst h1
        cases ok
        · rw [if_neg (by simp)]; simp
        · rw [if_pos ⟨rfl, .inl (by simp [mayB, putD, kC])⟩]; simp
      · have h2 : v = -1 := by omega
        subst h2
        rw [if_neg (by
          rintro ⟨_, h3 | h3⟩
          · simp [mayB, putD, kC] at h3
          · exact hxm (show m = x from h3).symm)]
        simp
    have hr : ruleD (putD (kC F m x a b c 2 1 false) 2 v x ok) = Option.some (ownV (putD (kC F m x a b c 2 1 false) 2 v x ok) 1 2 want, [⟨2, 2, -1, want⟩]) := by
      unfold ruleD
      show (if 0 ≤ leastV F (kL F m x a b c) (putM (kP m) 2 ⟨v, x, ok⟩) then _ else if 0 ≤ farV F (kL F m x a b c) 2 (F + 1) then _ else
        if (1 : Int) = 1 ∧ hasP (putM (kP m) 2 ⟨v, x, ok⟩) 2 = true ∧ (chooseD (putD (kC F m x a b c 2 1 false) 2 v x ok) (getP (putM (kP m) 2 ⟨v, x, ok⟩) 2)).2 = true then
          Option.some (ownV (putD (kC F m x a b c 2 1 false) 2 v x ok) 1 2 (chooseD (putD (kC F m x a b c 2 1 false) 2 v x ok) (getP (putM (kP m) 2 ⟨v, x, ok⟩) 2)).1, ownA (putD (kC F m x a b c 2 1 false) 2 v x ok) 2 (chooseD (putD (kC F m x a b c 2 1 false) 2 v x ok) (getP (putM (kP m) 2 ⟨v, x, ok⟩) 2)).1) else _) = _
      rw [if_neg (by rw [hlst]; omega), if_neg (by rw [hfar]; omega), hgp, hch, if_pos ⟨rfl, hhp, rfl⟩]
      rfl
    have hO2 := OS.settle hC (A := []) hO
    have hcn := hO2.o.cnt 2 2 (.inl rfl)
    rw [settle_step hC rfl hr] at hcn ⊢
    simp only [List.nil_append] at hcn
    rw [cnt_app, show cntA [(⟨2, 2, -1, want⟩ : ActD)] 2 2 = 1 from by simp [cntA]] at hcn
    have hz : cntA (settleD (ownV (putD (kC F m x a b c 2 1 false) 2 v x ok) 1 2 want)).2 2 2 = 0 := by omega
    unfold cntA at hz
    rw [List.countP_eq_zero] at hz
    refine ⟨?_, fun _ => ⟨_, List.mem_append_left _ (List.mem_singleton.2 rfl), rfl, rfl⟩, fun h => absurd h hno⟩
    intro q hq h1 h2
    rcases List.mem_append.1 hq with hq | hq
    · rw [List.mem_singleton] at hq; rw [hq]; exact hw
    · exact absurd (decide_eq_true (⟨h1, h2⟩ : q.kind = 2 ∧ q.round = 2)) (by simpa using hz q hq)
end
/-- where the last act lies that is a prevote of round 2 -/
def voteP (a : Option Addr) : Option Nat → Value
  | none => .pointer none
  | some t => match a with
    | some d => .pointer (some ⟨d.block, 0 + ((t : Int)).toNat * 35 + 3, none⟩)
    | none => .pointer none
/-- what is known of it behind i acts -/
def VoteAt (A : List ActD) (i : Nat) : Option Nat → Prop
  | none => ∀ b ∈ A.take i, ¬ (b.kind = 2 ∧ b.round = 2)
  | some t => ∃ y, A[t]? = some y ∧ y.kind = 2 ∧ y.round = 2
theorem VoteAt.zero (A : List ActD) : VoteAt A 0 none := fun b hb => by simp at hb
theorem VoteAt.skip {A : List ActD} {i : Nat} {j : Option Nat} {x : ActD} (h : VoteAt A i j) (hx : A[i]? = some x) (hn : ¬ (x.kind = 2 ∧ x.round = 2)) : VoteAt A (i + 1) j := by
  cases j with
  | some t => exact h
  | none =>
    intro b hb
    rw [List.take_add_one, hx] at hb
    rcases List.mem_append.1 hb with hb | hb
    · exact h b hb
    · simp at hb; rw [hb]; exact hn
/-- the other hash, where that is none, or its own -/
def fixO (h : Hash) : Hash := if (decide (h = hash1 7) || decide (h = hash0)) = true then hash1 8 else h
theorem hash1_ne {a b : UInt8} (h : a ≠ b) : hash1 a ≠ hash1 b := fun e => by
  have := congrArg (fun q : Hash => q.l.getD 0 0) e
  exact h (by simpa [hash1] using this)
theorem fixO_ne (h : Hash) : fixO h ≠ hash1 7 ∧ fixO h ≠ hash0 := by
  unfold fixO
  split
  · exact ⟨hash1_ne (by decide), hash1_ne (a := 8) (b := 0) (by decide)⟩
  · rename_i hn
    simpa using hn
end Go.Proofs.Ythjmbhneifjeeaa
