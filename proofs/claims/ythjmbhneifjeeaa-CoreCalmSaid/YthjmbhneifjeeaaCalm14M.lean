/- WHAT IS PROVED: where nobody lies and all is heard, all cores decide in the first round. Conditions: stated with each. -/
import Derived.Test.YthjmbhneifjeeaaSaid14
import Derived.Test.YthjmbhneifjeeaaWakes14M
namespace Go.Proofs.Ythjmbhneifjeeaa
open Go.RowKit
def rot (n off k : Nat) : Nat := if k + off < n then k + off else k + off - n
theorem rot_int {n off k : Nat} (hk : k < n) (ho : off < n) : ((k : Int) + (off : Int)) % (n : Int) = (rot n off k : Int) := by
  unfold rot
  split
  · rw [Int.emod_eq_of_lt (by omega) (by omega)]; omega
  · rw [show (k : Int) + (off : Int) = ((k + off - n : Nat) : Int) + (n : Int) by omega, Int.add_emod_right, Int.emod_eq_of_lt (by omega) (by omega)]
theorem rot_lt {n off k : Nat} (hk : k < n) (ho : off < n) : rot n off k < n := by unfold rot; split <;> omega
theorem rot_inj {n off k k' : Nat} (hk : k < n) (hk' : k' < n) (e : rot n off k = rot n off k') : k = k' := by
  unfold rot at e; split at e <;> split at e <;> omega
theorem off_of (ord : List Int) (i n : Nat) (hn : 1 ≤ n) : ∃ off : Nat, off < n ∧ (i < ord.length → withinV (ord.getD i 0) (n : Int) = (off : Int)) ∧ (¬ i < ord.length → off = 0) := by
  by_cases hi : i < ord.length
  · have := within_lim (ord.getD i 0) (n : Int) (by omega)
    exact ⟨(withinV (ord.getD i 0) (n : Int)).toNat, by omega, fun _ => by omega, fun h => absurd hi h⟩
  · exact ⟨0, by omega, fun h => absurd h hi, fun _ => rfl⟩
/-- the votes of the first i replicas, said -/
def sv (kind : Int) (x : Hash) (i : Nat) : List SaidD := (List.range i).map fun (j : Nat) => ⟨true, kind, 0, 0, (j : Int), x⟩
theorem sv_len (kind : Int) (x : Hash) (i : Nat) : (sv kind x i).length = i := by simp [sv]
theorem sv_succ (kind : Int) (x : Hash) (i : Nat) : sv kind x (i + 1) = sv kind x i ++ [⟨true, kind, 0, 0, (i : Int), x⟩] := by
  unfold sv; rw [List.range_succ, List.map_append]; rfl
theorem sv_get {kind : Int} {x : Hash} {i j : Nat} {s : SaidD} (h : (sv kind x i)[j]? = some s) : s = ⟨true, kind, 0, 0, (j : Int), x⟩ ∧ j < i := by
  unfold sv at h
  rw [List.getElem?_map] at h
  by_cases hj : j < i
  · rw [List.getElem?_range hj] at h; exact ⟨(Option.some.inj h).symm, hj⟩
  · rw [List.getElem?_eq_none (by simp; omega)] at h; cases h
def calmK (F ep : Int) (j : Nat) : Int := if proposerV F ep 0 = (j : Int) then 1 else 4
def calmV (F ep : Int) (j : Nat) : Int := if proposerV F ep 0 = (j : Int) then -1 else 1
def calm0 (F ep : Int) (j : Nat) : CoreD := toD (newD F 1 ep (j : Int)) 0
def calmL (F ep : Int) (i : Nat) : List CoreD := (List.range i).map (calm0 F ep)
theorem calmL_succ (F ep : Int) (i : Nat) : calmL F ep (i + 1) = calmL F ep i ++ [calm0 F ep i] := by
  unfold calmL; rw [List.range_succ, List.map_append]; rfl
theorem calmL_len (F ep : Int) (i : Nat) : (calmL F ep i).length = i := by simp [calmL]
theorem calm_start {F ep : Int} (hf : 1 ≤ F) (j : Nat) : startD (newD F 1 ep (j : Int)) = (calm0 F ep j, [⟨calmK F ep j, 0, calmV F ep j, hash0⟩]) := by
  have hs : settleD (calm0 F ep j) = (calm0 F ep j, []) := settle_none (rule_quiet rfl hf (by simp [calm0, toD, newD]) (by simp [calm0, toD, newD]))
  unfold startD
  rw [if_neg (by simp [newD, newS])]
  show ((settleD (calm0 F ep j)).1, enterA (newD F 1 ep (j : Int)) 0 ++ (settleD (calm0 F ep j)).2) = _
  rw [hs]
  unfold enterA calmK calmV
  show (_, (if proposerV F ep 0 = (j : Int) then _ else _) ++ _) = _
  split <;> rfl
/-- a core that heard prevotes of these -/
structure PhA (F : Int) (x : Hash) (i : Nat) (got : List Nat) (D : CoreD) : Prop where
  ci : CI D
  f : D.f = F
  rp : D.replica = (i : Int)
  rd : D.s.round = 0
  de : D.s.decided = false
  P : D.P = [(0, ⟨-1, x, true⟩)]
  L : ∀ v ∈ D.L, v.round = 0 ∧ v.h = x ∧ (v.kind = 1 ∧ (v.replica = (i : Int) ∨ ∃ j ∈ got, v.replica = (j : Int)) ∨ v.kind = 2 ∧ v.replica = (i : Int))
  n1 : forV D.L 1 0 x = (got.length : Int) + 1
  n2 : forV D.L 2 0 x = if 2 * F + 1 ≤ (got.length : Int) + 1 then 1 else 0
  st : D.s.step = if 2 * F + 1 ≤ (got.length : Int) + 1 then 3 else 2
  wv : D.wv = decide (2 * F + 1 ≤ (got.length : Int) + 1)
  sp : D.sp = false
  sc : D.sc = false
/-- .. precommits of these -/
structure PhB (F : Int) (x : Hash) (i : Nat) (got : List Nat) (D : CoreD) : Prop where
  ci : CI D
  f : D.f = F
  rp : D.replica = (i : Int)
  rd : D.s.round = 0
  P : D.P = [(0, ⟨-1, x, true⟩)]
  fin : 2 * F + 1 ≤ (got.length : Int) + 1 → D.s.decided = true ∧ D.s.decision = x
  go : (got.length : Int) + 1 < 2 * F + 1 → D.s.decided = false ∧ D.s.step = 3 ∧ D.wv = true ∧ D.sc = false ∧ (∀ v ∈ D.L, v.round = 0 ∧ v.h = x ∧ (v.kind = 1 ∨ v.kind = 2 ∧ (v.replica = (i : Int) ∨ ∃ j ∈ got, v.replica = (j : Int)))) ∧ forV D.L 2 0 x = (got.length : Int) + 1
theorem all_for {L : List VoteD} {x : Hash} {k : Int} (h : ∀ v ∈ L, v.round = 0 ∧ v.h = x) : allV L k 0 = forV L k 0 x := by
  unfold allV forV
  congr 1
  refine List.countP_congr fun v hv => ?_
  have := h v hv
  simp only [decide_eq_true_eq]
  exact ⟨fun q => ⟨q.1, q.2, this.2⟩, fun q => ⟨q.1, q.2.1⟩⟩
theorem for_snoc (L : List VoteD) (v : VoteD) (k : Int) (x : Hash) (hr : v.round = 0) (hh : v.h = x) : forV (L ++ [v]) k 0 x = forV L k 0 x + if v.kind = k then 1 else 0 := by
  rw [forV_app]
  congr 1
  unfold forV
  by_cases hk : v.kind = k <;> simp [hk, hr, hh]
theorem get1 (p : PropD) : getP [(0, p)] 0 = p ∧ hasP [(0, p)] 0 = true := ⟨rfl, rfl⟩
/-- no rule holds: all votes are of the first round, and for one hash -/
theorem calm_still {D : CoreD} {x : Hash} (hx : x ≠ hash0) (hf : 1 ≤ D.f) (hP : D.P = [(0, ⟨-1, x, true⟩)]) (hrd : D.s.round = 0) (hL : ∀ v ∈ D.L, v.round = 0 ∧ v.h = x) (h2 : forV D.L 2 0 x < 2 * D.f + 1) (hs : D.s.step = 2 ∧ forV D.L 1 0 x < 2 * D.f + 1 ∨ D.s.step = 3 ∧ D.wv = true) : ruleD D = none := by
  refine Still.none ⟨?_, ?_, ?_, ?_, ?_, ?_, ?_⟩
  · intro y hy _
    rw [hP] at hy
    obtain rfl := List.mem_singleton.1 hy
    exact h2
  · intro v hv hr
    have := (hL v hv).1
    omega
  · intro h1; omega
  · intro _ _ _ hw
    rw [hrd, hP, (get1 _).1]
    rcases hs with hs | hs
    · exact hs.2
    · rw [hs.2] at hw; cases hw
  · intro _
    rw [hrd, forV_none fun v hv q => hx ((hL v hv).2.symm.trans q.2.2)]
    omega
  · intro h1 _
    rw [hrd, all_for hL]
    rcases hs with hs | hs
    · exact hs.2
    · omega
  · intro _
    rw [hrd, all_for hL]
    exact h2
theorem calm_far {D : CoreD} (hrd : D.s.round = 0) (hL : ∀ v ∈ D.L, v.round = 0) (m : Int) : farV D.f D.L D.s.round m = -1 := farV_neg fun v hv => by
  have := hL v hv
  simp [farP, hrd, this]
/-- the proposal comes -/
theorem calm_prop {F ep : Int} {x : Hash} {i : Nat} {D' : CoreD} {A' : List ActD} (hx : x ≠ hash0) (hf : 1 ≤ F) (hn : newOk F 1 ep (i : Int) = true) (hst : proposeD (calm0 F ep i) 0 (-1) x true = (D', A')) : PhA F x i [] D' ∧ A' = [⟨2, 0, -1, x⟩] := by
  have hC0 : CI (calm0 F ep i) := (CI.new hn).to 0 (by omega)
  have hb : propBad (calm0 F ep i) 0 (-1) x = false := by simp [propBad, calm0, toD, newD, newS, hasP, hx, lookM]
  have hC1 : CI (putD (calm0 F ep i) 0 (-1) x true) := hC0.put hb
  unfold proposeD at hst
  rw [hb, if_neg (by simp)] at hst
  generalize hD1 : putD (calm0 F ep i) 0 (-1) x true = D1 at *
  have e1 : D1.L = [] := by rw [← hD1]; rfl
  have e2 : D1.P = [(0, ⟨-1, x, true⟩)] := by rw [← hD1]; rfl
  have e3 : D1.s = ⟨0, 1, -1, -1, hash0, hash0, false, hash0⟩ := by rw [← hD1]; rfl
  have e4 : D1.f = F := by rw [← hD1]; rfl
  have e5 : D1.replica = (i : Int) := by rw [← hD1]; rfl
  have e6 : D1.wv = false ∧ D1.sp = false ∧ D1.sc = false := by rw [← hD1]; exact ⟨rfl, rfl, rfl⟩
  have hr : ruleD D1 = some (ownV D1 1 2 x, ownA D1 2 x) := by
    have hl : leastV D1.f D1.L D1.P = -1 := leastV_neg fun y hy => by
      rw [e2] at hy
      obtain rfl := List.mem_singleton.1 hy
      rw [e1]
      unfold leastP
      rw [forV_none (by simp), decide_eq_false (by omega)]
      rfl
    have hfar := calm_far (D := D1) (by rw [e3]) (by rw [e1]; simp) (D1.f + 1)
    have hc : chooseD D1 (getP D1.P D1.s.round) = (x, true) := by
      rw [e2, e3, (get1 _).1]
      unfold chooseD
      rw [if_neg (by simp), if_pos ⟨rfl, .inl (by simp [mayB, e3])⟩]
    unfold ruleD
    rw [if_neg (by omega), if_neg (by omega), if_pos ⟨by rw [e3], by rw [e2, e3]; rfl, by rw [hc]⟩, hc]
  have hI := hC1.rule hr
  have hok : okV D1.f D1.L 1 0 (i : Int) = true := by
    have := hC1.rp
    rw [e1, e4]; rw [e4, e5] at this
    simp [okV, inB]; omega
  have hL2 : (ownV D1 1 2 x).L = [⟨1, 0, (i : Int), x⟩] := by
    show addV D1.f D1.L ⟨1, D1.s.round, D1.replica, x⟩ = _
    rw [show D1.s.round = 0 by rw [e3], e5, addV_yes (v := ⟨1, 0, (i : Int), x⟩) hok, e1]; rfl
  have f1 : forV [⟨1, 0, (i : Int), x⟩] 1 0 x = 1 := by simp [forV]
  have f2 : forV [⟨1, 0, (i : Int), x⟩] 2 0 x = 0 := by simp [forV]
  have hrd2 : (ownV D1 1 2 x).s.round = 0 := by show D1.s.round = 0; rw [e3]
  have hnone : ruleD (ownV D1 1 2 x) = none := by
    refine calm_still hx (by show 1 ≤ D1.f; omega) e2 hrd2 ?_ ?_ ?_
    · rw [hL2]; simp
    · rw [hL2, f2]; show 0 < 2 * D1.f + 1; omega
    · refine .inl ⟨rfl, ?_⟩; rw [hL2, f1]; show 1 < 2 * D1.f + 1; omega
  have hset := settle_one hC1 (by simp [goesB, e3]) hr (.inr hnone)
  rw [hset] at hst
  simp only [Prod.mk.injEq] at hst
  obtain ⟨rfl, rfl⟩ := hst
  have hlt : ¬ 2 * F + 1 ≤ ((([] : List Nat).length : Nat) : Int) + 1 := by simp; omega
  refine ⟨⟨hI, e4, e5, hrd2, by show D1.s.decided = false; rw [e3], e2, ?_, ?_, ?_, ?_, ?_, e6.2.1, e6.2.2⟩, ?_⟩
  · rw [hL2]; simp
  · rw [hL2, f1]; rfl
  · rw [hL2, f2, if_neg hlt]
  · rw [if_neg hlt]; rfl
  · rw [decide_eq_false hlt]; exact e6.1
  · unfold ownA; rw [e3]
theorem vote_okA {F : Int} {L : List VoteD} {kind : Int} {p i : Nat} {got : List Nat} (hk : kind = 1 ∨ kind = 2) (hL : ∀ v ∈ L, v.kind = kind → v.replica = (i : Int) ∨ ∃ j ∈ got, v.replica = (j : Int)) (hp : p ∉ got) (hpi : p ≠ i) (hpl : (p : Int) < 3 * F + 1) : okV F L kind 0 (p : Int) = true := by
  have hno : (L.any fun v => decide (v.kind = kind ∧ v.round = 0 ∧ v.replica = (p : Int))) = false := by
    rw [List.any_eq_false]
    intro v hv
    simp only [decide_eq_true_eq]
    rintro ⟨a, b, c⟩
    rcases hL v hv a with q | ⟨j, hj, q⟩
    · omega
    · have : p = j := by omega
      exact hp (this ▸ hj)
  simp only [okV, hno, inB]
  simp
  omega
/-- one more prevote -/
theorem PhA.step {F : Int} {x : Hash} {i p : Nat} {got : List Nat} {D D' : CoreD} {A' : List ActD} (h : PhA F x i got D) (hx : x ≠ hash0) (hf : 1 ≤ F) (hp : p ∉ got) (hpi : p ≠ i) (hpl : (p : Int) < 3 * F + 1) (hst : voteD' D 1 0 (p : Int) x = (D', A')) :
    PhA F x i (got ++ [p]) D' ∧ A' = if (got.length : Int) + 2 = 2 * F + 1 then [⟨3, 0, -1, x⟩] else [] := by
  have hok : okV D.f D.L 1 0 (p : Int) = true := vote_okA (.inl rfl) (fun v hv hk => by
    rcases (h.L v hv).2.2 with q | q
    · exact q.2
    · omega) hp hpi (by rw [h.f]; exact hpl)
  unfold voteD' at hst
  rw [if_neg (by rw [h.de, hok]; simp)] at hst
  have hC1 := h.ci.addD 1 0 (p : Int) x
  have hLe : (addD D 1 0 (p : Int) x).L = D.L ++ [⟨1, 0, (p : Int), x⟩] := addV_yes (v := ⟨1, 0, (p : Int), x⟩) hok
  have e1 : (addD D 1 0 (p : Int) x).f = F := h.f
  have e2 : (addD D 1 0 (p : Int) x).P = [(0, ⟨-1, x, true⟩)] := h.P
  have e3 : (addD D 1 0 (p : Int) x).s = D.s := rfl
  have e4 : (addD D 1 0 (p : Int) x).wv = D.wv ∧ (addD D 1 0 (p : Int) x).sp = false ∧ (addD D 1 0 (p : Int) x).sc = false := ⟨rfl, h.sp, h.sc⟩
  have e5 : (addD D 1 0 (p : Int) x).replica = (i : Int) := h.rp
  generalize addD D 1 0 (p : Int) x = D1 at *
  have n1 : forV D1.L 1 0 x = (got.length : Int) + 2 := by rw [hLe, for_snoc _ _ _ _ rfl rfl, h.n1]; simp; omega
  have n2 : forV D1.L 2 0 x = if 2 * F + 1 ≤ (got.length : Int) + 1 then 1 else 0 := by rw [hLe, for_snoc _ _ _ _ rfl rfl, h.n2]; simp
  have hL1 : ∀ v ∈ D1.L, v.round = 0 ∧ v.h = x ∧ (v.kind = 1 ∧ (v.replica = (i : Int) ∨ ∃ j ∈ got ++ [p], v.replica = (j : Int)) ∨ v.kind = 2 ∧ v.replica = (i : Int)) := by
    intro v hv
    rw [hLe] at hv
    rcases List.mem_append.1 hv with hv | hv
    · obtain ⟨a, b, c⟩ := h.L v hv
      refine ⟨a, b, c.imp (fun q => ⟨q.1, q.2.imp id fun ⟨j, hj, e⟩ => ⟨j, List.mem_append_left _ hj, e⟩⟩) id⟩
    · obtain rfl := List.mem_singleton.1 hv
      exact ⟨rfl, rfl, .inl ⟨rfl, .inr ⟨p, by simp, rfl⟩⟩⟩
  have hlen : ((got ++ [p]).length : Int) = (got.length : Int) + 1 := by simp
  have hsame : ∀ v ∈ D1.L, v.round = 0 ∧ v.h = x := fun v hv => ⟨(hL1 v hv).1, (hL1 v hv).2.1⟩
  have hrd1 : D1.s.round = 0 := by rw [e3]; exact h.rd
  by_cases hm : (got.length : Int) + 2 = 2 * F + 1
  · -- the quorum is there
    have hlt : ¬ 2 * F + 1 ≤ (got.length : Int) + 1 := by omega
    have hst2 : D1.s.step = 2 := by rw [e3, h.st, if_neg hlt]
    have hwv : D1.wv = false := by rw [e4.1, h.wv, decide_eq_false hlt]
    rw [if_neg hlt] at n2
    have hr : ruleD D1 = some (validD (ownV (lockD (wvD D1) x) 2 3 x) x, ownA D1 3 x) := by
      have hl : leastV D1.f D1.L D1.P = -1 := leastV_neg fun y hy => by
        rw [e2] at hy
        obtain rfl := List.mem_singleton.1 hy
        unfold leastP
        rw [show forV D1.L 2 0 x = 0 from n2, decide_eq_false (by omega)]
        rfl
      have hfar := calm_far (D := D1) hrd1 (fun v hv => (hL1 v hv).1) (D1.f + 1)
      unfold ruleD
      rw [if_neg (by omega), if_neg (by omega), if_neg (by omega), if_pos ⟨by omega, by rw [e2, hrd1]; rfl, by rw [e2, hrd1]; rfl, hwv, by rw [e2, hrd1, (get1 _).1, n1, e1]; omega⟩, if_pos hst2, e2, hrd1]
      rfl
    have hI := hC1.rule hr
    have hok2 : okV D1.f D1.L 2 0 (i : Int) = true := by
      have hno : ∀ v ∈ D1.L, v.kind ≠ 2 := fun v hv hk => by
        have h0 : 0 < D1.L.countP fun u => decide (u.kind = 2 ∧ u.round = 0 ∧ u.h = x) := List.countP_pos_iff.2 ⟨v, hv, by simp [hk, hsame v hv]⟩
        unfold forV at n2
        omega
      have hany : (D1.L.any fun v => decide (v.kind = 2 ∧ v.round = 0 ∧ v.replica = (i : Int))) = false := by
        rw [List.any_eq_false]
        intro v hv
        simp only [decide_eq_true_eq]
        rintro ⟨a, _, _⟩
        exact hno v hv a
      have := hC1.rp
      rw [e5] at this
      simp only [okV, hany, inB]
      simp
      omega
    have hL2 : (validD (ownV (lockD (wvD D1) x) 2 3 x) x).L = D1.L ++ [⟨2, 0, (i : Int), x⟩] := by
      show addV D1.f D1.L ⟨2, D1.s.round, D1.replica, x⟩ = _
      rw [hrd1, e5]
      exact addV_yes (v := ⟨2, 0, (i : Int), x⟩) hok2
    have m1 : forV (D1.L ++ [⟨2, 0, (i : Int), x⟩]) 1 0 x = (got.length : Int) + 2 := by rw [for_snoc _ _ _ _ rfl rfl, n1]; simp
    have m2 : forV (D1.L ++ [⟨2, 0, (i : Int), x⟩]) 2 0 x = 1 := by rw [for_snoc _ _ _ _ rfl rfl, n2]; simp
    have hnone : ruleD (validD (ownV (lockD (wvD D1) x) 2 3 x) x) = none := by
      refine calm_still hx (by show 1 ≤ D1.f; omega) e2 hrd1 ?_ ?_ (.inr ⟨rfl, rfl⟩)
      · rw [hL2]
        intro v hv
        rcases List.mem_append.1 hv with hv | hv
        · exact hsame v hv
        · obtain rfl := List.mem_singleton.1 hv; exact ⟨rfl, rfl⟩
      · rw [hL2, m2]; show 1 < 2 * D1.f + 1; omega
    have hset := settle_one hC1 (by simp [goesB, hst2]; rw [e3]; exact h.de) hr (.inr hnone)
    rw [hset] at hst
    simp only [Prod.mk.injEq] at hst
    obtain ⟨rfl, rfl⟩ := hst
    have hge : 2 * F + 1 ≤ ((got ++ [p]).length : Int) + 1 := by omega
    refine ⟨⟨hI, e1, e5, hrd1, by show D1.s.decided = false; rw [e3]; exact h.de, e2, ?_, ?_, ?_, ?_, ?_, e4.2.1, e4.2.2⟩, ?_⟩
    · rw [hL2]
      intro v hv
      rcases List.mem_append.1 hv with hv | hv
      · exact hL1 v hv
      · obtain rfl := List.mem_singleton.1 hv
        exact ⟨rfl, rfl, .inr ⟨rfl, rfl⟩⟩
    · rw [hL2, m1]; omega
    · rw [hL2, m2, if_pos hge]
    · rw [if_pos hge]; rfl
    · rw [decide_eq_true hge]; rfl
    · rw [if_pos hm]; unfold ownA; rw [hrd1]
  · rw [if_neg hm]
    have hnone : ruleD D1 = none := by
      refine calm_still hx (by omega) e2 hrd1 hsame ?_ ?_
      · rw [n2, e1]; split <;> omega
      · by_cases hge : 2 * F + 1 ≤ (got.length : Int) + 1
        · exact .inr ⟨by rw [e3, h.st, if_pos hge], by rw [e4.1, h.wv, decide_eq_true hge]⟩
        · exact .inl ⟨by rw [e3, h.st, if_neg hge], by rw [n1, e1]; omega⟩
    rw [settle_none hnone] at hst
    simp only [Prod.mk.injEq] at hst
    obtain ⟨rfl, rfl⟩ := hst
    have hiff : (2 * F + 1 ≤ ((got ++ [p]).length : Int) + 1) = (2 * F + 1 ≤ (got.length : Int) + 1) := propext (by omega)
    refine ⟨⟨hC1, e1, e5, hrd1, by rw [e3]; exact h.de, e2, hL1, by omega, ?_, ?_, ?_, e4.2.1, e4.2.2⟩, rfl⟩
    · simp only [hiff]; exact n2
    · simp only [hiff]; rw [e3]; exact h.st
    · simp only [hiff]; rw [e4.1]; exact h.wv
theorem PhA.toB {F : Int} {x : Hash} {i : Nat} {got : List Nat} {D : CoreD} (h : PhA F x i got D) (hq : 2 * F + 1 ≤ (got.length : Int) + 1) (hf : 1 ≤ F) : PhB F x i [] D := by
  refine ⟨h.ci, h.f, h.rp, h.rd, h.P, fun q => ?_, fun _ => ⟨h.de, by rw [h.st, if_pos hq], by rw [h.wv, decide_eq_true hq], h.sc, ?_, ?_⟩⟩
  · simp at q; omega
  · intro v hv
    obtain ⟨a, b, c⟩ := h.L v hv
    exact ⟨a, b, c.imp (fun q => q.1) fun q => ⟨q.1, .inl q.2⟩⟩
  · rw [h.n2, if_pos hq]; rfl
/-- one more precommit -/
theorem PhB.step {F : Int} {x : Hash} {i p : Nat} {got : List Nat} {D D' : CoreD} {A' : List ActD} (h : PhB F x i got D) (hx : x ≠ hash0) (hf : 1 ≤ F) (hp : p ∉ got) (hpi : p ≠ i) (hpl : (p : Int) < 3 * F + 1) (hst : voteD' D 2 0 (p : Int) x = (D', A')) :
    PhB F x i (got ++ [p]) D' ∧ A'.flatMap (speakA (i : Int)) = [] := by
  have hlen : ((got ++ [p]).length : Int) = (got.length : Int) + 1 := by simp
  by_cases hq : 2 * F + 1 ≤ (got.length : Int) + 1
  · unfold voteD' at hst
    rw [if_pos (.inl (h.fin hq).1)] at hst
    simp only [Prod.mk.injEq] at hst
    obtain ⟨rfl, rfl⟩ := hst
    exact ⟨⟨h.ci, h.f, h.rp, h.rd, h.P, fun _ => h.fin hq, fun q => by omega⟩, rfl⟩
  · obtain ⟨g1, g2, g3, g4, g5, g6⟩ := h.go (by omega)
    have hok : okV D.f D.L 2 0 (p : Int) = true := vote_okA (.inr rfl) (fun v hv hk => by
      rcases (g5 v hv).2.2 with q | q
      · omega
      · exact q.2) hp hpi (by rw [h.f]; exact hpl)
    unfold voteD' at hst
    rw [if_neg (by rw [g1, hok]; simp)] at hst
    have hC1 := h.ci.addD 2 0 (p : Int) x
    have hLe : (addD D 2 0 (p : Int) x).L = D.L ++ [⟨2, 0, (p : Int), x⟩] := addV_yes (v := ⟨2, 0, (p : Int), x⟩) hok
    have e1 : (addD D 2 0 (p : Int) x).f = F := h.f
    have e2 : (addD D 2 0 (p : Int) x).P = [(0, ⟨-1, x, true⟩)] := h.P
    have e3 : (addD D 2 0 (p : Int) x).s = D.s := rfl
    have e4 : (addD D 2 0 (p : Int) x).wv = true ∧ (addD D 2 0 (p : Int) x).sc = false := ⟨g3, g4⟩
    have e5 : (addD D 2 0 (p : Int) x).replica = (i : Int) := h.rp
    generalize addD D 2 0 (p : Int) x = D1 at *
    have n2 : forV D1.L 2 0 x = (got.length : Int) + 2 := by rw [hLe, for_snoc _ _ _ _ rfl rfl, g6]; simp; omega
    have hL1 : ∀ v ∈ D1.L, v.round = 0 ∧ v.h = x ∧ (v.kind = 1 ∨ v.kind = 2 ∧ (v.replica = (i : Int) ∨ ∃ j ∈ got ++ [p], v.replica = (j : Int))) := by
      intro v hv
      rw [hLe] at hv
      rcases List.mem_append.1 hv with hv | hv
      · obtain ⟨a, b, c⟩ := g5 v hv
        exact ⟨a, b, c.imp id fun q => ⟨q.1, q.2.imp id fun ⟨j, hj, e⟩ => ⟨j, List.mem_append_left _ hj, e⟩⟩⟩
      · obtain rfl := List.mem_singleton.1 hv
        exact ⟨rfl, rfl, .inr ⟨rfl, .inr ⟨p, by simp, rfl⟩⟩⟩
    have hsame : ∀ v ∈ D1.L, v.round = 0 ∧ v.h = x := fun v hv => ⟨(hL1 v hv).1, (hL1 v hv).2.1⟩
    have hrd1 : D1.s.round = 0 := by rw [e3]; exact h.rd
    by_cases hm : (got.length : Int) + 2 = 2 * F + 1
    · have hl : leastV D1.f D1.L D1.P = 0 := by
        have hlp : leastP D1.f D1.L (0, ⟨-1, x, true⟩) = true := by
          unfold leastP
          rw [show forV D1.L 2 0 x = (got.length : Int) + 2 from n2, decide_eq_true (by omega)]; rfl
        rw [e2]
        unfold leastV
        rw [List.filter_cons, if_pos hlp]
        rfl
      have hr : ruleD D1 = some (decideD D1 0, [⟨5, 0, -1, x⟩]) := by
        unfold ruleD
        rw [hl, if_pos (by omega), e2, (get1 _).1]
      have hset := settle_one hC1 (by simp [goesB]; rw [e3]; exact ⟨by omega, g1⟩) hr (.inl (by simp [goesB, decideD]))
      rw [hset] at hst
      simp only [Prod.mk.injEq] at hst
      obtain ⟨rfl, rfl⟩ := hst
      refine ⟨⟨hC1.rule hr, e1, e5, hrd1, e2, fun _ => ⟨rfl, by show (getP D1.P 0).h = x; rw [e2]; rfl⟩, fun q => by omega⟩, rfl⟩
    · have hnone : ruleD D1 = none := by
        refine calm_still hx (by omega) e2 hrd1 hsame ?_ (.inr ⟨by rw [e3]; exact g2, e4.1⟩)
        rw [n2, e1]; omega
      rw [settle_none hnone] at hst
      simp only [Prod.mk.injEq] at hst
      obtain ⟨rfl, rfl⟩ := hst
      exact ⟨⟨hC1, e1, e5, hrd1, e2, fun q => by omega, fun _ => ⟨by rw [e3]; exact g1, by rw [e3]; exact g2, e4.1, e4.2, hL1, by omega⟩⟩, rfl⟩
/-! ### all cores -/
def CalmP (F : Int) (x : Hash) (r i : Nat) (got : List Nat) (D : CoreD) : Prop := if r = 0 then PhA F x i got D else PhB F x i got D
def CalmQ (F : Int) (x : Hash) (r j : Nat) (D : CoreD) : Prop := if r = 2 then D.s.decided = true ∧ D.s.decision = x ∧ D.s.round = 0 ∧ CI D else CalmP F x r j [] D
theorem CalmP.ci {F : Int} {x : Hash} {r i : Nat} {got : List Nat} {D : CoreD} (h : CalmP F x r i got D) : CI D := by
  unfold CalmP at h; split at h
  · exact h.ci
  · exact h.ci
theorem CalmQ.ci {F : Int} {x : Hash} {r j : Nat} {D : CoreD} (h : CalmQ F x r j D) : CI D := by
  unfold CalmQ at h; split at h
  · exact h.2.2.2
  · exact h.ci
/-- the proposals, of the first i cores -/
structure CalmO (F ep : Int) (x : Hash) (n i : Nat) (Ds : List CoreD) : Prop where
  len : Ds.length = n
  each : ∀ (j : Nat) D, Ds[j]? = some D → if j < i then PhA F x j [] D else D = calm0 F ep j
structure CalmR (F : Int) (x : Hash) (n r : Nat) (Ds : List CoreD) (vs : List SaidD) : Prop where
  len : Ds.length = n
  each : ∀ (j : Nat) D, Ds[j]? = some D → CalmQ F x r j D
  vs : r < 2 → vs = sv (1 + r) x n
def baseN (r : Nat) (x : Hash) (i : Nat) : List SaidD := if r = 0 then sv 2 x i else []
def moreN (F : Int) (r : Nat) (x : Hash) (i m : Nat) : List SaidD := if r = 0 ∧ 2 * F + 1 ≤ (m : Int) + 1 then [⟨true, 2, 0, 0, (i : Int), x⟩] else []
structure CalmI (F : Int) (x : Hash) (n r i : Nat) (Ds : List CoreD) (nx : List SaidD) : Prop where
  len : Ds.length = n
  each : ∀ (j : Nat) D, Ds[j]? = some D → if j < i then CalmQ F x (r + 1) j D else CalmQ F x r j D
  nx : nx = baseN r x i
structure CalmK (F : Int) (x : Hash) (n r i off k : Nat) (Ds : List CoreD) (nx : List SaidD) : Prop where
  len : Ds.length = n
  oth : ∀ (j : Nat) D, Ds[j]? = some D → j ≠ i → if j < i then CalmQ F x (r + 1) j D else CalmQ F x r j D
  own : ∃ (got : List Nat) (c : Nat), (∀ j ∈ got, ∃ k', k' < k ∧ j = rot n off k') ∧ got.length + c = k ∧ (c = 0 ∨ c = 1 ∧ ∃ k', k' < k ∧ rot n off k' = i) ∧ (∀ D, Ds[i]? = some D → CalmP F x r i got D) ∧ nx = baseN r x i ++ moreN F r x i got.length
section
variable {F ep : Int} {x : Hash} {n r i off k : Nat} {Ds : List CoreD} {nx vs : List SaidD} {D D' : CoreD} {A' : List ActD}
theorem CalmO.start (F ep : Int) (x : Hash) (n : Nat) : CalmO F ep x n 0 (calmL F ep n) := by
  refine ⟨calmL_len _ _ _, fun j D hD => ?_⟩
  unfold calmL at hD
  rw [List.getElem?_map] at hD
  have hj : j < n := by
    by_cases hj : j < n
    · exact hj
    · rw [List.getElem?_eq_none (by simp; omega)] at hD; cases hD
  rw [List.getElem?_range hj] at hD
  exact (Option.some.inj hD).symm
theorem CalmO.ci (h : CalmO F ep x n i Ds) (hn : ∀ j : Nat, j < n → newOk F 1 ep (j : Int) = true) {j : Nat} (hD : Ds[j]? = some D) : CI D := by
  have := h.each j D hD
  split at this
  · exact this.ci
  · rw [this]
    have hj := (List.getElem?_eq_some_iff.1 hD).1
    rw [h.len] at hj
    exact (CI.new (hn j hj)).to 0 (by omega)
theorem CalmO.step (h : CalmO F ep x n i Ds) (hx : x ≠ hash0) (hf : 1 ≤ F) (hn : ∀ j : Nat, j < n → newOk F 1 ep (j : Int) = true) (hD : Ds[i]? = some D) (hst : proposeD D 0 (-1) x true = (D', A')) : CalmO F ep x n (i + 1) (Ds.set i D') ∧ A'.flatMap (speakA (i : Int)) = [⟨true, 1, 0, 0, (i : Int), x⟩] := by
  have hi := (List.getElem?_eq_some_iff.1 hD).1
  have h0 := h.each i D hD
  rw [if_neg (Nat.lt_irrefl _)] at h0
  subst h0
  obtain ⟨h1, rfl⟩ := calm_prop hx hf (hn i (by rw [← h.len]; exact hi)) hst
  refine ⟨⟨by rw [List.length_set]; exact h.len, fun j E hE => ?_⟩, rfl⟩
  by_cases hj : i = j
  · subst hj
    rw [List.getElem?_set_self hi] at hE
    obtain rfl := Option.some.inj hE
    rw [if_pos (by omega)]; exact h1
  · rw [List.getElem?_set_ne hj] at hE
    have := h.each j E hE
    by_cases hlt : j < i
    · rw [if_pos hlt] at this; rw [if_pos (by omega)]; exact this
    · rw [if_neg hlt] at this; rw [if_neg (by omega)]; exact this
theorem CalmO.done (h : CalmO F ep x n n Ds) : CalmR F x n 0 Ds (sv 1 x n) := by
  refine ⟨h.len, fun j D hD => ?_, fun _ => rfl⟩
  have hj := (List.getElem?_eq_some_iff.1 hD).1
  have := h.each j D hD
  rw [if_pos (by rw [← h.len]; exact hj)] at this
  unfold CalmQ CalmP
  simp only [Nat.reduceEqDiff, if_false, if_true]
  exact this
theorem CalmR.first (h : CalmR F x n r Ds vs) : CalmI F x n r 0 Ds [] := by
  refine ⟨h.len, fun j D hD => ?_, ?_⟩
  · rw [if_neg (Nat.not_lt_zero _)]; exact h.each j D hD
  · unfold baseN; split <;> rfl
theorem CalmI.first (h : CalmI F x n r i Ds nx) (hr : r < 2) (hf : 1 ≤ F) (off : Nat) : CalmK F x n r i off 0 Ds nx := by
  refine ⟨h.len, fun j D hD _ => h.each j D hD, [], 0, by simp, rfl, .inl rfl, fun D hD => ?_, ?_⟩
  · have := h.each i D hD
    rw [if_neg (Nat.lt_irrefl _)] at this
    unfold CalmQ at this
    rw [if_neg (by omega)] at this
    exact this
  · rw [h.nx]
    unfold moreN
    rw [if_neg (by simp; omega), List.append_nil]
theorem CalmK.ci (h : CalmK F x n r i off k Ds nx) {j : Nat} (hD : Ds[j]? = some D) : CI D := by
  by_cases hj : j = i
  · subst hj
    obtain ⟨got, c, _, _, _, q, _⟩ := h.own
    exact (q D hD).ci
  · have := h.oth j D hD hj
    split at this
    · exact this.ci
    · exact this.ci
theorem CalmK.skip (h : CalmK F x n r i off k Ds nx) (hk : k < n) (e : rot n off k = i) : CalmK F x n r i off (k + 1) Ds nx := by
  obtain ⟨got, c, h1, h2, h3, h4, h5⟩ := h.own
  refine ⟨h.len, h.oth, got, 1, fun j hj => ?_, ?_, .inr ⟨rfl, k, by omega, e⟩, h4, h5⟩
  · obtain ⟨k', a, b⟩ := h1 j hj; exact ⟨k', by omega, b⟩
  · rcases h3 with q | ⟨_, k', a, b⟩
    · omega
    · have := rot_inj (by omega) hk (b.trans e.symm); omega
theorem CalmK.vote (h : CalmK F x n r i off k Ds nx) (hx : x ≠ hash0) (hf : 1 ≤ F) (hn : (n : Int) = 3 * F + 1) (hr : r < 2) (hk : k < n) (ho : off < n) (e : rot n off k ≠ i) (hD : Ds[i]? = some D) (hst : voteD' D (1 + r) 0 (rot n off k : Int) x = (D', A')) : CalmK F x n r i off (k + 1) (Ds.set i D') (nx ++ A'.flatMap (speakA (i : Int))) := by
  obtain ⟨got, c, h1, h2, h3, h4, h5⟩ := h.own
  have hi := (List.getElem?_eq_some_iff.1 hD).1
  have hp : rot n off k ∉ got := fun hm => by
    obtain ⟨k', a, b⟩ := h1 _ hm
    have := rot_inj hk (by omega) b
    omega
  have hpl : (rot n off k : Int) < 3 * F + 1 := by have := rot_lt hk ho; omega
  have key : CalmP F x r i (got ++ [rot n off k]) D' ∧ moreN F r x i got.length ++ A'.flatMap (speakA (i : Int)) = moreN F r x i (got ++ [rot n off k]).length := by
    have h0 := h4 D hD
    unfold CalmP at h0 ⊢
    by_cases hz : r = 0
    · subst hz
      simp only [if_true] at h0 ⊢
      obtain ⟨q1, q2⟩ := h0.step hx hf hp e hpl hst
      refine ⟨q1, ?_⟩
      rw [q2]
      unfold moreN
      simp only [true_and, List.length_append, List.length_singleton]
      by_cases hm : (got.length : Int) + 2 = 2 * F + 1
      · rw [if_pos hm, if_neg (by omega), if_pos (by omega)]; rfl
      · rw [if_neg hm]
        by_cases hg : 2 * F + 1 ≤ (got.length : Int) + 1
        · rw [if_pos hg, if_pos (by omega)]; rfl
        · rw [if_neg hg, if_neg (by omega)]; rfl
    · simp only [if_neg hz] at h0 ⊢
      obtain rfl : r = 1 := by omega
      obtain ⟨q1, q2⟩ := h0.step hx hf hp e hpl hst
      refine ⟨q1, ?_⟩
      rw [q2]
      unfold moreN
      simp
  refine ⟨by rw [List.length_set]; exact h.len, fun j E hE hj => ?_, got ++ [rot n off k], c, ?_, by simp; omega, ?_, fun E hE => ?_, ?_⟩
  · rw [List.getElem?_set_ne (Ne.symm hj)] at hE
    exact h.oth j E hE hj
  · intro j hj
    rcases List.mem_append.1 hj with hj | hj
    · obtain ⟨k', a, b⟩ := h1 j hj; exact ⟨k', by omega, b⟩
    · exact ⟨k, by omega, List.mem_singleton.1 hj⟩
  · exact h3.imp id fun ⟨a, k', b, d⟩ => ⟨a, k', by omega, d⟩
  · rw [List.getElem?_set_self hi] at hE
    obtain rfl := Option.some.inj hE
    exact key.1
  · rw [h5, List.append_assoc, key.2]
theorem CalmK.done (h : CalmK F x n r i off n Ds nx) (hf : 1 ≤ F) (hn : (n : Int) = 3 * F + 1) (hr : r < 2) : CalmI F x n r (i + 1) Ds nx := by
  obtain ⟨got, c, h1, h2, h3, h4, h5⟩ := h.own
  have hq : 2 * F + 1 ≤ (got.length : Int) + 1 := by omega
  refine ⟨h.len, fun j D hD => ?_, ?_⟩
  · by_cases hj : j = i
    · subst hj
      rw [if_pos (by omega)]
      have := h4 D hD
      unfold CalmP at this
      unfold CalmQ CalmP
      by_cases hz : r = 0
      · subst hz
        simp only [if_true] at this
        simp only [Nat.reduceAdd, Nat.reduceEqDiff, if_false]
        exact this.toB hq hf
      · rw [if_neg hz] at this
        rw [if_pos (by omega)]
        exact ⟨(this.fin hq).1, (this.fin hq).2, this.rd, this.ci⟩
    · have := h.oth j D hD hj
      by_cases hlt : j < i
      · rw [if_pos hlt] at this; rw [if_pos (by omega)]; exact this
      · rw [if_neg hlt] at this; rw [if_neg (by omega)]; exact this
  · rw [h5]
    unfold baseN moreN
    by_cases hz : r = 0
    · simp only [hz, if_true, true_and]; rw [if_pos hq, sv_succ]
    · simp only [if_neg hz]; rw [if_neg (by simp [hz])]; rfl
theorem CalmI.ci (h : CalmI F x n r i Ds nx) {j : Nat} (hD : Ds[j]? = some D) : CI D := by
  have := h.each j D hD
  split at this
  · exact this.ci
  · exact this.ci
theorem CalmI.done (h : CalmI F x n r n Ds nx) (hr : r < 2) : CalmR F x n (r + 1) Ds nx := by
  refine ⟨h.len, fun j D hD => ?_, fun h2 => ?_⟩
  · have hj := (List.getElem?_eq_some_iff.1 hD).1
    have := h.each j D hD
    rw [if_pos (by rw [← h.len]; exact hj)] at this
    exact this
  · rw [h.nx]
    obtain rfl : r = 0 := by omega
    rfl
theorem CalmR.end (h : CalmR F x n 2 Ds vs) {j : Nat} (hD : Ds[j]? = some D) : CI D ∧ D.s.decided = true ∧ D.s.decision = x ∧ D.s.round = 0 := by
  have := h.each j D hD
  unfold CalmQ at this
  rw [if_pos rfl] at this
  exact ⟨this.2.2.2, this.1, this.2.1, this.2.2.1⟩
/-- what is heard next is short -/
theorem CalmK.short (h : CalmK F x n r i off k Ds nx) : nx.length ≤ i + 1 := by
  obtain ⟨got, c, _, _, _, _, h5⟩ := h.own
  rw [h5, List.length_append]
  have a : (baseN r x i).length ≤ i := by unfold baseN; split <;> simp [sv_len]
  have b : (moreN F r x i got.length).length ≤ 1 := by unfold moreN; split <;> simp
  omega
end
end Go.Proofs.Ythjmbhneifjeeaa
