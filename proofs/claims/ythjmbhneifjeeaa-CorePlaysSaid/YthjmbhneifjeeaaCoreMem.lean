/- WHAT IS PROVED: a core in memory, and plain laws that its walk needs. Conditions: stated with each. -/
import Derived.Test.YthjmbhneifjeeaaCoreDefs
import Derived.Test.YthjmbhneifjeeaaObj
import Derived.Test.YthjmbhneifjeeaaBreak
import Derived.Lib.MinMax
namespace Go.Proofs.Ythjmbhneifjeeaa
open Go.RowKit
set_option maxRecDepth 100000
def propV (p : PropD) : Value := .agg ⟨[.int .i64 p.valid] ++ hc p.h ++ [.bool p.ok]⟩
def encA (a : ActD) : List Value := [.int .i64 a.kind, .int .i64 a.round, .int .i64 a.valid] ++ hc a.h
theorem encA_len (a : ActD) : (encA a).length = 35 := by simp [encA]
theorem encA_one (a : ActD) : (encA a).all (·.oneCell') = true := by
  simp only [encA, List.all_append, hc_eq]
  simp [Value.oneCell', byteV]
def stL (s : StD) : List Value := [.int .i64 s.round, .int .i64 s.step, .int .i64 s.lr, .int .i64 s.vr] ++ hc s.locked ++ hc s.valid ++ [.bool s.decided] ++ hc s.decision
def coreL (t pb : Nat) (D : CoreD) : List Value :=
  [.int .i64 D.f, .int .i64 D.c, .int .i64 D.epoch, .int .i64 D.replica, .int .i64 D.s.round, .int .i64 D.s.step, .int .i64 D.s.lr, .int .i64 D.s.vr] ++ hc D.s.locked ++ hc D.s.valid ++ [.bool D.s.decided] ++ hc D.s.decision ++ [.pointer (some ⟨t, 0, none⟩), .map (some pb), .bool D.wv, .bool D.sp, .bool D.sc]
def coreG (k t hb cb ab lb pb : Nat) (D : CoreD) : List Ck := [cellC k 92 (coreL t pb D), talC t hb cb ab lb D.f D.c D.L, mapC pb (Value.int .i64) propV D.P]
def coreC (k t hb cb ab lb pb : Nat) (D : CoreD) : Ck := sepC (coreG k t hb cb ab lb pb D)
theorem ok_of {A B : Ck} {w : World} (h : A = B) (ha : A.ok w) : B.ok w := h ▸ ha
theorem coreC_parts {k t hb cb ab lb pb : Nat} {D : CoreD} {w : World} (h : (coreC k t hb cb ab lb pb D).ok w) :
    w.heap[k]? = some (.cells ⟨coreL t pb D⟩ 92 (0, 0)) ∧ (talC t hb cb ab lb D.f D.c D.L).ok w ∧ MapAt w pb (Value.int .i64) propV D.P :=
  ⟨h.1 _ (List.mem_cons_self ..), h.1 _ (List.mem_cons_of_mem _ (List.mem_cons_self ..)), h.1 _ (List.mem_cons_of_mem _ (List.mem_cons_of_mem _ (List.mem_cons_self ..)))⟩
theorem coreC_fp {k t hb cb ab lb pb : Nat} {D D' : CoreD} {b : Nat} (h : (coreC k t hb cb ab lb pb D).fp b) : (coreC k t hb cb ab lb pb D').fp b := by
  obtain ⟨A, hA, hb'⟩ := h
  simp only [coreG, List.mem_cons, List.not_mem_nil, or_false] at hA
  rcases hA with rfl | rfl | rfl
  · exact ⟨_, List.mem_cons_self .., hb'⟩
  · exact ⟨_, List.mem_cons_of_mem _ (List.mem_cons_self ..), hb'⟩
  · exact ⟨_, List.mem_cons_of_mem _ (List.mem_cons_of_mem _ (List.mem_cons_self ..)), hb'⟩
/-! plain laws -/
theorem maxR_same {l m : List Int} (h : ∀ x, x ∈ l ↔ x ∈ m) : maxR l = maxR m := by
  have a := maxR_ge l (-1)
  have b := maxR_ge m (-1)
  have c := maxR_mem l (-1)
  have d := maxR_mem m (-1)
  unfold maxR
  generalize List.foldl (fun a r => if a < r then r else a) (-1) l = x at *
  generalize List.foldl (fun a r => if a < r then r else a) (-1) m = y at *
  have h1 : x ≤ y := by
    rcases c with rfl | c
    · exact b.1
    · exact b.2 x ((h x).1 c)
  have h2 : y ≤ x := by
    rcases d with rfl | d
    · exact a.1
    · exact a.2 y ((h y).2 d)
  omega
def farT (T : TallyS) (above many : Int) (x : Int) : Bool := decide (above < x) && decide (many ≤ heardT T x)
/-- the greatest so far -/
def farS (T : TallyS) (above many : Int) (l : List (Int × Int)) : Int := maxR ((l.map (·.2)).filter (farT T above many))
theorem farS_snoc (T : TallyS) (above many : Int) (l : List (Int × Int)) (y : Int × Int) : farS T above many (l ++ [y]) = bif decide (y.2 > above) && decide (y.2 > farS T above many l) && decide (heardT T y.2 ≥ many) then y.2 else farS T above many l := by
  unfold farS maxR
  rw [List.map_append, List.filter_append, List.foldl_append]
  generalize List.foldl (fun a r => if a < r then r else a) (-1) ((l.map (·.2)).filter (farT T above many)) = m
  simp only [List.map_cons, List.map_nil, List.filter_cons, List.filter_nil, farT]
  by_cases h1 : above < y.2 <;> by_cases h2 : many ≤ heardT T y.2 <;> by_cases h3 : m < y.2 <;> simp [h1, h2, h3]
theorem farS_perm (T : TallyS) (above many : Int) {l m : List (Int × Int)} (h : l.Perm m) : farS T above many l = farS T above many m :=
  maxR_same fun _ => ((h.map _).filter _).mem_iff
theorem Tal.far {T : TallyS} {L : List VoteD} (h : Tal T L) (above many : Int) (ha : 0 ≤ above) (hm : 1 ≤ many) : farS T above many T.last = farV T.f L above many := by
  refine maxR_ext ?_ ⟨?_, ?_⟩ ?_
  · intro x hx
    have := (List.mem_filter.1 hx).2
    simp [farT] at this
    omega
  · intro x hx
    obtain ⟨h1, h2⟩ := List.mem_filter.1 hx
    obtain ⟨⟨p, m⟩, h3, rfl⟩ := List.mem_map.1 h1
    obtain ⟨v, hv, h4, h5⟩ := h.last2 p m ((look_mem h.lnod p m).2 h3)
    refine ⟨v.round, List.mem_filter.2 ⟨List.mem_map.2 ⟨v, hv, rfl⟩, ?_⟩, by show m ≤ _; omega⟩
    rw [h5]
    unfold farT at h2
    rw [h.heard] at h2
    exact h2
  · intro x hx
    obtain ⟨h1, h2⟩ := List.mem_filter.1 hx
    obtain ⟨v, hv, rfl⟩ := List.mem_map.1 h1
    have h2' : above < v.round ∧ many ≤ heardT T v.round := by rw [h.heard]; simpa [farP] using h2
    -- the least of those that are no less
    have hne : (T.last.filter fun y => decide (y.2 ≥ v.round)) ≠ [] := by
      intro e
      have h0 : heardT T v.round = 0 := by unfold heardT; rw [e]; rfl
      omega
    obtain ⟨y, hy, hmin⟩ : ∃ y ∈ T.last.filter (fun y => decide (y.2 ≥ v.round)), ∀ z ∈ T.last.filter (fun y => decide (y.2 ≥ v.round)), y.2 ≤ z.2 := by
      generalize T.last.filter (fun y => decide (y.2 ≥ v.round)) = l at hne
      clear h2 h2' h1 hx
      induction l with
      | nil => exact absurd rfl hne
      | cons a l ih =>
        by_cases hl : l = []
        · subst hl; exact ⟨a, by simp, by simp⟩
        · obtain ⟨y, hy, hz⟩ := ih hl
          by_cases hay : a.2 ≤ y.2
          · exact ⟨a, by simp, fun z hz' => by
              rcases List.mem_cons.1 hz' with rfl | hz'
              · exact Int.le_refl _
              · exact Int.le_trans hay (hz z hz')⟩
          · exact ⟨y, List.mem_cons_of_mem _ hy, fun z hz' => by
              rcases List.mem_cons.1 hz' with rfl | hz'
              · omega
              · exact hz z hz'⟩
    obtain ⟨hy1, hy2⟩ := List.mem_filter.1 hy
    have hy2 : v.round ≤ y.2 := by simpa using hy2
    refine ⟨y.2, List.mem_filter.2 ⟨List.mem_map.2 ⟨y, hy1, rfl⟩, ?_⟩, hy2⟩
    have he : heardT T y.2 = heardT T v.round := by
      unfold heardT
      congr 2
      refine List.filter_congr fun z hz => ?_
      by_cases hzv : v.round ≤ z.2
      · have := hmin z (List.mem_filter.2 ⟨hz, by simpa using hzv⟩)
        simp [hzv, this]
      · have : ¬ y.2 ≤ z.2 := by omega
        simp [hzv, this]
    unfold farT
    rw [he]
    simp only [Bool.and_eq_true, decide_eq_true_eq]
    omega
  · intro x hx
    have := (List.mem_filter.1 hx).2
    simp [farP] at this
    omega
theorem least_snoc (f : Int) (L : List VoteD) (l : List (Int × PropD)) (y : Int × PropD) : leastV f L (l ++ [y]) = bif y.2.ok && (decide (leastV f L l < 0) || decide (y.1 < leastV f L l)) && decide (forV L 2 y.1 y.2.h ≥ 2 * f + 1) then y.1 else leastV f L l := by
  unfold leastV minR
  rw [List.filter_append, List.map_append, List.foldl_append]
  generalize List.foldl (fun a r => if a < 0 ∨ r < a then r else a) (-1) ((l.filter (leastP f L)).map (·.1)) = m
  simp only [List.filter_cons, List.filter_nil, leastP]
  by_cases h1 : y.2.ok = true <;> by_cases h2 : 2 * f + 1 ≤ forV L 2 y.1 y.2.h <;> by_cases h3 : m < 0 <;> by_cases h4 : y.1 < m <;> simp [h1, h2, h3, h4]
theorem leastV_perm (f : Int) (L : List VoteD) {l m : List (Int × PropD)} (h : l.Perm m) (hp : ∀ x ∈ l, 0 ≤ x.1) : leastV f L l = leastV f L m := by
  refine minR_ext ?_ fun _ => ((h.filter _).map _).mem_iff
  intro x hx
  obtain ⟨y, hy, rfl⟩ := List.mem_map.1 hx
  exact hp y (List.mem_filter.1 hy).1
/-! the rules, asked in Bools -/
def c3 (D : CoreD) : Bool := decide (D.s.step = 1) && hasP D.P D.s.round
def c4 (D : CoreD) : Bool := decide (D.s.step ≥ 2) && hasP D.P D.s.round && (getP D.P D.s.round).ok && !D.wv && decide (forV D.L 1 D.s.round (getP D.P D.s.round).h ≥ 2 * D.f + 1)
def c5 (D : CoreD) : Bool := decide (D.s.step = 2) && decide (forV D.L 1 D.s.round hash0 ≥ 2 * D.f + 1)
def c6 (D : CoreD) : Bool := decide (D.s.step = 2) && !D.sp && decide (allV D.L 1 D.s.round ≥ 2 * D.f + 1)
def c7 (D : CoreD) : Bool := !D.sc && decide (allV D.L 2 D.s.round ≥ 2 * D.f + 1)
theorem ruleD_b (D : CoreD) : ruleD D =
    if leastV D.f D.L D.P ≥ 0 then some (decideD D (leastV D.f D.L D.P), [⟨5, leastV D.f D.L D.P, -1, (getP D.P (leastV D.f D.L D.P)).h⟩])
    else if farV D.f D.L D.s.round (D.f + 1) ≥ 0 then some (toD D (farV D.f D.L D.s.round (D.f + 1)), enterA D (farV D.f D.L D.s.round (D.f + 1)))
    else if (c3 D && (chooseD D (getP D.P D.s.round)).2) = true then some (ownV D 1 2 (chooseD D (getP D.P D.s.round)).1, ownA D 2 (chooseD D (getP D.P D.s.round)).1)
    else if c4 D = true then
      if D.s.step = 2 then some (validD (ownV (lockD (wvD D) (getP D.P D.s.round).h) 2 3 (getP D.P D.s.round).h) (getP D.P D.s.round).h, ownA D 3 (getP D.P D.s.round).h)
      else some (validD (wvD D) (getP D.P D.s.round).h, [])
    else if c5 D = true then some (ownV D 2 3 hash0, ownA D 3 hash0)
    else if c6 D = true then some ({ D with sp := true }, [⟨4, D.s.round, 2, hash0⟩])
    else if c7 D = true then some ({ D with sc := true }, [⟨4, D.s.round, 3, hash0⟩])
    else none := by
  unfold ruleD
  simp only [c3, c4, c5, c6, c7, Bool.and_eq_true, decide_eq_true_eq, Bool.not_eq_true', and_assoc, ge_iff_le]
section
variable {P : Program} {n : Nat} {f : Nat → Value} {w : World} {dst : Option Tmp} {ty : TypeId} {pos : String} {aft : Array Edge} {gd : Option (Nat × Bool)}
theorem e_minI {T : Array TypeId} {x y : Operand} {k : IntKind} {a b z : Int} (hx : ev n f x = .int k a) (hy : ev n f y = .int k b) (hz : min a b = z) :
    (execOp (ev n f) ⟨dst, .call { callee := .builtin .min, args := #[x, y], argTypes := T }, ty, pos, aft, gd⟩).run P w = .ok (.value (.int k z)) w := by
  have := Lib.run_min_ints (P := P) w T ty k k a b
  subst hz
  simp [execOp, resolve, invoke, builtin, hx, hy, this, Result.andThen]
theorem e_maxI {T : Array TypeId} {x y : Operand} {k : IntKind} {a b z : Int} (hx : ev n f x = .int k a) (hy : ev n f y = .int k b) (hz : max a b = z) :
    (execOp (ev n f) ⟨dst, .call { callee := .builtin .max, args := #[x, y], argTypes := T }, ty, pos, aft, gd⟩).run P w = .ok (.value (.int k z)) w := by
  have := Lib.run_max_ints (P := P) w T ty k k a b
  subst hz
  simp [execOp, resolve, invoke, builtin, hx, hy, this, Result.andThen]
end
theorem rows_app {α : Type} (enc : α → List Value) (e s : Nat) (a : Option Addr) (c : Nat) (A B : List α) : rowC e s (.slice a (A.length + B.length) c) (A.length + B.length) (A.flatMap enc ++ B.flatMap enc) = rowC e s (.slice a (A ++ B).length c) (A ++ B).length ((A ++ B).flatMap enc) := by
  rw [List.length_append, List.flatMap_append]
end Go.Proofs.Ythjmbhneifjeeaa
