/- WHAT IS PROVED: the entries of a batch, as the document makes them: a contract. Conditions: stated with each. -/
import Derived.Test.YtenihpghfdcpkaaEntM
import Derived.Test.YtenihpghfdcpkaaEnA
namespace Go.Proofs.Ytenihpghfdcpkaa
open Go.RowKit
section
variable {last tm : Int} {lg : NmD → Bool} {M : EMap} {A C : List CeR} {P : List PrR} {i k : Nat} {O : List EntD} {a b at_ : Int} {x y : EntD} {j : Nat} {c : CeR}
theorem PSm.pre (h : PSm P) (hi : i < P.length) : ∀ c ∈ (P.take i).flatMap (·.C) ++ (P.getD i pr0).C.take k, CeSm c := fun c hc => by
  rcases List.mem_append.1 hc with hc | hc
  · obtain ⟨p, hp, hc⟩ := List.mem_flatMap.1 hc
    exact h p (List.mem_of_mem_take hp) c hc
  · exact h _ (getD_memP hi) c (List.mem_of_mem_take hc)
theorem PSm.pre0 (h : PSm P) : ∀ c ∈ (P.take i).flatMap (·.C), CeSm c := fun c hc => by
  obtain ⟨p, hp, hc⟩ := List.mem_flatMap.1 hc
  exact h p (List.mem_of_mem_take hp) c hc
/-- where a name was seen last among the first j entries -/
def AtIs (O : List EntD) (a b at_ : Int) (j : Nat) : Prop := (at_ < 0 → ∀ q, q < j → ∀ x, O[q]? = some x → ¬ (x.cl = a ∧ x.sq = b)) ∧ (0 ≤ at_ → ∃ x, O[at_.toNat]? = some x ∧ x.cl = a ∧ x.sq = b)
theorem at_zero : AtIs O a b (-1) 0 := ⟨fun _ q h => absurd h (Nat.not_lt_zero q), fun h => absurd h (by decide)⟩
theorem at_hit (hx : O[j]? = some x) (h : decide (x.cl = a ∧ x.sq = b) = true) : AtIs O a b (j : Int) (j + 1) := ⟨fun h => absurd h (by omega), fun _ => ⟨x, by simpa using hx, of_decide_eq_true h⟩⟩
theorem at_miss (h0 : AtIs O a b at_ j) (hx : O[j]? = some x) (h : decide (x.cl = a ∧ x.sq = b) = false) : AtIs O a b at_ (j + 1) := by
  refine ⟨fun hn q hq y hy => ?_, h0.2⟩
  rcases Nat.lt_or_ge q j with hlt | hge
  · exact h0.1 hn q hlt y hy
  · have e : q = j := by omega
    subst e
    rw [hx] at hy
    obtain rfl := Option.some.inj hy
    exact of_decide_eq_false h
theorem look_at_none (h : EOk M) (hO : O = M.map (·.2)) (hat : AtIs O a b at_ j) (hj : O.length ≤ j) (hn : at_ < 0) : lookM M (⟨a, b⟩ : NmD) = none := by
  cases hq : lookM M (⟨a, b⟩ : NmD) with
  | none => rfl
  | some v =>
    have hm := mem_lookE hq
    have h1 := h.nm _ hm
    have hmO : v ∈ O := by rw [hO]; exact List.mem_map_of_mem (f := (·.2)) hm
    obtain ⟨q, hq1, hq2⟩ := List.mem_iff_getElem.1 hmO
    have h2 := hat.1 hn q (by omega) v (by rw [List.getElem?_eq_getElem hq1, hq2])
    have h3 : (⟨a, b⟩ : NmD) = ⟨v.cl, v.sq⟩ := h1
    rw [NmD.mk.injEq] at h3
    exact absurd ⟨h3.1.symm, h3.2.symm⟩ h2
theorem look_at_some (h : EOk M) (hO : O = M.map (·.2)) (hat : AtIs O a b at_ j) (hn : 0 ≤ at_) : ∃ v, O[at_.toNat]? = some v ∧ lookM M (⟨a, b⟩ : NmD) = some v := by
  obtain ⟨v, hv, h1, h2⟩ := hat.2 hn
  refine ⟨v, hv, ?_⟩
  rw [hO, List.getElem?_map] at hv
  obtain ⟨z, hz, rfl⟩ := Option.map_eq_some_iff.1 hv
  have hzm := List.mem_of_getElem? hz
  have hk : z.1 = ⟨a, b⟩ := by rw [h.nm z hzm]; unfold nmOf; rw [h1, h2]
  cases hq : lookM M (⟨a, b⟩ : NmD) with
  | none => exact absurd (hk ▸ List.mem_map_of_mem (f := (·.1)) hzm) (look_noneE.1 hq)
  | some u =>
    have hm := mem_lookE hq
    have := h.inj u (List.mem_map_of_mem (f := (·.2)) hm) z.2 (List.mem_map_of_mem (f := (·.2)) hzm) (by rw [← h.nm _ hm, ← h.nm _ hzm, hk])
    rw [this]
theorem put_new (h : lookM M (nmOf x) = none) : (putM M (nmOf x) x).map (·.2) = M.map (·.2) ++ [x] := by
  unfold putM
  rw [if_neg (look_noneE.1 h)]
  simp
theorem put_old {v : EntD} (h : EOk M) (hq : lookM M (nmOf x) = some v) {q : Nat} (hv : (M.map (·.2))[q]? = some v) : (putM M (nmOf x) x).map (·.2) = (M.map (·.2)).set q x := by
  unfold putM
  have hm := mem_lookE hq
  rw [if_pos (List.mem_map_of_mem (f := (·.1)) hm), List.map_map]
  rw [List.getElem?_map] at hv
  obtain ⟨z, hz, hzv⟩ := Option.map_eq_some_iff.1 hv
  have hql : q < M.length := (List.getElem?_eq_some_iff.1 hz).1
  have hzk : z.1 = nmOf x := by rw [h.nm z (List.mem_of_getElem? hz), hzv, ← h.nm _ hm]
  refine List.ext_getElem? fun p => ?_
  rw [List.getElem?_map, List.getElem?_set, List.length_map, List.getElem?_map]
  cases hp : M[p]? with
  | none =>
    by_cases e : q = p
    · subst e; rw [hz] at hp; simp at hp
    · simp [e]
  | some y =>
    by_cases e : q = p
    · subst e
      rw [hz] at hp
      obtain rfl := Option.some.inj hp
      simp [hql, hzk]
    · have hne : ¬ y.1 = nmOf x := fun hy => by
        have hpl : p < M.length := (List.getElem?_eq_some_iff.1 hp).1
        have hpw := List.pairwise_iff_getElem.1 h.nd
        have e1 : (M.map (·.1))[q]'(by simpa using hql) = (M.map (·.1))[p]'(by simpa using hpl) := by
          rw [List.getElem_map, List.getElem_map, (List.getElem?_eq_some_iff.1 hz).2, (List.getElem?_eq_some_iff.1 hp).2, hzk, hy]
        rcases Nat.lt_or_gt_of_ne e with q1 | q1
        · exact hpw q p (by simpa using hql) (by simpa using hpl) q1 e1
        · exact hpw p q (by simpa using hpl) (by simpa using hql) q1 e1.symm
      simp [e, hne]
def OutIs (last tm : Int) (lg : NmD → Bool) (A C : List CeR) (k : Nat) (O : List EntD) : Prop := O = (runE last tm lg (A ++ C.take k)).map (·.2)
theorem out_len (h : OutIs last tm lg A C k O) (hs : ∀ c ∈ A ++ C.take k, CeSm c) : O.length ≤ 12 := by
  rw [h, List.length_map]; exact (runE_ok hs).len
theorem out_skip (h : OutIs last tm lg A C k O) (hk : k < C.length) (hs : skipE last tm lg (entOf (C.getD k ce0)) = true) : OutIs last tm lg A C (k + 1) O := by
  unfold OutIs; rw [take_succ_C hk, ← List.append_assoc, runE_app, stepE_skip hs]; exact h
theorem out_new (h : OutIs last tm lg A C k O) (hk : k < C.length) (hc : ∀ c ∈ A ++ C.take k, CeSm c) (hs : skipE last tm lg (entOf (C.getD k ce0)) = false) (hat : AtIs O (C.getD k ce0).x.cl (C.getD k ce0).x.seq at_ j) (hj : O.length ≤ j) (hn : at_ < 0) : OutIs last tm lg A C (k + 1) (O ++ [entOf (C.getD k ce0)]) := by
  have hl := look_at_none (runE_ok hc) h hat hj hn
  unfold OutIs; rw [take_succ_C hk, ← List.append_assoc, runE_app, stepE_new hs hl, put_new hl, h]
theorem out_keep (h : OutIs last tm lg A C k O) (hk : k < C.length) (hc : ∀ c ∈ A ++ C.take k, CeSm c) (hs : skipE last tm lg (entOf (C.getD k ce0)) = false) (hat : AtIs O (C.getD k ce0).x.cl (C.getD k ce0).x.seq at_ j) (hn : 0 ≤ at_) (hx : O[at_.toNat]? = some x) (ha : aheadE (entOf (C.getD k ce0)) x = false) : OutIs last tm lg A C (k + 1) O := by
  obtain ⟨v, hv, hl⟩ := look_at_some (runE_ok hc) h hat hn
  rw [hx] at hv
  obtain rfl := Option.some.inj hv
  unfold OutIs; rw [take_succ_C hk, ← List.append_assoc, runE_app, stepE_old hs hl, if_neg (by rw [ha]; decide)]; exact h
theorem out_set (h : OutIs last tm lg A C k O) (hk : k < C.length) (hc : ∀ c ∈ A ++ C.take k, CeSm c) (hs : skipE last tm lg (entOf (C.getD k ce0)) = false) (hat : AtIs O (C.getD k ce0).x.cl (C.getD k ce0).x.seq at_ j) (hn : 0 ≤ at_) (hx : O[at_.toNat]? = some x) (ha : aheadE (entOf (C.getD k ce0)) x = true) : OutIs last tm lg A C (k + 1) (O.set at_.toNat (entOf (C.getD k ce0))) := by
  obtain ⟨v, hv, hl⟩ := look_at_some (runE_ok hc) h hat hn
  rw [hx] at hv
  obtain rfl := Option.some.inj hv
  unfold OutIs; rw [take_succ_C hk, ← List.append_assoc, runE_app, stepE_old hs hl, if_pos ha, put_old (runE_ok hc) hl (h ▸ hx), h]
theorem out_next (hi : i < P.length) (h : OutIs last tm lg ((P.take i).flatMap (·.C)) (P.getD i pr0).C (P.getD i pr0).C.length O) : O = (runE last tm lg ((P.take (i + 1)).flatMap (·.C))).map (·.2) := by
  rw [pre_succ hi, h, List.take_of_length_le (l := (P.getD i pr0).C) (Nat.le_refl _)]
theorem out_start (h : O = (runE last tm lg ((P.take i).flatMap (·.C))).map (·.2)) : OutIs last tm lg ((P.take i).flatMap (·.C)) (P.getD i pr0).C 0 O := by
  unfold OutIs; rw [List.take_zero, List.append_nil]; exact h
theorem ah1 (h : decide (timeD c.S < x.t) = true) : aheadE (entOf c) x = true := by
  show (decide (timeD c.S < x.t) || (decide (timeD c.S = x.t) && lessB c.x.h x.h)) = true
  rw [h]; rfl
theorem ah2 {v : Bool} (h1 : decide (timeD c.S < x.t) = false) (h2 : decide (timeD c.S = x.t) = true) (h3 : lessB c.x.h x.h = v) : aheadE (entOf c) x = v := by
  show (decide (timeD c.S < x.t) || (decide (timeD c.S = x.t) && lessB c.x.h x.h)) = v
  rw [h1, h2, h3]; rfl
theorem ah3 (h1 : decide (timeD c.S < x.t) = false) (h2 : decide (timeD c.S = x.t) = false) : aheadE (entOf c) x = false := by
  show (decide (timeD c.S < x.t) || (decide (timeD c.S = x.t) && lessB c.x.h x.h)) = false
  rw [h1, h2]; rfl
/-- in order up to the i-th, but for the k-th against those ahead of it -/
def SB (O : List EntD) (k i : Nat) : Prop := ∀ p q x y, p < q → q ≤ i → q ≠ k → O[p]? = some x → O[q]? = some y → ¬ ltEn y x
def SP (O : List EntD) (i : Nat) : Prop := ∀ p q x y, p < q → q < i → O[p]? = some x → O[q]? = some y → ¬ ltEn y x
theorem sp_zero : SP O 0 := fun _ q _ _ _ h => absurd h (Nat.not_lt_zero q)
theorem sb_start (h : SP O i) : SB O i i := fun p q x y h1 h2 h3 => h p q x y h1 (by omega)
theorem sb_zero (h : SB O 0 i) : SP O (i + 1) := fun p q x y h1 h2 => h p q x y h1 (by omega) (by omega)
theorem not_lt_trans {x y z : EntD} (h1 : ¬ ltEn x y) (h2 : ¬ ltEn y z) : ¬ ltEn x z := by unfold ltEn at *; omega
theorem sb_stop (h : SB O k i) (hk : 0 < k) (hx : O[k]? = some x) (hy : O[k - 1]? = some y) (hn : ¬ ltEn x y) : SP O (i + 1) := by
  intro p q u v h1 h2 hu hv
  by_cases e : q = k
  · subst e
    rw [hx] at hv
    obtain rfl := Option.some.inj hv
    by_cases e2 : p = q - 1
    · subst e2
      rw [hy] at hu
      obtain rfl := Option.some.inj hu
      exact hn
    · exact not_lt_trans hn (h p (q - 1) u y (by omega) (by omega) (by omega) hu hy)
  · exact h p q u v h1 (by omega) e hu hv
theorem sb_swap (h : SB O k i) (hk : 0 < k) (hki : k ≤ i) (hx : O[k]? = some x) (hy : O[k - 1]? = some y) (hl : ltEn x y) : SB ((O.set k y).set (k - 1) x) (k - 1) i := by
  have hkl := (List.getElem?_eq_some_iff.1 hx).1
  have key : ∀ p, ((O.set k y).set (k - 1) x)[p]? = if p = k - 1 then some x else if p = k then some y else O[p]? := by
    intro p
    rw [List.getElem?_set, List.getElem?_set, List.length_set]
    by_cases e1 : p = k - 1
    · subst e1; simp; omega
    · by_cases e2 : p = k
      · subst e2; rw [if_neg (by omega), if_pos rfl, if_pos hkl, if_neg e1, if_pos rfl]
      · rw [if_neg (by omega), if_neg (by omega), if_neg e1, if_neg e2]
  intro p q u v h1 h2 h3 hu hv
  rw [key] at hu hv
  rw [if_neg h3] at hv
  by_cases q1 : q = k
  · rw [if_pos q1] at hv
    obtain rfl := Option.some.inj hv
    by_cases p1 : p = k - 1
    · rw [if_pos p1] at hu
      obtain rfl := Option.some.inj hu
      unfold ltEn at *; omega
    · rw [if_neg p1, if_neg (by omega)] at hu
      exact h p (k - 1) u y (by omega) (by omega) (by omega) hu hy
  · rw [if_neg q1] at hv
    by_cases p1 : p = k - 1
    · rw [if_pos p1] at hu
      obtain rfl := Option.some.inj hu
      exact h k q x v (by omega) h2 q1 hx hv
    · rw [if_neg p1] at hu
      by_cases p2 : p = k
      · rw [if_pos p2] at hu
        obtain rfl := Option.some.inj hu
        exact h (k - 1) q y v (by omega) h2 q1 hy hv
      · rw [if_neg p2] at hu
        exact h p q u v h1 h2 q1 hu hv
theorem swap_perm (hk : 0 < k) (hx : O[k]? = some x) (hy : O[k - 1]? = some y) : ((O.set k y).set (k - 1) x).Perm O := by
  obtain ⟨m, rfl⟩ : ∃ m, k = m + 1 := ⟨k - 1, by omega⟩
  rw [show m + 1 - 1 = m by omega] at *
  clear hk
  induction m generalizing O with
  | zero =>
    match O, hx, hy with
    | a :: b :: L, hx, hy =>
      simp at hx hy
      subst hx; subst hy
      simpa using List.Perm.swap _ _ _
  | succ m ih =>
    match O, hx, hy with
    | a :: L, hx, hy =>
      simp only [List.set_cons_succ]
      exact List.Perm.cons _ (ih (by simpa using hx) (by simpa using hy))
theorem sp_pairwise (h : SP O i) (hi : O.length ≤ i) : O.Pairwise fun a b => ¬ ltEn b a := by
  rw [List.pairwise_iff_getElem]
  intro p q hp hq hpq
  exact h p q _ _ hpq (by omega) (List.getElem?_eq_getElem hp) (List.getElem?_eq_getElem hq)
theorem lt1 (h : decide (x.t < y.t) = true) : ltEn x y := .inl (of_decide_eq_true h)
theorem lt2 (h2 : decide (x.t = y.t) = true) (h3 : (decide (x.cl < y.cl) || (decide (x.cl = y.cl) && decide (x.sq < y.sq))) = true) : ltEn x y := by
  simp only [Bool.or_eq_true, Bool.and_eq_true, decide_eq_true_eq] at h2 h3
  exact .inr ⟨h2, h3⟩
theorem nl2 (h1 : decide (x.t < y.t) = false) (h3 : (decide (x.cl < y.cl) || (decide (x.cl = y.cl) && decide (x.sq < y.sq))) = false) : ¬ ltEn x y := by
  simp only [Bool.or_eq_false_iff, Bool.and_eq_false_iff, decide_eq_false_iff_not] at h1 h3
  unfold ltEn; omega
theorem nl3 (h1 : decide (x.t < y.t) = false) (h2 : decide (x.t = y.t) = false) : ¬ ltEn x y := by
  simp only [decide_eq_false_iff_not] at h1 h2
  unfold ltEn; omega
theorem skip3l (h : lg ⟨c.x.cl, c.x.seq⟩ = true) : skipE last tm lg (entOf c) = true := by
  show (decide (timeD c.S ≤ last) || decide (timeD c.S > tm) || lg ⟨c.x.cl, c.x.seq⟩) = true
  rw [h]; simp
theorem skip0l (h1 : decide (timeD c.S ≤ last) = false) (h2 : decide (timeD c.S > tm) = false) (h : lg ⟨c.x.cl, c.x.seq⟩ = false) : skipE last tm lg (entOf c) = false := by
  show (decide (timeD c.S ≤ last) || decide (timeD c.S > tm) || lg ⟨c.x.cl, c.x.seq⟩) = false
  rw [h1, h2, h]; rfl
end
section
variable {α : Type} {e size k c g o i : Nat} {enc : α → List Value} {v : Value} {L : List α} {w : World} {x : α}
theorem rows_cellK (hk : k = L.length) (h : (rowC e size v k (L.flatMap enc)).ok w) (hv : v = .slice (some ⟨g, 0, none⟩) k c) (hs : ∀ x, (enc x).length = size) (hx : L[i]? = some x) (j : Nat) (hj : Nat.blt j size = true) (ho : o = i * size + j) {u : Value} (hu : (enc x)[j]? = some u) : w.cell? ⟨g, o, none⟩ = some u := by
  subst hk; exact rows_cell h hv hs hx j hj ho hu
theorem rows_runK (hk : k = L.length) (h : (rowC e size v k (L.flatMap enc)).ok w) (hv : v = .slice (some ⟨g, 0, none⟩) k c) (hs : ∀ x, (enc x).length = size) (hx : L[i]? = some x) (j : Nat) (ho : o = i * size + j) {us : List Value} (hj : Nat.ble (j + us.length) size = true) (hu : ((enc x).drop j).take us.length = us) : RunAt w ⟨g, o, none⟩ us := by
  subst hk; exact rows_run h hv hs hx j ho hj hu
end
end Go.Proofs.Ytenihpghfdcpkaa
namespace Go.Proofs.Ytenihpghfdcpkaa
open Go.RowKit

set_option maxRecDepth 100000 in
set_option maxHeartbeats 4000000 in
theorem rEntries_any (w : World) (last tm ep : Int) (vo vt : Value) (la : Option Addr) (lc : Nat) (LN : List NmD) (hLN : ListAt encNm 2 w (.slice la LN.length lc) LN) (hll : LN.length ≤ 1000000) (pa : Option Addr) (pc : Nat) (P : List PrR) (hP : ListAt encPr 6 w (.slice pa P.length pc) P) (hPo : ∀ i, i < P.length → PrOk w (P.getD i pr0)) (hsm : PSm P) (hlP : P.length ≤ 1000) (hlC : ∀ i, i < P.length → (P.getD i pr0).C.length ≤ 1000) :
    Calls Try.prog 9 #[(.int .u64 (last)), (.slice la LN.length lc), (.agg ⟨([(.int .i64 (ep)), (.int .u64 (tm)), (.slice pa P.length pc), (vo), (vt)] : List Value)⟩)] w fun e w' => ∃ (oa : Option Addr) (oc : Nat) (O : List EntD), e = .returned (.slice oa O.length oc) ∧ O.Perm ((runE last tm (fun n => decide (n ∈ LN)) (P.flatMap (·.C))).map (·.2)) ∧ (O.Pairwise fun a b => ¬ ltEn b a) ∧ (rowC 50 35 (.slice oa O.length oc) O.length (O.flatMap encEn)).ok w' ∧ Upd [] w w' ∧ ∀ q_, (rowC 50 35 (.slice oa O.length oc) O.length (O.flatMap encEn)).fp q_ → w.heap.size ≤ q_ := by
  have H := Sat.start0 w
  obtain ⟨lg, hlg⟩ : ∃ lg : NmD → Bool, lg = fun n => decide (n ∈ LN) := ⟨_, rfl⟩
  refine calls_fr Try.func9 rfl 192 rfl (Nat.le_of_ble_eq_true rfl) ?_
  refine w_seq ?_
  refine w_lit ?_
  refine wl_do (wants0 rfl) (fun K1 hK1 => ?_)
  refine d_box (vs := ([(.int .i64 (ep)), (.int .u64 (tm)), (.slice pa P.length pc), (vo), (vt)] : List Value)) rfl H rfl rfl ?_
  intro b2 w3 (H4 : Sat w [restC w (fun _ => False), cellC b2 27 ([(.int .i64 (ep)), (.int .u64 (tm)), (.slice pa P.length pc), (vo), (vt)] : List Value)] w3)
  refine hK1 _ _ ?_
  clear hK1 K1
  refine wl_pure (wants0 rfl) (d := 6) (v := (.slice none 0 0)) rfl (by kernel_rfl) ?_
  refine w_nil ?_
  refine then_normal ?_
  refine w_seq ?_
  refine w_lit ?_
  refine wl_pure (wants0 rfl) (d := 7) (v := (.slice none 0 0)) rfl (by kernel_rfl) ?_
  refine w_nil ?_
  refine then_normal ?_
  refine w_seq ?_
  refine w_seq ?_
  refine w_lit ?_
  refine wl_pure (wants0 rfl) (d := 16) (v := (.pointer (some ⟨b2, 2, none⟩))) rfl (by kernel_rfl) ?_
  refine wl_pure (wants0 rfl) (d := 17) (v := (.slice pa P.length pc)) rfl (e_load1 rfl (by kernel_rfl) (H4.cell 1 rfl rfl)) ?_
  refine wl_pure (wants0 rfl) (d := 18) (v := (.int .i64 ((P.length : Int)))) rfl (by kernel_rfl) ?_
  refine wl_pure (wants0 rfl) (d := 19) (v := (.int .i64 (0))) rfl (by kernel_rfl) ?_
  refine w_nil ?_
  refine then_normal ?_
  refine w_block ?_
  have H5 := H4.addNil 50 35
  refine wp_round [7, 8, 9, 10, 11, 12, 13, 19, 20, 21, 22, 23, 24, 25, 26, 27, 28, 29, 30, 31, 32, 33, 34, 35, 36, 37, 38, 39, 40, 41, 42, 43, 44, 45, 46, 47, 48, 49, 50, 51, 52, 53, 54, 55, 56, 57, 58, 59, 60, 61, 62, 63, 64, 65, 66, 67, 68, 69, 70, 71, 72, 73, 74, 75, 76, 77, 78, 79, 80, 81, 82, 83, 84, 85, 86, 87, 88, 89, 90, 91, 92, 93, 94, 95, 96, 97, 98, 99, 100, 101, 102, 103, 104, 105, 106, 107, 108, 109, 110, 111, 112, 113, 114, 115, 116, 117, 118, 119, 120, 121] (fun F_ W_ m_ => ∃ (i : Nat) (oa : Option Addr) (oc : Nat) (O : List EntD), F_ 19 = (.int .i64 ((i : Int))) ∧ F_ 7 = (.slice oa O.length oc) ∧ (i ≤ P.length) ∧ (O = (runE last tm lg ((P.take i).flatMap (·.C))).map (·.2)) ∧ Sat w [restC w (fun _ => False), cellC b2 27 ([(.int .i64 (ep)), (.int .u64 (tm)), (.slice pa P.length pc), (vo), (vt)] : List Value), rowC 50 35 (.slice oa O.length oc) O.length (O.flatMap encEn)] W_ ∧ m_ = P.length - i) _ ⟨0, none, 0, [], (show ((.int .i64 (0)) : Value) = _ by first | rfl | go_num), (by first | rfl | go_num), (Nat.zero_le _), rfl, H5, rfl⟩ ?_
  rintro g6 w7 _ ⟨i, oa, oc, O, v9, v10, hi, hO, H8, rfl⟩
  refine wp_know 19 _ v9 ?_
  refine wp_know 7 _ v10 ?_
  have hlO : O.length ≤ 12 := by rw [hO, List.length_map]; exact (runE_ok hsm.pre0).len
  refine w_seq ?_
  refine w_lit ?_
  refine wl_pure (wants0 rfl) (d := 20) (v := (.bool (decide ((i : Int) < (P.length : Int))))) rfl (by kernel_rfl) ?_
  refine w_nil ?_
  refine then_normal ?_
  refine w_seq ?_
  refine (bsplit (decide ((i : Int) < (P.length : Int)))).elim (fun b12 => ?_) (fun b12 => ?_)
  · have g13 := of_decide_eq_true b12
    refine wp_know 20 (.bool true) (congrArg Value.bool b12) ?_
    have g14 := of_decide_eq_true b12
    refine wp_ift rfl ?_
    refine w_skip ?_
    refine then_normal ?_
    refine w_seq ?_
    refine w_block ?_
    refine w_seq ?_
    refine w_lit ?_
    refine wl_pure (wants0 rfl) (d := 21) (v := (.int .i64 ((i : Int)))) rfl (by kernel_rfl) ?_
    refine wl_pure (wants0 rfl) (d := 8) (v := (.int .i64 ((i : Int)))) rfl (by kernel_rfl) ?_
    refine w_nil ?_
    refine then_normal ?_
    refine w_seq ?_
    refine w_lit ?_
    refine wl_pure (wants0 rfl) (d := 22) (v := (.pointer (some ⟨b2, 2, none⟩))) rfl (by kernel_rfl) ?_
    refine wl_pure (wants0 rfl) (d := 23) (v := (.slice pa P.length pc)) rfl (e_load1 rfl (by kernel_rfl) (H8.cell 1 rfl rfl)) ?_
    refine wl_pure (wants0 rfl) (d := 24) (v := (.int .i64 ((i : Int)))) rfl (by kernel_rfl) ?_
    obtain ⟨g15, o16, c17, e18, R19⟩ := SliceOf.atD hP pr0 (show i < P.length by omega)
    refine wl_pure (wants0 rfl) (d := 25) (v := (.pointer (some ⟨g15, o16 + ((i : Int)).toNat * 6, none⟩))) rfl (e_indexAddrW (E := 33) (by kernel_rfl) (by kernel_rfl) (Nat.le_of_ble_eq_true rfl) rfl e18 rfl (by omega) (by omega)) ?_
    refine wl_pure (wants0 rfl) (d := 26) (v := (.pointer (some ⟨g15, o16 + ((i : Int)).toNat * 6 + 3, none⟩))) rfl (by kernel_rfl) ?_
    refine wl_pure (wants0 rfl) (d := 27) (v := (.slice (P.getD i pr0).ca ((P.getD i pr0).C).length (P.getD i pr0).cc)) rfl (e_load1 rfl (by kernel_rfl) (H8.cellR 0 rfl (cells_at R19 3 (by kernel_rfl) (show o16 + ((i : Int)).toNat * 6 + 3 = o16 + i * 6 + 3 by omega)) (fun h => h))) ?_
    refine wl_pure (wants0 rfl) (d := 28) (v := (.int .i64 ((((P.getD i pr0).C).length : Int)))) rfl (by kernel_rfl) ?_
    refine wl_pure (wants0 rfl) (d := 29) (v := (.int .i64 (0))) rfl (by kernel_rfl) ?_
    refine w_nil ?_
    refine then_normal ?_
    refine w_block ?_
    have hlCi := hlC i (by omega)
    refine wp_round [7, 9, 10, 11, 12, 13, 29, 30, 31, 32, 33, 34, 35, 36, 37, 38, 39, 40, 41, 42, 43, 44, 45, 46, 47, 48, 49, 50, 51, 52, 53, 54, 55, 56, 57, 58, 59, 60, 61, 62, 63, 64, 65, 66, 67, 68, 69, 70, 71, 72, 73, 74, 75, 76, 77, 78, 79, 80, 81, 82, 83, 84, 85, 86, 87, 88, 89, 90, 91, 92, 93, 94, 95, 96, 97, 98, 99, 100, 101, 102, 103, 104, 105, 106, 107, 108, 109, 110, 111, 112, 113, 114, 115, 116, 117, 118, 119, 120] (fun F_ W_ m_ => ∃ (k : Nat) (oa2 : Option Addr) (oc2 : Nat) (O2 : List EntD), F_ 29 = (.int .i64 ((k : Int))) ∧ F_ 7 = (.slice oa2 O2.length oc2) ∧ (k ≤ (P.getD i pr0).C.length) ∧ (OutIs last tm lg ((P.take i).flatMap (·.C)) (P.getD i pr0).C k O2) ∧ Sat w [restC w (fun _ => False), cellC b2 27 ([(.int .i64 (ep)), (.int .u64 (tm)), (.slice pa P.length pc), (vo), (vt)] : List Value), rowC 50 35 (.slice oa2 O2.length oc2) O2.length (O2.flatMap encEn)] W_ ∧ m_ = (P.getD i pr0).C.length - k) _ ⟨0, oa, oc, O, (show ((.int .i64 (0)) : Value) = _ by first | rfl | go_num), (by first | rfl | go_num), (Nat.zero_le _), (out_start hO), H8, rfl⟩ ?_
    rintro g20 w21 _ ⟨k, oa2, oc2, O2, v23, v24, hk, hO2, H22, rfl⟩
    refine wp_know 29 _ v23 ?_
    refine wp_know 7 _ v24 ?_
    have hcs := hsm.pre (k := k) (show i < P.length by omega)
    have hlO2 := out_len hO2 hcs
    refine w_seq ?_
    refine w_lit ?_
    refine wl_pure (wants0 rfl) (d := 30) (v := (.bool (decide ((k : Int) < (((P.getD i pr0).C).length : Int))))) rfl (by kernel_rfl) ?_
    refine w_nil ?_
    refine then_normal ?_
    refine w_seq ?_
    refine (bsplit (decide ((k : Int) < (((P.getD i pr0).C).length : Int)))).elim (fun b26 => ?_) (fun b26 => ?_)
    · have g27 := of_decide_eq_true b26
      refine wp_know 30 (.bool true) (congrArg Value.bool b26) ?_
      have g28 := of_decide_eq_true b26
      refine wp_ift rfl ?_
      refine w_skip ?_
      refine then_normal ?_
      refine w_seq ?_
      refine w_block ?_
      refine w_seq ?_
      refine w_lit ?_
      refine wl_pure (wants0 rfl) (d := 31) (v := (.int .i64 ((k : Int)))) rfl (by kernel_rfl) ?_
      refine wl_pure (wants0 rfl) (d := 9) (v := (.int .i64 ((k : Int)))) rfl (by kernel_rfl) ?_
      refine w_nil ?_
      refine then_normal ?_
      refine w_seq ?_
      refine w_lit ?_
      refine wl_pure (wants0 rfl) (d := 32) (v := (.pointer (some ⟨b2, 2, none⟩))) rfl (by kernel_rfl) ?_
      refine wl_pure (wants0 rfl) (d := 33) (v := (.slice pa P.length pc)) rfl (e_load1 rfl (by kernel_rfl) (H22.cell 1 rfl rfl)) ?_
      refine wl_pure (wants0 rfl) (d := 34) (v := (.int .i64 ((i : Int)))) rfl (by kernel_rfl) ?_
      refine wl_pure (wants0 rfl) (d := 35) (v := (.pointer (some ⟨g15, o16 + ((i : Int)).toNat * 6, none⟩))) rfl (e_indexAddrW (E := 33) (by kernel_rfl) (by kernel_rfl) (Nat.le_of_ble_eq_true rfl) rfl e18 rfl (by omega) (by omega)) ?_
      refine wl_pure (wants0 rfl) (d := 36) (v := (.pointer (some ⟨g15, o16 + ((i : Int)).toNat * 6 + 3, none⟩))) rfl (by kernel_rfl) ?_
      refine wl_pure (wants0 rfl) (d := 37) (v := (.slice (P.getD i pr0).ca ((P.getD i pr0).C).length (P.getD i pr0).cc)) rfl (e_load1 rfl (by kernel_rfl) (H22.cellR 0 rfl (cells_at R19 3 (by kernel_rfl) (show o16 + ((i : Int)).toNat * 6 + 3 = o16 + i * 6 + 3 by omega)) (fun h => h))) ?_
      refine wl_pure (wants0 rfl) (d := 38) (v := (.int .i64 ((k : Int)))) rfl (by kernel_rfl) ?_
      obtain ⟨g29, o30, c31, e32, R33⟩ := SliceOf.atD (hPo i (by omega)).1 ce0 (show k < ((P.getD i pr0).C).length by omega)
      refine wl_pure (wants0 rfl) (d := 39) (v := (.pointer (some ⟨g29, o30 + ((k : Int)).toNat * 38, none⟩))) rfl (e_indexAddrW (E := 42) (by kernel_rfl) (by kernel_rfl) (Nat.le_of_ble_eq_true rfl) rfl e32 rfl (by omega) (by omega)) ?_
      refine wl_pure (wants0 rfl) (d := 40) (v := (.agg ⟨(([(.int .i64 ((((P.getD i pr0).C).getD k ce0).x.cl)), (.int .i64 ((((P.getD i pr0).C).getD k ce0).x.seq))] : List Value) ++ hc (((P.getD i pr0).C).getD k ce0).x.h ++ ([(.int .i64 ((((P.getD i pr0).C).getD k ce0).x.len)), (.int .i64 ((((P.getD i pr0).C).getD k ce0).x.sb)), (.int .i64 ((((P.getD i pr0).C).getD k ce0).x.sm)), (.slice (((P.getD i pr0).C).getD k ce0).sa ((((P.getD i pr0).C).getD k ce0).S).length (((P.getD i pr0).C).getD k ce0).sc)] : List Value))⟩)) rfl (e_loadRun (vs := (([(.int .i64 ((((P.getD i pr0).C).getD k ce0).x.cl)), (.int .i64 ((((P.getD i pr0).C).getD k ce0).x.seq))] : List Value) ++ hc (((P.getD i pr0).C).getD k ce0).x.h ++ ([(.int .i64 ((((P.getD i pr0).C).getD k ce0).x.len)), (.int .i64 ((((P.getD i pr0).C).getD k ce0).x.sb)), (.int .i64 ((((P.getD i pr0).C).getD k ce0).x.sm)), (.slice (((P.getD i pr0).C).getD k ce0).sa ((((P.getD i pr0).C).getD k ce0).S).length (((P.getD i pr0).C).getD k ce0).sc)] : List Value))) rfl (by kernel_rfl) (by kernel_rfl) (Nat.le_of_ble_eq_true (by kernel_rfl)) (H22.runR 0 rfl (cells_run R33 0 (by kernel_rfl) (show o30 + ((k : Int)).toNat * 38 = o30 + k * 38 + 0 by omega)) (fun h => h))) ?_
      refine wl_do (wants0 rfl) (fun K34 hK34 => ?_)
      refine d_alloc (zs := (([(.int .i64 (0)), (.int .i64 (0))] : List Value) ++ hc hash0 ++ ([(.int .i64 (0)), (.int .i64 (0)), (.int .i64 (0)), (.slice none 0 0)] : List Value))) (z := (.agg ⟨(([(.int .i64 (0)), (.int .i64 (0))] : List Value) ++ hc hash0 ++ ([(.int .i64 (0)), (.int .i64 (0)), (.int .i64 (0)), (.slice none 0 0)] : List Value))⟩)) rfl H22 (by kernel_rfl) (by kernel_rfl) ?_
      intro b35 w36 (H37 : Sat w [restC w (fun _ => False), cellC b2 27 ([(.int .i64 (ep)), (.int .u64 (tm)), (.slice pa P.length pc), (vo), (vt)] : List Value), rowC 50 35 (.slice oa2 O2.length oc2) O2.length (O2.flatMap encEn), cellC b35 42 (([(.int .i64 (0)), (.int .i64 (0))] : List Value) ++ hc hash0 ++ ([(.int .i64 (0)), (.int .i64 (0)), (.int .i64 (0)), (.slice none 0 0)] : List Value))] w36)
      refine hK34 _ _ ?_
      clear hK34 K34
      refine wl_do (wants0 rfl) (fun K38 hK38 => ?_)
      refine d_storeX (vs := (([(.int .i64 ((((P.getD i pr0).C).getD k ce0).x.cl)), (.int .i64 ((((P.getD i pr0).C).getD k ce0).x.seq))] : List Value) ++ hc (((P.getD i pr0).C).getD k ce0).x.h ++ ([(.int .i64 ((((P.getD i pr0).C).getD k ce0).x.len)), (.int .i64 ((((P.getD i pr0).C).getD k ce0).x.sb)), (.int .i64 ((((P.getD i pr0).C).getD k ce0).x.sm)), (.slice (((P.getD i pr0).C).getD k ce0).sa ((((P.getD i pr0).C).getD k ce0).S).length (((P.getD i pr0).C).getD k ce0).sc)] : List Value))) (cs' := (([(.int .i64 ((((P.getD i pr0).C).getD k ce0).x.cl)), (.int .i64 ((((P.getD i pr0).C).getD k ce0).x.seq))] : List Value) ++ hc (((P.getD i pr0).C).getD k ce0).x.h ++ ([(.int .i64 ((((P.getD i pr0).C).getD k ce0).x.len)), (.int .i64 ((((P.getD i pr0).C).getD k ce0).x.sb)), (.int .i64 ((((P.getD i pr0).C).getD k ce0).x.sm)), (.slice (((P.getD i pr0).C).getD k ce0).sa ((((P.getD i pr0).C).getD k ce0).S).length (((P.getD i pr0).C).getD k ce0).sc)] : List Value))) rfl H37 3 rfl rfl rfl rfl (by kernel_rfl) (Nat.le_of_ble_eq_true (by kernel_rfl)) (Nat.le_of_ble_eq_true (by kernel_rfl)) (by kernel_rfl) (by kernel_rfl) ?_
      intro w39 (H40 : Sat w [restC w (fun _ => False), cellC b2 27 ([(.int .i64 (ep)), (.int .u64 (tm)), (.slice pa P.length pc), (vo), (vt)] : List Value), rowC 50 35 (.slice oa2 O2.length oc2) O2.length (O2.flatMap encEn), cellC b35 42 (([(.int .i64 ((((P.getD i pr0).C).getD k ce0).x.cl)), (.int .i64 ((((P.getD i pr0).C).getD k ce0).x.seq))] : List Value) ++ hc (((P.getD i pr0).C).getD k ce0).x.h ++ ([(.int .i64 ((((P.getD i pr0).C).getD k ce0).x.len)), (.int .i64 ((((P.getD i pr0).C).getD k ce0).x.sb)), (.int .i64 ((((P.getD i pr0).C).getD k ce0).x.sm)), (.slice (((P.getD i pr0).C).getD k ce0).sa ((((P.getD i pr0).C).getD k ce0).S).length (((P.getD i pr0).C).getD k ce0).sc)] : List Value))] w39)
      refine hK38 _ _ ?_
      clear hK38 K38
      refine w_nil ?_
      refine then_normal ?_
      refine w_seq ?_
      refine h_start H40 [restC w (fun _ => False), cellC b2 27 ([(.int .i64 (ep)), (.int .u64 (tm)), (.slice pa P.length pc), (vo), (vt)] : List Value), rowC 50 35 (.slice oa2 O2.length oc2) O2.length (O2.flatMap encEn), cellC b35 42 (([(.int .i64 ((((P.getD i pr0).C).getD k ce0).x.cl)), (.int .i64 ((((P.getD i pr0).C).getD k ce0).x.seq))] : List Value) ++ hc (((P.getD i pr0).C).getD k ce0).x.h ++ ([(.int .i64 ((((P.getD i pr0).C).getD k ce0).x.len)), (.int .i64 ((((P.getD i pr0).C).getD k ce0).x.sb)), (.int .i64 ((((P.getD i pr0).C).getD k ce0).x.sm)), (.slice (((P.getD i pr0).C).getD k ce0).sa ((((P.getD i pr0).C).getD k ce0).S).length (((P.getD i pr0).C).getD k ce0).sc)] : List Value))] 11 rfl (by kernel_rfl) (fun Hx => (Hx.pick [0, 1, 2, 3] (by decide))) ?_
      intro w42 H43 S44
      refine h_val 0 rfl (by kernel_rfl) (by kernel_rfl) (by kernel_rfl) (fun _ _ _ h => h) S44 (wants0 rfl) (d := 41) (v := (.pointer (some ⟨b35, 0, none⟩))) rfl (fun _ H' => (by kernel_rfl)) ?_
      refine h_val 1 rfl (by kernel_rfl) (by kernel_rfl) (by kernel_rfl) (fun _ _ _ h => h) S44 (wants0 rfl) (d := 42) (v := (.pointer (some ⟨b35, 0, none⟩))) rfl (fun _ H' => (by kernel_rfl)) ?_
      refine h_val 2 rfl (by kernel_rfl) (by kernel_rfl) (by kernel_rfl) (fun _ _ _ h => h) S44 (wants0 rfl) (d := 43) (v := (.agg ⟨([(.int .i64 ((((P.getD i pr0).C).getD k ce0).x.cl)), (.int .i64 ((((P.getD i pr0).C).getD k ce0).x.seq))] : List Value)⟩)) rfl (fun _ H' => (e_loadN (vs := ([(.int .i64 ((((P.getD i pr0).C).getD k ce0).x.cl)), (.int .i64 ((((P.getD i pr0).C).getD k ce0).x.seq))] : List Value)) rfl (by kernel_rfl) (by kernel_rfl) (by exact Nat.le_of_ble_eq_true (by kernel_rfl)) (H'.at 3 rfl) (by kernel_rfl))) ?_
      refine h_val 3 rfl (by kernel_rfl) (by kernel_rfl) (by kernel_rfl) (fun _ _ _ h => h) S44 (wants0 rfl) (d := 44) (v := (.pointer (some ⟨b35, 0, none⟩))) rfl (fun _ H' => (by kernel_rfl)) ?_
      refine h_val 4 rfl (by kernel_rfl) (by kernel_rfl) (by kernel_rfl) (fun _ _ _ h => h) S44 (wants0 rfl) (d := 45) (v := (.pointer (some ⟨b35, 2, none⟩))) rfl (fun _ H' => (by kernel_rfl)) ?_
      refine h_val 5 rfl (by kernel_rfl) (by kernel_rfl) (by kernel_rfl) (fun _ _ _ h => h) S44 (wants0 rfl) (d := 46) (v := (.agg ⟨(hc (((P.getD i pr0).C).getD k ce0).x.h)⟩)) rfl (fun _ H' => (e_loadN (vs := (hc (((P.getD i pr0).C).getD k ce0).x.h)) rfl (by kernel_rfl) (by kernel_rfl) (by exact Nat.le_of_ble_eq_true (by kernel_rfl)) (H'.at 3 rfl) (by kernel_rfl))) ?_
      refine h_val 6 rfl (by kernel_rfl) (by kernel_rfl) (by kernel_rfl) (fun _ _ _ h => h) S44 (wants0 rfl) (d := 47) (v := (.agg ⟨(([(.int .i64 ((((P.getD i pr0).C).getD k ce0).x.cl)), (.int .i64 ((((P.getD i pr0).C).getD k ce0).x.seq))] : List Value) ++ hc (((P.getD i pr0).C).getD k ce0).x.h ++ ([(.int .i64 ((((P.getD i pr0).C).getD k ce0).x.len)), (.int .i64 ((((P.getD i pr0).C).getD k ce0).x.sb)), (.int .i64 ((((P.getD i pr0).C).getD k ce0).x.sm)), (.slice (((P.getD i pr0).C).getD k ce0).sa ((((P.getD i pr0).C).getD k ce0).S).length (((P.getD i pr0).C).getD k ce0).sc)] : List Value))⟩)) rfl (fun _ H' => (e_loadN (vs := (([(.int .i64 ((((P.getD i pr0).C).getD k ce0).x.cl)), (.int .i64 ((((P.getD i pr0).C).getD k ce0).x.seq))] : List Value) ++ hc (((P.getD i pr0).C).getD k ce0).x.h ++ ([(.int .i64 ((((P.getD i pr0).C).getD k ce0).x.len)), (.int .i64 ((((P.getD i pr0).C).getD k ce0).x.sb)), (.int .i64 ((((P.getD i pr0).C).getD k ce0).x.sm)), (.slice (((P.getD i pr0).C).getD k ce0).sa ((((P.getD i pr0).C).getD k ce0).S).length (((P.getD i pr0).C).getD k ce0).sc)] : List Value))) rfl (by kernel_rfl) (by kernel_rfl) (by exact Nat.le_of_ble_eq_true (by kernel_rfl)) (H'.at 3 rfl) (by kernel_rfl))) ?_
      refine h_do2 7 9 rfl rfl (by kernel_rfl) (wants0 rfl) (wants0 rfl) (fun K45 hK45 => ?_) (fun K45 hK45 => ?_)
      · refine d_call (d := 48) rfl (by kernel_rfl) (rTime_any w42 (((P.getD i pr0).C).getD k ce0).x (((P.getD i pr0).C).getD k ce0).sa (((P.getD i pr0).C).getD k ce0).sc ((((P.getD i pr0).C).getD k ce0).S) (ListAt.now H43 0 rfl (ceOk_at hPo (i := i) (k := k) (by omega) (by omega))) (hsm.at (i := i) (k := k) (by omega) (by omega)).2.1) ?_
        rintro _ w46 ⟨rfl, u48⟩
        have H47 := H43.keepU u48
        refine ⟨_, rfl, ?_⟩
        have S49 := H47.pick [0, 1, 2, 3] (by decide)
        refine hK45 _ _ S49 ?_
        clear hK45 K45
        refine h_val 8 rfl (by kernel_rfl) (by kernel_rfl) (by kernel_rfl) (fun _ _ _ h => h) S49 (wants0 rfl) (d := 49) (v := (.agg ⟨(([(.int .i64 ((((P.getD i pr0).C).getD k ce0).x.cl)), (.int .i64 ((((P.getD i pr0).C).getD k ce0).x.seq))] : List Value) ++ hc (((P.getD i pr0).C).getD k ce0).x.h ++ ([(.int .u64 (timeD ((((P.getD i pr0).C).getD k ce0).S)))] : List Value))⟩)) rfl (fun _ H' => (by kernel_rfl)) ?_
        refine h_do 9 rfl (by kernel_rfl) (wants0 rfl) (fun K50 hK50 => ?_)
        refine d_alloc (zs := (([(.int .i64 (0)), (.int .i64 (0))] : List Value) ++ hc hash0 ++ ([(.int .u64 (0))] : List Value))) (z := (.agg ⟨(([(.int .i64 (0)), (.int .i64 (0))] : List Value) ++ hc hash0 ++ ([(.int .u64 (0))] : List Value))⟩)) rfl H47 (by kernel_rfl) (by kernel_rfl) ?_
        intro b51 w52 (H53 : Sat w [restC w (fun _ => False), cellC b2 27 ([(.int .i64 (ep)), (.int .u64 (tm)), (.slice pa P.length pc), (vo), (vt)] : List Value), rowC 50 35 (.slice oa2 O2.length oc2) O2.length (O2.flatMap encEn), cellC b35 42 (([(.int .i64 ((((P.getD i pr0).C).getD k ce0).x.cl)), (.int .i64 ((((P.getD i pr0).C).getD k ce0).x.seq))] : List Value) ++ hc (((P.getD i pr0).C).getD k ce0).x.h ++ ([(.int .i64 ((((P.getD i pr0).C).getD k ce0).x.len)), (.int .i64 ((((P.getD i pr0).C).getD k ce0).x.sb)), (.int .i64 ((((P.getD i pr0).C).getD k ce0).x.sm)), (.slice (((P.getD i pr0).C).getD k ce0).sa ((((P.getD i pr0).C).getD k ce0).S).length (((P.getD i pr0).C).getD k ce0).sc)] : List Value)), cellC b51 50 (([(.int .i64 (0)), (.int .i64 (0))] : List Value) ++ hc hash0 ++ ([(.int .u64 (0))] : List Value))] w52)
        have S54 := H53.pick [0, 1, 2, 3] (by decide)
        refine hK50 _ _ S54 ?_
        clear hK50 K50
        refine h_do 10 rfl (by kernel_rfl) (wants0 rfl) (fun K55 hK55 => ?_)
        refine d_storeX (vs := (([(.int .i64 ((((P.getD i pr0).C).getD k ce0).x.cl)), (.int .i64 ((((P.getD i pr0).C).getD k ce0).x.seq))] : List Value) ++ hc (((P.getD i pr0).C).getD k ce0).x.h ++ ([(.int .u64 (timeD ((((P.getD i pr0).C).getD k ce0).S)))] : List Value))) (cs' := (([(.int .i64 ((((P.getD i pr0).C).getD k ce0).x.cl)), (.int .i64 ((((P.getD i pr0).C).getD k ce0).x.seq))] : List Value) ++ hc (((P.getD i pr0).C).getD k ce0).x.h ++ ([(.int .u64 (timeD ((((P.getD i pr0).C).getD k ce0).S)))] : List Value))) rfl H53 4 rfl rfl rfl rfl (by kernel_rfl) (Nat.le_of_ble_eq_true (by kernel_rfl)) (Nat.le_of_ble_eq_true (by kernel_rfl)) (by kernel_rfl) (by kernel_rfl) ?_
        intro w56 (H57 : Sat w [restC w (fun _ => False), cellC b2 27 ([(.int .i64 (ep)), (.int .u64 (tm)), (.slice pa P.length pc), (vo), (vt)] : List Value), rowC 50 35 (.slice oa2 O2.length oc2) O2.length (O2.flatMap encEn), cellC b35 42 (([(.int .i64 ((((P.getD i pr0).C).getD k ce0).x.cl)), (.int .i64 ((((P.getD i pr0).C).getD k ce0).x.seq))] : List Value) ++ hc (((P.getD i pr0).C).getD k ce0).x.h ++ ([(.int .i64 ((((P.getD i pr0).C).getD k ce0).x.len)), (.int .i64 ((((P.getD i pr0).C).getD k ce0).x.sb)), (.int .i64 ((((P.getD i pr0).C).getD k ce0).x.sm)), (.slice (((P.getD i pr0).C).getD k ce0).sa ((((P.getD i pr0).C).getD k ce0).S).length (((P.getD i pr0).C).getD k ce0).sc)] : List Value)), cellC b51 50 (([(.int .i64 ((((P.getD i pr0).C).getD k ce0).x.cl)), (.int .i64 ((((P.getD i pr0).C).getD k ce0).x.seq))] : List Value) ++ hc (((P.getD i pr0).C).getD k ce0).x.h ++ ([(.int .u64 (timeD ((((P.getD i pr0).C).getD k ce0).S)))] : List Value))] w56)
        have S59 := H57.pick [0, 1, 2, 3] (by decide)
        refine hK55 _ _ S59 ?_
        clear hK55 K55
        refine h_fin (by kernel_rfl) ?_
        refine then_normal ?_
        refine w_seq ?_
        refine w_seq ?_
        refine w_lit ?_
        refine wl_pure (wants0 rfl) (d := 50) (v := (.pointer (some ⟨b51, 34, none⟩))) rfl (by kernel_rfl) ?_
        refine wl_pure (wants0 rfl) (d := 51) (v := (.int .u64 (timeD ((((P.getD i pr0).C).getD k ce0).S)))) rfl (e_load1 rfl (by kernel_rfl) (H57.cell 4 rfl (by kernel_rfl))) ?_
        refine wl_pure (wants0 rfl) (d := 52) (v := (.int .u64 (last))) rfl (by kernel_rfl) ?_
        refine wl_pure (wants0 rfl) (d := 53) (v := (.bool (decide ((timeD ((((P.getD i pr0).C).getD k ce0).S)) ≤ last)))) rfl (by kernel_rfl) ?_
        refine wl_pure (wants0 rfl) (d := 54) (v := (.bool (decide ((timeD ((((P.getD i pr0).C).getD k ce0).S)) ≤ last)))) rfl (by kernel_rfl) ?_
        refine (bsplit (decide ((timeD ((((P.getD i pr0).C).getD k ce0).S)) ≤ last))).elim (fun b60 => ?_) (fun b60 => ?_)
        · have g61 := of_decide_eq_true b60
          refine wl_know 54 (.bool true) (congrArg Value.bool b60) ?_
          have g62 := of_decide_eq_true b60
          refine wl_pass (wantsN 4 54 false rfl (by kernel_rfl) rfl (by kernel_rfl)) rfl ?_
          refine wl_pass (wantsN 4 54 false rfl (by kernel_rfl) rfl (by kernel_rfl)) rfl ?_
          refine wl_pass (wantsN 4 54 false rfl (by kernel_rfl) rfl (by kernel_rfl)) rfl ?_
          refine wl_pass (wantsN 4 54 false rfl (by kernel_rfl) rfl (by kernel_rfl)) rfl ?_
          refine wl_pass (wantsN 4 54 false rfl (by kernel_rfl) rfl (by kernel_rfl)) rfl ?_
          refine wl_pure (wants0 rfl) (d := 60) (v := (.bool true)) rfl (by kernel_rfl) ?_
          refine wl_pure (wants0 rfl) (d := 61) (v := (.bool true)) rfl (by kernel_rfl) ?_
          refine wl_pass (wantsN 11 61 false rfl (by kernel_rfl) rfl (by kernel_rfl)) rfl ?_
          refine wl_pass (wantsN 11 61 false rfl (by kernel_rfl) rfl (by kernel_rfl)) rfl ?_
          refine wl_pass (wantsN 11 61 false rfl (by kernel_rfl) rfl (by kernel_rfl)) rfl ?_
          refine wl_pass (wantsN 11 61 false rfl (by kernel_rfl) rfl (by kernel_rfl)) rfl ?_
          refine wl_pure (wants0 rfl) (d := 66) (v := (.bool true)) rfl (by kernel_rfl) ?_
          refine w_nil ?_
          refine then_normal ?_
          refine wp_ift rfl ?_
          refine w_exit ?_
          refine then_exit ?_
          refine blk_hit ?_
          refine then_normal ?_
          refine w_lit ?_
          refine wl_pure (wants0 rfl) (d := 120) (v := (.int .i64 ((k : Int) + 1))) rfl (e_int (z := (k : Int) + 1) (by kernel_rfl) (IntWalk.i64_in _ (by omega))) ?_
          refine wl_pure (wants0 rfl) (d := 29) (v := (.int .i64 ((k : Int) + 1))) rfl (by kernel_rfl) ?_
          refine w_nil ?_
          have H63 : Sat w [restC w (fun _ => False), cellC b2 27 ([(.int .i64 (ep)), (.int .u64 (tm)), (.slice pa P.length pc), (vo), (vt)] : List Value), rowC 50 35 (.slice oa2 O2.length oc2) O2.length (O2.flatMap encEn)] w56 := H57.pick [0, 1, 2] (by decide)
          refine round_back ?_ _ ⟨(k + 1), oa2, oc2, O2, (show ((.int .i64 ((k : Int) + 1)) : Value) = _ by first | rfl | go_num), (show ((.slice oa2 O2.length oc2) : Value) = _ by first | rfl | go_num), (by omega), (out_skip hO2 (by omega) (skip1 b60)), H63, rfl⟩ (by omega)
          exact (same_upd rfl (same_upd rfl (same_upd rfl (same_upd rfl (same_upd rfl (same_upd rfl (same_upd rfl (same_upd rfl (same_upd rfl (same_upd rfl (same_upd rfl (same_upd rfl (same_upd rfl (same_upd rfl (same_upd rfl (same_upd rfl (same_upd rfl (same_upd rfl (same_upd rfl (same_upd rfl (same_upd rfl (same_upd rfl (same_upd rfl (same_upd rfl (same_upd rfl (same_upd rfl (same_upd rfl (same_upd rfl (same_upd rfl (same_upd rfl (same_upd rfl (same_upd rfl (same_upd rfl (same_upd rfl (same_upd rfl (same_upd rfl (same_upd rfl (same_upd rfl (same_upd rfl (same_upd rfl (same_upd rfl (same_upd rfl (same_upd rfl (same_upd rfl (same_upd rfl (same_upd rfl (same_ovr)))))))))))))))))))))))))))))))))))))))))))))))
        · have g64 := of_decide_eq_false b60
          refine wl_know 54 (.bool false) (congrArg Value.bool b60) ?_
          have g65 := of_decide_eq_false b60
          refine wl_pure (wantsY 4 54 false rfl (by kernel_rfl) rfl (by kernel_rfl)) (d := 55) (v := (.pointer (some ⟨b51, 34, none⟩))) rfl (by kernel_rfl) ?_
          refine wl_pure (wantsY 4 54 false rfl (by kernel_rfl) rfl (by kernel_rfl)) (d := 56) (v := (.int .u64 (timeD ((((P.getD i pr0).C).getD k ce0).S)))) rfl (e_load1 rfl (by kernel_rfl) (H57.cell 4 rfl (by kernel_rfl))) ?_
          refine wl_pure (wantsY 4 54 false rfl (by kernel_rfl) rfl (by kernel_rfl)) (d := 57) (v := (.pointer (some ⟨b2, 1, none⟩))) rfl (by kernel_rfl) ?_
          refine wl_pure (wantsY 4 54 false rfl (by kernel_rfl) rfl (by kernel_rfl)) (d := 58) (v := (.int .u64 (tm))) rfl (e_load1 rfl (by kernel_rfl) (H57.cell 1 rfl rfl)) ?_
          refine wl_pure (wantsY 4 54 false rfl (by kernel_rfl) rfl (by kernel_rfl)) (d := 59) (v := (.bool (decide ((timeD ((((P.getD i pr0).C).getD k ce0).S)) > tm)))) rfl (by kernel_rfl) ?_
          refine wl_pure (wants0 rfl) (d := 60) (v := (.bool (decide ((timeD ((((P.getD i pr0).C).getD k ce0).S)) > tm)))) rfl (by kernel_rfl) ?_
          refine wl_pure (wants0 rfl) (d := 61) (v := (.bool (decide ((timeD ((((P.getD i pr0).C).getD k ce0).S)) > tm)))) rfl (by kernel_rfl) ?_
          refine (bsplit (decide ((timeD ((((P.getD i pr0).C).getD k ce0).S)) > tm))).elim (fun b66 => ?_) (fun b66 => ?_)
          · have g67 := of_decide_eq_true b66
            refine wl_know 61 (.bool true) (congrArg Value.bool b66) ?_
            have g68 := of_decide_eq_true b66
            refine wl_pass (wantsN 11 61 false rfl (by kernel_rfl) rfl (by kernel_rfl)) rfl ?_
            refine wl_pass (wantsN 11 61 false rfl (by kernel_rfl) rfl (by kernel_rfl)) rfl ?_
            refine wl_pass (wantsN 11 61 false rfl (by kernel_rfl) rfl (by kernel_rfl)) rfl ?_
            refine wl_pass (wantsN 11 61 false rfl (by kernel_rfl) rfl (by kernel_rfl)) rfl ?_
            refine wl_pure (wants0 rfl) (d := 66) (v := (.bool true)) rfl (by kernel_rfl) ?_
            refine w_nil ?_
            refine then_normal ?_
            refine wp_ift rfl ?_
            refine w_exit ?_
            refine then_exit ?_
            refine blk_hit ?_
            refine then_normal ?_
            refine w_lit ?_
            refine wl_pure (wants0 rfl) (d := 120) (v := (.int .i64 ((k : Int) + 1))) rfl (e_int (z := (k : Int) + 1) (by kernel_rfl) (IntWalk.i64_in _ (by omega))) ?_
            refine wl_pure (wants0 rfl) (d := 29) (v := (.int .i64 ((k : Int) + 1))) rfl (by kernel_rfl) ?_
            refine w_nil ?_
            have H69 : Sat w [restC w (fun _ => False), cellC b2 27 ([(.int .i64 (ep)), (.int .u64 (tm)), (.slice pa P.length pc), (vo), (vt)] : List Value), rowC 50 35 (.slice oa2 O2.length oc2) O2.length (O2.flatMap encEn)] w56 := H57.pick [0, 1, 2] (by decide)
            refine round_back ?_ _ ⟨(k + 1), oa2, oc2, O2, (show ((.int .i64 ((k : Int) + 1)) : Value) = _ by first | rfl | go_num), (show ((.slice oa2 O2.length oc2) : Value) = _ by first | rfl | go_num), (by omega), (out_skip hO2 (by omega) (skip2 b66)), H69, rfl⟩ (by omega)
            exact (same_upd rfl (same_upd rfl (same_upd rfl (same_upd rfl (same_upd rfl (same_upd rfl (same_upd rfl (same_upd rfl (same_upd rfl (same_upd rfl (same_upd rfl (same_upd rfl (same_upd rfl (same_upd rfl (same_upd rfl (same_upd rfl (same_upd rfl (same_upd rfl (same_upd rfl (same_upd rfl (same_upd rfl (same_upd rfl (same_upd rfl (same_upd rfl (same_upd rfl (same_upd rfl (same_upd rfl (same_upd rfl (same_upd rfl (same_upd rfl (same_upd rfl (same_upd rfl (same_upd rfl (same_upd rfl (same_upd rfl (same_upd rfl (same_upd rfl (same_upd rfl (same_upd rfl (same_upd rfl (same_upd rfl (same_upd rfl (same_upd rfl (same_upd rfl (same_upd rfl (same_upd rfl (same_upd rfl (same_ovr))))))))))))))))))))))))))))))))))))))))))))))))
          · have g70 := of_decide_eq_false b66
            refine wl_know 61 (.bool false) (congrArg Value.bool b66) ?_
            have g71 := of_decide_eq_false b66
            refine wl_pure (wantsY 11 61 false rfl (by kernel_rfl) rfl (by kernel_rfl)) (d := 62) (v := (.slice la LN.length lc)) rfl (by kernel_rfl) ?_
            refine wl_pure (wantsY 11 61 false rfl (by kernel_rfl) rfl (by kernel_rfl)) (d := 63) (v := (.pointer (some ⟨b51, 0, none⟩))) rfl (by kernel_rfl) ?_
            refine wl_pure (wantsY 11 61 false rfl (by kernel_rfl) rfl (by kernel_rfl)) (d := 64) (v := (.agg ⟨([(.int .i64 ((((P.getD i pr0).C).getD k ce0).x.cl)), (.int .i64 ((((P.getD i pr0).C).getD k ce0).x.seq))] : List Value)⟩)) rfl (e_loadN (vs := ([(.int .i64 ((((P.getD i pr0).C).getD k ce0).x.cl)), (.int .i64 ((((P.getD i pr0).C).getD k ce0).x.seq))] : List Value)) rfl (by kernel_rfl) (by kernel_rfl) (by exact Nat.le_of_ble_eq_true (by kernel_rfl)) (H57.at 4 rfl) (by kernel_rfl)) ?_
            refine wl_do (wantsY 11 61 false rfl (by kernel_rfl) rfl (by kernel_rfl)) (fun K72 hK72 => ?_)
            refine d_call (d := 65) rfl (by kernel_rfl) (rIn_any w56 la lc LN (ListAt.now H57 0 rfl hLN) (by omega) ((((P.getD i pr0).C).getD k ce0).x.cl) ((((P.getD i pr0).C).getD k ce0).x.seq)) ?_
            rintro _ w73 ⟨rfl, u75⟩
            have H74 := H57.keepU u75
            refine ⟨_, rfl, ?_⟩
            refine hK72 _ _ ?_
            clear hK72 K72
            refine wl_pure (wants0 rfl) (d := 66) (v := (.bool (decide ((⟨((((P.getD i pr0).C).getD k ce0).x.cl), ((((P.getD i pr0).C).getD k ce0).x.seq)⟩ : NmD) ∈ LN)))) rfl (by kernel_rfl) ?_
            refine w_nil ?_
            refine then_normal ?_
            refine (bsplit (decide ((⟨((((P.getD i pr0).C).getD k ce0).x.cl), ((((P.getD i pr0).C).getD k ce0).x.seq)⟩ : NmD) ∈ LN))).elim (fun b76 => ?_) (fun b76 => ?_)
            · refine wp_know 66 (.bool true) (congrArg Value.bool b76) ?_
              refine wp_ift rfl ?_
              refine w_exit ?_
              refine then_exit ?_
              refine blk_hit ?_
              refine then_normal ?_
              refine w_lit ?_
              refine wl_pure (wants0 rfl) (d := 120) (v := (.int .i64 ((k : Int) + 1))) rfl (e_int (z := (k : Int) + 1) (by kernel_rfl) (IntWalk.i64_in _ (by omega))) ?_
              refine wl_pure (wants0 rfl) (d := 29) (v := (.int .i64 ((k : Int) + 1))) rfl (by kernel_rfl) ?_
              refine w_nil ?_
              have H77 : Sat w [restC w (fun _ => False), cellC b2 27 ([(.int .i64 (ep)), (.int .u64 (tm)), (.slice pa P.length pc), (vo), (vt)] : List Value), rowC 50 35 (.slice oa2 O2.length oc2) O2.length (O2.flatMap encEn)] w73 := H74.pick [0, 1, 2] (by decide)
              refine round_back ?_ _ ⟨(k + 1), oa2, oc2, O2, (show ((.int .i64 ((k : Int) + 1)) : Value) = _ by first | rfl | go_num), (show ((.slice oa2 O2.length oc2) : Value) = _ by first | rfl | go_num), (by omega), (out_skip hO2 (by omega) (skip3l (by rw [hlg]; exact b76))), H77, rfl⟩ (by omega)
              exact (same_upd rfl (same_upd rfl (same_upd rfl (same_upd rfl (same_upd rfl (same_upd rfl (same_upd rfl (same_upd rfl (same_upd rfl (same_upd rfl (same_upd rfl (same_upd rfl (same_upd rfl (same_upd rfl (same_upd rfl (same_upd rfl (same_upd rfl (same_upd rfl (same_upd rfl (same_upd rfl (same_upd rfl (same_upd rfl (same_upd rfl (same_upd rfl (same_upd rfl (same_upd rfl (same_upd rfl (same_upd rfl (same_upd rfl (same_upd rfl (same_upd rfl (same_upd rfl (same_upd rfl (same_upd rfl (same_upd rfl (same_upd rfl (same_upd rfl (same_upd rfl (same_upd rfl (same_upd rfl (same_upd rfl (same_upd rfl (same_upd rfl (same_upd rfl (same_upd rfl (same_upd rfl (same_upd rfl (same_upd rfl (same_ovr)))))))))))))))))))))))))))))))))))))))))))))))))
            · refine wp_know 66 (.bool false) (congrArg Value.bool b76) ?_
              refine wp_iff rfl ?_
              refine w_skip ?_
              refine then_normal ?_
              refine w_seq ?_
              refine w_lit ?_
              refine wl_pure (wants0 rfl) (d := 12) (v := (.int .i64 (-1))) rfl (by kernel_rfl) ?_
              refine w_nil ?_
              refine then_normal ?_
              refine w_seq ?_
              refine w_seq ?_
              refine w_lit ?_
              refine wl_pure (wants0 rfl) (d := 67) (v := (.slice oa2 O2.length oc2)) rfl (by kernel_rfl) ?_
              refine wl_pure (wants0 rfl) (d := 68) (v := (.int .i64 ((O2.length : Int)))) rfl (by kernel_rfl) ?_
              refine wl_pure (wants0 rfl) (d := 69) (v := (.int .i64 (0))) rfl (by kernel_rfl) ?_
              refine w_nil ?_
              refine then_normal ?_
              refine w_block ?_
              refine wp_round [12, 13, 69, 70, 71, 72, 73, 74, 75, 76, 77, 78, 79, 80, 81] (fun F_ W_ m_ => ∃ (j : Nat) (a : Int), F_ 69 = (.int .i64 ((j : Int))) ∧ F_ 12 = (.int .i64 (a)) ∧ (j ≤ O2.length) ∧ (-1 ≤ a) ∧ (a < (j : Int)) ∧ (AtIs O2 ((P.getD i pr0).C.getD k ce0).x.cl ((P.getD i pr0).C.getD k ce0).x.seq a j) ∧ Sat w [restC w (fun _ => False), cellC b2 27 ([(.int .i64 (ep)), (.int .u64 (tm)), (.slice pa P.length pc), (vo), (vt)] : List Value), rowC 50 35 (.slice oa2 O2.length oc2) O2.length (O2.flatMap encEn), cellC b35 42 (([(.int .i64 ((((P.getD i pr0).C).getD k ce0).x.cl)), (.int .i64 ((((P.getD i pr0).C).getD k ce0).x.seq))] : List Value) ++ hc (((P.getD i pr0).C).getD k ce0).x.h ++ ([(.int .i64 ((((P.getD i pr0).C).getD k ce0).x.len)), (.int .i64 ((((P.getD i pr0).C).getD k ce0).x.sb)), (.int .i64 ((((P.getD i pr0).C).getD k ce0).x.sm)), (.slice (((P.getD i pr0).C).getD k ce0).sa ((((P.getD i pr0).C).getD k ce0).S).length (((P.getD i pr0).C).getD k ce0).sc)] : List Value)), cellC b51 50 (([(.int .i64 ((((P.getD i pr0).C).getD k ce0).x.cl)), (.int .i64 ((((P.getD i pr0).C).getD k ce0).x.seq))] : List Value) ++ hc (((P.getD i pr0).C).getD k ce0).x.h ++ ([(.int .u64 (timeD ((((P.getD i pr0).C).getD k ce0).S)))] : List Value))] W_ ∧ m_ = O2.length - j) _ ⟨0, (-1), (show ((.int .i64 (0)) : Value) = _ by first | rfl | go_num), (show ((.int .i64 (-1)) : Value) = _ by first | rfl | go_num), (Nat.zero_le _), (by decide), (by decide), at_zero, H74, rfl⟩ ?_
              rintro g78 w79 _ ⟨j, a, v81, v82, hj, ha1, ha2, hat, H80, rfl⟩
              refine wp_know 69 _ v81 ?_
              refine wp_know 12 _ v82 ?_
              refine w_seq ?_
              refine w_lit ?_
              refine wl_pure (wants0 rfl) (d := 70) (v := (.bool (decide ((j : Int) < (O2.length : Int))))) rfl (by kernel_rfl) ?_
              refine w_nil ?_
              refine then_normal ?_
              refine w_seq ?_
              refine (bsplit (decide ((j : Int) < (O2.length : Int)))).elim (fun b84 => ?_) (fun b84 => ?_)
              · have g85 := of_decide_eq_true b84
                refine wp_know 70 (.bool true) (congrArg Value.bool b84) ?_
                have g86 := of_decide_eq_true b84
                refine wp_ift rfl ?_
                refine w_skip ?_
                refine then_normal ?_
                refine w_seq ?_
                refine w_block ?_
                refine w_seq ?_
                refine w_lit ?_
                refine wl_pure (wants0 rfl) (d := 71) (v := (.int .i64 ((j : Int)))) rfl (by kernel_rfl) ?_
                refine wl_pure (wants0 rfl) (d := 13) (v := (.int .i64 ((j : Int)))) rfl (by kernel_rfl) ?_
                refine w_nil ?_
                refine then_normal ?_
                refine w_seq ?_
                refine q_start H80 (by kernel_rfl) (by kernel_rfl) ?_
                refine q_val (wants0 rfl) (d := 72) (v := (.slice oa2 O2.length oc2)) rfl (fun _ H' => (by kernel_rfl)) ?_
                refine q_val (wants0 rfl) (d := 73) (v := (.int .i64 ((j : Int)))) rfl (fun _ H' => (by kernel_rfl)) ?_
                obtain ⟨g87, c88, e89⟩ := row_shape (H80.at 2 rfl) (by omega)
                obtain ⟨x90, h91⟩ := get_at (show j < O2.length by omega)
                refine q_val (wants0 rfl) (d := 74) (v := (.pointer (some ⟨g87, 0 + ((j : Int)).toNat * 35, none⟩))) rfl (fun _ H' => (e_indexAddrV (E := 50) (by kernel_rfl) (by kernel_rfl) (Nat.le_of_ble_eq_true rfl) rfl e89 rfl (by omega) (by omega))) ?_
                refine q_val (wants0 rfl) (d := 75) (v := (.pointer (some ⟨g87, 0 + ((j : Int)).toNat * 35, none⟩))) rfl (fun _ H' => (by kernel_rfl)) ?_
                refine q_val (wants0 rfl) (d := 76) (v := (.agg ⟨([(.int .i64 (x90.cl)), (.int .i64 (x90.sq))] : List Value)⟩)) rfl (fun _ H' => (e_loadRun (vs := ([(.int .i64 (x90.cl)), (.int .i64 (x90.sq))] : List Value)) rfl (by kernel_rfl) (by kernel_rfl) (Nat.le_of_ble_eq_true (by kernel_rfl)) (rows_run (H'.at 2 rfl) e89 encEn_len h91 0 (show 0 + ((j : Int)).toNat * 35 = j * 35 + 0 by omega) (by kernel_rfl) (by kernel_rfl)))) ?_
                refine q_val (wants0 rfl) (d := 77) (v := (.pointer (some ⟨b51, 0, none⟩))) rfl (fun _ H' => (by kernel_rfl)) ?_
                refine q_val (wants0 rfl) (d := 78) (v := (.agg ⟨([(.int .i64 ((((P.getD i pr0).C).getD k ce0).x.cl)), (.int .i64 ((((P.getD i pr0).C).getD k ce0).x.seq))] : List Value)⟩)) rfl (fun _ H' => (e_loadN (vs := ([(.int .i64 ((((P.getD i pr0).C).getD k ce0).x.cl)), (.int .i64 ((((P.getD i pr0).C).getD k ce0).x.seq))] : List Value)) rfl (by kernel_rfl) (by kernel_rfl) (by exact Nat.le_of_ble_eq_true (by kernel_rfl)) (H'.at 4 rfl) (by kernel_rfl))) ?_
                refine q_val (wants0 rfl) (d := 79) (v := (.bool (decide (x90.cl = ((((P.getD i pr0).C).getD k ce0).x.cl) ∧ x90.sq = ((((P.getD i pr0).C).getD k ce0).x.seq))))) rfl (fun _ H' => (e_eqName x90.cl x90.sq ((((P.getD i pr0).C).getD k ce0).x.cl) ((((P.getD i pr0).C).getD k ce0).x.seq) rfl rfl)) ?_
                refine q_end ?_
                intro w92 H93
                refine then_normal ?_
                refine (bsplit (decide (x90.cl = ((((P.getD i pr0).C).getD k ce0).x.cl) ∧ x90.sq = ((((P.getD i pr0).C).getD k ce0).x.seq)))).elim (fun b94 => ?_) (fun b94 => ?_)
                · refine wp_know 79 (.bool true) (congrArg Value.bool b94) ?_
                  refine wp_ift rfl ?_
                  refine w_lit ?_
                  refine wl_pure (wants0 rfl) (d := 80) (v := (.int .i64 ((j : Int)))) rfl (by kernel_rfl) ?_
                  refine wl_pure (wants0 rfl) (d := 12) (v := (.int .i64 ((j : Int)))) rfl (by kernel_rfl) ?_
                  refine w_nil ?_
                  refine blk_normal ?_
                  refine then_normal ?_
                  refine w_lit ?_
                  refine wl_pure (wants0 rfl) (d := 81) (v := (.int .i64 ((j : Int) + 1))) rfl (e_int (z := (j : Int) + 1) (by kernel_rfl) (IntWalk.i64_in _ (by omega))) ?_
                  refine wl_pure (wants0 rfl) (d := 69) (v := (.int .i64 ((j : Int) + 1))) rfl (by kernel_rfl) ?_
                  refine w_nil ?_
                  refine round_back ?_ _ ⟨(j + 1), (j : Int), (show ((.int .i64 ((j : Int) + 1)) : Value) = _ by first | rfl | go_num), (show ((.int .i64 ((j : Int))) : Value) = _ by first | rfl | go_num), (by omega), (by omega), (by omega), (at_hit h91 b94), H93, rfl⟩ (by omega)
                  exact (same_upd rfl (same_upd rfl (same_upd rfl (same_upd rfl (same_upd rfl (same_upd rfl (same_upd rfl (same_upd rfl (same_upd rfl (same_upd rfl (same_upd rfl (same_upd rfl (same_upd rfl (same_upd rfl (same_upd rfl (same_upd rfl (same_upd rfl (same_upd rfl (same_upd rfl (same_ovr))))))))))))))))))))
                · refine wp_know 79 (.bool false) (congrArg Value.bool b94) ?_
                  refine wp_iff rfl ?_
                  refine w_skip ?_
                  refine blk_normal ?_
                  refine then_normal ?_
                  refine w_lit ?_
                  refine wl_pure (wants0 rfl) (d := 81) (v := (.int .i64 ((j : Int) + 1))) rfl (e_int (z := (j : Int) + 1) (by kernel_rfl) (IntWalk.i64_in _ (by omega))) ?_
                  refine wl_pure (wants0 rfl) (d := 69) (v := (.int .i64 ((j : Int) + 1))) rfl (by kernel_rfl) ?_
                  refine w_nil ?_
                  refine round_back ?_ _ ⟨(j + 1), a, (show ((.int .i64 ((j : Int) + 1)) : Value) = _ by first | rfl | go_num), (show ((.int .i64 (a)) : Value) = _ by first | rfl | go_num), (by omega), (by omega), (by omega), (at_miss hat h91 b94), H93, rfl⟩ (by omega)
                  exact (same_upd rfl (same_upd rfl (same_upd rfl (same_upd rfl (same_upd rfl (same_upd rfl (same_upd rfl (same_upd rfl (same_upd rfl (same_upd rfl (same_upd rfl (same_upd rfl (same_upd rfl (same_upd rfl (same_upd rfl (same_upd rfl (same_upd rfl (same_ovr))))))))))))))))))
              · have g95 := of_decide_eq_false b84
                refine wp_know 70 (.bool false) (congrArg Value.bool b84) ?_
                have g96 := of_decide_eq_false b84
                refine wp_iff rfl ?_
                refine w_exit ?_
                refine then_exit ?_
                refine back_exit ?_
                refine blk_hit ?_
                refine then_normal ?_
                refine w_seq ?_
                refine w_lit ?_
                refine wl_pure (wants0 rfl) (d := 82) (v := (.int .i64 (a))) rfl (by kernel_rfl) ?_
                refine wl_pure (wants0 rfl) (d := 83) (v := (.bool (decide (a < 0)))) rfl (by kernel_rfl) ?_
                refine w_nil ?_
                refine then_normal ?_
                refine (bsplit (decide (a < 0))).elim (fun b97 => ?_) (fun b97 => ?_)
                · have g98 := of_decide_eq_true b97
                  refine wp_know 83 (.bool true) (congrArg Value.bool b97) ?_
                  have g99 := of_decide_eq_true b97
                  refine wp_ift rfl ?_
                  refine w_lit ?_
                  refine wl_pure (wants0 rfl) (d := 84) (v := (.slice oa2 O2.length oc2)) rfl (by kernel_rfl) ?_
                  refine wl_pure (wants0 rfl) (d := 85) (v := (.agg ⟨(([(.int .i64 ((((P.getD i pr0).C).getD k ce0).x.cl)), (.int .i64 ((((P.getD i pr0).C).getD k ce0).x.seq))] : List Value) ++ hc (((P.getD i pr0).C).getD k ce0).x.h ++ ([(.int .u64 (timeD ((((P.getD i pr0).C).getD k ce0).S)))] : List Value))⟩)) rfl (e_loadN (vs := (([(.int .i64 ((((P.getD i pr0).C).getD k ce0).x.cl)), (.int .i64 ((((P.getD i pr0).C).getD k ce0).x.seq))] : List Value) ++ hc (((P.getD i pr0).C).getD k ce0).x.h ++ ([(.int .u64 (timeD ((((P.getD i pr0).C).getD k ce0).S)))] : List Value))) rfl (by kernel_rfl) (by kernel_rfl) (by exact Nat.le_of_ble_eq_true (by kernel_rfl)) (H80.at 4 rfl) (by kernel_rfl)) ?_
                  refine wl_do (wants0 rfl) (fun K100 hK100 => ?_)
                  refine d_buildSlice (e := 50) (size := 35) (bytes := 56) (z := (.agg ⟨(([(.int .i64 (0)), (.int .i64 (0))] : List Value) ++ hc hash0 ++ ([(.int .u64 (0))] : List Value))⟩)) (pvs := [(0, (.agg ⟨(([(.int .i64 ((((P.getD i pr0).C).getD k ce0).x.cl)), (.int .i64 ((((P.getD i pr0).C).getD k ce0).x.seq))] : List Value) ++ hc (((P.getD i pr0).C).getD k ce0).x.h ++ ([(.int .u64 (timeD ((((P.getD i pr0).C).getD k ce0).S)))] : List Value))⟩))]) (vs := (([(.int .i64 ((((P.getD i pr0).C).getD k ce0).x.cl)), (.int .i64 ((((P.getD i pr0).C).getD k ce0).x.seq))] : List Value) ++ hc (((P.getD i pr0).C).getD k ce0).x.h ++ ([(.int .u64 (timeD ((((P.getD i pr0).C).getD k ce0).S)))] : List Value))) rfl H80 (by kernel_rfl) (by kernel_rfl) (by kernel_rfl) (by kernel_rfl) (by kernel_rfl) rfl rfl ?_
                  intro b101 w102 (H103 : Sat w [restC w (fun _ => False), cellC b2 27 ([(.int .i64 (ep)), (.int .u64 (tm)), (.slice pa P.length pc), (vo), (vt)] : List Value), rowC 50 35 (.slice oa2 O2.length oc2) O2.length (O2.flatMap encEn), cellC b35 42 (([(.int .i64 ((((P.getD i pr0).C).getD k ce0).x.cl)), (.int .i64 ((((P.getD i pr0).C).getD k ce0).x.seq))] : List Value) ++ hc (((P.getD i pr0).C).getD k ce0).x.h ++ ([(.int .i64 ((((P.getD i pr0).C).getD k ce0).x.len)), (.int .i64 ((((P.getD i pr0).C).getD k ce0).x.sb)), (.int .i64 ((((P.getD i pr0).C).getD k ce0).x.sm)), (.slice (((P.getD i pr0).C).getD k ce0).sa ((((P.getD i pr0).C).getD k ce0).S).length (((P.getD i pr0).C).getD k ce0).sc)] : List Value)), cellC b51 50 (([(.int .i64 ((((P.getD i pr0).C).getD k ce0).x.cl)), (.int .i64 ((((P.getD i pr0).C).getD k ce0).x.seq))] : List Value) ++ hc (((P.getD i pr0).C).getD k ce0).x.h ++ ([(.int .u64 (timeD ((((P.getD i pr0).C).getD k ce0).S)))] : List Value)), rowC 50 35 (.slice (some ⟨b101, 0, none⟩) 1 1) 1 (([(.int .i64 ((((P.getD i pr0).C).getD k ce0).x.cl)), (.int .i64 ((((P.getD i pr0).C).getD k ce0).x.seq))] : List Value) ++ hc (((P.getD i pr0).C).getD k ce0).x.h ++ ([(.int .u64 (timeD ((((P.getD i pr0).C).getD k ce0).S)))] : List Value))] w102)
                  have H104 : Sat w [restC w (fun _ => False), cellC b2 27 ([(.int .i64 (ep)), (.int .u64 (tm)), (.slice pa P.length pc), (vo), (vt)] : List Value), rowC 50 35 (.slice oa2 O2.length oc2) O2.length (O2.flatMap encEn), cellC b35 42 (([(.int .i64 ((((P.getD i pr0).C).getD k ce0).x.cl)), (.int .i64 ((((P.getD i pr0).C).getD k ce0).x.seq))] : List Value) ++ hc (((P.getD i pr0).C).getD k ce0).x.h ++ ([(.int .i64 ((((P.getD i pr0).C).getD k ce0).x.len)), (.int .i64 ((((P.getD i pr0).C).getD k ce0).x.sb)), (.int .i64 ((((P.getD i pr0).C).getD k ce0).x.sm)), (.slice (((P.getD i pr0).C).getD k ce0).sa ((((P.getD i pr0).C).getD k ce0).S).length (((P.getD i pr0).C).getD k ce0).sc)] : List Value)), cellC b51 50 (([(.int .i64 ((((P.getD i pr0).C).getD k ce0).x.cl)), (.int .i64 ((((P.getD i pr0).C).getD k ce0).x.seq))] : List Value) ++ hc (((P.getD i pr0).C).getD k ce0).x.h ++ ([(.int .u64 (timeD ((((P.getD i pr0).C).getD k ce0).S)))] : List Value)), rowC 50 35 (.slice (some ⟨b101, 0, none⟩) 1 1) 1 ([(⟨(((P.getD i pr0).C).getD k ce0).x.cl, (((P.getD i pr0).C).getD k ce0).x.seq, ((((P.getD i pr0).C).getD k ce0).x.h), timeD ((((P.getD i pr0).C).getD k ce0).S)⟩ : EntD)].flatMap encEn)] w102 := H103.cast (by rw [(show ((([(.int .i64 ((((P.getD i pr0).C).getD k ce0).x.cl)), (.int .i64 ((((P.getD i pr0).C).getD k ce0).x.seq))] : List Value) ++ hc (((P.getD i pr0).C).getD k ce0).x.h ++ ([(.int .u64 (timeD ((((P.getD i pr0).C).getD k ce0).S)))] : List Value)) : List Value) = [(⟨(((P.getD i pr0).C).getD k ce0).x.cl, (((P.getD i pr0).C).getD k ce0).x.seq, ((((P.getD i pr0).C).getD k ce0).x.h), timeD ((((P.getD i pr0).C).getD k ce0).S)⟩ : EntD)].flatMap encEn by kernel_rfl)])
                  refine hK100 _ _ ?_
                  clear hK100 K100
                  refine wl_do (wants0 rfl) (fun K105 hK105 => ?_)
                  refine d_append (T := 51) (e := 50) (size := 35) (bytes := 56) rfl H104 (by kernel_rfl) 2 5 rfl rfl rfl rfl (flat_one encEn encEn_one [(⟨(((P.getD i pr0).C).getD k ce0).x.cl, (((P.getD i pr0).C).getD k ce0).x.seq, ((((P.getD i pr0).C).getD k ce0).x.h), timeD ((((P.getD i pr0).C).getD k ce0).S)⟩ : EntD)]) (by omega) (by omega) ?_
                  intro v106 w107 (H108 : Sat w [restC w (fun _ => False), cellC b2 27 ([(.int .i64 (ep)), (.int .u64 (tm)), (.slice pa P.length pc), (vo), (vt)] : List Value), rowC 50 35 v106 (O2.length + 1) ((O2.flatMap encEn) ++ ([(⟨(((P.getD i pr0).C).getD k ce0).x.cl, (((P.getD i pr0).C).getD k ce0).x.seq, ((((P.getD i pr0).C).getD k ce0).x.h), timeD ((((P.getD i pr0).C).getD k ce0).S)⟩ : EntD)].flatMap encEn)), cellC b35 42 (([(.int .i64 ((((P.getD i pr0).C).getD k ce0).x.cl)), (.int .i64 ((((P.getD i pr0).C).getD k ce0).x.seq))] : List Value) ++ hc (((P.getD i pr0).C).getD k ce0).x.h ++ ([(.int .i64 ((((P.getD i pr0).C).getD k ce0).x.len)), (.int .i64 ((((P.getD i pr0).C).getD k ce0).x.sb)), (.int .i64 ((((P.getD i pr0).C).getD k ce0).x.sm)), (.slice (((P.getD i pr0).C).getD k ce0).sa ((((P.getD i pr0).C).getD k ce0).S).length (((P.getD i pr0).C).getD k ce0).sc)] : List Value)), cellC b51 50 (([(.int .i64 ((((P.getD i pr0).C).getD k ce0).x.cl)), (.int .i64 ((((P.getD i pr0).C).getD k ce0).x.seq))] : List Value) ++ hc (((P.getD i pr0).C).getD k ce0).x.h ++ ([(.int .u64 (timeD ((((P.getD i pr0).C).getD k ce0).S)))] : List Value)), rowC 50 35 (.slice (some ⟨b101, 0, none⟩) 1 1) 1 ([(⟨(((P.getD i pr0).C).getD k ce0).x.cl, (((P.getD i pr0).C).getD k ce0).x.seq, ((((P.getD i pr0).C).getD k ce0).x.h), timeD ((((P.getD i pr0).C).getD k ce0).S)⟩ : EntD)].flatMap encEn)] w107)
                  have H111 : Sat w [restC w (fun _ => False), cellC b2 27 ([(.int .i64 (ep)), (.int .u64 (tm)), (.slice pa P.length pc), (vo), (vt)] : List Value), rowC 50 35 v106 ((O2 ++ [(⟨(((P.getD i pr0).C).getD k ce0).x.cl, (((P.getD i pr0).C).getD k ce0).x.seq, ((((P.getD i pr0).C).getD k ce0).x.h), timeD ((((P.getD i pr0).C).getD k ce0).S)⟩ : EntD)]).length) ((O2 ++ [(⟨(((P.getD i pr0).C).getD k ce0).x.cl, (((P.getD i pr0).C).getD k ce0).x.seq, ((((P.getD i pr0).C).getD k ce0).x.h), timeD ((((P.getD i pr0).C).getD k ce0).S)⟩ : EntD)]).flatMap encEn), cellC b35 42 (([(.int .i64 ((((P.getD i pr0).C).getD k ce0).x.cl)), (.int .i64 ((((P.getD i pr0).C).getD k ce0).x.seq))] : List Value) ++ hc (((P.getD i pr0).C).getD k ce0).x.h ++ ([(.int .i64 ((((P.getD i pr0).C).getD k ce0).x.len)), (.int .i64 ((((P.getD i pr0).C).getD k ce0).x.sb)), (.int .i64 ((((P.getD i pr0).C).getD k ce0).x.sm)), (.slice (((P.getD i pr0).C).getD k ce0).sa ((((P.getD i pr0).C).getD k ce0).S).length (((P.getD i pr0).C).getD k ce0).sc)] : List Value)), cellC b51 50 (([(.int .i64 ((((P.getD i pr0).C).getD k ce0).x.cl)), (.int .i64 ((((P.getD i pr0).C).getD k ce0).x.seq))] : List Value) ++ hc (((P.getD i pr0).C).getD k ce0).x.h ++ ([(.int .u64 (timeD ((((P.getD i pr0).C).getD k ce0).S)))] : List Value)), rowC 50 35 (.slice (some ⟨b101, 0, none⟩) 1 1) 1 ([(⟨(((P.getD i pr0).C).getD k ce0).x.cl, (((P.getD i pr0).C).getD k ce0).x.seq, ((((P.getD i pr0).C).getD k ce0).x.h), timeD ((((P.getD i pr0).C).getD k ce0).S)⟩ : EntD)].flatMap encEn)] w107 := H108.cast (by simp only [List.length_append, List.flatMap_append] <;> rfl)
                  obtain ⟨a109, c110, rfl⟩ := ownsRow_shape (H111.at 2 rfl)
                  refine hK105 _ _ ?_
                  clear hK105 K105
                  refine wl_pure (wants0 rfl) (d := 7) (v := (.slice a109 ((O2 ++ [(⟨(((P.getD i pr0).C).getD k ce0).x.cl, (((P.getD i pr0).C).getD k ce0).x.seq, ((((P.getD i pr0).C).getD k ce0).x.h), timeD ((((P.getD i pr0).C).getD k ce0).S)⟩ : EntD)]).length) c110)) rfl (by kernel_rfl) ?_
                  refine w_nil ?_
                  refine blk_normal ?_
                  refine then_normal ?_
                  refine w_lit ?_
                  refine wl_pure (wants0 rfl) (d := 120) (v := (.int .i64 ((k : Int) + 1))) rfl (e_int (z := (k : Int) + 1) (by kernel_rfl) (IntWalk.i64_in _ (by omega))) ?_
                  refine wl_pure (wants0 rfl) (d := 29) (v := (.int .i64 ((k : Int) + 1))) rfl (by kernel_rfl) ?_
                  refine w_nil ?_
                  have H112 : Sat w [restC w (fun _ => False), cellC b2 27 ([(.int .i64 (ep)), (.int .u64 (tm)), (.slice pa P.length pc), (vo), (vt)] : List Value), rowC 50 35 (.slice a109 ((O2 ++ [(⟨(((P.getD i pr0).C).getD k ce0).x.cl, (((P.getD i pr0).C).getD k ce0).x.seq, ((((P.getD i pr0).C).getD k ce0).x.h), timeD ((((P.getD i pr0).C).getD k ce0).S)⟩ : EntD)]).length) c110) ((O2 ++ [(⟨(((P.getD i pr0).C).getD k ce0).x.cl, (((P.getD i pr0).C).getD k ce0).x.seq, ((((P.getD i pr0).C).getD k ce0).x.h), timeD ((((P.getD i pr0).C).getD k ce0).S)⟩ : EntD)]).length) ((O2 ++ [(⟨(((P.getD i pr0).C).getD k ce0).x.cl, (((P.getD i pr0).C).getD k ce0).x.seq, ((((P.getD i pr0).C).getD k ce0).x.h), timeD ((((P.getD i pr0).C).getD k ce0).S)⟩ : EntD)]).flatMap encEn)] w107 := H111.pick [0, 1, 2] (by decide)
                  refine round_back ?_ _ ⟨(k + 1), a109, c110, (O2 ++ [(⟨(((P.getD i pr0).C).getD k ce0).x.cl, (((P.getD i pr0).C).getD k ce0).x.seq, ((((P.getD i pr0).C).getD k ce0).x.h), timeD ((((P.getD i pr0).C).getD k ce0).S)⟩ : EntD)]), (show ((.int .i64 ((k : Int) + 1)) : Value) = _ by first | rfl | go_num), (show ((.slice a109 ((O2 ++ [(⟨(((P.getD i pr0).C).getD k ce0).x.cl, (((P.getD i pr0).C).getD k ce0).x.seq, ((((P.getD i pr0).C).getD k ce0).x.h), timeD ((((P.getD i pr0).C).getD k ce0).S)⟩ : EntD)]).length) c110) : Value) = _ by first | rfl | go_num), (by omega), (out_new hO2 (by omega) hcs (skip0l b60 b66 (by rw [hlg]; exact b76)) hat (by omega) (by have q := of_decide_eq_true b97; omega)), H112, rfl⟩ (by omega)
                  exact (same_upd rfl (same_upd rfl (same_upd rfl (same_upd rfl (same_upd rfl (same_upd rfl (same_upd rfl (same_upd rfl (same_upd rfl (same_upd rfl (same_upd rfl (same_upd rfl (same_upd rfl (same_upd rfl (same_ovr2 rfl (same_upd rfl (same_upd rfl (same_upd rfl (same_upd rfl (same_upd rfl (same_upd rfl (same_upd rfl (same_upd rfl (same_upd rfl (same_upd rfl (same_upd rfl (same_upd rfl (same_upd rfl (same_upd rfl (same_upd rfl (same_upd rfl (same_upd rfl (same_upd rfl (same_upd rfl (same_upd rfl (same_upd rfl (same_upd rfl (same_upd rfl (same_upd rfl (same_upd rfl (same_upd rfl (same_upd rfl (same_upd rfl (same_upd rfl (same_upd rfl (same_upd rfl (same_upd rfl (same_upd rfl (same_upd rfl (same_upd rfl (same_upd rfl (same_upd rfl (same_upd rfl (same_upd rfl (same_upd rfl (same_upd rfl (same_upd rfl (same_upd rfl (same_upd rfl (same_upd rfl (same_upd rfl (same_upd rfl (same_upd rfl (same_upd rfl (same_upd rfl (same_ovr))))))))))))))))))))))))))))))))))))))))))))))))))))))))))))))))))
                · have g113 := of_decide_eq_false b97
                  refine wp_know 83 (.bool false) (congrArg Value.bool b97) ?_
                  have g114 := of_decide_eq_false b97
                  refine wp_iff rfl ?_
                  refine w_seq ?_
                  have hge := of_decide_eq_false b97
                  refine q_start H80 (by kernel_rfl) (by kernel_rfl) ?_
                  refine q_val (wants0 rfl) (d := 88) (v := (.pointer (some ⟨b51, 34, none⟩))) rfl (fun _ H' => (by kernel_rfl)) ?_
                  refine q_val (wants0 rfl) (d := 89) (v := (.int .u64 (timeD ((((P.getD i pr0).C).getD k ce0).S)))) rfl (fun _ H' => (e_load1 rfl (by kernel_rfl) (H'.cell 4 rfl (by kernel_rfl)))) ?_
                  refine q_val (wants0 rfl) (d := 90) (v := (.slice oa2 O2.length oc2)) rfl (fun _ H' => (by kernel_rfl)) ?_
                  refine q_val (wants0 rfl) (d := 91) (v := (.int .i64 (a))) rfl (fun _ H' => (by kernel_rfl)) ?_
                  obtain ⟨g115, c116, e117⟩ := row_shape (H80.at 2 rfl) (by omega)
                  obtain ⟨x118, h119⟩ := get_at (show (a).toNat < O2.length by omega)
                  refine q_val (wants0 rfl) (d := 92) (v := (.pointer (some ⟨g115, 0 + (a).toNat * 35, none⟩))) rfl (fun _ H' => (e_indexAddrV (E := 50) (by kernel_rfl) (by kernel_rfl) (Nat.le_of_ble_eq_true rfl) rfl e117 rfl (by omega) (by omega))) ?_
                  refine q_val (wants0 rfl) (d := 93) (v := (.pointer (some ⟨g115, 0 + (a).toNat * 35 + 34, none⟩))) rfl (fun _ H' => (by kernel_rfl)) ?_
                  refine q_val (wants0 rfl) (d := 94) (v := (.int .u64 (x118.t))) rfl (fun _ H' => (e_load1 rfl (by kernel_rfl) (rows_cell (H'.at 2 rfl) e117 encEn_len h119 34 rfl (show 0 + (a).toNat * 35 + 34 = (a).toNat * 35 + 34 by omega) (by kernel_rfl)))) ?_
                  refine q_val (wants0 rfl) (d := 95) (v := (.bool (decide ((timeD ((((P.getD i pr0).C).getD k ce0).S)) < x118.t)))) rfl (fun _ H' => (by kernel_rfl)) ?_
                  refine q_val (wants0 rfl) (d := 96) (v := (.bool (decide ((timeD ((((P.getD i pr0).C).getD k ce0).S)) < x118.t)))) rfl (fun _ H' => (by kernel_rfl)) ?_
                  refine (bsplit (decide ((timeD ((((P.getD i pr0).C).getD k ce0).S)) < x118.t))).elim (fun b120 => ?_) (fun b120 => ?_)
                  · have g121 := of_decide_eq_true b120
                    refine q_know 96 (.bool true) (congrArg Value.bool b120) ?_
                    have g122 := of_decide_eq_true b120
                    refine q_pass (wantsN 8 96 false rfl (by kernel_rfl) rfl (by kernel_rfl)) rfl ?_
                    refine q_pass (wantsN 8 96 false rfl (by kernel_rfl) rfl (by kernel_rfl)) rfl ?_
                    refine q_pass (wantsN 8 96 false rfl (by kernel_rfl) rfl (by kernel_rfl)) rfl ?_
                    refine q_pass (wantsN 8 96 false rfl (by kernel_rfl) rfl (by kernel_rfl)) rfl ?_
                    refine q_pass (wantsN 8 96 false rfl (by kernel_rfl) rfl (by kernel_rfl)) rfl ?_
                    refine q_pass (wantsN 8 96 false rfl (by kernel_rfl) rfl (by kernel_rfl)) rfl ?_
                    refine q_pass (wantsN 8 96 false rfl (by kernel_rfl) rfl (by kernel_rfl)) rfl ?_
                    refine q_pass (wantsN 8 96 false rfl (by kernel_rfl) rfl (by kernel_rfl)) rfl ?_
                    refine q_pass (wantsN 8 96 false rfl (by kernel_rfl) rfl (by kernel_rfl)) rfl ?_
                    refine q_pass (wantsU 17 105 true rfl (by kernel_rfl) rfl (by kernel_rfl)) rfl ?_
                    refine q_pass (wantsU 17 105 true rfl (by kernel_rfl) rfl (by kernel_rfl)) rfl ?_
                    refine q_pass (wantsU 17 105 true rfl (by kernel_rfl) rfl (by kernel_rfl)) rfl ?_
                    refine q_pass (wantsU 17 105 true rfl (by kernel_rfl) rfl (by kernel_rfl)) rfl ?_
                    refine q_pass (wantsU 17 105 true rfl (by kernel_rfl) rfl (by kernel_rfl)) rfl ?_
                    refine q_pass (wantsU 17 105 true rfl (by kernel_rfl) rfl (by kernel_rfl)) rfl ?_
                    refine q_pass (wantsU 17 105 true rfl (by kernel_rfl) rfl (by kernel_rfl)) rfl ?_
                    refine q_pass (wantsU 17 105 true rfl (by kernel_rfl) rfl (by kernel_rfl)) rfl ?_
                    refine q_pass (wantsN 8 96 false rfl (by kernel_rfl) rfl (by kernel_rfl)) rfl ?_
                    refine q_val (wants0 rfl) (d := 115) (v := (.bool true)) rfl (fun _ H' => (by kernel_rfl)) ?_
                    refine q_end ?_
                    intro w123 H124
                    refine then_normal ?_
                    refine wp_ift rfl ?_
                    refine w_lit ?_
                    refine wl_pure (wants0 rfl) (d := 116) (v := (.slice oa2 O2.length oc2)) rfl (by kernel_rfl) ?_
                    refine wl_pure (wants0 rfl) (d := 117) (v := (.int .i64 (a))) rfl (by kernel_rfl) ?_
                    refine wl_pure (wants0 rfl) (d := 118) (v := (.agg ⟨(([(.int .i64 ((((P.getD i pr0).C).getD k ce0).x.cl)), (.int .i64 ((((P.getD i pr0).C).getD k ce0).x.seq))] : List Value) ++ hc (((P.getD i pr0).C).getD k ce0).x.h ++ ([(.int .u64 (timeD ((((P.getD i pr0).C).getD k ce0).S)))] : List Value))⟩)) rfl (e_loadN (vs := (([(.int .i64 ((((P.getD i pr0).C).getD k ce0).x.cl)), (.int .i64 ((((P.getD i pr0).C).getD k ce0).x.seq))] : List Value) ++ hc (((P.getD i pr0).C).getD k ce0).x.h ++ ([(.int .u64 (timeD ((((P.getD i pr0).C).getD k ce0).S)))] : List Value))) rfl (by kernel_rfl) (by kernel_rfl) (by exact Nat.le_of_ble_eq_true (by kernel_rfl)) (H124.at 4 rfl) (by kernel_rfl)) ?_
                    refine wl_pure (wants0 rfl) (d := 119) (v := (.pointer (some ⟨g115, 0 + (a).toNat * 35, none⟩))) rfl (e_indexAddrV (E := 50) (by kernel_rfl) (by kernel_rfl) (Nat.le_of_ble_eq_true rfl) rfl e117 rfl (by omega) (by omega)) ?_
                    refine wl_do (wants0 rfl) (fun K125 hK125 => ?_)
                    have f128 := flat_set encEn 35 encEn_len O2 ((a).toNat) (⟨(((P.getD i pr0).C).getD k ce0).x.cl, (((P.getD i pr0).C).getD k ce0).x.seq, ((((P.getD i pr0).C).getD k ce0).x.h), timeD ((((P.getD i pr0).C).getD k ce0).S)⟩ : EntD) (by first | omega | (simp only [List.length_set]; omega))
                    refine d_storeRow (u := (.agg ⟨(([(.int .i64 ((((P.getD i pr0).C).getD k ce0).x.cl)), (.int .i64 ((((P.getD i pr0).C).getD k ce0).x.seq))] : List Value) ++ hc (((P.getD i pr0).C).getD k ce0).x.h ++ ([(.int .u64 (timeD ((((P.getD i pr0).C).getD k ce0).S)))] : List Value))⟩)) (vs := (([(.int .i64 ((((P.getD i pr0).C).getD k ce0).x.cl)), (.int .i64 ((((P.getD i pr0).C).getD k ce0).x.seq))] : List Value) ++ hc (((P.getD i pr0).C).getD k ce0).x.h ++ ([(.int .u64 (timeD ((((P.getD i pr0).C).getD k ce0).S)))] : List Value))) rfl H124 2 rfl e117 rfl rfl rfl (by kernel_rfl) (Nat.lt_of_lt_of_eq (show 0 < 35 by decide) (show 35 = ((([(.int .i64 ((((P.getD i pr0).C).getD k ce0).x.cl)), (.int .i64 ((((P.getD i pr0).C).getD k ce0).x.seq))] : List Value) ++ hc (((P.getD i pr0).C).getD k ce0).x.h ++ ([(.int .u64 (timeD ((((P.getD i pr0).C).getD k ce0).S)))] : List Value)) : List Value).length by kernel_rfl)) (by have q := flat_len encEn 35 encEn_len O2; rw [q, show ((([(.int .i64 ((((P.getD i pr0).C).getD k ce0).x.cl)), (.int .i64 ((((P.getD i pr0).C).getD k ce0).x.seq))] : List Value) ++ hc (((P.getD i pr0).C).getD k ce0).x.h ++ ([(.int .u64 (timeD ((((P.getD i pr0).C).getD k ce0).S)))] : List Value)) : List Value).length = 35 from (by kernel_rfl)]; first | omega | (simp only [List.length_set]; omega)) (by kernel_rfl) ((congrArg (fun o_ => splice (O2.flatMap encEn) o_ (([(.int .i64 ((((P.getD i pr0).C).getD k ce0).x.cl)), (.int .i64 ((((P.getD i pr0).C).getD k ce0).x.seq))] : List Value) ++ hc (((P.getD i pr0).C).getD k ce0).x.h ++ ([(.int .u64 (timeD ((((P.getD i pr0).C).getD k ce0).S)))] : List Value))) (show 0 + (a).toNat * 35 = ((a).toNat) * 35 by omega)).trans f128) ?_
                    intro w126 (H127 : Sat w [restC w (fun _ => False), cellC b2 27 ([(.int .i64 (ep)), (.int .u64 (tm)), (.slice pa P.length pc), (vo), (vt)] : List Value), rowC 50 35 (.slice oa2 O2.length oc2) O2.length ((O2.set ((a).toNat) (⟨(((P.getD i pr0).C).getD k ce0).x.cl, (((P.getD i pr0).C).getD k ce0).x.seq, ((((P.getD i pr0).C).getD k ce0).x.h), timeD ((((P.getD i pr0).C).getD k ce0).S)⟩ : EntD)).flatMap encEn), cellC b35 42 (([(.int .i64 ((((P.getD i pr0).C).getD k ce0).x.cl)), (.int .i64 ((((P.getD i pr0).C).getD k ce0).x.seq))] : List Value) ++ hc (((P.getD i pr0).C).getD k ce0).x.h ++ ([(.int .i64 ((((P.getD i pr0).C).getD k ce0).x.len)), (.int .i64 ((((P.getD i pr0).C).getD k ce0).x.sb)), (.int .i64 ((((P.getD i pr0).C).getD k ce0).x.sm)), (.slice (((P.getD i pr0).C).getD k ce0).sa ((((P.getD i pr0).C).getD k ce0).S).length (((P.getD i pr0).C).getD k ce0).sc)] : List Value)), cellC b51 50 (([(.int .i64 ((((P.getD i pr0).C).getD k ce0).x.cl)), (.int .i64 ((((P.getD i pr0).C).getD k ce0).x.seq))] : List Value) ++ hc (((P.getD i pr0).C).getD k ce0).x.h ++ ([(.int .u64 (timeD ((((P.getD i pr0).C).getD k ce0).S)))] : List Value))] w126)
                    refine hK125 _ _ ?_
                    clear hK125 K125
                    refine w_nil ?_
                    refine blk_normal ?_
                    refine then_normal ?_
                    have H129 : Sat w [restC w (fun _ => False), cellC b2 27 ([(.int .i64 (ep)), (.int .u64 (tm)), (.slice pa P.length pc), (vo), (vt)] : List Value), rowC 50 35 (.slice oa2 ((O2.set ((a).toNat) (⟨(((P.getD i pr0).C).getD k ce0).x.cl, (((P.getD i pr0).C).getD k ce0).x.seq, ((((P.getD i pr0).C).getD k ce0).x.h), timeD ((((P.getD i pr0).C).getD k ce0).S)⟩ : EntD)).length) oc2) ((O2.set ((a).toNat) (⟨(((P.getD i pr0).C).getD k ce0).x.cl, (((P.getD i pr0).C).getD k ce0).x.seq, ((((P.getD i pr0).C).getD k ce0).x.h), timeD ((((P.getD i pr0).C).getD k ce0).S)⟩ : EntD)).length) ((O2.set ((a).toNat) (⟨(((P.getD i pr0).C).getD k ce0).x.cl, (((P.getD i pr0).C).getD k ce0).x.seq, ((((P.getD i pr0).C).getD k ce0).x.h), timeD ((((P.getD i pr0).C).getD k ce0).S)⟩ : EntD)).flatMap encEn), cellC b35 42 (([(.int .i64 ((((P.getD i pr0).C).getD k ce0).x.cl)), (.int .i64 ((((P.getD i pr0).C).getD k ce0).x.seq))] : List Value) ++ hc (((P.getD i pr0).C).getD k ce0).x.h ++ ([(.int .i64 ((((P.getD i pr0).C).getD k ce0).x.len)), (.int .i64 ((((P.getD i pr0).C).getD k ce0).x.sb)), (.int .i64 ((((P.getD i pr0).C).getD k ce0).x.sm)), (.slice (((P.getD i pr0).C).getD k ce0).sa ((((P.getD i pr0).C).getD k ce0).S).length (((P.getD i pr0).C).getD k ce0).sc)] : List Value)), cellC b51 50 (([(.int .i64 ((((P.getD i pr0).C).getD k ce0).x.cl)), (.int .i64 ((((P.getD i pr0).C).getD k ce0).x.seq))] : List Value) ++ hc (((P.getD i pr0).C).getD k ce0).x.h ++ ([(.int .u64 (timeD ((((P.getD i pr0).C).getD k ce0).S)))] : List Value))] w126 := by simpa only [List.length_set] using H127
                    refine wp_know 7 (.slice oa2 ((O2.set ((a).toNat) (⟨(((P.getD i pr0).C).getD k ce0).x.cl, (((P.getD i pr0).C).getD k ce0).x.seq, ((((P.getD i pr0).C).getD k ce0).x.h), timeD ((((P.getD i pr0).C).getD k ce0).S)⟩ : EntD)).length) oc2) (show ((.slice oa2 O2.length oc2) : Value) = _ by simp only [List.length_set]) ?_
                    refine w_lit ?_
                    refine wl_pure (wants0 rfl) (d := 120) (v := (.int .i64 ((k : Int) + 1))) rfl (e_int (z := (k : Int) + 1) (by kernel_rfl) (IntWalk.i64_in _ (by omega))) ?_
                    refine wl_pure (wants0 rfl) (d := 29) (v := (.int .i64 ((k : Int) + 1))) rfl (by kernel_rfl) ?_
                    refine w_nil ?_
                    have H130 : Sat w [restC w (fun _ => False), cellC b2 27 ([(.int .i64 (ep)), (.int .u64 (tm)), (.slice pa P.length pc), (vo), (vt)] : List Value), rowC 50 35 (.slice oa2 ((O2.set ((a).toNat) (⟨(((P.getD i pr0).C).getD k ce0).x.cl, (((P.getD i pr0).C).getD k ce0).x.seq, ((((P.getD i pr0).C).getD k ce0).x.h), timeD ((((P.getD i pr0).C).getD k ce0).S)⟩ : EntD)).length) oc2) ((O2.set ((a).toNat) (⟨(((P.getD i pr0).C).getD k ce0).x.cl, (((P.getD i pr0).C).getD k ce0).x.seq, ((((P.getD i pr0).C).getD k ce0).x.h), timeD ((((P.getD i pr0).C).getD k ce0).S)⟩ : EntD)).length) ((O2.set ((a).toNat) (⟨(((P.getD i pr0).C).getD k ce0).x.cl, (((P.getD i pr0).C).getD k ce0).x.seq, ((((P.getD i pr0).C).getD k ce0).x.h), timeD ((((P.getD i pr0).C).getD k ce0).S)⟩ : EntD)).flatMap encEn)] w126 := H129.pick [0, 1, 2] (by decide)
                    refine round_back ?_ _ ⟨(k + 1), oa2, oc2, (O2.set ((a).toNat) (⟨(((P.getD i pr0).C).getD k ce0).x.cl, (((P.getD i pr0).C).getD k ce0).x.seq, ((((P.getD i pr0).C).getD k ce0).x.h), timeD ((((P.getD i pr0).C).getD k ce0).S)⟩ : EntD)), (show ((.int .i64 ((k : Int) + 1)) : Value) = _ by first | rfl | go_num), (show ((.slice oa2 ((O2.set ((a).toNat) (⟨(((P.getD i pr0).C).getD k ce0).x.cl, (((P.getD i pr0).C).getD k ce0).x.seq, ((((P.getD i pr0).C).getD k ce0).x.h), timeD ((((P.getD i pr0).C).getD k ce0).S)⟩ : EntD)).length) oc2) : Value) = _ by first | rfl | go_num), (by omega), (out_set hO2 (by omega) hcs (skip0l b60 b66 (by rw [hlg]; exact b76)) hat (by have q := of_decide_eq_false b97; omega) (x := x118) h119 (ah1 b120)), H130, rfl⟩ (by omega)
                    exact (same_upd rfl (same_upd rfl (same_upd rfl (same_upd rfl (same_upd rfl (same_upd rfl (same_upd rfl (same_upd rfl (same_upd rfl (same_upd rfl (same_upd rfl (same_upd rfl (same_upd rfl (same_upd rfl (same_upd rfl (same_upd rfl (same_upd rfl (same_upd rfl (same_upd rfl (same_upd rfl (same_upd rfl (same_upd rfl (same_upd rfl (same_upd rfl (same_upd rfl (same_upd rfl (same_upd rfl (same_upd rfl (same_upd rfl (same_upd rfl (same_upd rfl (same_upd rfl (same_upd rfl (same_upd rfl (same_upd rfl (same_upd rfl (same_upd rfl (same_upd rfl (same_upd rfl (same_upd rfl (same_upd rfl (same_upd rfl (same_upd rfl (same_ovr2 rfl (same_upd rfl (same_upd rfl (same_upd rfl (same_upd rfl (same_upd rfl (same_upd rfl (same_upd rfl (same_upd rfl (same_upd rfl (same_upd rfl (same_upd rfl (same_upd rfl (same_upd rfl (same_upd rfl (same_upd rfl (same_upd rfl (same_upd rfl (same_upd rfl (same_upd rfl (same_upd rfl (same_upd rfl (same_upd rfl (same_upd rfl (same_upd rfl (same_upd rfl (same_upd rfl (same_upd rfl (same_upd rfl (same_upd rfl (same_upd rfl (same_upd rfl (same_upd rfl (same_upd rfl (same_upd rfl (same_upd rfl (same_upd rfl (same_upd rfl (same_upd rfl (same_upd rfl (same_upd rfl (same_upd rfl (same_upd rfl (same_upd rfl (same_upd rfl (same_upd rfl (same_upd rfl (same_upd rfl (same_upd rfl (same_upd rfl (same_upd rfl (same_ovr)))))))))))))))))))))))))))))))))))))))))))))))))))))))))))))))))))))))))))))))))))))))))))))))
                  · have g131 := of_decide_eq_false b120
                    refine q_know 96 (.bool false) (congrArg Value.bool b120) ?_
                    have g132 := of_decide_eq_false b120
                    refine q_val (wantsY 8 96 false rfl (by kernel_rfl) rfl (by kernel_rfl)) (d := 97) (v := (.pointer (some ⟨b51, 34, none⟩))) rfl (fun _ H' => (by kernel_rfl)) ?_
                    refine q_val (wantsY 8 96 false rfl (by kernel_rfl) rfl (by kernel_rfl)) (d := 98) (v := (.int .u64 (timeD ((((P.getD i pr0).C).getD k ce0).S)))) rfl (fun _ H' => (e_load1 rfl (by kernel_rfl) (H'.cell 4 rfl (by kernel_rfl)))) ?_
                    refine q_val (wantsY 8 96 false rfl (by kernel_rfl) rfl (by kernel_rfl)) (d := 99) (v := (.slice oa2 O2.length oc2)) rfl (fun _ H' => (by kernel_rfl)) ?_
                    refine q_val (wantsY 8 96 false rfl (by kernel_rfl) rfl (by kernel_rfl)) (d := 100) (v := (.int .i64 (a))) rfl (fun _ H' => (by kernel_rfl)) ?_
                    refine q_val (wantsY 8 96 false rfl (by kernel_rfl) rfl (by kernel_rfl)) (d := 101) (v := (.pointer (some ⟨g115, 0 + (a).toNat * 35, none⟩))) rfl (fun _ H' => (e_indexAddrV (E := 50) (by kernel_rfl) (by kernel_rfl) (Nat.le_of_ble_eq_true rfl) rfl e117 rfl (by omega) (by omega))) ?_
                    refine q_val (wantsY 8 96 false rfl (by kernel_rfl) rfl (by kernel_rfl)) (d := 102) (v := (.pointer (some ⟨g115, 0 + (a).toNat * 35 + 34, none⟩))) rfl (fun _ H' => (by kernel_rfl)) ?_
                    refine q_val (wantsY 8 96 false rfl (by kernel_rfl) rfl (by kernel_rfl)) (d := 103) (v := (.int .u64 (x118.t))) rfl (fun _ H' => (e_load1 rfl (by kernel_rfl) (rows_cell (H'.at 2 rfl) e117 encEn_len h119 34 rfl (show 0 + (a).toNat * 35 + 34 = (a).toNat * 35 + 34 by omega) (by kernel_rfl)))) ?_
                    refine q_val (wantsY 8 96 false rfl (by kernel_rfl) rfl (by kernel_rfl)) (d := 104) (v := (.bool (decide ((timeD ((((P.getD i pr0).C).getD k ce0).S)) = x118.t)))) rfl (fun _ H' => (by kernel_rfl)) ?_
                    refine q_val (wantsY 8 96 false rfl (by kernel_rfl) rfl (by kernel_rfl)) (d := 105) (v := (.bool (decide ((timeD ((((P.getD i pr0).C).getD k ce0).S)) = x118.t)))) rfl (fun _ H' => (by kernel_rfl)) ?_
                    refine (bsplit (decide ((timeD ((((P.getD i pr0).C).getD k ce0).S)) = x118.t))).elim (fun b133 => ?_) (fun b133 => ?_)
                    · have g134 := of_decide_eq_true b133
                      refine q_know 105 (.bool true) (congrArg Value.bool b133) ?_
                      have g135 := of_decide_eq_true b133
                      refine q_val (wantsY 17 105 true rfl (by kernel_rfl) rfl (by kernel_rfl)) (d := 106) (v := (.pointer (some ⟨b51, 2, none⟩))) rfl (fun _ H' => (by kernel_rfl)) ?_
                      refine q_val (wantsY 17 105 true rfl (by kernel_rfl) rfl (by kernel_rfl)) (d := 107) (v := (.agg ⟨(hc (((P.getD i pr0).C).getD k ce0).x.h)⟩)) rfl (fun _ H' => (e_loadN (vs := (hc (((P.getD i pr0).C).getD k ce0).x.h)) rfl (by kernel_rfl) (by kernel_rfl) (by exact Nat.le_of_ble_eq_true (by kernel_rfl)) (H'.at 4 rfl) (by kernel_rfl))) ?_
                      refine q_val (wantsY 17 105 true rfl (by kernel_rfl) rfl (by kernel_rfl)) (d := 108) (v := (.slice oa2 O2.length oc2)) rfl (fun _ H' => (by kernel_rfl)) ?_
                      refine q_val (wantsY 17 105 true rfl (by kernel_rfl) rfl (by kernel_rfl)) (d := 109) (v := (.int .i64 (a))) rfl (fun _ H' => (by kernel_rfl)) ?_
                      refine q_val (wantsY 17 105 true rfl (by kernel_rfl) rfl (by kernel_rfl)) (d := 110) (v := (.pointer (some ⟨g115, 0 + (a).toNat * 35, none⟩))) rfl (fun _ H' => (e_indexAddrV (E := 50) (by kernel_rfl) (by kernel_rfl) (Nat.le_of_ble_eq_true rfl) rfl e117 rfl (by omega) (by omega))) ?_
                      refine q_val (wantsY 17 105 true rfl (by kernel_rfl) rfl (by kernel_rfl)) (d := 111) (v := (.pointer (some ⟨g115, 0 + (a).toNat * 35 + 2, none⟩))) rfl (fun _ H' => (by kernel_rfl)) ?_
                      refine q_val (wantsY 17 105 true rfl (by kernel_rfl) rfl (by kernel_rfl)) (d := 112) (v := (.agg ⟨(hc x118.h)⟩)) rfl (fun _ H' => (e_loadRun (vs := (hc x118.h)) rfl (by kernel_rfl) (by kernel_rfl) (Nat.le_of_ble_eq_true (by kernel_rfl)) (rows_run (H'.at 2 rfl) e117 encEn_len h119 2 (show 0 + (a).toNat * 35 + 2 = (a).toNat * 35 + 2 by omega) (by kernel_rfl) (by kernel_rfl)))) ?_
                      refine q_call (wantsY 17 105 true rfl (by kernel_rfl) rfl (by kernel_rfl)) (d := 113) (v := (.bool (lessB ((((P.getD i pr0).C).getD k ce0).x.h) x118.h))) rfl (fun _ _ => by kernel_rfl) (fun w' H' => (lessHash_any w' ((((P.getD i pr0).C).getD k ce0).x.h) x118.h).mono fun _ _ h => ⟨h.1, H'.keepU h.2⟩) ?_
                      refine q_val (wantsY 8 96 false rfl (by kernel_rfl) rfl (by kernel_rfl)) (d := 114) (v := (.bool (lessB ((((P.getD i pr0).C).getD k ce0).x.h) x118.h))) rfl (fun _ H' => (by kernel_rfl)) ?_
                      refine q_val (wants0 rfl) (d := 115) (v := (.bool (lessB ((((P.getD i pr0).C).getD k ce0).x.h) x118.h))) rfl (fun _ H' => (by kernel_rfl)) ?_
                      refine q_end ?_
                      intro w136 H137
                      refine then_normal ?_
                      refine (bsplit (lessB ((((P.getD i pr0).C).getD k ce0).x.h) x118.h)).elim (fun b138 => ?_) (fun b138 => ?_)
                      · refine wp_know 115 (.bool true) (congrArg Value.bool b138) ?_
                        refine wp_ift rfl ?_
                        refine w_lit ?_
                        refine wl_pure (wants0 rfl) (d := 116) (v := (.slice oa2 O2.length oc2)) rfl (by kernel_rfl) ?_
                        refine wl_pure (wants0 rfl) (d := 117) (v := (.int .i64 (a))) rfl (by kernel_rfl) ?_
                        refine wl_pure (wants0 rfl) (d := 118) (v := (.agg ⟨(([(.int .i64 ((((P.getD i pr0).C).getD k ce0).x.cl)), (.int .i64 ((((P.getD i pr0).C).getD k ce0).x.seq))] : List Value) ++ hc (((P.getD i pr0).C).getD k ce0).x.h ++ ([(.int .u64 (timeD ((((P.getD i pr0).C).getD k ce0).S)))] : List Value))⟩)) rfl (e_loadN (vs := (([(.int .i64 ((((P.getD i pr0).C).getD k ce0).x.cl)), (.int .i64 ((((P.getD i pr0).C).getD k ce0).x.seq))] : List Value) ++ hc (((P.getD i pr0).C).getD k ce0).x.h ++ ([(.int .u64 (timeD ((((P.getD i pr0).C).getD k ce0).S)))] : List Value))) rfl (by kernel_rfl) (by kernel_rfl) (by exact Nat.le_of_ble_eq_true (by kernel_rfl)) (H137.at 4 rfl) (by kernel_rfl)) ?_
                        refine wl_pure (wants0 rfl) (d := 119) (v := (.pointer (some ⟨g115, 0 + (a).toNat * 35, none⟩))) rfl (e_indexAddrV (E := 50) (by kernel_rfl) (by kernel_rfl) (Nat.le_of_ble_eq_true rfl) rfl e117 rfl (by omega) (by omega)) ?_
                        refine wl_do (wants0 rfl) (fun K139 hK139 => ?_)
                        have f142 := flat_set encEn 35 encEn_len O2 ((a).toNat) (⟨(((P.getD i pr0).C).getD k ce0).x.cl, (((P.getD i pr0).C).getD k ce0).x.seq, ((((P.getD i pr0).C).getD k ce0).x.h), timeD ((((P.getD i pr0).C).getD k ce0).S)⟩ : EntD) (by first | omega | (simp only [List.length_set]; omega))
                        refine d_storeRow (u := (.agg ⟨(([(.int .i64 ((((P.getD i pr0).C).getD k ce0).x.cl)), (.int .i64 ((((P.getD i pr0).C).getD k ce0).x.seq))] : List Value) ++ hc (((P.getD i pr0).C).getD k ce0).x.h ++ ([(.int .u64 (timeD ((((P.getD i pr0).C).getD k ce0).S)))] : List Value))⟩)) (vs := (([(.int .i64 ((((P.getD i pr0).C).getD k ce0).x.cl)), (.int .i64 ((((P.getD i pr0).C).getD k ce0).x.seq))] : List Value) ++ hc (((P.getD i pr0).C).getD k ce0).x.h ++ ([(.int .u64 (timeD ((((P.getD i pr0).C).getD k ce0).S)))] : List Value))) rfl H137 2 rfl e117 rfl rfl rfl (by kernel_rfl) (Nat.lt_of_lt_of_eq (show 0 < 35 by decide) (show 35 = ((([(.int .i64 ((((P.getD i pr0).C).getD k ce0).x.cl)), (.int .i64 ((((P.getD i pr0).C).getD k ce0).x.seq))] : List Value) ++ hc (((P.getD i pr0).C).getD k ce0).x.h ++ ([(.int .u64 (timeD ((((P.getD i pr0).C).getD k ce0).S)))] : List Value)) : List Value).length by kernel_rfl)) (by have q := flat_len encEn 35 encEn_len O2; rw [q, show ((([(.int .i64 ((((P.getD i pr0).C).getD k ce0).x.cl)), (.int .i64 ((((P.getD i pr0).C).getD k ce0).x.seq))] : List Value) ++ hc (((P.getD i pr0).C).getD k ce0).x.h ++ ([(.int .u64 (timeD ((((P.getD i pr0).C).getD k ce0).S)))] : List Value)) : List Value).length = 35 from (by kernel_rfl)]; first | omega | (simp only [List.length_set]; omega)) (by kernel_rfl) ((congrArg (fun o_ => splice (O2.flatMap encEn) o_ (([(.int .i64 ((((P.getD i pr0).C).getD k ce0).x.cl)), (.int .i64 ((((P.getD i pr0).C).getD k ce0).x.seq))] : List Value) ++ hc (((P.getD i pr0).C).getD k ce0).x.h ++ ([(.int .u64 (timeD ((((P.getD i pr0).C).getD k ce0).S)))] : List Value))) (show 0 + (a).toNat * 35 = ((a).toNat) * 35 by omega)).trans f142) ?_
                        intro w140 (H141 : Sat w [restC w (fun _ => False), cellC b2 27 ([(.int .i64 (ep)), (.int .u64 (tm)), (.slice pa P.length pc), (vo), (vt)] : List Value), rowC 50 35 (.slice oa2 O2.length oc2) O2.length ((O2.set ((a).toNat) (⟨(((P.getD i pr0).C).getD k ce0).x.cl, (((P.getD i pr0).C).getD k ce0).x.seq, ((((P.getD i pr0).C).getD k ce0).x.h), timeD ((((P.getD i pr0).C).getD k ce0).S)⟩ : EntD)).flatMap encEn), cellC b35 42 (([(.int .i64 ((((P.getD i pr0).C).getD k ce0).x.cl)), (.int .i64 ((((P.getD i pr0).C).getD k ce0).x.seq))] : List Value) ++ hc (((P.getD i pr0).C).getD k ce0).x.h ++ ([(.int .i64 ((((P.getD i pr0).C).getD k ce0).x.len)), (.int .i64 ((((P.getD i pr0).C).getD k ce0).x.sb)), (.int .i64 ((((P.getD i pr0).C).getD k ce0).x.sm)), (.slice (((P.getD i pr0).C).getD k ce0).sa ((((P.getD i pr0).C).getD k ce0).S).length (((P.getD i pr0).C).getD k ce0).sc)] : List Value)), cellC b51 50 (([(.int .i64 ((((P.getD i pr0).C).getD k ce0).x.cl)), (.int .i64 ((((P.getD i pr0).C).getD k ce0).x.seq))] : List Value) ++ hc (((P.getD i pr0).C).getD k ce0).x.h ++ ([(.int .u64 (timeD ((((P.getD i pr0).C).getD k ce0).S)))] : List Value))] w140)
                        refine hK139 _ _ ?_
                        clear hK139 K139
                        refine w_nil ?_
                        refine blk_normal ?_
                        refine then_normal ?_
                        have H143 : Sat w [restC w (fun _ => False), cellC b2 27 ([(.int .i64 (ep)), (.int .u64 (tm)), (.slice pa P.length pc), (vo), (vt)] : List Value), rowC 50 35 (.slice oa2 ((O2.set ((a).toNat) (⟨(((P.getD i pr0).C).getD k ce0).x.cl, (((P.getD i pr0).C).getD k ce0).x.seq, ((((P.getD i pr0).C).getD k ce0).x.h), timeD ((((P.getD i pr0).C).getD k ce0).S)⟩ : EntD)).length) oc2) ((O2.set ((a).toNat) (⟨(((P.getD i pr0).C).getD k ce0).x.cl, (((P.getD i pr0).C).getD k ce0).x.seq, ((((P.getD i pr0).C).getD k ce0).x.h), timeD ((((P.getD i pr0).C).getD k ce0).S)⟩ : EntD)).length) ((O2.set ((a).toNat) (⟨(((P.getD i pr0).C).getD k ce0).x.cl, (((P.getD i pr0).C).getD k ce0).x.seq, ((((P.getD i pr0).C).getD k ce0).x.h), timeD ((((P.getD i pr0).C).getD k ce0).S)⟩ : EntD)).flatMap encEn), cellC b35 42 (([(.int .i64 ((((P.getD i pr0).C).getD k ce0).x.cl)), (.int .i64 ((((P.getD i pr0).C).getD k ce0).x.seq))] : List Value) ++ hc (((P.getD i pr0).C).getD k ce0).x.h ++ ([(.int .i64 ((((P.getD i pr0).C).getD k ce0).x.len)), (.int .i64 ((((P.getD i pr0).C).getD k ce0).x.sb)), (.int .i64 ((((P.getD i pr0).C).getD k ce0).x.sm)), (.slice (((P.getD i pr0).C).getD k ce0).sa ((((P.getD i pr0).C).getD k ce0).S).length (((P.getD i pr0).C).getD k ce0).sc)] : List Value)), cellC b51 50 (([(.int .i64 ((((P.getD i pr0).C).getD k ce0).x.cl)), (.int .i64 ((((P.getD i pr0).C).getD k ce0).x.seq))] : List Value) ++ hc (((P.getD i pr0).C).getD k ce0).x.h ++ ([(.int .u64 (timeD ((((P.getD i pr0).C).getD k ce0).S)))] : List Value))] w140 := by simpa only [List.length_set] using H141
                        refine wp_know 7 (.slice oa2 ((O2.set ((a).toNat) (⟨(((P.getD i pr0).C).getD k ce0).x.cl, (((P.getD i pr0).C).getD k ce0).x.seq, ((((P.getD i pr0).C).getD k ce0).x.h), timeD ((((P.getD i pr0).C).getD k ce0).S)⟩ : EntD)).length) oc2) (show ((.slice oa2 O2.length oc2) : Value) = _ by simp only [List.length_set]) ?_
                        refine w_lit ?_
                        refine wl_pure (wants0 rfl) (d := 120) (v := (.int .i64 ((k : Int) + 1))) rfl (e_int (z := (k : Int) + 1) (by kernel_rfl) (IntWalk.i64_in _ (by omega))) ?_
                        refine wl_pure (wants0 rfl) (d := 29) (v := (.int .i64 ((k : Int) + 1))) rfl (by kernel_rfl) ?_
                        refine w_nil ?_
                        have H144 : Sat w [restC w (fun _ => False), cellC b2 27 ([(.int .i64 (ep)), (.int .u64 (tm)), (.slice pa P.length pc), (vo), (vt)] : List Value), rowC 50 35 (.slice oa2 ((O2.set ((a).toNat) (⟨(((P.getD i pr0).C).getD k ce0).x.cl, (((P.getD i pr0).C).getD k ce0).x.seq, ((((P.getD i pr0).C).getD k ce0).x.h), timeD ((((P.getD i pr0).C).getD k ce0).S)⟩ : EntD)).length) oc2) ((O2.set ((a).toNat) (⟨(((P.getD i pr0).C).getD k ce0).x.cl, (((P.getD i pr0).C).getD k ce0).x.seq, ((((P.getD i pr0).C).getD k ce0).x.h), timeD ((((P.getD i pr0).C).getD k ce0).S)⟩ : EntD)).length) ((O2.set ((a).toNat) (⟨(((P.getD i pr0).C).getD k ce0).x.cl, (((P.getD i pr0).C).getD k ce0).x.seq, ((((P.getD i pr0).C).getD k ce0).x.h), timeD ((((P.getD i pr0).C).getD k ce0).S)⟩ : EntD)).flatMap encEn)] w140 := H143.pick [0, 1, 2] (by decide)
                        refine round_back ?_ _ ⟨(k + 1), oa2, oc2, (O2.set ((a).toNat) (⟨(((P.getD i pr0).C).getD k ce0).x.cl, (((P.getD i pr0).C).getD k ce0).x.seq, ((((P.getD i pr0).C).getD k ce0).x.h), timeD ((((P.getD i pr0).C).getD k ce0).S)⟩ : EntD)), (show ((.int .i64 ((k : Int) + 1)) : Value) = _ by first | rfl | go_num), (show ((.slice oa2 ((O2.set ((a).toNat) (⟨(((P.getD i pr0).C).getD k ce0).x.cl, (((P.getD i pr0).C).getD k ce0).x.seq, ((((P.getD i pr0).C).getD k ce0).x.h), timeD ((((P.getD i pr0).C).getD k ce0).S)⟩ : EntD)).length) oc2) : Value) = _ by first | rfl | go_num), (by omega), (out_set hO2 (by omega) hcs (skip0l b60 b66 (by rw [hlg]; exact b76)) hat (by have q := of_decide_eq_false b97; omega) (x := x118) h119 (ah2 b120 b133 b138)), H144, rfl⟩ (by omega)
                        exact (same_upd rfl (same_upd rfl (same_upd rfl (same_upd rfl (same_upd rfl (same_upd rfl (same_upd rfl (same_upd rfl (same_upd rfl (same_upd rfl (same_upd rfl (same_upd rfl (same_upd rfl (same_upd rfl (same_upd rfl (same_upd rfl (same_upd rfl (same_upd rfl (same_upd rfl (same_upd rfl (same_upd rfl (same_upd rfl (same_upd rfl (same_upd rfl (same_upd rfl (same_upd rfl (same_upd rfl (same_upd rfl (same_upd rfl (same_upd rfl (same_upd rfl (same_upd rfl (same_upd rfl (same_upd rfl (same_upd rfl (same_upd rfl (same_upd rfl (same_upd rfl (same_upd rfl (same_upd rfl (same_upd rfl (same_upd rfl (same_upd rfl (same_upd rfl (same_upd rfl (same_ovr2 rfl (same_upd rfl (same_upd rfl (same_upd rfl (same_upd rfl (same_upd rfl (same_upd rfl (same_upd rfl (same_upd rfl (same_upd rfl (same_upd rfl (same_upd rfl (same_upd rfl (same_upd rfl (same_upd rfl (same_upd rfl (same_upd rfl (same_upd rfl (same_upd rfl (same_upd rfl (same_upd rfl (same_upd rfl (same_upd rfl (same_upd rfl (same_upd rfl (same_upd rfl (same_upd rfl (same_upd rfl (same_upd rfl (same_upd rfl (same_upd rfl (same_upd rfl (same_upd rfl (same_upd rfl (same_upd rfl (same_upd rfl (same_upd rfl (same_upd rfl (same_upd rfl (same_upd rfl (same_upd rfl (same_upd rfl (same_upd rfl (same_upd rfl (same_upd rfl (same_upd rfl (same_upd rfl (same_upd rfl (same_upd rfl (same_upd rfl (same_upd rfl (same_ovr)))))))))))))))))))))))))))))))))))))))))))))))))))))))))))))))))))))))))))))))))))))))))))))))))
                      · refine wp_know 115 (.bool false) (congrArg Value.bool b138) ?_
                        refine wp_iff rfl ?_
                        refine w_skip ?_
                        refine blk_normal ?_
                        refine then_normal ?_
                        refine w_lit ?_
                        refine wl_pure (wants0 rfl) (d := 120) (v := (.int .i64 ((k : Int) + 1))) rfl (e_int (z := (k : Int) + 1) (by kernel_rfl) (IntWalk.i64_in _ (by omega))) ?_
                        refine wl_pure (wants0 rfl) (d := 29) (v := (.int .i64 ((k : Int) + 1))) rfl (by kernel_rfl) ?_
                        refine w_nil ?_
                        have H145 : Sat w [restC w (fun _ => False), cellC b2 27 ([(.int .i64 (ep)), (.int .u64 (tm)), (.slice pa P.length pc), (vo), (vt)] : List Value), rowC 50 35 (.slice oa2 O2.length oc2) O2.length (O2.flatMap encEn)] w136 := H137.pick [0, 1, 2] (by decide)
                        refine round_back ?_ _ ⟨(k + 1), oa2, oc2, O2, (show ((.int .i64 ((k : Int) + 1)) : Value) = _ by first | rfl | go_num), (show ((.slice oa2 O2.length oc2) : Value) = _ by first | rfl | go_num), (by omega), (out_keep hO2 (by omega) hcs (skip0l b60 b66 (by rw [hlg]; exact b76)) hat (by have q := of_decide_eq_false b97; omega) (x := x118) h119 (ah2 b120 b133 b138)), H145, rfl⟩ (by omega)
                        exact (same_upd rfl (same_upd rfl (same_upd rfl (same_upd rfl (same_upd rfl (same_upd rfl (same_upd rfl (same_upd rfl (same_upd rfl (same_upd rfl (same_upd rfl (same_upd rfl (same_upd rfl (same_upd rfl (same_upd rfl (same_upd rfl (same_upd rfl (same_upd rfl (same_upd rfl (same_upd rfl (same_upd rfl (same_upd rfl (same_upd rfl (same_upd rfl (same_upd rfl (same_upd rfl (same_upd rfl (same_upd rfl (same_upd rfl (same_upd rfl (same_upd rfl (same_upd rfl (same_upd rfl (same_upd rfl (same_upd rfl (same_upd rfl (same_upd rfl (same_upd rfl (same_upd rfl (same_upd rfl (same_ovr2 rfl (same_upd rfl (same_upd rfl (same_upd rfl (same_upd rfl (same_upd rfl (same_upd rfl (same_upd rfl (same_upd rfl (same_upd rfl (same_upd rfl (same_upd rfl (same_upd rfl (same_upd rfl (same_upd rfl (same_upd rfl (same_upd rfl (same_upd rfl (same_upd rfl (same_upd rfl (same_upd rfl (same_upd rfl (same_upd rfl (same_upd rfl (same_upd rfl (same_upd rfl (same_upd rfl (same_upd rfl (same_upd rfl (same_upd rfl (same_upd rfl (same_upd rfl (same_upd rfl (same_upd rfl (same_upd rfl (same_upd rfl (same_upd rfl (same_upd rfl (same_upd rfl (same_upd rfl (same_upd rfl (same_upd rfl (same_upd rfl (same_upd rfl (same_upd rfl (same_upd rfl (same_upd rfl (same_upd rfl (same_upd rfl (same_upd rfl (same_upd rfl (same_ovr))))))))))))))))))))))))))))))))))))))))))))))))))))))))))))))))))))))))))))))))))))))))))))
                    · have g146 := of_decide_eq_false b133
                      refine q_know 105 (.bool false) (congrArg Value.bool b133) ?_
                      have g147 := of_decide_eq_false b133
                      refine q_pass (wantsN 17 105 true rfl (by kernel_rfl) rfl (by kernel_rfl)) rfl ?_
                      refine q_pass (wantsN 17 105 true rfl (by kernel_rfl) rfl (by kernel_rfl)) rfl ?_
                      refine q_pass (wantsN 17 105 true rfl (by kernel_rfl) rfl (by kernel_rfl)) rfl ?_
                      refine q_pass (wantsN 17 105 true rfl (by kernel_rfl) rfl (by kernel_rfl)) rfl ?_
                      refine q_pass (wantsN 17 105 true rfl (by kernel_rfl) rfl (by kernel_rfl)) rfl ?_
                      refine q_pass (wantsN 17 105 true rfl (by kernel_rfl) rfl (by kernel_rfl)) rfl ?_
                      refine q_pass (wantsN 17 105 true rfl (by kernel_rfl) rfl (by kernel_rfl)) rfl ?_
                      refine q_pass (wantsN 17 105 true rfl (by kernel_rfl) rfl (by kernel_rfl)) rfl ?_
                      refine q_val (wantsY 8 96 false rfl (by kernel_rfl) rfl (by kernel_rfl)) (d := 114) (v := (.bool false)) rfl (fun _ H' => (by kernel_rfl)) ?_
                      refine q_val (wants0 rfl) (d := 115) (v := (.bool false)) rfl (fun _ H' => (by kernel_rfl)) ?_
                      refine q_end ?_
                      intro w148 H149
                      refine then_normal ?_
                      refine wp_iff rfl ?_
                      refine w_skip ?_
                      refine blk_normal ?_
                      refine then_normal ?_
                      refine w_lit ?_
                      refine wl_pure (wants0 rfl) (d := 120) (v := (.int .i64 ((k : Int) + 1))) rfl (e_int (z := (k : Int) + 1) (by kernel_rfl) (IntWalk.i64_in _ (by omega))) ?_
                      refine wl_pure (wants0 rfl) (d := 29) (v := (.int .i64 ((k : Int) + 1))) rfl (by kernel_rfl) ?_
                      refine w_nil ?_
                      have H150 : Sat w [restC w (fun _ => False), cellC b2 27 ([(.int .i64 (ep)), (.int .u64 (tm)), (.slice pa P.length pc), (vo), (vt)] : List Value), rowC 50 35 (.slice oa2 O2.length oc2) O2.length (O2.flatMap encEn)] w148 := H149.pick [0, 1, 2] (by decide)
                      refine round_back ?_ _ ⟨(k + 1), oa2, oc2, O2, (show ((.int .i64 ((k : Int) + 1)) : Value) = _ by first | rfl | go_num), (show ((.slice oa2 O2.length oc2) : Value) = _ by first | rfl | go_num), (by omega), (out_keep hO2 (by omega) hcs (skip0l b60 b66 (by rw [hlg]; exact b76)) hat (by have q := of_decide_eq_false b97; omega) (x := x118) h119 (ah3 b120 b133)), H150, rfl⟩ (by omega)
                      exact (same_upd rfl (same_upd rfl (same_upd rfl (same_upd rfl (same_upd rfl (same_upd rfl (same_upd rfl (same_upd rfl (same_upd rfl (same_upd rfl (same_upd rfl (same_upd rfl (same_upd rfl (same_upd rfl (same_upd rfl (same_upd rfl (same_upd rfl (same_upd rfl (same_upd rfl (same_upd rfl (same_upd rfl (same_upd rfl (same_upd rfl (same_upd rfl (same_upd rfl (same_upd rfl (same_upd rfl (same_upd rfl (same_upd rfl (same_upd rfl (same_upd rfl (same_upd rfl (same_upd rfl (same_upd rfl (same_upd rfl (same_upd rfl (same_upd rfl (same_upd rfl (same_upd rfl (same_ovr2 rfl (same_upd rfl (same_upd rfl (same_upd rfl (same_upd rfl (same_upd rfl (same_upd rfl (same_upd rfl (same_upd rfl (same_upd rfl (same_upd rfl (same_upd rfl (same_upd rfl (same_upd rfl (same_upd rfl (same_upd rfl (same_upd rfl (same_upd rfl (same_upd rfl (same_upd rfl (same_upd rfl (same_upd rfl (same_upd rfl (same_upd rfl (same_upd rfl (same_upd rfl (same_upd rfl (same_upd rfl (same_upd rfl (same_upd rfl (same_upd rfl (same_upd rfl (same_upd rfl (same_upd rfl (same_upd rfl (same_upd rfl (same_upd rfl (same_upd rfl (same_upd rfl (same_upd rfl (same_upd rfl (same_upd rfl (same_upd rfl (same_upd rfl (same_upd rfl (same_upd rfl (same_upd rfl (same_upd rfl (same_upd rfl (same_upd rfl (same_upd rfl (same_ovr)))))))))))))))))))))))))))))))))))))))))))))))))))))))))))))))))))))))))))))))))))))))))))
      · refine d_alloc (zs := (([(.int .i64 (0)), (.int .i64 (0))] : List Value) ++ hc hash0 ++ ([(.int .u64 (0))] : List Value))) (z := (.agg ⟨(([(.int .i64 (0)), (.int .i64 (0))] : List Value) ++ hc hash0 ++ ([(.int .u64 (0))] : List Value))⟩)) rfl H43 (by kernel_rfl) (by kernel_rfl) ?_
        intro b151 w152 (H153 : Sat w [restC w (fun _ => False), cellC b2 27 ([(.int .i64 (ep)), (.int .u64 (tm)), (.slice pa P.length pc), (vo), (vt)] : List Value), rowC 50 35 (.slice oa2 O2.length oc2) O2.length (O2.flatMap encEn), cellC b35 42 (([(.int .i64 ((((P.getD i pr0).C).getD k ce0).x.cl)), (.int .i64 ((((P.getD i pr0).C).getD k ce0).x.seq))] : List Value) ++ hc (((P.getD i pr0).C).getD k ce0).x.h ++ ([(.int .i64 ((((P.getD i pr0).C).getD k ce0).x.len)), (.int .i64 ((((P.getD i pr0).C).getD k ce0).x.sb)), (.int .i64 ((((P.getD i pr0).C).getD k ce0).x.sm)), (.slice (((P.getD i pr0).C).getD k ce0).sa ((((P.getD i pr0).C).getD k ce0).S).length (((P.getD i pr0).C).getD k ce0).sc)] : List Value)), cellC b151 50 (([(.int .i64 (0)), (.int .i64 (0))] : List Value) ++ hc hash0 ++ ([(.int .u64 (0))] : List Value))] w152)
        have S154 := H153.pick [0, 1, 2, 3] (by decide)
        refine hK45 _ _ S154 ?_
        clear hK45 K45
        refine h_do 7 rfl (by kernel_rfl) (wants0 rfl) (fun K155 hK155 => ?_)
        refine d_call (d := 48) rfl (by kernel_rfl) (rTime_any w152 (((P.getD i pr0).C).getD k ce0).x (((P.getD i pr0).C).getD k ce0).sa (((P.getD i pr0).C).getD k ce0).sc ((((P.getD i pr0).C).getD k ce0).S) (ListAt.now H153 0 rfl (ceOk_at hPo (i := i) (k := k) (by omega) (by omega))) (hsm.at (i := i) (k := k) (by omega) (by omega)).2.1) ?_
        rintro _ w156 ⟨rfl, u158⟩
        have H157 := H153.keepU u158
        refine ⟨_, rfl, ?_⟩
        have S159 := H157.pick [0, 1, 2, 3] (by decide)
        refine hK155 _ _ S159 ?_
        clear hK155 K155
        refine h_val 8 rfl (by kernel_rfl) (by kernel_rfl) (by kernel_rfl) (fun _ _ _ h => h) S159 (wants0 rfl) (d := 49) (v := (.agg ⟨(([(.int .i64 ((((P.getD i pr0).C).getD k ce0).x.cl)), (.int .i64 ((((P.getD i pr0).C).getD k ce0).x.seq))] : List Value) ++ hc (((P.getD i pr0).C).getD k ce0).x.h ++ ([(.int .u64 (timeD ((((P.getD i pr0).C).getD k ce0).S)))] : List Value))⟩)) rfl (fun _ H' => (by kernel_rfl)) ?_
        refine h_do 10 rfl (by kernel_rfl) (wants0 rfl) (fun K160 hK160 => ?_)
        refine d_storeX (vs := (([(.int .i64 ((((P.getD i pr0).C).getD k ce0).x.cl)), (.int .i64 ((((P.getD i pr0).C).getD k ce0).x.seq))] : List Value) ++ hc (((P.getD i pr0).C).getD k ce0).x.h ++ ([(.int .u64 (timeD ((((P.getD i pr0).C).getD k ce0).S)))] : List Value))) (cs' := (([(.int .i64 ((((P.getD i pr0).C).getD k ce0).x.cl)), (.int .i64 ((((P.getD i pr0).C).getD k ce0).x.seq))] : List Value) ++ hc (((P.getD i pr0).C).getD k ce0).x.h ++ ([(.int .u64 (timeD ((((P.getD i pr0).C).getD k ce0).S)))] : List Value))) rfl H157 4 rfl rfl rfl rfl (by kernel_rfl) (Nat.le_of_ble_eq_true (by kernel_rfl)) (Nat.le_of_ble_eq_true (by kernel_rfl)) (by kernel_rfl) (by kernel_rfl) ?_
        intro w161 (H162 : Sat w [restC w (fun _ => False), cellC b2 27 ([(.int .i64 (ep)), (.int .u64 (tm)), (.slice pa P.length pc), (vo), (vt)] : List Value), rowC 50 35 (.slice oa2 O2.length oc2) O2.length (O2.flatMap encEn), cellC b35 42 (([(.int .i64 ((((P.getD i pr0).C).getD k ce0).x.cl)), (.int .i64 ((((P.getD i pr0).C).getD k ce0).x.seq))] : List Value) ++ hc (((P.getD i pr0).C).getD k ce0).x.h ++ ([(.int .i64 ((((P.getD i pr0).C).getD k ce0).x.len)), (.int .i64 ((((P.getD i pr0).C).getD k ce0).x.sb)), (.int .i64 ((((P.getD i pr0).C).getD k ce0).x.sm)), (.slice (((P.getD i pr0).C).getD k ce0).sa ((((P.getD i pr0).C).getD k ce0).S).length (((P.getD i pr0).C).getD k ce0).sc)] : List Value)), cellC b151 50 (([(.int .i64 ((((P.getD i pr0).C).getD k ce0).x.cl)), (.int .i64 ((((P.getD i pr0).C).getD k ce0).x.seq))] : List Value) ++ hc (((P.getD i pr0).C).getD k ce0).x.h ++ ([(.int .u64 (timeD ((((P.getD i pr0).C).getD k ce0).S)))] : List Value))] w161)
        have S164 := H162.pick [0, 1, 2, 3] (by decide)
        refine hK160 _ _ S164 ?_
        clear hK160 K160
        refine h_fin (by kernel_rfl) ?_
        refine then_normal ?_
        refine w_seq ?_
        refine w_seq ?_
        refine w_lit ?_
        refine wl_pure (wants0 rfl) (d := 50) (v := (.pointer (some ⟨b151, 34, none⟩))) rfl (by kernel_rfl) ?_
        refine wl_pure (wants0 rfl) (d := 51) (v := (.int .u64 (timeD ((((P.getD i pr0).C).getD k ce0).S)))) rfl (e_load1 rfl (by kernel_rfl) (H162.cell 4 rfl (by kernel_rfl))) ?_
        refine wl_pure (wants0 rfl) (d := 52) (v := (.int .u64 (last))) rfl (by kernel_rfl) ?_
        refine wl_pure (wants0 rfl) (d := 53) (v := (.bool (decide ((timeD ((((P.getD i pr0).C).getD k ce0).S)) ≤ last)))) rfl (by kernel_rfl) ?_
        refine wl_pure (wants0 rfl) (d := 54) (v := (.bool (decide ((timeD ((((P.getD i pr0).C).getD k ce0).S)) ≤ last)))) rfl (by kernel_rfl) ?_
        refine (bsplit (decide ((timeD ((((P.getD i pr0).C).getD k ce0).S)) ≤ last))).elim (fun b165 => ?_) (fun b165 => ?_)
        · have g166 := of_decide_eq_true b165
          refine wl_know 54 (.bool true) (congrArg Value.bool b165) ?_
          have g167 := of_decide_eq_true b165
          refine wl_pass (wantsN 4 54 false rfl (by kernel_rfl) rfl (by kernel_rfl)) rfl ?_
          refine wl_pass (wantsN 4 54 false rfl (by kernel_rfl) rfl (by kernel_rfl)) rfl ?_
          refine wl_pass (wantsN 4 54 false rfl (by kernel_rfl) rfl (by kernel_rfl)) rfl ?_
          refine wl_pass (wantsN 4 54 false rfl (by kernel_rfl) rfl (by kernel_rfl)) rfl ?_
          refine wl_pass (wantsN 4 54 false rfl (by kernel_rfl) rfl (by kernel_rfl)) rfl ?_
          refine wl_pure (wants0 rfl) (d := 60) (v := (.bool true)) rfl (by kernel_rfl) ?_
          refine wl_pure (wants0 rfl) (d := 61) (v := (.bool true)) rfl (by kernel_rfl) ?_
          refine wl_pass (wantsN 11 61 false rfl (by kernel_rfl) rfl (by kernel_rfl)) rfl ?_
          refine wl_pass (wantsN 11 61 false rfl (by kernel_rfl) rfl (by kernel_rfl)) rfl ?_
          refine wl_pass (wantsN 11 61 false rfl (by kernel_rfl) rfl (by kernel_rfl)) rfl ?_
          refine wl_pass (wantsN 11 61 false rfl (by kernel_rfl) rfl (by kernel_rfl)) rfl ?_
          refine wl_pure (wants0 rfl) (d := 66) (v := (.bool true)) rfl (by kernel_rfl) ?_
          refine w_nil ?_
          refine then_normal ?_
          refine wp_ift rfl ?_
          refine w_exit ?_
          refine then_exit ?_
          refine blk_hit ?_
          refine then_normal ?_
          refine w_lit ?_
          refine wl_pure (wants0 rfl) (d := 120) (v := (.int .i64 ((k : Int) + 1))) rfl (e_int (z := (k : Int) + 1) (by kernel_rfl) (IntWalk.i64_in _ (by omega))) ?_
          refine wl_pure (wants0 rfl) (d := 29) (v := (.int .i64 ((k : Int) + 1))) rfl (by kernel_rfl) ?_
          refine w_nil ?_
          have H168 : Sat w [restC w (fun _ => False), cellC b2 27 ([(.int .i64 (ep)), (.int .u64 (tm)), (.slice pa P.length pc), (vo), (vt)] : List Value), rowC 50 35 (.slice oa2 O2.length oc2) O2.length (O2.flatMap encEn)] w161 := H162.pick [0, 1, 2] (by decide)
          refine round_back ?_ _ ⟨(k + 1), oa2, oc2, O2, (show ((.int .i64 ((k : Int) + 1)) : Value) = _ by first | rfl | go_num), (show ((.slice oa2 O2.length oc2) : Value) = _ by first | rfl | go_num), (by omega), (out_skip hO2 (by omega) (skip1 b165)), H168, rfl⟩ (by omega)
          exact (same_upd rfl (same_upd rfl (same_upd rfl (same_upd rfl (same_upd rfl (same_upd rfl (same_upd rfl (same_upd rfl (same_upd rfl (same_upd rfl (same_upd rfl (same_upd rfl (same_upd rfl (same_upd rfl (same_upd rfl (same_upd rfl (same_upd rfl (same_upd rfl (same_upd rfl (same_upd rfl (same_upd rfl (same_upd rfl (same_upd rfl (same_upd rfl (same_upd rfl (same_upd rfl (same_upd rfl (same_upd rfl (same_upd rfl (same_upd rfl (same_upd rfl (same_upd rfl (same_upd rfl (same_upd rfl (same_upd rfl (same_upd rfl (same_upd rfl (same_upd rfl (same_upd rfl (same_upd rfl (same_upd rfl (same_upd rfl (same_upd rfl (same_upd rfl (same_upd rfl (same_upd rfl (same_ovr)))))))))))))))))))))))))))))))))))))))))))))))
        · have g169 := of_decide_eq_false b165
          refine wl_know 54 (.bool false) (congrArg Value.bool b165) ?_
          have g170 := of_decide_eq_false b165
          refine wl_pure (wantsY 4 54 false rfl (by kernel_rfl) rfl (by kernel_rfl)) (d := 55) (v := (.pointer (some ⟨b151, 34, none⟩))) rfl (by kernel_rfl) ?_
          refine wl_pure (wantsY 4 54 false rfl (by kernel_rfl) rfl (by kernel_rfl)) (d := 56) (v := (.int .u64 (timeD ((((P.getD i pr0).C).getD k ce0).S)))) rfl (e_load1 rfl (by kernel_rfl) (H162.cell 4 rfl (by kernel_rfl))) ?_
          refine wl_pure (wantsY 4 54 false rfl (by kernel_rfl) rfl (by kernel_rfl)) (d := 57) (v := (.pointer (some ⟨b2, 1, none⟩))) rfl (by kernel_rfl) ?_
          refine wl_pure (wantsY 4 54 false rfl (by kernel_rfl) rfl (by kernel_rfl)) (d := 58) (v := (.int .u64 (tm))) rfl (e_load1 rfl (by kernel_rfl) (H162.cell 1 rfl rfl)) ?_
          refine wl_pure (wantsY 4 54 false rfl (by kernel_rfl) rfl (by kernel_rfl)) (d := 59) (v := (.bool (decide ((timeD ((((P.getD i pr0).C).getD k ce0).S)) > tm)))) rfl (by kernel_rfl) ?_
          refine wl_pure (wants0 rfl) (d := 60) (v := (.bool (decide ((timeD ((((P.getD i pr0).C).getD k ce0).S)) > tm)))) rfl (by kernel_rfl) ?_
          refine wl_pure (wants0 rfl) (d := 61) (v := (.bool (decide ((timeD ((((P.getD i pr0).C).getD k ce0).S)) > tm)))) rfl (by kernel_rfl) ?_
          refine (bsplit (decide ((timeD ((((P.getD i pr0).C).getD k ce0).S)) > tm))).elim (fun b171 => ?_) (fun b171 => ?_)
          · have g172 := of_decide_eq_true b171
            refine wl_know 61 (.bool true) (congrArg Value.bool b171) ?_
            have g173 := of_decide_eq_true b171
            refine wl_pass (wantsN 11 61 false rfl (by kernel_rfl) rfl (by kernel_rfl)) rfl ?_
            refine wl_pass (wantsN 11 61 false rfl (by kernel_rfl) rfl (by kernel_rfl)) rfl ?_
            refine wl_pass (wantsN 11 61 false rfl (by kernel_rfl) rfl (by kernel_rfl)) rfl ?_
            refine wl_pass (wantsN 11 61 false rfl (by kernel_rfl) rfl (by kernel_rfl)) rfl ?_
            refine wl_pure (wants0 rfl) (d := 66) (v := (.bool true)) rfl (by kernel_rfl) ?_
            refine w_nil ?_
            refine then_normal ?_
            refine wp_ift rfl ?_
            refine w_exit ?_
            refine then_exit ?_
            refine blk_hit ?_
            refine then_normal ?_
            refine w_lit ?_
            refine wl_pure (wants0 rfl) (d := 120) (v := (.int .i64 ((k : Int) + 1))) rfl (e_int (z := (k : Int) + 1) (by kernel_rfl) (IntWalk.i64_in _ (by omega))) ?_
            refine wl_pure (wants0 rfl) (d := 29) (v := (.int .i64 ((k : Int) + 1))) rfl (by kernel_rfl) ?_
            refine w_nil ?_
            have H174 : Sat w [restC w (fun _ => False), cellC b2 27 ([(.int .i64 (ep)), (.int .u64 (tm)), (.slice pa P.length pc), (vo), (vt)] : List Value), rowC 50 35 (.slice oa2 O2.length oc2) O2.length (O2.flatMap encEn)] w161 := H162.pick [0, 1, 2] (by decide)
            refine round_back ?_ _ ⟨(k + 1), oa2, oc2, O2, (show ((.int .i64 ((k : Int) + 1)) : Value) = _ by first | rfl | go_num), (show ((.slice oa2 O2.length oc2) : Value) = _ by first | rfl | go_num), (by omega), (out_skip hO2 (by omega) (skip2 b171)), H174, rfl⟩ (by omega)
            exact (same_upd rfl (same_upd rfl (same_upd rfl (same_upd rfl (same_upd rfl (same_upd rfl (same_upd rfl (same_upd rfl (same_upd rfl (same_upd rfl (same_upd rfl (same_upd rfl (same_upd rfl (same_upd rfl (same_upd rfl (same_upd rfl (same_upd rfl (same_upd rfl (same_upd rfl (same_upd rfl (same_upd rfl (same_upd rfl (same_upd rfl (same_upd rfl (same_upd rfl (same_upd rfl (same_upd rfl (same_upd rfl (same_upd rfl (same_upd rfl (same_upd rfl (same_upd rfl (same_upd rfl (same_upd rfl (same_upd rfl (same_upd rfl (same_upd rfl (same_upd rfl (same_upd rfl (same_upd rfl (same_upd rfl (same_upd rfl (same_upd rfl (same_upd rfl (same_upd rfl (same_upd rfl (same_upd rfl (same_ovr))))))))))))))))))))))))))))))))))))))))))))))))
          · have g175 := of_decide_eq_false b171
            refine wl_know 61 (.bool false) (congrArg Value.bool b171) ?_
            have g176 := of_decide_eq_false b171
            refine wl_pure (wantsY 11 61 false rfl (by kernel_rfl) rfl (by kernel_rfl)) (d := 62) (v := (.slice la LN.length lc)) rfl (by kernel_rfl) ?_
            refine wl_pure (wantsY 11 61 false rfl (by kernel_rfl) rfl (by kernel_rfl)) (d := 63) (v := (.pointer (some ⟨b151, 0, none⟩))) rfl (by kernel_rfl) ?_
            refine wl_pure (wantsY 11 61 false rfl (by kernel_rfl) rfl (by kernel_rfl)) (d := 64) (v := (.agg ⟨([(.int .i64 ((((P.getD i pr0).C).getD k ce0).x.cl)), (.int .i64 ((((P.getD i pr0).C).getD k ce0).x.seq))] : List Value)⟩)) rfl (e_loadN (vs := ([(.int .i64 ((((P.getD i pr0).C).getD k ce0).x.cl)), (.int .i64 ((((P.getD i pr0).C).getD k ce0).x.seq))] : List Value)) rfl (by kernel_rfl) (by kernel_rfl) (by exact Nat.le_of_ble_eq_true (by kernel_rfl)) (H162.at 4 rfl) (by kernel_rfl)) ?_
            refine wl_do (wantsY 11 61 false rfl (by kernel_rfl) rfl (by kernel_rfl)) (fun K177 hK177 => ?_)
            refine d_call (d := 65) rfl (by kernel_rfl) (rIn_any w161 la lc LN (ListAt.now H162 0 rfl hLN) (by omega) ((((P.getD i pr0).C).getD k ce0).x.cl) ((((P.getD i pr0).C).getD k ce0).x.seq)) ?_
            rintro _ w178 ⟨rfl, u180⟩
            have H179 := H162.keepU u180
            refine ⟨_, rfl, ?_⟩
            refine hK177 _ _ ?_
            clear hK177 K177
            refine wl_pure (wants0 rfl) (d := 66) (v := (.bool (decide ((⟨((((P.getD i pr0).C).getD k ce0).x.cl), ((((P.getD i pr0).C).getD k ce0).x.seq)⟩ : NmD) ∈ LN)))) rfl (by kernel_rfl) ?_
            refine w_nil ?_
            refine then_normal ?_
            refine (bsplit (decide ((⟨((((P.getD i pr0).C).getD k ce0).x.cl), ((((P.getD i pr0).C).getD k ce0).x.seq)⟩ : NmD) ∈ LN))).elim (fun b181 => ?_) (fun b181 => ?_)
            · refine wp_know 66 (.bool true) (congrArg Value.bool b181) ?_
              refine wp_ift rfl ?_
              refine w_exit ?_
              refine then_exit ?_
              refine blk_hit ?_
              refine then_normal ?_
              refine w_lit ?_
              refine wl_pure (wants0 rfl) (d := 120) (v := (.int .i64 ((k : Int) + 1))) rfl (e_int (z := (k : Int) + 1) (by kernel_rfl) (IntWalk.i64_in _ (by omega))) ?_
              refine wl_pure (wants0 rfl) (d := 29) (v := (.int .i64 ((k : Int) + 1))) rfl (by kernel_rfl) ?_
              refine w_nil ?_
              have H182 : Sat w [restC w (fun _ => False), cellC b2 27 ([(.int .i64 (ep)), (.int .u64 (tm)), (.slice pa P.length pc), (vo), (vt)] : List Value), rowC 50 35 (.slice oa2 O2.length oc2) O2.length (O2.flatMap encEn)] w178 := H179.pick [0, 1, 2] (by decide)
              refine round_back ?_ _ ⟨(k + 1), oa2, oc2, O2, (show ((.int .i64 ((k : Int) + 1)) : Value) = _ by first | rfl | go_num), (show ((.slice oa2 O2.length oc2) : Value) = _ by first | rfl | go_num), (by omega), (out_skip hO2 (by omega) (skip3l (by rw [hlg]; exact b181))), H182, rfl⟩ (by omega)
              exact (same_upd rfl (same_upd rfl (same_upd rfl (same_upd rfl (same_upd rfl (same_upd rfl (same_upd rfl (same_upd rfl (same_upd rfl (same_upd rfl (same_upd rfl (same_upd rfl (same_upd rfl (same_upd rfl (same_upd rfl (same_upd rfl (same_upd rfl (same_upd rfl (same_upd rfl (same_upd rfl (same_upd rfl (same_upd rfl (same_upd rfl (same_upd rfl (same_upd rfl (same_upd rfl (same_upd rfl (same_upd rfl (same_upd rfl (same_upd rfl (same_upd rfl (same_upd rfl (same_upd rfl (same_upd rfl (same_upd rfl (same_upd rfl (same_upd rfl (same_upd rfl (same_upd rfl (same_upd rfl (same_upd rfl (same_upd rfl (same_upd rfl (same_upd rfl (same_upd rfl (same_upd rfl (same_upd rfl (same_upd rfl (same_ovr)))))))))))))))))))))))))))))))))))))))))))))))))
            · refine wp_know 66 (.bool false) (congrArg Value.bool b181) ?_
              refine wp_iff rfl ?_
              refine w_skip ?_
              refine then_normal ?_
              refine w_seq ?_
              refine w_lit ?_
              refine wl_pure (wants0 rfl) (d := 12) (v := (.int .i64 (-1))) rfl (by kernel_rfl) ?_
              refine w_nil ?_
              refine then_normal ?_
              refine w_seq ?_
              refine w_seq ?_
              refine w_lit ?_
              refine wl_pure (wants0 rfl) (d := 67) (v := (.slice oa2 O2.length oc2)) rfl (by kernel_rfl) ?_
              refine wl_pure (wants0 rfl) (d := 68) (v := (.int .i64 ((O2.length : Int)))) rfl (by kernel_rfl) ?_
              refine wl_pure (wants0 rfl) (d := 69) (v := (.int .i64 (0))) rfl (by kernel_rfl) ?_
              refine w_nil ?_
              refine then_normal ?_
              refine w_block ?_
              refine wp_round [12, 13, 69, 70, 71, 72, 73, 74, 75, 76, 77, 78, 79, 80, 81] (fun F_ W_ m_ => ∃ (j : Nat) (a : Int), F_ 69 = (.int .i64 ((j : Int))) ∧ F_ 12 = (.int .i64 (a)) ∧ (j ≤ O2.length) ∧ (-1 ≤ a) ∧ (a < (j : Int)) ∧ (AtIs O2 ((P.getD i pr0).C.getD k ce0).x.cl ((P.getD i pr0).C.getD k ce0).x.seq a j) ∧ Sat w [restC w (fun _ => False), cellC b2 27 ([(.int .i64 (ep)), (.int .u64 (tm)), (.slice pa P.length pc), (vo), (vt)] : List Value), rowC 50 35 (.slice oa2 O2.length oc2) O2.length (O2.flatMap encEn), cellC b35 42 (([(.int .i64 ((((P.getD i pr0).C).getD k ce0).x.cl)), (.int .i64 ((((P.getD i pr0).C).getD k ce0).x.seq))] : List Value) ++ hc (((P.getD i pr0).C).getD k ce0).x.h ++ ([(.int .i64 ((((P.getD i pr0).C).getD k ce0).x.len)), (.int .i64 ((((P.getD i pr0).C).getD k ce0).x.sb)), (.int .i64 ((((P.getD i pr0).C).getD k ce0).x.sm)), (.slice (((P.getD i pr0).C).getD k ce0).sa ((((P.getD i pr0).C).getD k ce0).S).length (((P.getD i pr0).C).getD k ce0).sc)] : List Value)), cellC b151 50 (([(.int .i64 ((((P.getD i pr0).C).getD k ce0).x.cl)), (.int .i64 ((((P.getD i pr0).C).getD k ce0).x.seq))] : List Value) ++ hc (((P.getD i pr0).C).getD k ce0).x.h ++ ([(.int .u64 (timeD ((((P.getD i pr0).C).getD k ce0).S)))] : List Value))] W_ ∧ m_ = O2.length - j) _ ⟨0, (-1), (show ((.int .i64 (0)) : Value) = _ by first | rfl | go_num), (show ((.int .i64 (-1)) : Value) = _ by first | rfl | go_num), (Nat.zero_le _), (by decide), (by decide), at_zero, H179, rfl⟩ ?_
              rintro g183 w184 _ ⟨j, a, v186, v187, hj, ha1, ha2, hat, H185, rfl⟩
              refine wp_know 69 _ v186 ?_
              refine wp_know 12 _ v187 ?_
              refine w_seq ?_
              refine w_lit ?_
              refine wl_pure (wants0 rfl) (d := 70) (v := (.bool (decide ((j : Int) < (O2.length : Int))))) rfl (by kernel_rfl) ?_
              refine w_nil ?_
              refine then_normal ?_
              refine w_seq ?_
              refine (bsplit (decide ((j : Int) < (O2.length : Int)))).elim (fun b189 => ?_) (fun b189 => ?_)
              · have g190 := of_decide_eq_true b189
                refine wp_know 70 (.bool true) (congrArg Value.bool b189) ?_
                have g191 := of_decide_eq_true b189
                refine wp_ift rfl ?_
                refine w_skip ?_
                refine then_normal ?_
                refine w_seq ?_
                refine w_block ?_
                refine w_seq ?_
                refine w_lit ?_
                refine wl_pure (wants0 rfl) (d := 71) (v := (.int .i64 ((j : Int)))) rfl (by kernel_rfl) ?_
                refine wl_pure (wants0 rfl) (d := 13) (v := (.int .i64 ((j : Int)))) rfl (by kernel_rfl) ?_
                refine w_nil ?_
                refine then_normal ?_
                refine w_seq ?_
                refine q_start H185 (by kernel_rfl) (by kernel_rfl) ?_
                refine q_val (wants0 rfl) (d := 72) (v := (.slice oa2 O2.length oc2)) rfl (fun _ H' => (by kernel_rfl)) ?_
                refine q_val (wants0 rfl) (d := 73) (v := (.int .i64 ((j : Int)))) rfl (fun _ H' => (by kernel_rfl)) ?_
                obtain ⟨g192, c193, e194⟩ := row_shape (H185.at 2 rfl) (by omega)
                obtain ⟨x195, h196⟩ := get_at (show j < O2.length by omega)
                refine q_val (wants0 rfl) (d := 74) (v := (.pointer (some ⟨g192, 0 + ((j : Int)).toNat * 35, none⟩))) rfl (fun _ H' => (e_indexAddrV (E := 50) (by kernel_rfl) (by kernel_rfl) (Nat.le_of_ble_eq_true rfl) rfl e194 rfl (by omega) (by omega))) ?_
                refine q_val (wants0 rfl) (d := 75) (v := (.pointer (some ⟨g192, 0 + ((j : Int)).toNat * 35, none⟩))) rfl (fun _ H' => (by kernel_rfl)) ?_
                refine q_val (wants0 rfl) (d := 76) (v := (.agg ⟨([(.int .i64 (x195.cl)), (.int .i64 (x195.sq))] : List Value)⟩)) rfl (fun _ H' => (e_loadRun (vs := ([(.int .i64 (x195.cl)), (.int .i64 (x195.sq))] : List Value)) rfl (by kernel_rfl) (by kernel_rfl) (Nat.le_of_ble_eq_true (by kernel_rfl)) (rows_run (H'.at 2 rfl) e194 encEn_len h196 0 (show 0 + ((j : Int)).toNat * 35 = j * 35 + 0 by omega) (by kernel_rfl) (by kernel_rfl)))) ?_
                refine q_val (wants0 rfl) (d := 77) (v := (.pointer (some ⟨b151, 0, none⟩))) rfl (fun _ H' => (by kernel_rfl)) ?_
                refine q_val (wants0 rfl) (d := 78) (v := (.agg ⟨([(.int .i64 ((((P.getD i pr0).C).getD k ce0).x.cl)), (.int .i64 ((((P.getD i pr0).C).getD k ce0).x.seq))] : List Value)⟩)) rfl (fun _ H' => (e_loadN (vs := ([(.int .i64 ((((P.getD i pr0).C).getD k ce0).x.cl)), (.int .i64 ((((P.getD i pr0).C).getD k ce0).x.seq))] : List Value)) rfl (by kernel_rfl) (by kernel_rfl) (by exact Nat.le_of_ble_eq_true (by kernel_rfl)) (H'.at 4 rfl) (by kernel_rfl))) ?_
                refine q_val (wants0 rfl) (d := 79) (v := (.bool (decide (x195.cl = ((((P.getD i pr0).C).getD k ce0).x.cl) ∧ x195.sq = ((((P.getD i pr0).C).getD k ce0).x.seq))))) rfl (fun _ H' => (e_eqName x195.cl x195.sq ((((P.getD i pr0).C).getD k ce0).x.cl) ((((P.getD i pr0).C).getD k ce0).x.seq) rfl rfl)) ?_
                refine q_end ?_
                intro w197 H198
                refine then_normal ?_
                refine (bsplit (decide (x195.cl = ((((P.getD i pr0).C).getD k ce0).x.cl) ∧ x195.sq = ((((P.getD i pr0).C).getD k ce0).x.seq)))).elim (fun b199 => ?_) (fun b199 => ?_)
                · refine wp_know 79 (.bool true) (congrArg Value.bool b199) ?_
                  refine wp_ift rfl ?_
                  refine w_lit ?_
                  refine wl_pure (wants0 rfl) (d := 80) (v := (.int .i64 ((j : Int)))) rfl (by kernel_rfl) ?_
                  refine wl_pure (wants0 rfl) (d := 12) (v := (.int .i64 ((j : Int)))) rfl (by kernel_rfl) ?_
                  refine w_nil ?_
                  refine blk_normal ?_
                  refine then_normal ?_
                  refine w_lit ?_
                  refine wl_pure (wants0 rfl) (d := 81) (v := (.int .i64 ((j : Int) + 1))) rfl (e_int (z := (j : Int) + 1) (by kernel_rfl) (IntWalk.i64_in _ (by omega))) ?_
                  refine wl_pure (wants0 rfl) (d := 69) (v := (.int .i64 ((j : Int) + 1))) rfl (by kernel_rfl) ?_
                  refine w_nil ?_
                  refine round_back ?_ _ ⟨(j + 1), (j : Int), (show ((.int .i64 ((j : Int) + 1)) : Value) = _ by first | rfl | go_num), (show ((.int .i64 ((j : Int))) : Value) = _ by first | rfl | go_num), (by omega), (by omega), (by omega), (at_hit h196 b199), H198, rfl⟩ (by omega)
                  exact (same_upd rfl (same_upd rfl (same_upd rfl (same_upd rfl (same_upd rfl (same_upd rfl (same_upd rfl (same_upd rfl (same_upd rfl (same_upd rfl (same_upd rfl (same_upd rfl (same_upd rfl (same_upd rfl (same_upd rfl (same_upd rfl (same_upd rfl (same_upd rfl (same_upd rfl (same_ovr))))))))))))))))))))
                · refine wp_know 79 (.bool false) (congrArg Value.bool b199) ?_
                  refine wp_iff rfl ?_
                  refine w_skip ?_
                  refine blk_normal ?_
                  refine then_normal ?_
                  refine w_lit ?_
                  refine wl_pure (wants0 rfl) (d := 81) (v := (.int .i64 ((j : Int) + 1))) rfl (e_int (z := (j : Int) + 1) (by kernel_rfl) (IntWalk.i64_in _ (by omega))) ?_
                  refine wl_pure (wants0 rfl) (d := 69) (v := (.int .i64 ((j : Int) + 1))) rfl (by kernel_rfl) ?_
                  refine w_nil ?_
                  refine round_back ?_ _ ⟨(j + 1), a, (show ((.int .i64 ((j : Int) + 1)) : Value) = _ by first | rfl | go_num), (show ((.int .i64 (a)) : Value) = _ by first | rfl | go_num), (by omega), (by omega), (by omega), (at_miss hat h196 b199), H198, rfl⟩ (by omega)
                  exact (same_upd rfl (same_upd rfl (same_upd rfl (same_upd rfl (same_upd rfl (same_upd rfl (same_upd rfl (same_upd rfl (same_upd rfl (same_upd rfl (same_upd rfl (same_upd rfl (same_upd rfl (same_upd rfl (same_upd rfl (same_upd rfl (same_upd rfl (same_ovr))))))))))))))))))
              · have g200 := of_decide_eq_false b189
                refine wp_know 70 (.bool false) (congrArg Value.bool b189) ?_
                have g201 := of_decide_eq_false b189
                refine wp_iff rfl ?_
                refine w_exit ?_
                refine then_exit ?_
                refine back_exit ?_
                refine blk_hit ?_
                refine then_normal ?_
                refine w_seq ?_
                refine w_lit ?_
                refine wl_pure (wants0 rfl) (d := 82) (v := (.int .i64 (a))) rfl (by kernel_rfl) ?_
                refine wl_pure (wants0 rfl) (d := 83) (v := (.bool (decide (a < 0)))) rfl (by kernel_rfl) ?_
                refine w_nil ?_
                refine then_normal ?_
                refine (bsplit (decide (a < 0))).elim (fun b202 => ?_) (fun b202 => ?_)
                · have g203 := of_decide_eq_true b202
                  refine wp_know 83 (.bool true) (congrArg Value.bool b202) ?_
                  have g204 := of_decide_eq_true b202
                  refine wp_ift rfl ?_
                  refine w_lit ?_
                  refine wl_pure (wants0 rfl) (d := 84) (v := (.slice oa2 O2.length oc2)) rfl (by kernel_rfl) ?_
                  refine wl_pure (wants0 rfl) (d := 85) (v := (.agg ⟨(([(.int .i64 ((((P.getD i pr0).C).getD k ce0).x.cl)), (.int .i64 ((((P.getD i pr0).C).getD k ce0).x.seq))] : List Value) ++ hc (((P.getD i pr0).C).getD k ce0).x.h ++ ([(.int .u64 (timeD ((((P.getD i pr0).C).getD k ce0).S)))] : List Value))⟩)) rfl (e_loadN (vs := (([(.int .i64 ((((P.getD i pr0).C).getD k ce0).x.cl)), (.int .i64 ((((P.getD i pr0).C).getD k ce0).x.seq))] : List Value) ++ hc (((P.getD i pr0).C).getD k ce0).x.h ++ ([(.int .u64 (timeD ((((P.getD i pr0).C).getD k ce0).S)))] : List Value))) rfl (by kernel_rfl) (by kernel_rfl) (by exact Nat.le_of_ble_eq_true (by kernel_rfl)) (H185.at 4 rfl) (by kernel_rfl)) ?_
                  refine wl_do (wants0 rfl) (fun K205 hK205 => ?_)
                  refine d_buildSlice (e := 50) (size := 35) (bytes := 56) (z := (.agg ⟨(([(.int .i64 (0)), (.int .i64 (0))] : List Value) ++ hc hash0 ++ ([(.int .u64 (0))] : List Value))⟩)) (pvs := [(0, (.agg ⟨(([(.int .i64 ((((P.getD i pr0).C).getD k ce0).x.cl)), (.int .i64 ((((P.getD i pr0).C).getD k ce0).x.seq))] : List Value) ++ hc (((P.getD i pr0).C).getD k ce0).x.h ++ ([(.int .u64 (timeD ((((P.getD i pr0).C).getD k ce0).S)))] : List Value))⟩))]) (vs := (([(.int .i64 ((((P.getD i pr0).C).getD k ce0).x.cl)), (.int .i64 ((((P.getD i pr0).C).getD k ce0).x.seq))] : List Value) ++ hc (((P.getD i pr0).C).getD k ce0).x.h ++ ([(.int .u64 (timeD ((((P.getD i pr0).C).getD k ce0).S)))] : List Value))) rfl H185 (by kernel_rfl) (by kernel_rfl) (by kernel_rfl) (by kernel_rfl) (by kernel_rfl) rfl rfl ?_
                  intro b206 w207 (H208 : Sat w [restC w (fun _ => False), cellC b2 27 ([(.int .i64 (ep)), (.int .u64 (tm)), (.slice pa P.length pc), (vo), (vt)] : List Value), rowC 50 35 (.slice oa2 O2.length oc2) O2.length (O2.flatMap encEn), cellC b35 42 (([(.int .i64 ((((P.getD i pr0).C).getD k ce0).x.cl)), (.int .i64 ((((P.getD i pr0).C).getD k ce0).x.seq))] : List Value) ++ hc (((P.getD i pr0).C).getD k ce0).x.h ++ ([(.int .i64 ((((P.getD i pr0).C).getD k ce0).x.len)), (.int .i64 ((((P.getD i pr0).C).getD k ce0).x.sb)), (.int .i64 ((((P.getD i pr0).C).getD k ce0).x.sm)), (.slice (((P.getD i pr0).C).getD k ce0).sa ((((P.getD i pr0).C).getD k ce0).S).length (((P.getD i pr0).C).getD k ce0).sc)] : List Value)), cellC b151 50 (([(.int .i64 ((((P.getD i pr0).C).getD k ce0).x.cl)), (.int .i64 ((((P.getD i pr0).C).getD k ce0).x.seq))] : List Value) ++ hc (((P.getD i pr0).C).getD k ce0).x.h ++ ([(.int .u64 (timeD ((((P.getD i pr0).C).getD k ce0).S)))] : List Value)), rowC 50 35 (.slice (some ⟨b206, 0, none⟩) 1 1) 1 (([(.int .i64 ((((P.getD i pr0).C).getD k ce0).x.cl)), (.int .i64 ((((P.getD i pr0).C).getD k ce0).x.seq))] : List Value) ++ hc (((P.getD i pr0).C).getD k ce0).x.h ++ ([(.int .u64 (timeD ((((P.getD i pr0).C).getD k ce0).S)))] : List Value))] w207)
                  have H209 : Sat w [restC w (fun _ => False), cellC b2 27 ([(.int .i64 (ep)), (.int .u64 (tm)), (.slice pa P.length pc), (vo), (vt)] : List Value), rowC 50 35 (.slice oa2 O2.length oc2) O2.length (O2.flatMap encEn), cellC b35 42 (([(.int .i64 ((((P.getD i pr0).C).getD k ce0).x.cl)), (.int .i64 ((((P.getD i pr0).C).getD k ce0).x.seq))] : List Value) ++ hc (((P.getD i pr0).C).getD k ce0).x.h ++ ([(.int .i64 ((((P.getD i pr0).C).getD k ce0).x.len)), (.int .i64 ((((P.getD i pr0).C).getD k ce0).x.sb)), (.int .i64 ((((P.getD i pr0).C).getD k ce0).x.sm)), (.slice (((P.getD i pr0).C).getD k ce0).sa ((((P.getD i pr0).C).getD k ce0).S).length (((P.getD i pr0).C).getD k ce0).sc)] : List Value)), cellC b151 50 (([(.int .i64 ((((P.getD i pr0).C).getD k ce0).x.cl)), (.int .i64 ((((P.getD i pr0).C).getD k ce0).x.seq))] : List Value) ++ hc (((P.getD i pr0).C).getD k ce0).x.h ++ ([(.int .u64 (timeD ((((P.getD i pr0).C).getD k ce0).S)))] : List Value)), rowC 50 35 (.slice (some ⟨b206, 0, none⟩) 1 1) 1 ([(⟨(((P.getD i pr0).C).getD k ce0).x.cl, (((P.getD i pr0).C).getD k ce0).x.seq, ((((P.getD i pr0).C).getD k ce0).x.h), timeD ((((P.getD i pr0).C).getD k ce0).S)⟩ : EntD)].flatMap encEn)] w207 := H208.cast (by rw [(show ((([(.int .i64 ((((P.getD i pr0).C).getD k ce0).x.cl)), (.int .i64 ((((P.getD i pr0).C).getD k ce0).x.seq))] : List Value) ++ hc (((P.getD i pr0).C).getD k ce0).x.h ++ ([(.int .u64 (timeD ((((P.getD i pr0).C).getD k ce0).S)))] : List Value)) : List Value) = [(⟨(((P.getD i pr0).C).getD k ce0).x.cl, (((P.getD i pr0).C).getD k ce0).x.seq, ((((P.getD i pr0).C).getD k ce0).x.h), timeD ((((P.getD i pr0).C).getD k ce0).S)⟩ : EntD)].flatMap encEn by kernel_rfl)])
                  refine hK205 _ _ ?_
                  clear hK205 K205
                  refine wl_do (wants0 rfl) (fun K210 hK210 => ?_)
                  refine d_append (T := 51) (e := 50) (size := 35) (bytes := 56) rfl H209 (by kernel_rfl) 2 5 rfl rfl rfl rfl (flat_one encEn encEn_one [(⟨(((P.getD i pr0).C).getD k ce0).x.cl, (((P.getD i pr0).C).getD k ce0).x.seq, ((((P.getD i pr0).C).getD k ce0).x.h), timeD ((((P.getD i pr0).C).getD k ce0).S)⟩ : EntD)]) (by omega) (by omega) ?_
                  intro v211 w212 (H213 : Sat w [restC w (fun _ => False), cellC b2 27 ([(.int .i64 (ep)), (.int .u64 (tm)), (.slice pa P.length pc), (vo), (vt)] : List Value), rowC 50 35 v211 (O2.length + 1) ((O2.flatMap encEn) ++ ([(⟨(((P.getD i pr0).C).getD k ce0).x.cl, (((P.getD i pr0).C).getD k ce0).x.seq, ((((P.getD i pr0).C).getD k ce0).x.h), timeD ((((P.getD i pr0).C).getD k ce0).S)⟩ : EntD)].flatMap encEn)), cellC b35 42 (([(.int .i64 ((((P.getD i pr0).C).getD k ce0).x.cl)), (.int .i64 ((((P.getD i pr0).C).getD k ce0).x.seq))] : List Value) ++ hc (((P.getD i pr0).C).getD k ce0).x.h ++ ([(.int .i64 ((((P.getD i pr0).C).getD k ce0).x.len)), (.int .i64 ((((P.getD i pr0).C).getD k ce0).x.sb)), (.int .i64 ((((P.getD i pr0).C).getD k ce0).x.sm)), (.slice (((P.getD i pr0).C).getD k ce0).sa ((((P.getD i pr0).C).getD k ce0).S).length (((P.getD i pr0).C).getD k ce0).sc)] : List Value)), cellC b151 50 (([(.int .i64 ((((P.getD i pr0).C).getD k ce0).x.cl)), (.int .i64 ((((P.getD i pr0).C).getD k ce0).x.seq))] : List Value) ++ hc (((P.getD i pr0).C).getD k ce0).x.h ++ ([(.int .u64 (timeD ((((P.getD i pr0).C).getD k ce0).S)))] : List Value)), rowC 50 35 (.slice (some ⟨b206, 0, none⟩) 1 1) 1 ([(⟨(((P.getD i pr0).C).getD k ce0).x.cl, (((P.getD i pr0).C).getD k ce0).x.seq, ((((P.getD i pr0).C).getD k ce0).x.h), timeD ((((P.getD i pr0).C).getD k ce0).S)⟩ : EntD)].flatMap encEn)] w212)
                  have H216 : Sat w [restC w (fun _ => False), cellC b2 27 ([(.int .i64 (ep)), (.int .u64 (tm)), (.slice pa P.length pc), (vo), (vt)] : List Value), rowC 50 35 v211 ((O2 ++ [(⟨(((P.getD i pr0).C).getD k ce0).x.cl, (((P.getD i pr0).C).getD k ce0).x.seq, ((((P.getD i pr0).C).getD k ce0).x.h), timeD ((((P.getD i pr0).C).getD k ce0).S)⟩ : EntD)]).length) ((O2 ++ [(⟨(((P.getD i pr0).C).getD k ce0).x.cl, (((P.getD i pr0).C).getD k ce0).x.seq, ((((P.getD i pr0).C).getD k ce0).x.h), timeD ((((P.getD i pr0).C).getD k ce0).S)⟩ : EntD)]).flatMap encEn), cellC b35 42 (([(.int .i64 ((((P.getD i pr0).C).getD k ce0).x.cl)), (.int .i64 ((((P.getD i pr0).C).getD k ce0).x.seq))] : List Value) ++ hc (((P.getD i pr0).C).getD k ce0).x.h ++ ([(.int .i64 ((((P.getD i pr0).C).getD k ce0).x.len)), (.int .i64 ((((P.getD i pr0).C).getD k ce0).x.sb)), (.int .i64 ((((P.getD i pr0).C).getD k ce0).x.sm)), (.slice (((P.getD i pr0).C).getD k ce0).sa ((((P.getD i pr0).C).getD k ce0).S).length (((P.getD i pr0).C).getD k ce0).sc)] : List Value)), cellC b151 50 (([(.int .i64 ((((P.getD i pr0).C).getD k ce0).x.cl)), (.int .i64 ((((P.getD i pr0).C).getD k ce0).x.seq))] : List Value) ++ hc (((P.getD i pr0).C).getD k ce0).x.h ++ ([(.int .u64 (timeD ((((P.getD i pr0).C).getD k ce0).S)))] : List Value)), rowC 50 35 (.slice (some ⟨b206, 0, none⟩) 1 1) 1 ([(⟨(((P.getD i pr0).C).getD k ce0).x.cl, (((P.getD i pr0).C).getD k ce0).x.seq, ((((P.getD i pr0).C).getD k ce0).x.h), timeD ((((P.getD i pr0).C).getD k ce0).S)⟩ : EntD)].flatMap encEn)] w212 := H213.cast (by simp only [List.length_append, List.flatMap_append] <;> rfl)
                  obtain ⟨a214, c215, rfl⟩ := ownsRow_shape (H216.at 2 rfl)
                  refine hK210 _ _ ?_
                  clear hK210 K210
                  refine wl_pure (wants0 rfl) (d := 7) (v := (.slice a214 ((O2 ++ [(⟨(((P.getD i pr0).C).getD k ce0).x.cl, (((P.getD i pr0).C).getD k ce0).x.seq, ((((P.getD i pr0).C).getD k ce0).x.h), timeD ((((P.getD i pr0).C).getD k ce0).S)⟩ : EntD)]).length) c215)) rfl (by kernel_rfl) ?_
                  refine w_nil ?_
                  refine blk_normal ?_
                  refine then_normal ?_
                  refine w_lit ?_
                  refine wl_pure (wants0 rfl) (d := 120) (v := (.int .i64 ((k : Int) + 1))) rfl (e_int (z := (k : Int) + 1) (by kernel_rfl) (IntWalk.i64_in _ (by omega))) ?_
                  refine wl_pure (wants0 rfl) (d := 29) (v := (.int .i64 ((k : Int) + 1))) rfl (by kernel_rfl) ?_
                  refine w_nil ?_
                  have H217 : Sat w [restC w (fun _ => False), cellC b2 27 ([(.int .i64 (ep)), (.int .u64 (tm)), (.slice pa P.length pc), (vo), (vt)] : List Value), rowC 50 35 (.slice a214 ((O2 ++ [(⟨(((P.getD i pr0).C).getD k ce0).x.cl, (((P.getD i pr0).C).getD k ce0).x.seq, ((((P.getD i pr0).C).getD k ce0).x.h), timeD ((((P.getD i pr0).C).getD k ce0).S)⟩ : EntD)]).length) c215) ((O2 ++ [(⟨(((P.getD i pr0).C).getD k ce0).x.cl, (((P.getD i pr0).C).getD k ce0).x.seq, ((((P.getD i pr0).C).getD k ce0).x.h), timeD ((((P.getD i pr0).C).getD k ce0).S)⟩ : EntD)]).length) ((O2 ++ [(⟨(((P.getD i pr0).C).getD k ce0).x.cl, (((P.getD i pr0).C).getD k ce0).x.seq, ((((P.getD i pr0).C).getD k ce0).x.h), timeD ((((P.getD i pr0).C).getD k ce0).S)⟩ : EntD)]).flatMap encEn)] w212 := H216.pick [0, 1, 2] (by decide)
                  refine round_back ?_ _ ⟨(k + 1), a214, c215, (O2 ++ [(⟨(((P.getD i pr0).C).getD k ce0).x.cl, (((P.getD i pr0).C).getD k ce0).x.seq, ((((P.getD i pr0).C).getD k ce0).x.h), timeD ((((P.getD i pr0).C).getD k ce0).S)⟩ : EntD)]), (show ((.int .i64 ((k : Int) + 1)) : Value) = _ by first | rfl | go_num), (show ((.slice a214 ((O2 ++ [(⟨(((P.getD i pr0).C).getD k ce0).x.cl, (((P.getD i pr0).C).getD k ce0).x.seq, ((((P.getD i pr0).C).getD k ce0).x.h), timeD ((((P.getD i pr0).C).getD k ce0).S)⟩ : EntD)]).length) c215) : Value) = _ by first | rfl | go_num), (by omega), (out_new hO2 (by omega) hcs (skip0l b165 b171 (by rw [hlg]; exact b181)) hat (by omega) (by have q := of_decide_eq_true b202; omega)), H217, rfl⟩ (by omega)
                  exact (same_upd rfl (same_upd rfl (same_upd rfl (same_upd rfl (same_upd rfl (same_upd rfl (same_upd rfl (same_upd rfl (same_upd rfl (same_upd rfl (same_upd rfl (same_upd rfl (same_upd rfl (same_upd rfl (same_ovr2 rfl (same_upd rfl (same_upd rfl (same_upd rfl (same_upd rfl (same_upd rfl (same_upd rfl (same_upd rfl (same_upd rfl (same_upd rfl (same_upd rfl (same_upd rfl (same_upd rfl (same_upd rfl (same_upd rfl (same_upd rfl (same_upd rfl (same_upd rfl (same_upd rfl (same_upd rfl (same_upd rfl (same_upd rfl (same_upd rfl (same_upd rfl (same_upd rfl (same_upd rfl (same_upd rfl (same_upd rfl (same_upd rfl (same_upd rfl (same_upd rfl (same_upd rfl (same_upd rfl (same_upd rfl (same_upd rfl (same_upd rfl (same_upd rfl (same_upd rfl (same_upd rfl (same_upd rfl (same_upd rfl (same_upd rfl (same_upd rfl (same_upd rfl (same_upd rfl (same_upd rfl (same_upd rfl (same_upd rfl (same_upd rfl (same_upd rfl (same_upd rfl (same_ovr))))))))))))))))))))))))))))))))))))))))))))))))))))))))))))))))))
                · have g218 := of_decide_eq_false b202
                  refine wp_know 83 (.bool false) (congrArg Value.bool b202) ?_
                  have g219 := of_decide_eq_false b202
                  refine wp_iff rfl ?_
                  refine w_seq ?_
                  have hge := of_decide_eq_false b202
                  refine q_start H185 (by kernel_rfl) (by kernel_rfl) ?_
                  refine q_val (wants0 rfl) (d := 88) (v := (.pointer (some ⟨b151, 34, none⟩))) rfl (fun _ H' => (by kernel_rfl)) ?_
                  refine q_val (wants0 rfl) (d := 89) (v := (.int .u64 (timeD ((((P.getD i pr0).C).getD k ce0).S)))) rfl (fun _ H' => (e_load1 rfl (by kernel_rfl) (H'.cell 4 rfl (by kernel_rfl)))) ?_
                  refine q_val (wants0 rfl) (d := 90) (v := (.slice oa2 O2.length oc2)) rfl (fun _ H' => (by kernel_rfl)) ?_
                  refine q_val (wants0 rfl) (d := 91) (v := (.int .i64 (a))) rfl (fun _ H' => (by kernel_rfl)) ?_
                  obtain ⟨g220, c221, e222⟩ := row_shape (H185.at 2 rfl) (by omega)
                  obtain ⟨x223, h224⟩ := get_at (show (a).toNat < O2.length by omega)
                  refine q_val (wants0 rfl) (d := 92) (v := (.pointer (some ⟨g220, 0 + (a).toNat * 35, none⟩))) rfl (fun _ H' => (e_indexAddrV (E := 50) (by kernel_rfl) (by kernel_rfl) (Nat.le_of_ble_eq_true rfl) rfl e222 rfl (by omega) (by omega))) ?_
                  refine q_val (wants0 rfl) (d := 93) (v := (.pointer (some ⟨g220, 0 + (a).toNat * 35 + 34, none⟩))) rfl (fun _ H' => (by kernel_rfl)) ?_
                  refine q_val (wants0 rfl) (d := 94) (v := (.int .u64 (x223.t))) rfl (fun _ H' => (e_load1 rfl (by kernel_rfl) (rows_cell (H'.at 2 rfl) e222 encEn_len h224 34 rfl (show 0 + (a).toNat * 35 + 34 = (a).toNat * 35 + 34 by omega) (by kernel_rfl)))) ?_
                  refine q_val (wants0 rfl) (d := 95) (v := (.bool (decide ((timeD ((((P.getD i pr0).C).getD k ce0).S)) < x223.t)))) rfl (fun _ H' => (by kernel_rfl)) ?_
                  refine q_val (wants0 rfl) (d := 96) (v := (.bool (decide ((timeD ((((P.getD i pr0).C).getD k ce0).S)) < x223.t)))) rfl (fun _ H' => (by kernel_rfl)) ?_
                  refine (bsplit (decide ((timeD ((((P.getD i pr0).C).getD k ce0).S)) < x223.t))).elim (fun b225 => ?_) (fun b225 => ?_)
                  · have g226 := of_decide_eq_true b225
                    refine q_know 96 (.bool true) (congrArg Value.bool b225) ?_
                    have g227 := of_decide_eq_true b225
                    refine q_pass (wantsN 8 96 false rfl (by kernel_rfl) rfl (by kernel_rfl)) rfl ?_
                    refine q_pass (wantsN 8 96 false rfl (by kernel_rfl) rfl (by kernel_rfl)) rfl ?_
                    refine q_pass (wantsN 8 96 false rfl (by kernel_rfl) rfl (by kernel_rfl)) rfl ?_
                    refine q_pass (wantsN 8 96 false rfl (by kernel_rfl) rfl (by kernel_rfl)) rfl ?_
                    refine q_pass (wantsN 8 96 false rfl (by kernel_rfl) rfl (by kernel_rfl)) rfl ?_
                    refine q_pass (wantsN 8 96 false rfl (by kernel_rfl) rfl (by kernel_rfl)) rfl ?_
                    refine q_pass (wantsN 8 96 false rfl (by kernel_rfl) rfl (by kernel_rfl)) rfl ?_
                    refine q_pass (wantsN 8 96 false rfl (by kernel_rfl) rfl (by kernel_rfl)) rfl ?_
                    refine q_pass (wantsN 8 96 false rfl (by kernel_rfl) rfl (by kernel_rfl)) rfl ?_
                    refine q_pass (wantsU 17 105 true rfl (by kernel_rfl) rfl (by kernel_rfl)) rfl ?_
                    refine q_pass (wantsU 17 105 true rfl (by kernel_rfl) rfl (by kernel_rfl)) rfl ?_
                    refine q_pass (wantsU 17 105 true rfl (by kernel_rfl) rfl (by kernel_rfl)) rfl ?_
                    refine q_pass (wantsU 17 105 true rfl (by kernel_rfl) rfl (by kernel_rfl)) rfl ?_
                    refine q_pass (wantsU 17 105 true rfl (by kernel_rfl) rfl (by kernel_rfl)) rfl ?_
                    refine q_pass (wantsU 17 105 true rfl (by kernel_rfl) rfl (by kernel_rfl)) rfl ?_
                    refine q_pass (wantsU 17 105 true rfl (by kernel_rfl) rfl (by kernel_rfl)) rfl ?_
                    refine q_pass (wantsU 17 105 true rfl (by kernel_rfl) rfl (by kernel_rfl)) rfl ?_
                    refine q_pass (wantsN 8 96 false rfl (by kernel_rfl) rfl (by kernel_rfl)) rfl ?_
                    refine q_val (wants0 rfl) (d := 115) (v := (.bool true)) rfl (fun _ H' => (by kernel_rfl)) ?_
                    refine q_end ?_
                    intro w228 H229
                    refine then_normal ?_
                    refine wp_ift rfl ?_
                    refine w_lit ?_
                    refine wl_pure (wants0 rfl) (d := 116) (v := (.slice oa2 O2.length oc2)) rfl (by kernel_rfl) ?_
                    refine wl_pure (wants0 rfl) (d := 117) (v := (.int .i64 (a))) rfl (by kernel_rfl) ?_
                    refine wl_pure (wants0 rfl) (d := 118) (v := (.agg ⟨(([(.int .i64 ((((P.getD i pr0).C).getD k ce0).x.cl)), (.int .i64 ((((P.getD i pr0).C).getD k ce0).x.seq))] : List Value) ++ hc (((P.getD i pr0).C).getD k ce0).x.h ++ ([(.int .u64 (timeD ((((P.getD i pr0).C).getD k ce0).S)))] : List Value))⟩)) rfl (e_loadN (vs := (([(.int .i64 ((((P.getD i pr0).C).getD k ce0).x.cl)), (.int .i64 ((((P.getD i pr0).C).getD k ce0).x.seq))] : List Value) ++ hc (((P.getD i pr0).C).getD k ce0).x.h ++ ([(.int .u64 (timeD ((((P.getD i pr0).C).getD k ce0).S)))] : List Value))) rfl (by kernel_rfl) (by kernel_rfl) (by exact Nat.le_of_ble_eq_true (by kernel_rfl)) (H229.at 4 rfl) (by kernel_rfl)) ?_
                    refine wl_pure (wants0 rfl) (d := 119) (v := (.pointer (some ⟨g220, 0 + (a).toNat * 35, none⟩))) rfl (e_indexAddrV (E := 50) (by kernel_rfl) (by kernel_rfl) (Nat.le_of_ble_eq_true rfl) rfl e222 rfl (by omega) (by omega)) ?_
                    refine wl_do (wants0 rfl) (fun K230 hK230 => ?_)
                    have f233 := flat_set encEn 35 encEn_len O2 ((a).toNat) (⟨(((P.getD i pr0).C).getD k ce0).x.cl, (((P.getD i pr0).C).getD k ce0).x.seq, ((((P.getD i pr0).C).getD k ce0).x.h), timeD ((((P.getD i pr0).C).getD k ce0).S)⟩ : EntD) (by first | omega | (simp only [List.length_set]; omega))
                    refine d_storeRow (u := (.agg ⟨(([(.int .i64 ((((P.getD i pr0).C).getD k ce0).x.cl)), (.int .i64 ((((P.getD i pr0).C).getD k ce0).x.seq))] : List Value) ++ hc (((P.getD i pr0).C).getD k ce0).x.h ++ ([(.int .u64 (timeD ((((P.getD i pr0).C).getD k ce0).S)))] : List Value))⟩)) (vs := (([(.int .i64 ((((P.getD i pr0).C).getD k ce0).x.cl)), (.int .i64 ((((P.getD i pr0).C).getD k ce0).x.seq))] : List Value) ++ hc (((P.getD i pr0).C).getD k ce0).x.h ++ ([(.int .u64 (timeD ((((P.getD i pr0).C).getD k ce0).S)))] : List Value))) rfl H229 2 rfl e222 rfl rfl rfl (by kernel_rfl) (Nat.lt_of_lt_of_eq (show 0 < 35 by decide) (show 35 = ((([(.int .i64 ((((P.getD i pr0).C).getD k ce0).x.cl)), (.int .i64 ((((P.getD i pr0).C).getD k ce0).x.seq))] : List Value) ++ hc (((P.getD i pr0).C).getD k ce0).x.h ++ ([(.int .u64 (timeD ((((P.getD i pr0).C).getD k ce0).S)))] : List Value)) : List Value).length by kernel_rfl)) (by have q := flat_len encEn 35 encEn_len O2; rw [q, show ((([(.int .i64 ((((P.getD i pr0).C).getD k ce0).x.cl)), (.int .i64 ((((P.getD i pr0).C).getD k ce0).x.seq))] : List Value) ++ hc (((P.getD i pr0).C).getD k ce0).x.h ++ ([(.int .u64 (timeD ((((P.getD i pr0).C).getD k ce0).S)))] : List Value)) : List Value).length = 35 from (by kernel_rfl)]; first | omega | (simp only [List.length_set]; omega)) (by kernel_rfl) ((congrArg (fun o_ => splice (O2.flatMap encEn) o_ (([(.int .i64 ((((P.getD i pr0).C).getD k ce0).x.cl)), (.int .i64 ((((P.getD i pr0).C).getD k ce0).x.seq))] : List Value) ++ hc (((P.getD i pr0).C).getD k ce0).x.h ++ ([(.int .u64 (timeD ((((P.getD i pr0).C).getD k ce0).S)))] : List Value))) (show 0 + (a).toNat * 35 = ((a).toNat) * 35 by omega)).trans f233) ?_
                    intro w231 (H232 : Sat w [restC w (fun _ => False), cellC b2 27 ([(.int .i64 (ep)), (.int .u64 (tm)), (.slice pa P.length pc), (vo), (vt)] : List Value), rowC 50 35 (.slice oa2 O2.length oc2) O2.length ((O2.set ((a).toNat) (⟨(((P.getD i pr0).C).getD k ce0).x.cl, (((P.getD i pr0).C).getD k ce0).x.seq, ((((P.getD i pr0).C).getD k ce0).x.h), timeD ((((P.getD i pr0).C).getD k ce0).S)⟩ : EntD)).flatMap encEn), cellC b35 42 (([(.int .i64 ((((P.getD i pr0).C).getD k ce0).x.cl)), (.int .i64 ((((P.getD i pr0).C).getD k ce0).x.seq))] : List Value) ++ hc (((P.getD i pr0).C).getD k ce0).x.h ++ ([(.int .i64 ((((P.getD i pr0).C).getD k ce0).x.len)), (.int .i64 ((((P.getD i pr0).C).getD k ce0).x.sb)), (.int .i64 ((((P.getD i pr0).C).getD k ce0).x.sm)), (.slice (((P.getD i pr0).C).getD k ce0).sa ((((P.getD i pr0).C).getD k ce0).S).length (((P.getD i pr0).C).getD k ce0).sc)] : List Value)), cellC b151 50 (([(.int .i64 ((((P.getD i pr0).C).getD k ce0).x.cl)), (.int .i64 ((((P.getD i pr0).C).getD k ce0).x.seq))] : List Value) ++ hc (((P.getD i pr0).C).getD k ce0).x.h ++ ([(.int .u64 (timeD ((((P.getD i pr0).C).getD k ce0).S)))] : List Value))] w231)
                    refine hK230 _ _ ?_
                    clear hK230 K230
                    refine w_nil ?_
                    refine blk_normal ?_
                    refine then_normal ?_
                    have H234 : Sat w [restC w (fun _ => False), cellC b2 27 ([(.int .i64 (ep)), (.int .u64 (tm)), (.slice pa P.length pc), (vo), (vt)] : List Value), rowC 50 35 (.slice oa2 ((O2.set ((a).toNat) (⟨(((P.getD i pr0).C).getD k ce0).x.cl, (((P.getD i pr0).C).getD k ce0).x.seq, ((((P.getD i pr0).C).getD k ce0).x.h), timeD ((((P.getD i pr0).C).getD k ce0).S)⟩ : EntD)).length) oc2) ((O2.set ((a).toNat) (⟨(((P.getD i pr0).C).getD k ce0).x.cl, (((P.getD i pr0).C).getD k ce0).x.seq, ((((P.getD i pr0).C).getD k ce0).x.h), timeD ((((P.getD i pr0).C).getD k ce0).S)⟩ : EntD)).length) ((O2.set ((a).toNat) (⟨(((P.getD i pr0).C).getD k ce0).x.cl, (((P.getD i pr0).C).getD k ce0).x.seq, ((((P.getD i pr0).C).getD k ce0).x.h), timeD ((((P.getD i pr0).C).getD k ce0).S)⟩ : EntD)).flatMap encEn), cellC b35 42 (([(.int .i64 ((((P.getD i pr0).C).getD k ce0).x.cl)), (.int .i64 ((((P.getD i pr0).C).getD k ce0).x.seq))] : List Value) ++ hc (((P.getD i pr0).C).getD k ce0).x.h ++ ([(.int .i64 ((((P.getD i pr0).C).getD k ce0).x.len)), (.int .i64 ((((P.getD i pr0).C).getD k ce0).x.sb)), (.int .i64 ((((P.getD i pr0).C).getD k ce0).x.sm)), (.slice (((P.getD i pr0).C).getD k ce0).sa ((((P.getD i pr0).C).getD k ce0).S).length (((P.getD i pr0).C).getD k ce0).sc)] : List Value)), cellC b151 50 (([(.int .i64 ((((P.getD i pr0).C).getD k ce0).x.cl)), (.int .i64 ((((P.getD i pr0).C).getD k ce0).x.seq))] : List Value) ++ hc (((P.getD i pr0).C).getD k ce0).x.h ++ ([(.int .u64 (timeD ((((P.getD i pr0).C).getD k ce0).S)))] : List Value))] w231 := by simpa only [List.length_set] using H232
                    refine wp_know 7 (.slice oa2 ((O2.set ((a).toNat) (⟨(((P.getD i pr0).C).getD k ce0).x.cl, (((P.getD i pr0).C).getD k ce0).x.seq, ((((P.getD i pr0).C).getD k ce0).x.h), timeD ((((P.getD i pr0).C).getD k ce0).S)⟩ : EntD)).length) oc2) (show ((.slice oa2 O2.length oc2) : Value) = _ by simp only [List.length_set]) ?_
                    refine w_lit ?_
                    refine wl_pure (wants0 rfl) (d := 120) (v := (.int .i64 ((k : Int) + 1))) rfl (e_int (z := (k : Int) + 1) (by kernel_rfl) (IntWalk.i64_in _ (by omega))) ?_
                    refine wl_pure (wants0 rfl) (d := 29) (v := (.int .i64 ((k : Int) + 1))) rfl (by kernel_rfl) ?_
                    refine w_nil ?_
                    have H235 : Sat w [restC w (fun _ => False), cellC b2 27 ([(.int .i64 (ep)), (.int .u64 (tm)), (.slice pa P.length pc), (vo), (vt)] : List Value), rowC 50 35 (.slice oa2 ((O2.set ((a).toNat) (⟨(((P.getD i pr0).C).getD k ce0).x.cl, (((P.getD i pr0).C).getD k ce0).x.seq, ((((P.getD i pr0).C).getD k ce0).x.h), timeD ((((P.getD i pr0).C).getD k ce0).S)⟩ : EntD)).length) oc2) ((O2.set ((a).toNat) (⟨(((P.getD i pr0).C).getD k ce0).x.cl, (((P.getD i pr0).C).getD k ce0).x.seq, ((((P.getD i pr0).C).getD k ce0).x.h), timeD ((((P.getD i pr0).C).getD k ce0).S)⟩ : EntD)).length) ((O2.set ((a).toNat) (⟨(((P.getD i pr0).C).getD k ce0).x.cl, (((P.getD i pr0).C).getD k ce0).x.seq, ((((P.getD i pr0).C).getD k ce0).x.h), timeD ((((P.getD i pr0).C).getD k ce0).S)⟩ : EntD)).flatMap encEn)] w231 := H234.pick [0, 1, 2] (by decide)
                    refine round_back ?_ _ ⟨(k + 1), oa2, oc2, (O2.set ((a).toNat) (⟨(((P.getD i pr0).C).getD k ce0).x.cl, (((P.getD i pr0).C).getD k ce0).x.seq, ((((P.getD i pr0).C).getD k ce0).x.h), timeD ((((P.getD i pr0).C).getD k ce0).S)⟩ : EntD)), (show ((.int .i64 ((k : Int) + 1)) : Value) = _ by first | rfl | go_num), (show ((.slice oa2 ((O2.set ((a).toNat) (⟨(((P.getD i pr0).C).getD k ce0).x.cl, (((P.getD i pr0).C).getD k ce0).x.seq, ((((P.getD i pr0).C).getD k ce0).x.h), timeD ((((P.getD i pr0).C).getD k ce0).S)⟩ : EntD)).length) oc2) : Value) = _ by first | rfl | go_num), (by omega), (out_set hO2 (by omega) hcs (skip0l b165 b171 (by rw [hlg]; exact b181)) hat (by have q := of_decide_eq_false b202; omega) (x := x223) h224 (ah1 b225)), H235, rfl⟩ (by omega)
                    exact (same_upd rfl (same_upd rfl (same_upd rfl (same_upd rfl (same_upd rfl (same_upd rfl (same_upd rfl (same_upd rfl (same_upd rfl (same_upd rfl (same_upd rfl (same_upd rfl (same_upd rfl (same_upd rfl (same_upd rfl (same_upd rfl (same_upd rfl (same_upd rfl (same_upd rfl (same_upd rfl (same_upd rfl (same_upd rfl (same_upd rfl (same_upd rfl (same_upd rfl (same_upd rfl (same_upd rfl (same_upd rfl (same_upd rfl (same_upd rfl (same_upd rfl (same_upd rfl (same_upd rfl (same_upd rfl (same_upd rfl (same_upd rfl (same_upd rfl (same_upd rfl (same_upd rfl (same_upd rfl (same_upd rfl (same_upd rfl (same_upd rfl (same_ovr2 rfl (same_upd rfl (same_upd rfl (same_upd rfl (same_upd rfl (same_upd rfl (same_upd rfl (same_upd rfl (same_upd rfl (same_upd rfl (same_upd rfl (same_upd rfl (same_upd rfl (same_upd rfl (same_upd rfl (same_upd rfl (same_upd rfl (same_upd rfl (same_upd rfl (same_upd rfl (same_upd rfl (same_upd rfl (same_upd rfl (same_upd rfl (same_upd rfl (same_upd rfl (same_upd rfl (same_upd rfl (same_upd rfl (same_upd rfl (same_upd rfl (same_upd rfl (same_upd rfl (same_upd rfl (same_upd rfl (same_upd rfl (same_upd rfl (same_upd rfl (same_upd rfl (same_upd rfl (same_upd rfl (same_upd rfl (same_upd rfl (same_upd rfl (same_upd rfl (same_upd rfl (same_upd rfl (same_upd rfl (same_upd rfl (same_upd rfl (same_upd rfl (same_ovr)))))))))))))))))))))))))))))))))))))))))))))))))))))))))))))))))))))))))))))))))))))))))))))))
                  · have g236 := of_decide_eq_false b225
                    refine q_know 96 (.bool false) (congrArg Value.bool b225) ?_
                    have g237 := of_decide_eq_false b225
                    refine q_val (wantsY 8 96 false rfl (by kernel_rfl) rfl (by kernel_rfl)) (d := 97) (v := (.pointer (some ⟨b151, 34, none⟩))) rfl (fun _ H' => (by kernel_rfl)) ?_
                    refine q_val (wantsY 8 96 false rfl (by kernel_rfl) rfl (by kernel_rfl)) (d := 98) (v := (.int .u64 (timeD ((((P.getD i pr0).C).getD k ce0).S)))) rfl (fun _ H' => (e_load1 rfl (by kernel_rfl) (H'.cell 4 rfl (by kernel_rfl)))) ?_
                    refine q_val (wantsY 8 96 false rfl (by kernel_rfl) rfl (by kernel_rfl)) (d := 99) (v := (.slice oa2 O2.length oc2)) rfl (fun _ H' => (by kernel_rfl)) ?_
                    refine q_val (wantsY 8 96 false rfl (by kernel_rfl) rfl (by kernel_rfl)) (d := 100) (v := (.int .i64 (a))) rfl (fun _ H' => (by kernel_rfl)) ?_
                    refine q_val (wantsY 8 96 false rfl (by kernel_rfl) rfl (by kernel_rfl)) (d := 101) (v := (.pointer (some ⟨g220, 0 + (a).toNat * 35, none⟩))) rfl (fun _ H' => (e_indexAddrV (E := 50) (by kernel_rfl) (by kernel_rfl) (Nat.le_of_ble_eq_true rfl) rfl e222 rfl (by omega) (by omega))) ?_
                    refine q_val (wantsY 8 96 false rfl (by kernel_rfl) rfl (by kernel_rfl)) (d := 102) (v := (.pointer (some ⟨g220, 0 + (a).toNat * 35 + 34, none⟩))) rfl (fun _ H' => (by kernel_rfl)) ?_
                    refine q_val (wantsY 8 96 false rfl (by kernel_rfl) rfl (by kernel_rfl)) (d := 103) (v := (.int .u64 (x223.t))) rfl (fun _ H' => (e_load1 rfl (by kernel_rfl) (rows_cell (H'.at 2 rfl) e222 encEn_len h224 34 rfl (show 0 + (a).toNat * 35 + 34 = (a).toNat * 35 + 34 by omega) (by kernel_rfl)))) ?_
                    refine q_val (wantsY 8 96 false rfl (by kernel_rfl) rfl (by kernel_rfl)) (d := 104) (v := (.bool (decide ((timeD ((((P.getD i pr0).C).getD k ce0).S)) = x223.t)))) rfl (fun _ H' => (by kernel_rfl)) ?_
                    refine q_val (wantsY 8 96 false rfl (by kernel_rfl) rfl (by kernel_rfl)) (d := 105) (v := (.bool (decide ((timeD ((((P.getD i pr0).C).getD k ce0).S)) = x223.t)))) rfl (fun _ H' => (by kernel_rfl)) ?_
                    refine (bsplit (decide ((timeD ((((P.getD i pr0).C).getD k ce0).S)) = x223.t))).elim (fun b238 => ?_) (fun b238 => ?_)
                    · have g239 := of_decide_eq_true b238
                      refine q_know 105 (.bool true) (congrArg Value.bool b238) ?_
                      have g240 := of_decide_eq_true b238
                      refine q_val (wantsY 17 105 true rfl (by kernel_rfl) rfl (by kernel_rfl)) (d := 106) (v := (.pointer (some ⟨b151, 2, none⟩))) rfl (fun _ H' => (by kernel_rfl)) ?_
                      refine q_val (wantsY 17 105 true rfl (by kernel_rfl) rfl (by kernel_rfl)) (d := 107) (v := (.agg ⟨(hc (((P.getD i pr0).C).getD k ce0).x.h)⟩)) rfl (fun _ H' => (e_loadN (vs := (hc (((P.getD i pr0).C).getD k ce0).x.h)) rfl (by kernel_rfl) (by kernel_rfl) (by exact Nat.le_of_ble_eq_true (by kernel_rfl)) (H'.at 4 rfl) (by kernel_rfl))) ?_
                      refine q_val (wantsY 17 105 true rfl (by kernel_rfl) rfl (by kernel_rfl)) (d := 108) (v := (.slice oa2 O2.length oc2)) rfl (fun _ H' => (by kernel_rfl)) ?_
                      refine q_val (wantsY 17 105 true rfl (by kernel_rfl) rfl (by kernel_rfl)) (d := 109) (v := (.int .i64 (a))) rfl (fun _ H' => (by kernel_rfl)) ?_
                      refine q_val (wantsY 17 105 true rfl (by kernel_rfl) rfl (by kernel_rfl)) (d := 110) (v := (.pointer (some ⟨g220, 0 + (a).toNat * 35, none⟩))) rfl (fun _ H' => (e_indexAddrV (E := 50) (by kernel_rfl) (by kernel_rfl) (Nat.le_of_ble_eq_true rfl) rfl e222 rfl (by omega) (by omega))) ?_
                      refine q_val (wantsY 17 105 true rfl (by kernel_rfl) rfl (by kernel_rfl)) (d := 111) (v := (.pointer (some ⟨g220, 0 + (a).toNat * 35 + 2, none⟩))) rfl (fun _ H' => (by kernel_rfl)) ?_
                      refine q_val (wantsY 17 105 true rfl (by kernel_rfl) rfl (by kernel_rfl)) (d := 112) (v := (.agg ⟨(hc x223.h)⟩)) rfl (fun _ H' => (e_loadRun (vs := (hc x223.h)) rfl (by kernel_rfl) (by kernel_rfl) (Nat.le_of_ble_eq_true (by kernel_rfl)) (rows_run (H'.at 2 rfl) e222 encEn_len h224 2 (show 0 + (a).toNat * 35 + 2 = (a).toNat * 35 + 2 by omega) (by kernel_rfl) (by kernel_rfl)))) ?_
                      refine q_call (wantsY 17 105 true rfl (by kernel_rfl) rfl (by kernel_rfl)) (d := 113) (v := (.bool (lessB ((((P.getD i pr0).C).getD k ce0).x.h) x223.h))) rfl (fun _ _ => by kernel_rfl) (fun w' H' => (lessHash_any w' ((((P.getD i pr0).C).getD k ce0).x.h) x223.h).mono fun _ _ h => ⟨h.1, H'.keepU h.2⟩) ?_
                      refine q_val (wantsY 8 96 false rfl (by kernel_rfl) rfl (by kernel_rfl)) (d := 114) (v := (.bool (lessB ((((P.getD i pr0).C).getD k ce0).x.h) x223.h))) rfl (fun _ H' => (by kernel_rfl)) ?_
                      refine q_val (wants0 rfl) (d := 115) (v := (.bool (lessB ((((P.getD i pr0).C).getD k ce0).x.h) x223.h))) rfl (fun _ H' => (by kernel_rfl)) ?_
                      refine q_end ?_
                      intro w241 H242
                      refine then_normal ?_
                      refine (bsplit (lessB ((((P.getD i pr0).C).getD k ce0).x.h) x223.h)).elim (fun b243 => ?_) (fun b243 => ?_)
                      · refine wp_know 115 (.bool true) (congrArg Value.bool b243) ?_
                        refine wp_ift rfl ?_
                        refine w_lit ?_
                        refine wl_pure (wants0 rfl) (d := 116) (v := (.slice oa2 O2.length oc2)) rfl (by kernel_rfl) ?_
                        refine wl_pure (wants0 rfl) (d := 117) (v := (.int .i64 (a))) rfl (by kernel_rfl) ?_
                        refine wl_pure (wants0 rfl) (d := 118) (v := (.agg ⟨(([(.int .i64 ((((P.getD i pr0).C).getD k ce0).x.cl)), (.int .i64 ((((P.getD i pr0).C).getD k ce0).x.seq))] : List Value) ++ hc (((P.getD i pr0).C).getD k ce0).x.h ++ ([(.int .u64 (timeD ((((P.getD i pr0).C).getD k ce0).S)))] : List Value))⟩)) rfl (e_loadN (vs := (([(.int .i64 ((((P.getD i pr0).C).getD k ce0).x.cl)), (.int .i64 ((((P.getD i pr0).C).getD k ce0).x.seq))] : List Value) ++ hc (((P.getD i pr0).C).getD k ce0).x.h ++ ([(.int .u64 (timeD ((((P.getD i pr0).C).getD k ce0).S)))] : List Value))) rfl (by kernel_rfl) (by kernel_rfl) (by exact Nat.le_of_ble_eq_true (by kernel_rfl)) (H242.at 4 rfl) (by kernel_rfl)) ?_
                        refine wl_pure (wants0 rfl) (d := 119) (v := (.pointer (some ⟨g220, 0 + (a).toNat * 35, none⟩))) rfl (e_indexAddrV (E := 50) (by kernel_rfl) (by kernel_rfl) (Nat.le_of_ble_eq_true rfl) rfl e222 rfl (by omega) (by omega)) ?_
                        refine wl_do (wants0 rfl) (fun K244 hK244 => ?_)
                        have f247 := flat_set encEn 35 encEn_len O2 ((a).toNat) (⟨(((P.getD i pr0).C).getD k ce0).x.cl, (((P.getD i pr0).C).getD k ce0).x.seq, ((((P.getD i pr0).C).getD k ce0).x.h), timeD ((((P.getD i pr0).C).getD k ce0).S)⟩ : EntD) (by first | omega | (simp only [List.length_set]; omega))
                        refine d_storeRow (u := (.agg ⟨(([(.int .i64 ((((P.getD i pr0).C).getD k ce0).x.cl)), (.int .i64 ((((P.getD i pr0).C).getD k ce0).x.seq))] : List Value) ++ hc (((P.getD i pr0).C).getD k ce0).x.h ++ ([(.int .u64 (timeD ((((P.getD i pr0).C).getD k ce0).S)))] : List Value))⟩)) (vs := (([(.int .i64 ((((P.getD i pr0).C).getD k ce0).x.cl)), (.int .i64 ((((P.getD i pr0).C).getD k ce0).x.seq))] : List Value) ++ hc (((P.getD i pr0).C).getD k ce0).x.h ++ ([(.int .u64 (timeD ((((P.getD i pr0).C).getD k ce0).S)))] : List Value))) rfl H242 2 rfl e222 rfl rfl rfl (by kernel_rfl) (Nat.lt_of_lt_of_eq (show 0 < 35 by decide) (show 35 = ((([(.int .i64 ((((P.getD i pr0).C).getD k ce0).x.cl)), (.int .i64 ((((P.getD i pr0).C).getD k ce0).x.seq))] : List Value) ++ hc (((P.getD i pr0).C).getD k ce0).x.h ++ ([(.int .u64 (timeD ((((P.getD i pr0).C).getD k ce0).S)))] : List Value)) : List Value).length by kernel_rfl)) (by have q := flat_len encEn 35 encEn_len O2; rw [q, show ((([(.int .i64 ((((P.getD i pr0).C).getD k ce0).x.cl)), (.int .i64 ((((P.getD i pr0).C).getD k ce0).x.seq))] : List Value) ++ hc (((P.getD i pr0).C).getD k ce0).x.h ++ ([(.int .u64 (timeD ((((P.getD i pr0).C).getD k ce0).S)))] : List Value)) : List Value).length = 35 from (by kernel_rfl)]; first | omega | (simp only [List.length_set]; omega)) (by kernel_rfl) ((congrArg (fun o_ => splice (O2.flatMap encEn) o_ (([(.int .i64 ((((P.getD i pr0).C).getD k ce0).x.cl)), (.int .i64 ((((P.getD i pr0).C).getD k ce0).x.seq))] : List Value) ++ hc (((P.getD i pr0).C).getD k ce0).x.h ++ ([(.int .u64 (timeD ((((P.getD i pr0).C).getD k ce0).S)))] : List Value))) (show 0 + (a).toNat * 35 = ((a).toNat) * 35 by omega)).trans f247) ?_
                        intro w245 (H246 : Sat w [restC w (fun _ => False), cellC b2 27 ([(.int .i64 (ep)), (.int .u64 (tm)), (.slice pa P.length pc), (vo), (vt)] : List Value), rowC 50 35 (.slice oa2 O2.length oc2) O2.length ((O2.set ((a).toNat) (⟨(((P.getD i pr0).C).getD k ce0).x.cl, (((P.getD i pr0).C).getD k ce0).x.seq, ((((P.getD i pr0).C).getD k ce0).x.h), timeD ((((P.getD i pr0).C).getD k ce0).S)⟩ : EntD)).flatMap encEn), cellC b35 42 (([(.int .i64 ((((P.getD i pr0).C).getD k ce0).x.cl)), (.int .i64 ((((P.getD i pr0).C).getD k ce0).x.seq))] : List Value) ++ hc (((P.getD i pr0).C).getD k ce0).x.h ++ ([(.int .i64 ((((P.getD i pr0).C).getD k ce0).x.len)), (.int .i64 ((((P.getD i pr0).C).getD k ce0).x.sb)), (.int .i64 ((((P.getD i pr0).C).getD k ce0).x.sm)), (.slice (((P.getD i pr0).C).getD k ce0).sa ((((P.getD i pr0).C).getD k ce0).S).length (((P.getD i pr0).C).getD k ce0).sc)] : List Value)), cellC b151 50 (([(.int .i64 ((((P.getD i pr0).C).getD k ce0).x.cl)), (.int .i64 ((((P.getD i pr0).C).getD k ce0).x.seq))] : List Value) ++ hc (((P.getD i pr0).C).getD k ce0).x.h ++ ([(.int .u64 (timeD ((((P.getD i pr0).C).getD k ce0).S)))] : List Value))] w245)
                        refine hK244 _ _ ?_
                        clear hK244 K244
                        refine w_nil ?_
                        refine blk_normal ?_
                        refine then_normal ?_
                        have H248 : Sat w [restC w (fun _ => False), cellC b2 27 ([(.int .i64 (ep)), (.int .u64 (tm)), (.slice pa P.length pc), (vo), (vt)] : List Value), rowC 50 35 (.slice oa2 ((O2.set ((a).toNat) (⟨(((P.getD i pr0).C).getD k ce0).x.cl, (((P.getD i pr0).C).getD k ce0).x.seq, ((((P.getD i pr0).C).getD k ce0).x.h), timeD ((((P.getD i pr0).C).getD k ce0).S)⟩ : EntD)).length) oc2) ((O2.set ((a).toNat) (⟨(((P.getD i pr0).C).getD k ce0).x.cl, (((P.getD i pr0).C).getD k ce0).x.seq, ((((P.getD i pr0).C).getD k ce0).x.h), timeD ((((P.getD i pr0).C).getD k ce0).S)⟩ : EntD)).length) ((O2.set ((a).toNat) (⟨(((P.getD i pr0).C).getD k ce0).x.cl, (((P.getD i pr0).C).getD k ce0).x.seq, ((((P.getD i pr0).C).getD k ce0).x.h), timeD ((((P.getD i pr0).C).getD k ce0).S)⟩ : EntD)).flatMap encEn), cellC b35 42 (([(.int .i64 ((((P.getD i pr0).C).getD k ce0).x.cl)), (.int .i64 ((((P.getD i pr0).C).getD k ce0).x.seq))] : List Value) ++ hc (((P.getD i pr0).C).getD k ce0).x.h ++ ([(.int .i64 ((((P.getD i pr0).C).getD k ce0).x.len)), (.int .i64 ((((P.getD i pr0).C).getD k ce0).x.sb)), (.int .i64 ((((P.getD i pr0).C).getD k ce0).x.sm)), (.slice (((P.getD i pr0).C).getD k ce0).sa ((((P.getD i pr0).C).getD k ce0).S).length (((P.getD i pr0).C).getD k ce0).sc)] : List Value)), cellC b151 50 (([(.int .i64 ((((P.getD i pr0).C).getD k ce0).x.cl)), (.int .i64 ((((P.getD i pr0).C).getD k ce0).x.seq))] : List Value) ++ hc (((P.getD i pr0).C).getD k ce0).x.h ++ ([(.int .u64 (timeD ((((P.getD i pr0).C).getD k ce0).S)))] : List Value))] w245 := by simpa only [List.length_set] using H246
                        refine wp_know 7 (.slice oa2 ((O2.set ((a).toNat) (⟨(((P.getD i pr0).C).getD k ce0).x.cl, (((P.getD i pr0).C).getD k ce0).x.seq, ((((P.getD i pr0).C).getD k ce0).x.h), timeD ((((P.getD i pr0).C).getD k ce0).S)⟩ : EntD)).length) oc2) (show ((.slice oa2 O2.length oc2) : Value) = _ by simp only [List.length_set]) ?_
                        refine w_lit ?_
                        refine wl_pure (wants0 rfl) (d := 120) (v := (.int .i64 ((k : Int) + 1))) rfl (e_int (z := (k : Int) + 1) (by kernel_rfl) (IntWalk.i64_in _ (by omega))) ?_
                        refine wl_pure (wants0 rfl) (d := 29) (v := (.int .i64 ((k : Int) + 1))) rfl (by kernel_rfl) ?_
                        refine w_nil ?_
                        have H249 : Sat w [restC w (fun _ => False), cellC b2 27 ([(.int .i64 (ep)), (.int .u64 (tm)), (.slice pa P.length pc), (vo), (vt)] : List Value), rowC 50 35 (.slice oa2 ((O2.set ((a).toNat) (⟨(((P.getD i pr0).C).getD k ce0).x.cl, (((P.getD i pr0).C).getD k ce0).x.seq, ((((P.getD i pr0).C).getD k ce0).x.h), timeD ((((P.getD i pr0).C).getD k ce0).S)⟩ : EntD)).length) oc2) ((O2.set ((a).toNat) (⟨(((P.getD i pr0).C).getD k ce0).x.cl, (((P.getD i pr0).C).getD k ce0).x.seq, ((((P.getD i pr0).C).getD k ce0).x.h), timeD ((((P.getD i pr0).C).getD k ce0).S)⟩ : EntD)).length) ((O2.set ((a).toNat) (⟨(((P.getD i pr0).C).getD k ce0).x.cl, (((P.getD i pr0).C).getD k ce0).x.seq, ((((P.getD i pr0).C).getD k ce0).x.h), timeD ((((P.getD i pr0).C).getD k ce0).S)⟩ : EntD)).flatMap encEn)] w245 := H248.pick [0, 1, 2] (by decide)
                        refine round_back ?_ _ ⟨(k + 1), oa2, oc2, (O2.set ((a).toNat) (⟨(((P.getD i pr0).C).getD k ce0).x.cl, (((P.getD i pr0).C).getD k ce0).x.seq, ((((P.getD i pr0).C).getD k ce0).x.h), timeD ((((P.getD i pr0).C).getD k ce0).S)⟩ : EntD)), (show ((.int .i64 ((k : Int) + 1)) : Value) = _ by first | rfl | go_num), (show ((.slice oa2 ((O2.set ((a).toNat) (⟨(((P.getD i pr0).C).getD k ce0).x.cl, (((P.getD i pr0).C).getD k ce0).x.seq, ((((P.getD i pr0).C).getD k ce0).x.h), timeD ((((P.getD i pr0).C).getD k ce0).S)⟩ : EntD)).length) oc2) : Value) = _ by first | rfl | go_num), (by omega), (out_set hO2 (by omega) hcs (skip0l b165 b171 (by rw [hlg]; exact b181)) hat (by have q := of_decide_eq_false b202; omega) (x := x223) h224 (ah2 b225 b238 b243)), H249, rfl⟩ (by omega)
                        exact (same_upd rfl (same_upd rfl (same_upd rfl (same_upd rfl (same_upd rfl (same_upd rfl (same_upd rfl (same_upd rfl (same_upd rfl (same_upd rfl (same_upd rfl (same_upd rfl (same_upd rfl (same_upd rfl (same_upd rfl (same_upd rfl (same_upd rfl (same_upd rfl (same_upd rfl (same_upd rfl (same_upd rfl (same_upd rfl (same_upd rfl (same_upd rfl (same_upd rfl (same_upd rfl (same_upd rfl (same_upd rfl (same_upd rfl (same_upd rfl (same_upd rfl (same_upd rfl (same_upd rfl (same_upd rfl (same_upd rfl (same_upd rfl (same_upd rfl (same_upd rfl (same_upd rfl (same_upd rfl (same_upd rfl (same_upd rfl (same_upd rfl (same_upd rfl (same_upd rfl (same_ovr2 rfl (same_upd rfl (same_upd rfl (same_upd rfl (same_upd rfl (same_upd rfl (same_upd rfl (same_upd rfl (same_upd rfl (same_upd rfl (same_upd rfl (same_upd rfl (same_upd rfl (same_upd rfl (same_upd rfl (same_upd rfl (same_upd rfl (same_upd rfl (same_upd rfl (same_upd rfl (same_upd rfl (same_upd rfl (same_upd rfl (same_upd rfl (same_upd rfl (same_upd rfl (same_upd rfl (same_upd rfl (same_upd rfl (same_upd rfl (same_upd rfl (same_upd rfl (same_upd rfl (same_upd rfl (same_upd rfl (same_upd rfl (same_upd rfl (same_upd rfl (same_upd rfl (same_upd rfl (same_upd rfl (same_upd rfl (same_upd rfl (same_upd rfl (same_upd rfl (same_upd rfl (same_upd rfl (same_upd rfl (same_upd rfl (same_upd rfl (same_upd rfl (same_ovr)))))))))))))))))))))))))))))))))))))))))))))))))))))))))))))))))))))))))))))))))))))))))))))))))
                      · refine wp_know 115 (.bool false) (congrArg Value.bool b243) ?_
                        refine wp_iff rfl ?_
                        refine w_skip ?_
                        refine blk_normal ?_
                        refine then_normal ?_
                        refine w_lit ?_
                        refine wl_pure (wants0 rfl) (d := 120) (v := (.int .i64 ((k : Int) + 1))) rfl (e_int (z := (k : Int) + 1) (by kernel_rfl) (IntWalk.i64_in _ (by omega))) ?_
                        refine wl_pure (wants0 rfl) (d := 29) (v := (.int .i64 ((k : Int) + 1))) rfl (by kernel_rfl) ?_
                        refine w_nil ?_
                        have H250 : Sat w [restC w (fun _ => False), cellC b2 27 ([(.int .i64 (ep)), (.int .u64 (tm)), (.slice pa P.length pc), (vo), (vt)] : List Value), rowC 50 35 (.slice oa2 O2.length oc2) O2.length (O2.flatMap encEn)] w241 := H242.pick [0, 1, 2] (by decide)
                        refine round_back ?_ _ ⟨(k + 1), oa2, oc2, O2, (show ((.int .i64 ((k : Int) + 1)) : Value) = _ by first | rfl | go_num), (show ((.slice oa2 O2.length oc2) : Value) = _ by first | rfl | go_num), (by omega), (out_keep hO2 (by omega) hcs (skip0l b165 b171 (by rw [hlg]; exact b181)) hat (by have q := of_decide_eq_false b202; omega) (x := x223) h224 (ah2 b225 b238 b243)), H250, rfl⟩ (by omega)
                        exact (same_upd rfl (same_upd rfl (same_upd rfl (same_upd rfl (same_upd rfl (same_upd rfl (same_upd rfl (same_upd rfl (same_upd rfl (same_upd rfl (same_upd rfl (same_upd rfl (same_upd rfl (same_upd rfl (same_upd rfl (same_upd rfl (same_upd rfl (same_upd rfl (same_upd rfl (same_upd rfl (same_upd rfl (same_upd rfl (same_upd rfl (same_upd rfl (same_upd rfl (same_upd rfl (same_upd rfl (same_upd rfl (same_upd rfl (same_upd rfl (same_upd rfl (same_upd rfl (same_upd rfl (same_upd rfl (same_upd rfl (same_upd rfl (same_upd rfl (same_upd rfl (same_upd rfl (same_upd rfl (same_ovr2 rfl (same_upd rfl (same_upd rfl (same_upd rfl (same_upd rfl (same_upd rfl (same_upd rfl (same_upd rfl (same_upd rfl (same_upd rfl (same_upd rfl (same_upd rfl (same_upd rfl (same_upd rfl (same_upd rfl (same_upd rfl (same_upd rfl (same_upd rfl (same_upd rfl (same_upd rfl (same_upd rfl (same_upd rfl (same_upd rfl (same_upd rfl (same_upd rfl (same_upd rfl (same_upd rfl (same_upd rfl (same_upd rfl (same_upd rfl (same_upd rfl (same_upd rfl (same_upd rfl (same_upd rfl (same_upd rfl (same_upd rfl (same_upd rfl (same_upd rfl (same_upd rfl (same_upd rfl (same_upd rfl (same_upd rfl (same_upd rfl (same_upd rfl (same_upd rfl (same_upd rfl (same_upd rfl (same_upd rfl (same_upd rfl (same_upd rfl (same_upd rfl (same_ovr))))))))))))))))))))))))))))))))))))))))))))))))))))))))))))))))))))))))))))))))))))))))))))
                    · have g251 := of_decide_eq_false b238
                      refine q_know 105 (.bool false) (congrArg Value.bool b238) ?_
                      have g252 := of_decide_eq_false b238
                      refine q_pass (wantsN 17 105 true rfl (by kernel_rfl) rfl (by kernel_rfl)) rfl ?_
                      refine q_pass (wantsN 17 105 true rfl (by kernel_rfl) rfl (by kernel_rfl)) rfl ?_
                      refine q_pass (wantsN 17 105 true rfl (by kernel_rfl) rfl (by kernel_rfl)) rfl ?_
                      refine q_pass (wantsN 17 105 true rfl (by kernel_rfl) rfl (by kernel_rfl)) rfl ?_
                      refine q_pass (wantsN 17 105 true rfl (by kernel_rfl) rfl (by kernel_rfl)) rfl ?_
                      refine q_pass (wantsN 17 105 true rfl (by kernel_rfl) rfl (by kernel_rfl)) rfl ?_
                      refine q_pass (wantsN 17 105 true rfl (by kernel_rfl) rfl (by kernel_rfl)) rfl ?_
                      refine q_pass (wantsN 17 105 true rfl (by kernel_rfl) rfl (by kernel_rfl)) rfl ?_
                      refine q_val (wantsY 8 96 false rfl (by kernel_rfl) rfl (by kernel_rfl)) (d := 114) (v := (.bool false)) rfl (fun _ H' => (by kernel_rfl)) ?_
                      refine q_val (wants0 rfl) (d := 115) (v := (.bool false)) rfl (fun _ H' => (by kernel_rfl)) ?_
                      refine q_end ?_
                      intro w253 H254
                      refine then_normal ?_
                      refine wp_iff rfl ?_
                      refine w_skip ?_
                      refine blk_normal ?_
                      refine then_normal ?_
                      refine w_lit ?_
                      refine wl_pure (wants0 rfl) (d := 120) (v := (.int .i64 ((k : Int) + 1))) rfl (e_int (z := (k : Int) + 1) (by kernel_rfl) (IntWalk.i64_in _ (by omega))) ?_
                      refine wl_pure (wants0 rfl) (d := 29) (v := (.int .i64 ((k : Int) + 1))) rfl (by kernel_rfl) ?_
                      refine w_nil ?_
                      have H255 : Sat w [restC w (fun _ => False), cellC b2 27 ([(.int .i64 (ep)), (.int .u64 (tm)), (.slice pa P.length pc), (vo), (vt)] : List Value), rowC 50 35 (.slice oa2 O2.length oc2) O2.length (O2.flatMap encEn)] w253 := H254.pick [0, 1, 2] (by decide)
                      refine round_back ?_ _ ⟨(k + 1), oa2, oc2, O2, (show ((.int .i64 ((k : Int) + 1)) : Value) = _ by first | rfl | go_num), (show ((.slice oa2 O2.length oc2) : Value) = _ by first | rfl | go_num), (by omega), (out_keep hO2 (by omega) hcs (skip0l b165 b171 (by rw [hlg]; exact b181)) hat (by have q := of_decide_eq_false b202; omega) (x := x223) h224 (ah3 b225 b238)), H255, rfl⟩ (by omega)
                      exact (same_upd rfl (same_upd rfl (same_upd rfl (same_upd rfl (same_upd rfl (same_upd rfl (same_upd rfl (same_upd rfl (same_upd rfl (same_upd rfl (same_upd rfl (same_upd rfl (same_upd rfl (same_upd rfl (same_upd rfl (same_upd rfl (same_upd rfl (same_upd rfl (same_upd rfl (same_upd rfl (same_upd rfl (same_upd rfl (same_upd rfl (same_upd rfl (same_upd rfl (same_upd rfl (same_upd rfl (same_upd rfl (same_upd rfl (same_upd rfl (same_upd rfl (same_upd rfl (same_upd rfl (same_upd rfl (same_upd rfl (same_upd rfl (same_upd rfl (same_upd rfl (same_upd rfl (same_ovr2 rfl (same_upd rfl (same_upd rfl (same_upd rfl (same_upd rfl (same_upd rfl (same_upd rfl (same_upd rfl (same_upd rfl (same_upd rfl (same_upd rfl (same_upd rfl (same_upd rfl (same_upd rfl (same_upd rfl (same_upd rfl (same_upd rfl (same_upd rfl (same_upd rfl (same_upd rfl (same_upd rfl (same_upd rfl (same_upd rfl (same_upd rfl (same_upd rfl (same_upd rfl (same_upd rfl (same_upd rfl (same_upd rfl (same_upd rfl (same_upd rfl (same_upd rfl (same_upd rfl (same_upd rfl (same_upd rfl (same_upd rfl (same_upd rfl (same_upd rfl (same_upd rfl (same_upd rfl (same_upd rfl (same_upd rfl (same_upd rfl (same_upd rfl (same_upd rfl (same_upd rfl (same_upd rfl (same_upd rfl (same_upd rfl (same_upd rfl (same_upd rfl (same_ovr)))))))))))))))))))))))))))))))))))))))))))))))))))))))))))))))))))))))))))))))))))))))))))
    · have g256 := of_decide_eq_false b26
      refine wp_know 30 (.bool false) (congrArg Value.bool b26) ?_
      have g257 := of_decide_eq_false b26
      refine wp_iff rfl ?_
      refine w_exit ?_
      refine then_exit ?_
      refine back_exit ?_
      refine blk_hit ?_
      refine blk_normal ?_
      refine then_normal ?_
      refine w_lit ?_
      refine wl_pure (wants0 rfl) (d := 121) (v := (.int .i64 ((i : Int) + 1))) rfl (e_int (z := (i : Int) + 1) (by kernel_rfl) (IntWalk.i64_in _ (by omega))) ?_
      refine wl_pure (wants0 rfl) (d := 19) (v := (.int .i64 ((i : Int) + 1))) rfl (by kernel_rfl) ?_
      refine w_nil ?_
      refine round_back ?_ _ ⟨(i + 1), oa2, oc2, O2, (show ((.int .i64 ((i : Int) + 1)) : Value) = _ by first | rfl | go_num), (show ((.slice oa2 O2.length oc2) : Value) = _ by first | rfl | go_num), (by omega), (out_next (by omega) (show OutIs last tm lg ((P.take i).flatMap (·.C)) (P.getD i pr0).C (P.getD i pr0).C.length O2 from (show k = (P.getD i pr0).C.length by omega) ▸ hO2)), H22, rfl⟩ (by omega)
      exact (same_upd rfl (same_upd rfl (same_upd rfl (same_upd rfl (same_upd rfl (same_upd rfl (same_ovr2 rfl (same_upd rfl (same_upd rfl (same_upd rfl (same_upd rfl (same_upd rfl (same_upd rfl (same_upd rfl (same_upd rfl (same_upd rfl (same_upd rfl (same_upd rfl (same_upd rfl (same_upd rfl (same_upd rfl (same_ovr))))))))))))))))))))))
  · have g258 := of_decide_eq_false b12
    refine wp_know 20 (.bool false) (congrArg Value.bool b12) ?_
    have g259 := of_decide_eq_false b12
    refine wp_iff rfl ?_
    refine w_exit ?_
    refine then_exit ?_
    refine back_exit ?_
    refine blk_hit ?_
    refine then_normal ?_
    refine w_seq ?_
    refine w_seq ?_
    refine w_lit ?_
    refine wl_pure (wants0 rfl) (d := 122) (v := (.slice oa O.length oc)) rfl (by kernel_rfl) ?_
    refine wl_pure (wants0 rfl) (d := 123) (v := (.int .i64 ((O.length : Int)))) rfl (by kernel_rfl) ?_
    refine wl_pure (wants0 rfl) (d := 124) (v := (.int .i64 (0))) rfl (by kernel_rfl) ?_
    refine w_nil ?_
    refine then_normal ?_
    refine w_block ?_
    have hiP : i = P.length := by omega
    have hMf : O = (runE last tm lg (P.flatMap (·.C))).map (·.2) := by rw [hO, hiP, List.take_length]
    refine wp_round [14, 15, 124, 125, 126, 127, 128, 129, 130, 131, 132, 133, 134, 135, 136, 137, 138, 139, 140, 141, 142, 143, 144, 145, 146, 147, 148, 149, 150, 151, 152, 153, 154, 155, 156, 157, 158, 159, 160, 161, 162, 163, 164, 165, 166, 167, 168, 169, 170, 171, 172, 173, 174, 175, 176, 177, 178, 179, 180, 181, 182, 183, 184, 185, 186, 187, 188, 189, 190] (fun F_ W_ m_ => ∃ (p : Nat) (O3 : List EntD), F_ 124 = (.int .i64 ((p : Int))) ∧ (p ≤ O.length) ∧ (O3.Perm O) ∧ (SP O3 p) ∧ Sat w [restC w (fun _ => False), cellC b2 27 ([(.int .i64 (ep)), (.int .u64 (tm)), (.slice pa P.length pc), (vo), (vt)] : List Value), rowC 50 35 (.slice oa O.length oc) O.length (O3.flatMap encEn)] W_ ∧ m_ = O.length - p) _ ⟨0, O, (show ((.int .i64 (0)) : Value) = _ by first | rfl | go_num), (Nat.zero_le _), (List.Perm.refl _), sp_zero, H8, rfl⟩ ?_
    rintro g260 w261 _ ⟨p, O3, v263, hp3, hn3, hs3, H262, rfl⟩
    refine wp_know 124 _ v263 ?_
    have hl3 := hn3.length_eq
    refine w_seq ?_
    refine w_lit ?_
    refine wl_pure (wants0 rfl) (d := 125) (v := (.bool (decide ((p : Int) < (O.length : Int))))) rfl (by kernel_rfl) ?_
    refine w_nil ?_
    refine then_normal ?_
    refine w_seq ?_
    refine (bsplit (decide ((p : Int) < (O.length : Int)))).elim (fun b265 => ?_) (fun b265 => ?_)
    · have g266 := of_decide_eq_true b265
      refine wp_know 125 (.bool true) (congrArg Value.bool b265) ?_
      have g267 := of_decide_eq_true b265
      refine wp_ift rfl ?_
      refine w_skip ?_
      refine then_normal ?_
      refine w_seq ?_
      refine w_block ?_
      refine w_seq ?_
      refine w_lit ?_
      refine wl_pure (wants0 rfl) (d := 126) (v := (.int .i64 ((p : Int)))) rfl (by kernel_rfl) ?_
      refine wl_pure (wants0 rfl) (d := 14) (v := (.int .i64 ((p : Int)))) rfl (by kernel_rfl) ?_
      refine w_nil ?_
      refine then_normal ?_
      refine w_seq ?_
      refine w_lit ?_
      refine wl_pure (wants0 rfl) (d := 127) (v := (.int .i64 ((p : Int)))) rfl (by kernel_rfl) ?_
      refine wl_pure (wants0 rfl) (d := 15) (v := (.int .i64 ((p : Int)))) rfl (by kernel_rfl) ?_
      refine w_nil ?_
      refine then_normal ?_
      refine w_block ?_
      refine wp_round [15, 128, 129, 130, 131, 132, 133, 134, 135, 136, 137, 138, 139, 140, 141, 142, 143, 144, 145, 146, 147, 148, 149, 150, 151, 152, 153, 154, 155, 156, 157, 158, 159, 160, 161, 162, 163, 164, 165, 166, 167, 168, 169, 170, 171, 172, 173, 174, 175, 176, 177, 178, 179, 180, 181, 182, 183, 184, 185, 186, 187, 188, 189] (fun F_ W_ m_ => ∃ (t : Nat) (O4 : List EntD), F_ 15 = (.int .i64 ((t : Int))) ∧ (t ≤ p) ∧ (O4.Perm O) ∧ (SB O4 t p) ∧ Sat w [restC w (fun _ => False), cellC b2 27 ([(.int .i64 (ep)), (.int .u64 (tm)), (.slice pa P.length pc), (vo), (vt)] : List Value), rowC 50 35 (.slice oa O.length oc) O.length (O4.flatMap encEn)] W_ ∧ m_ = t + 1) _ ⟨p, O3, (show ((.int .i64 ((p : Int))) : Value) = _ by first | rfl | go_num), (Nat.le_refl _), hn3, (sb_start hs3), H262, rfl⟩ ?_
      rintro g268 w269 _ ⟨t, O4, v271, ht, hn4, hs4, H270, rfl⟩
      refine wp_know 15 _ v271 ?_
      have hl4 := hn4.length_eq
      have hkl := hl4.symm
      refine w_seq ?_
      refine w_seq ?_
      refine q_start H270 (by kernel_rfl) (by kernel_rfl) ?_
      refine q_val (wants0 rfl) (d := 128) (v := (.int .i64 ((t : Int)))) rfl (fun _ H' => (by kernel_rfl)) ?_
      refine q_val (wants0 rfl) (d := 129) (v := (.bool (decide ((t : Int) > 0)))) rfl (fun _ H' => (by kernel_rfl)) ?_
      refine q_val (wants0 rfl) (d := 130) (v := (.bool (decide ((t : Int) > 0)))) rfl (fun _ H' => (by kernel_rfl)) ?_
      refine (bsplit (decide ((t : Int) > 0))).elim (fun b273 => ?_) (fun b273 => ?_)
      · have g274 := of_decide_eq_true b273
        refine q_know 130 (.bool true) (congrArg Value.bool b273) ?_
        have g275 := of_decide_eq_true b273
        refine q_val (wantsY 2 130 true rfl (by kernel_rfl) rfl (by kernel_rfl)) (d := 131) (v := (.slice oa O.length oc)) rfl (fun _ H' => (by kernel_rfl)) ?_
        refine q_val (wantsY 2 130 true rfl (by kernel_rfl) rfl (by kernel_rfl)) (d := 132) (v := (.int .i64 ((t : Int)))) rfl (fun _ H' => (by kernel_rfl)) ?_
        obtain ⟨g276, c277, e278⟩ := row_shape (H270.at 2 rfl) (by omega)
        obtain ⟨x279, h280⟩ := get_at (show t < O4.length by omega)
        refine q_val (wantsY 2 130 true rfl (by kernel_rfl) rfl (by kernel_rfl)) (d := 133) (v := (.pointer (some ⟨g276, 0 + ((t : Int)).toNat * 35, none⟩))) rfl (fun _ H' => (e_indexAddrV (E := 50) (by kernel_rfl) (by kernel_rfl) (Nat.le_of_ble_eq_true rfl) rfl e278 rfl (by omega) (by omega))) ?_
        refine q_val (wantsY 2 130 true rfl (by kernel_rfl) rfl (by kernel_rfl)) (d := 134) (v := (.pointer (some ⟨g276, 0 + ((t : Int)).toNat * 35 + 34, none⟩))) rfl (fun _ H' => (by kernel_rfl)) ?_
        refine q_val (wantsY 2 130 true rfl (by kernel_rfl) rfl (by kernel_rfl)) (d := 135) (v := (.int .u64 (x279.t))) rfl (fun _ H' => (e_load1 rfl (by kernel_rfl) (rows_cellK hkl (H'.at 2 rfl) e278 encEn_len h280 34 rfl (show 0 + ((t : Int)).toNat * 35 + 34 = t * 35 + 34 by omega) (by kernel_rfl)))) ?_
        refine q_val (wantsY 2 130 true rfl (by kernel_rfl) rfl (by kernel_rfl)) (d := 136) (v := (.slice oa O.length oc)) rfl (fun _ H' => (by kernel_rfl)) ?_
        refine q_val (wantsY 2 130 true rfl (by kernel_rfl) rfl (by kernel_rfl)) (d := 137) (v := (.int .i64 ((t : Int)))) rfl (fun _ H' => (by kernel_rfl)) ?_
        refine q_val (wantsY 2 130 true rfl (by kernel_rfl) rfl (by kernel_rfl)) (d := 138) (v := (.int .i64 ((t : Int) - 1))) rfl (fun _ H' => (e_int (z := (t : Int) - 1) (by kernel_rfl) (IntWalk.i64_in _ (by omega)))) ?_
        obtain ⟨g281, c282, e283⟩ := row_shape (H270.at 2 rfl) (by omega)
        obtain ⟨x284, h285⟩ := get_at (show ((t : Int) - 1).toNat < O4.length by omega)
        refine q_val (wantsY 2 130 true rfl (by kernel_rfl) rfl (by kernel_rfl)) (d := 139) (v := (.pointer (some ⟨g281, 0 + ((t : Int) - 1).toNat * 35, none⟩))) rfl (fun _ H' => (e_indexAddrV (E := 50) (by kernel_rfl) (by kernel_rfl) (Nat.le_of_ble_eq_true rfl) rfl e283 rfl (by omega) (by omega))) ?_
        refine q_val (wantsY 2 130 true rfl (by kernel_rfl) rfl (by kernel_rfl)) (d := 140) (v := (.pointer (some ⟨g281, 0 + ((t : Int) - 1).toNat * 35 + 34, none⟩))) rfl (fun _ H' => (by kernel_rfl)) ?_
        refine q_val (wantsY 2 130 true rfl (by kernel_rfl) rfl (by kernel_rfl)) (d := 141) (v := (.int .u64 (x284.t))) rfl (fun _ H' => (e_load1 rfl (by kernel_rfl) (rows_cellK hkl (H'.at 2 rfl) e283 encEn_len h285 34 rfl (show 0 + ((t : Int) - 1).toNat * 35 + 34 = ((t : Int) - 1).toNat * 35 + 34 by omega) (by kernel_rfl)))) ?_
        refine q_val (wantsY 2 130 true rfl (by kernel_rfl) rfl (by kernel_rfl)) (d := 142) (v := (.bool (decide (x279.t < x284.t)))) rfl (fun _ H' => (by kernel_rfl)) ?_
        refine q_val (wantsY 2 130 true rfl (by kernel_rfl) rfl (by kernel_rfl)) (d := 143) (v := (.bool (decide (x279.t < x284.t)))) rfl (fun _ H' => (by kernel_rfl)) ?_
        refine (bsplit (decide (x279.t < x284.t))).elim (fun b286 => ?_) (fun b286 => ?_)
        · have g287 := of_decide_eq_true b286
          refine q_know 143 (.bool true) (congrArg Value.bool b286) ?_
          have g288 := of_decide_eq_true b286
          refine q_pass (wantsN 15 143 false rfl (by kernel_rfl) rfl (by kernel_rfl)) rfl ?_
          refine q_pass (wantsN 15 143 false rfl (by kernel_rfl) rfl (by kernel_rfl)) rfl ?_
          refine q_pass (wantsN 15 143 false rfl (by kernel_rfl) rfl (by kernel_rfl)) rfl ?_
          refine q_pass (wantsN 15 143 false rfl (by kernel_rfl) rfl (by kernel_rfl)) rfl ?_
          refine q_pass (wantsN 15 143 false rfl (by kernel_rfl) rfl (by kernel_rfl)) rfl ?_
          refine q_pass (wantsN 15 143 false rfl (by kernel_rfl) rfl (by kernel_rfl)) rfl ?_
          refine q_pass (wantsN 15 143 false rfl (by kernel_rfl) rfl (by kernel_rfl)) rfl ?_
          refine q_pass (wantsN 15 143 false rfl (by kernel_rfl) rfl (by kernel_rfl)) rfl ?_
          refine q_pass (wantsN 15 143 false rfl (by kernel_rfl) rfl (by kernel_rfl)) rfl ?_
          refine q_pass (wantsN 15 143 false rfl (by kernel_rfl) rfl (by kernel_rfl)) rfl ?_
          refine q_pass (wantsN 15 143 false rfl (by kernel_rfl) rfl (by kernel_rfl)) rfl ?_
          refine q_pass (wantsN 15 143 false rfl (by kernel_rfl) rfl (by kernel_rfl)) rfl ?_
          refine q_pass (wantsN 15 143 false rfl (by kernel_rfl) rfl (by kernel_rfl)) rfl ?_
          refine q_pass (wantsU 28 156 true rfl (by kernel_rfl) rfl (by kernel_rfl)) rfl ?_
          refine q_pass (wantsU 28 156 true rfl (by kernel_rfl) rfl (by kernel_rfl)) rfl ?_
          refine q_pass (wantsU 28 156 true rfl (by kernel_rfl) rfl (by kernel_rfl)) rfl ?_
          refine q_pass (wantsU 28 156 true rfl (by kernel_rfl) rfl (by kernel_rfl)) rfl ?_
          refine q_pass (wantsU 28 156 true rfl (by kernel_rfl) rfl (by kernel_rfl)) rfl ?_
          refine q_pass (wantsU 28 156 true rfl (by kernel_rfl) rfl (by kernel_rfl)) rfl ?_
          refine q_pass (wantsU 28 156 true rfl (by kernel_rfl) rfl (by kernel_rfl)) rfl ?_
          refine q_pass (wantsU 28 156 true rfl (by kernel_rfl) rfl (by kernel_rfl)) rfl ?_
          refine q_pass (wantsU 28 156 true rfl (by kernel_rfl) rfl (by kernel_rfl)) rfl ?_
          refine q_pass (wantsU 28 156 true rfl (by kernel_rfl) rfl (by kernel_rfl)) rfl ?_
          refine q_pass (wantsU 28 156 true rfl (by kernel_rfl) rfl (by kernel_rfl)) rfl ?_
          refine q_pass (wantsU 28 156 true rfl (by kernel_rfl) rfl (by kernel_rfl)) rfl ?_
          refine q_pass (wantsN 15 143 false rfl (by kernel_rfl) rfl (by kernel_rfl)) rfl ?_
          refine q_val (wantsY 2 130 true rfl (by kernel_rfl) rfl (by kernel_rfl)) (d := 170) (v := (.bool true)) rfl (fun _ H' => (by kernel_rfl)) ?_
          refine q_val (wants0 rfl) (d := 171) (v := (.bool true)) rfl (fun _ H' => (by kernel_rfl)) ?_
          refine q_end ?_
          intro w289 H290
          refine then_normal ?_
          refine wp_ift rfl ?_
          refine w_skip ?_
          refine then_normal ?_
          refine w_seq ?_
          refine w_block ?_
          refine k_start H290 [restC w (fun _ => False), cellC b2 27 ([(.int .i64 (ep)), (.int .u64 (tm)), (.slice pa P.length pc), (vo), (vt)] : List Value), rowC 50 35 (.slice oa O.length oc) O.length (O4.flatMap encEn)] [15, 17] 18 rfl (by kernel_rfl) (fun Hx => (Hx.pick [0, 1, 2] (by decide))) ?_
          intro w291 H292 S293
          refine k_pure 0 rfl (by kernel_rfl) (by kernel_rfl) (by kernel_rfl) (fun _ _ _ h => h) S293 (wants0 rfl) rfl (d := 174) (v := (.slice oa O.length oc)) rfl (fun _ => (by kernel_rfl)) ?_
          refine k_pure 1 rfl (by kernel_rfl) (by kernel_rfl) (by kernel_rfl) (fun _ _ _ h => h) S293 (wants0 rfl) rfl (d := 175) (v := (.int .i64 ((t : Int)))) rfl (fun _ => (by kernel_rfl)) ?_
          refine k_pure 2 rfl (by kernel_rfl) (by kernel_rfl) (by kernel_rfl) (fun _ _ _ h => h) S293 (wants0 rfl) rfl (d := 176) (v := (.slice oa O.length oc)) rfl (fun _ => (by kernel_rfl)) ?_
          refine k_pure 3 rfl (by kernel_rfl) (by kernel_rfl) (by kernel_rfl) (fun _ _ _ h => h) S293 (wants0 rfl) rfl (d := 177) (v := (.int .i64 ((t : Int)))) rfl (fun _ => (by kernel_rfl)) ?_
          refine k_pure 4 rfl (by kernel_rfl) (by kernel_rfl) (by kernel_rfl) (fun _ _ _ h => h) S293 (wants0 rfl) rfl (d := 178) (v := (.int .i64 ((t : Int) - 1))) rfl (fun _ => (e_int (z := (t : Int) - 1) (by kernel_rfl) (IntWalk.i64_in _ (by omega)))) ?_
          refine k_pure 5 rfl (by kernel_rfl) (by kernel_rfl) (by kernel_rfl) (fun _ _ _ h => h) S293 (wants0 rfl) rfl (d := 179) (v := (.slice oa O.length oc)) rfl (fun _ => (by kernel_rfl)) ?_
          refine k_pure 6 rfl (by kernel_rfl) (by kernel_rfl) (by kernel_rfl) (fun _ _ _ h => h) S293 (wants0 rfl) rfl (d := 180) (v := (.int .i64 ((t : Int)))) rfl (fun _ => (by kernel_rfl)) ?_
          refine k_pure 7 rfl (by kernel_rfl) (by kernel_rfl) (by kernel_rfl) (fun _ _ _ h => h) S293 (wants0 rfl) rfl (d := 181) (v := (.int .i64 ((t : Int) - 1))) rfl (fun _ => (e_int (z := (t : Int) - 1) (by kernel_rfl) (IntWalk.i64_in _ (by omega)))) ?_
          refine k_pure 8 rfl (by kernel_rfl) (by kernel_rfl) (by kernel_rfl) (fun _ _ _ h => h) S293 (wants0 rfl) rfl (d := 182) (v := (.pointer (some ⟨g281, 0 + ((t : Int) - 1).toNat * 35, none⟩))) rfl (fun _ => (e_indexAddrV (E := 50) (by kernel_rfl) (by kernel_rfl) (Nat.le_of_ble_eq_true rfl) rfl e283 rfl (by omega) (by omega))) ?_
          refine k_val 9 rfl (by kernel_rfl) (by kernel_rfl) (by kernel_rfl) (fun _ _ _ h => h) S293 (wants0 rfl) rfl (by kernel_rfl) (d := 183) (v := (.agg ⟨(([(.int .i64 (x284.cl)), (.int .i64 (x284.sq))] : List Value) ++ hc x284.h ++ ([(.int .u64 (x284.t))] : List Value))⟩)) rfl (fun _ H' => (e_loadRun (vs := (([(.int .i64 (x284.cl)), (.int .i64 (x284.sq))] : List Value) ++ hc x284.h ++ ([(.int .u64 (x284.t))] : List Value))) rfl (by kernel_rfl) (by kernel_rfl) (Nat.le_of_ble_eq_true (by kernel_rfl)) (rows_runK hkl (H'.at 2 rfl) e283 encEn_len h285 0 (show 0 + ((t : Int) - 1).toNat * 35 = ((t : Int) - 1).toNat * 35 + 0 by omega) (by kernel_rfl) (by kernel_rfl)))) ?_
          refine k_pure 10 rfl (by kernel_rfl) (by kernel_rfl) (by kernel_rfl) (fun _ _ _ h => h) S293 (wants0 rfl) rfl (d := 184) (v := (.slice oa O.length oc)) rfl (fun _ => (by kernel_rfl)) ?_
          refine k_pure 11 rfl (by kernel_rfl) (by kernel_rfl) (by kernel_rfl) (fun _ _ _ h => h) S293 (wants0 rfl) rfl (d := 185) (v := (.int .i64 ((t : Int)))) rfl (fun _ => (by kernel_rfl)) ?_
          refine k_pure 12 rfl (by kernel_rfl) (by kernel_rfl) (by kernel_rfl) (fun _ _ _ h => h) S293 (wants0 rfl) rfl (d := 186) (v := (.pointer (some ⟨g276, 0 + ((t : Int)).toNat * 35, none⟩))) rfl (fun _ => (e_indexAddrV (E := 50) (by kernel_rfl) (by kernel_rfl) (Nat.le_of_ble_eq_true rfl) rfl e278 rfl (by omega) (by omega))) ?_
          refine k_val 13 rfl (by kernel_rfl) (by kernel_rfl) (by kernel_rfl) (fun _ _ _ h => h) S293 (wants0 rfl) rfl (by kernel_rfl) (d := 187) (v := (.agg ⟨(([(.int .i64 (x279.cl)), (.int .i64 (x279.sq))] : List Value) ++ hc x279.h ++ ([(.int .u64 (x279.t))] : List Value))⟩)) rfl (fun _ H' => (e_loadRun (vs := (([(.int .i64 (x279.cl)), (.int .i64 (x279.sq))] : List Value) ++ hc x279.h ++ ([(.int .u64 (x279.t))] : List Value))) rfl (by kernel_rfl) (by kernel_rfl) (Nat.le_of_ble_eq_true (by kernel_rfl)) (rows_runK hkl (H'.at 2 rfl) e278 encEn_len h280 0 (show 0 + ((t : Int)).toNat * 35 = t * 35 + 0 by omega) (by kernel_rfl) (by kernel_rfl)))) ?_
          refine k_pure 14 rfl (by kernel_rfl) (by kernel_rfl) (by kernel_rfl) (fun _ _ _ h => h) S293 (wants0 rfl) rfl (d := 188) (v := (.pointer (some ⟨g276, 0 + ((t : Int)).toNat * 35, none⟩))) rfl (fun _ => (e_indexAddrV (E := 50) (by kernel_rfl) (by kernel_rfl) (Nat.le_of_ble_eq_true rfl) rfl e278 rfl (by omega) (by omega))) ?_
          refine k_brk 15 (Sat w [restC w (fun _ => False), cellC b2 27 ([(.int .i64 (ep)), (.int .u64 (tm)), (.slice pa P.length pc), (vo), (vt)] : List Value)]) rfl (by kernel_rfl) (wants0 rfl) rfl (fun K294 hK294 => ?_)
          have f297 := flat_set encEn 35 encEn_len O4 t x284 (by first | omega | (simp only [List.length_set]; omega))
          refine d_storeRow (u := (.agg ⟨(([(.int .i64 (x284.cl)), (.int .i64 (x284.sq))] : List Value) ++ hc x284.h ++ ([(.int .u64 (x284.t))] : List Value))⟩)) (vs := (([(.int .i64 (x284.cl)), (.int .i64 (x284.sq))] : List Value) ++ hc x284.h ++ ([(.int .u64 (x284.t))] : List Value))) rfl H292 2 rfl e278 rfl rfl rfl (by kernel_rfl) (Nat.lt_of_lt_of_eq (show 0 < 35 by decide) (show 35 = ((([(.int .i64 (x284.cl)), (.int .i64 (x284.sq))] : List Value) ++ hc x284.h ++ ([(.int .u64 (x284.t))] : List Value)) : List Value).length by kernel_rfl)) (by have q := flat_len encEn 35 encEn_len O4; rw [q, show ((([(.int .i64 (x284.cl)), (.int .i64 (x284.sq))] : List Value) ++ hc x284.h ++ ([(.int .u64 (x284.t))] : List Value)) : List Value).length = 35 from (by kernel_rfl)]; first | omega | (simp only [List.length_set]; omega)) (by kernel_rfl) ((congrArg (fun o_ => splice (O4.flatMap encEn) o_ (([(.int .i64 (x284.cl)), (.int .i64 (x284.sq))] : List Value) ++ hc x284.h ++ ([(.int .u64 (x284.t))] : List Value))) (show 0 + ((t : Int)).toNat * 35 = t * 35 by omega)).trans f297) ?_
          intro w295 (H296 : Sat w [restC w (fun _ => False), cellC b2 27 ([(.int .i64 (ep)), (.int .u64 (tm)), (.slice pa P.length pc), (vo), (vt)] : List Value), rowC 50 35 (.slice oa O.length oc) O.length ((O4.set t x284).flatMap encEn)] w295)
          have S298 := H296.pick [0, 1] (by decide)
          refine hK294 _ _ S298 ?_
          clear hK294 K294
          refine h_do 16 rfl (by kernel_rfl) (wants0 rfl) (fun K299 hK299 => ?_)
          refine d_pure (d := 189) (v := (.pointer (some ⟨g281, 0 + ((t : Int) - 1).toNat * 35, none⟩))) rfl (e_indexAddrV (E := 50) (by kernel_rfl) (by kernel_rfl) (Nat.le_of_ble_eq_true rfl) rfl e283 rfl (by omega) (by omega)) ?_
          have S300 := H296.pick [0, 1] (by decide)
          refine hK299 _ _ S300 ?_
          clear hK299 K299
          refine h_do 17 rfl (by kernel_rfl) (wants0 rfl) (fun K301 hK301 => ?_)
          have f304 := flat_set encEn 35 encEn_len (O4.set t x284) (((t : Int) - 1).toNat) x279 (by first | omega | (simp only [List.length_set]; omega))
          refine d_storeRow (u := (.agg ⟨(([(.int .i64 (x279.cl)), (.int .i64 (x279.sq))] : List Value) ++ hc x279.h ++ ([(.int .u64 (x279.t))] : List Value))⟩)) (vs := (([(.int .i64 (x279.cl)), (.int .i64 (x279.sq))] : List Value) ++ hc x279.h ++ ([(.int .u64 (x279.t))] : List Value))) rfl H296 2 rfl e283 rfl rfl rfl (by kernel_rfl) (Nat.lt_of_lt_of_eq (show 0 < 35 by decide) (show 35 = ((([(.int .i64 (x279.cl)), (.int .i64 (x279.sq))] : List Value) ++ hc x279.h ++ ([(.int .u64 (x279.t))] : List Value)) : List Value).length by kernel_rfl)) (by have q := flat_len encEn 35 encEn_len (O4.set t x284); rw [q, show ((([(.int .i64 (x279.cl)), (.int .i64 (x279.sq))] : List Value) ++ hc x279.h ++ ([(.int .u64 (x279.t))] : List Value)) : List Value).length = 35 from (by kernel_rfl)]; first | omega | (simp only [List.length_set]; omega)) (by kernel_rfl) ((congrArg (fun o_ => splice ((O4.set t x284).flatMap encEn) o_ (([(.int .i64 (x279.cl)), (.int .i64 (x279.sq))] : List Value) ++ hc x279.h ++ ([(.int .u64 (x279.t))] : List Value))) (show 0 + ((t : Int) - 1).toNat * 35 = (((t : Int) - 1).toNat) * 35 by omega)).trans f304) ?_
          intro w302 (H303 : Sat w [restC w (fun _ => False), cellC b2 27 ([(.int .i64 (ep)), (.int .u64 (tm)), (.slice pa P.length pc), (vo), (vt)] : List Value), rowC 50 35 (.slice oa O.length oc) O.length (((O4.set t x284).set (((t : Int) - 1).toNat) x279).flatMap encEn)] w302)
          have S305 := H303.pick [0, 1] (by decide)
          refine hK301 _ _ S305 ?_
          clear hK301 K301
          refine h_fin (by kernel_rfl) ?_
          refine blk_normal ?_
          refine then_normal ?_
          refine w_lit ?_
          refine wl_pure (wants0 rfl) (d := 172) (v := (.int .i64 ((t : Int)))) rfl (by kernel_rfl) ?_
          refine wl_pure (wants0 rfl) (d := 173) (v := (.int .i64 ((t : Int) - 1))) rfl (e_int (z := (t : Int) - 1) (by kernel_rfl) (IntWalk.i64_in _ (by omega))) ?_
          refine wl_pure (wants0 rfl) (d := 15) (v := (.int .i64 ((t : Int) - 1))) rfl (by kernel_rfl) ?_
          refine w_nil ?_
          refine round_back ?_ _ ⟨(t - 1), ((O4.set t x284).set (((t : Int) - 1).toNat) x279), (show ((.int .i64 ((t : Int) - 1)) : Value) = _ by first | rfl | go_num), (by omega), (by have q := (swap_perm (by omega) h280 (show O4[t - 1]? = some x284 from (show ((t : Int) - 1).toNat = t - 1 by omega) ▸ h285)).trans hn4; exact (show ((t : Int) - 1).toNat = t - 1 by omega) ▸ q), (by have q := sb_swap hs4 (by omega) (by omega) h280 (show O4[t - 1]? = some x284 from (show ((t : Int) - 1).toNat = t - 1 by omega) ▸ h285) (lt1 b286); exact (show ((t : Int) - 1).toNat = t - 1 by omega) ▸ q), H303, rfl⟩ (by omega)
          exact (same_upd rfl (same_upd rfl (same_upd rfl (same_upd rfl (same_upd rfl (same_upd rfl (same_upd rfl (same_upd rfl (same_upd rfl (same_upd rfl (same_upd rfl (same_upd rfl (same_upd rfl (same_upd rfl (same_upd rfl (same_upd rfl (same_upd rfl (same_upd rfl (same_upd rfl (same_upd rfl (same_upd rfl (same_upd rfl (same_upd rfl (same_upd rfl (same_upd rfl (same_upd rfl (same_upd rfl (same_upd rfl (same_upd rfl (same_upd rfl (same_upd rfl (same_upd rfl (same_upd rfl (same_upd rfl (same_upd rfl (same_upd rfl (same_upd rfl (same_upd rfl (same_upd rfl (same_upd rfl (same_upd rfl (same_upd rfl (same_upd rfl (same_upd rfl (same_upd rfl (same_upd rfl (same_upd rfl (same_upd rfl (same_upd rfl (same_upd rfl (same_upd rfl (same_upd rfl (same_upd rfl (same_upd rfl (same_upd rfl (same_upd rfl (same_upd rfl (same_upd rfl (same_upd rfl (same_upd rfl (same_upd rfl (same_upd rfl (same_upd rfl (same_upd rfl (same_upd rfl (same_upd rfl (same_ovr)))))))))))))))))))))))))))))))))))))))))))))))))))))))))))))))))))
        · have g306 := of_decide_eq_false b286
          refine q_know 143 (.bool false) (congrArg Value.bool b286) ?_
          have g307 := of_decide_eq_false b286
          refine q_val (wantsY 15 143 false rfl (by kernel_rfl) rfl (by kernel_rfl)) (d := 144) (v := (.slice oa O.length oc)) rfl (fun _ H' => (by kernel_rfl)) ?_
          refine q_val (wantsY 15 143 false rfl (by kernel_rfl) rfl (by kernel_rfl)) (d := 145) (v := (.int .i64 ((t : Int)))) rfl (fun _ H' => (by kernel_rfl)) ?_
          refine q_val (wantsY 15 143 false rfl (by kernel_rfl) rfl (by kernel_rfl)) (d := 146) (v := (.pointer (some ⟨g276, 0 + ((t : Int)).toNat * 35, none⟩))) rfl (fun _ H' => (e_indexAddrV (E := 50) (by kernel_rfl) (by kernel_rfl) (Nat.le_of_ble_eq_true rfl) rfl e278 rfl (by omega) (by omega))) ?_
          refine q_val (wantsY 15 143 false rfl (by kernel_rfl) rfl (by kernel_rfl)) (d := 147) (v := (.pointer (some ⟨g276, 0 + ((t : Int)).toNat * 35 + 34, none⟩))) rfl (fun _ H' => (by kernel_rfl)) ?_
          refine q_val (wantsY 15 143 false rfl (by kernel_rfl) rfl (by kernel_rfl)) (d := 148) (v := (.int .u64 (x279.t))) rfl (fun _ H' => (e_load1 rfl (by kernel_rfl) (rows_cellK hkl (H'.at 2 rfl) e278 encEn_len h280 34 rfl (show 0 + ((t : Int)).toNat * 35 + 34 = t * 35 + 34 by omega) (by kernel_rfl)))) ?_
          refine q_val (wantsY 15 143 false rfl (by kernel_rfl) rfl (by kernel_rfl)) (d := 149) (v := (.slice oa O.length oc)) rfl (fun _ H' => (by kernel_rfl)) ?_
          refine q_val (wantsY 15 143 false rfl (by kernel_rfl) rfl (by kernel_rfl)) (d := 150) (v := (.int .i64 ((t : Int)))) rfl (fun _ H' => (by kernel_rfl)) ?_
          refine q_val (wantsY 15 143 false rfl (by kernel_rfl) rfl (by kernel_rfl)) (d := 151) (v := (.int .i64 ((t : Int) - 1))) rfl (fun _ H' => (e_int (z := (t : Int) - 1) (by kernel_rfl) (IntWalk.i64_in _ (by omega)))) ?_
          refine q_val (wantsY 15 143 false rfl (by kernel_rfl) rfl (by kernel_rfl)) (d := 152) (v := (.pointer (some ⟨g281, 0 + ((t : Int) - 1).toNat * 35, none⟩))) rfl (fun _ H' => (e_indexAddrV (E := 50) (by kernel_rfl) (by kernel_rfl) (Nat.le_of_ble_eq_true rfl) rfl e283 rfl (by omega) (by omega))) ?_
          refine q_val (wantsY 15 143 false rfl (by kernel_rfl) rfl (by kernel_rfl)) (d := 153) (v := (.pointer (some ⟨g281, 0 + ((t : Int) - 1).toNat * 35 + 34, none⟩))) rfl (fun _ H' => (by kernel_rfl)) ?_
          refine q_val (wantsY 15 143 false rfl (by kernel_rfl) rfl (by kernel_rfl)) (d := 154) (v := (.int .u64 (x284.t))) rfl (fun _ H' => (e_load1 rfl (by kernel_rfl) (rows_cellK hkl (H'.at 2 rfl) e283 encEn_len h285 34 rfl (show 0 + ((t : Int) - 1).toNat * 35 + 34 = ((t : Int) - 1).toNat * 35 + 34 by omega) (by kernel_rfl)))) ?_
          refine q_val (wantsY 15 143 false rfl (by kernel_rfl) rfl (by kernel_rfl)) (d := 155) (v := (.bool (decide (x279.t = x284.t)))) rfl (fun _ H' => (by kernel_rfl)) ?_
          refine q_val (wantsY 15 143 false rfl (by kernel_rfl) rfl (by kernel_rfl)) (d := 156) (v := (.bool (decide (x279.t = x284.t)))) rfl (fun _ H' => (by kernel_rfl)) ?_
          refine (bsplit (decide (x279.t = x284.t))).elim (fun b308 => ?_) (fun b308 => ?_)
          · have g309 := of_decide_eq_true b308
            refine q_know 156 (.bool true) (congrArg Value.bool b308) ?_
            have g310 := of_decide_eq_true b308
            refine q_val (wantsY 28 156 true rfl (by kernel_rfl) rfl (by kernel_rfl)) (d := 157) (v := (.slice oa O.length oc)) rfl (fun _ H' => (by kernel_rfl)) ?_
            refine q_val (wantsY 28 156 true rfl (by kernel_rfl) rfl (by kernel_rfl)) (d := 158) (v := (.int .i64 ((t : Int)))) rfl (fun _ H' => (by kernel_rfl)) ?_
            refine q_val (wantsY 28 156 true rfl (by kernel_rfl) rfl (by kernel_rfl)) (d := 159) (v := (.pointer (some ⟨g276, 0 + ((t : Int)).toNat * 35, none⟩))) rfl (fun _ H' => (e_indexAddrV (E := 50) (by kernel_rfl) (by kernel_rfl) (Nat.le_of_ble_eq_true rfl) rfl e278 rfl (by omega) (by omega))) ?_
            refine q_val (wantsY 28 156 true rfl (by kernel_rfl) rfl (by kernel_rfl)) (d := 160) (v := (.pointer (some ⟨g276, 0 + ((t : Int)).toNat * 35, none⟩))) rfl (fun _ H' => (by kernel_rfl)) ?_
            refine q_val (wantsY 28 156 true rfl (by kernel_rfl) rfl (by kernel_rfl)) (d := 161) (v := (.agg ⟨([(.int .i64 (x279.cl)), (.int .i64 (x279.sq))] : List Value)⟩)) rfl (fun _ H' => (e_loadRun (vs := ([(.int .i64 (x279.cl)), (.int .i64 (x279.sq))] : List Value)) rfl (by kernel_rfl) (by kernel_rfl) (Nat.le_of_ble_eq_true (by kernel_rfl)) (rows_runK hkl (H'.at 2 rfl) e278 encEn_len h280 0 (show 0 + ((t : Int)).toNat * 35 = t * 35 + 0 by omega) (by kernel_rfl) (by kernel_rfl)))) ?_
            refine q_val (wantsY 28 156 true rfl (by kernel_rfl) rfl (by kernel_rfl)) (d := 162) (v := (.slice oa O.length oc)) rfl (fun _ H' => (by kernel_rfl)) ?_
            refine q_val (wantsY 28 156 true rfl (by kernel_rfl) rfl (by kernel_rfl)) (d := 163) (v := (.int .i64 ((t : Int)))) rfl (fun _ H' => (by kernel_rfl)) ?_
            refine q_val (wantsY 28 156 true rfl (by kernel_rfl) rfl (by kernel_rfl)) (d := 164) (v := (.int .i64 ((t : Int) - 1))) rfl (fun _ H' => (e_int (z := (t : Int) - 1) (by kernel_rfl) (IntWalk.i64_in _ (by omega)))) ?_
            refine q_val (wantsY 28 156 true rfl (by kernel_rfl) rfl (by kernel_rfl)) (d := 165) (v := (.pointer (some ⟨g281, 0 + ((t : Int) - 1).toNat * 35, none⟩))) rfl (fun _ H' => (e_indexAddrV (E := 50) (by kernel_rfl) (by kernel_rfl) (Nat.le_of_ble_eq_true rfl) rfl e283 rfl (by omega) (by omega))) ?_
            refine q_val (wantsY 28 156 true rfl (by kernel_rfl) rfl (by kernel_rfl)) (d := 166) (v := (.pointer (some ⟨g281, 0 + ((t : Int) - 1).toNat * 35, none⟩))) rfl (fun _ H' => (by kernel_rfl)) ?_
            refine q_val (wantsY 28 156 true rfl (by kernel_rfl) rfl (by kernel_rfl)) (d := 167) (v := (.agg ⟨([(.int .i64 (x284.cl)), (.int .i64 (x284.sq))] : List Value)⟩)) rfl (fun _ H' => (e_loadRun (vs := ([(.int .i64 (x284.cl)), (.int .i64 (x284.sq))] : List Value)) rfl (by kernel_rfl) (by kernel_rfl) (Nat.le_of_ble_eq_true (by kernel_rfl)) (rows_runK hkl (H'.at 2 rfl) e283 encEn_len h285 0 (show 0 + ((t : Int) - 1).toNat * 35 = ((t : Int) - 1).toNat * 35 + 0 by omega) (by kernel_rfl) (by kernel_rfl)))) ?_
            refine q_call (wantsY 28 156 true rfl (by kernel_rfl) rfl (by kernel_rfl)) (d := 168) (v := (.bool (decide (x279.cl < x284.cl) || (decide (x279.cl = x284.cl) && decide (x279.sq < x284.sq))))) rfl (fun _ _ => by kernel_rfl) (fun w' H' => (rLess_any w' x279.cl x279.sq x284.cl x284.sq).mono fun _ _ h => ⟨h.1, H'.keepU h.2⟩) ?_
            refine q_val (wantsY 15 143 false rfl (by kernel_rfl) rfl (by kernel_rfl)) (d := 169) (v := (.bool (decide (x279.cl < x284.cl) || (decide (x279.cl = x284.cl) && decide (x279.sq < x284.sq))))) rfl (fun _ H' => (by kernel_rfl)) ?_
            refine q_val (wantsY 2 130 true rfl (by kernel_rfl) rfl (by kernel_rfl)) (d := 170) (v := (.bool (decide (x279.cl < x284.cl) || (decide (x279.cl = x284.cl) && decide (x279.sq < x284.sq))))) rfl (fun _ H' => (by kernel_rfl)) ?_
            refine q_val (wants0 rfl) (d := 171) (v := (.bool (decide (x279.cl < x284.cl) || (decide (x279.cl = x284.cl) && decide (x279.sq < x284.sq))))) rfl (fun _ H' => (by kernel_rfl)) ?_
            refine q_end ?_
            intro w311 H312
            refine then_normal ?_
            refine (bsplit (decide (x279.cl < x284.cl) || (decide (x279.cl = x284.cl) && decide (x279.sq < x284.sq)))).elim (fun b313 => ?_) (fun b313 => ?_)
            · refine wp_know 171 (.bool true) (congrArg Value.bool b313) ?_
              refine wp_ift rfl ?_
              refine w_skip ?_
              refine then_normal ?_
              refine w_seq ?_
              refine w_block ?_
              refine k_start H312 [restC w (fun _ => False), cellC b2 27 ([(.int .i64 (ep)), (.int .u64 (tm)), (.slice pa P.length pc), (vo), (vt)] : List Value), rowC 50 35 (.slice oa O.length oc) O.length (O4.flatMap encEn)] [15, 17] 18 rfl (by kernel_rfl) (fun Hx => (Hx.pick [0, 1, 2] (by decide))) ?_
              intro w314 H315 S316
              refine k_pure 0 rfl (by kernel_rfl) (by kernel_rfl) (by kernel_rfl) (fun _ _ _ h => h) S316 (wants0 rfl) rfl (d := 174) (v := (.slice oa O.length oc)) rfl (fun _ => (by kernel_rfl)) ?_
              refine k_pure 1 rfl (by kernel_rfl) (by kernel_rfl) (by kernel_rfl) (fun _ _ _ h => h) S316 (wants0 rfl) rfl (d := 175) (v := (.int .i64 ((t : Int)))) rfl (fun _ => (by kernel_rfl)) ?_
              refine k_pure 2 rfl (by kernel_rfl) (by kernel_rfl) (by kernel_rfl) (fun _ _ _ h => h) S316 (wants0 rfl) rfl (d := 176) (v := (.slice oa O.length oc)) rfl (fun _ => (by kernel_rfl)) ?_
              refine k_pure 3 rfl (by kernel_rfl) (by kernel_rfl) (by kernel_rfl) (fun _ _ _ h => h) S316 (wants0 rfl) rfl (d := 177) (v := (.int .i64 ((t : Int)))) rfl (fun _ => (by kernel_rfl)) ?_
              refine k_pure 4 rfl (by kernel_rfl) (by kernel_rfl) (by kernel_rfl) (fun _ _ _ h => h) S316 (wants0 rfl) rfl (d := 178) (v := (.int .i64 ((t : Int) - 1))) rfl (fun _ => (e_int (z := (t : Int) - 1) (by kernel_rfl) (IntWalk.i64_in _ (by omega)))) ?_
              refine k_pure 5 rfl (by kernel_rfl) (by kernel_rfl) (by kernel_rfl) (fun _ _ _ h => h) S316 (wants0 rfl) rfl (d := 179) (v := (.slice oa O.length oc)) rfl (fun _ => (by kernel_rfl)) ?_
              refine k_pure 6 rfl (by kernel_rfl) (by kernel_rfl) (by kernel_rfl) (fun _ _ _ h => h) S316 (wants0 rfl) rfl (d := 180) (v := (.int .i64 ((t : Int)))) rfl (fun _ => (by kernel_rfl)) ?_
              refine k_pure 7 rfl (by kernel_rfl) (by kernel_rfl) (by kernel_rfl) (fun _ _ _ h => h) S316 (wants0 rfl) rfl (d := 181) (v := (.int .i64 ((t : Int) - 1))) rfl (fun _ => (e_int (z := (t : Int) - 1) (by kernel_rfl) (IntWalk.i64_in _ (by omega)))) ?_
              refine k_pure 8 rfl (by kernel_rfl) (by kernel_rfl) (by kernel_rfl) (fun _ _ _ h => h) S316 (wants0 rfl) rfl (d := 182) (v := (.pointer (some ⟨g281, 0 + ((t : Int) - 1).toNat * 35, none⟩))) rfl (fun _ => (e_indexAddrV (E := 50) (by kernel_rfl) (by kernel_rfl) (Nat.le_of_ble_eq_true rfl) rfl e283 rfl (by omega) (by omega))) ?_
              refine k_val 9 rfl (by kernel_rfl) (by kernel_rfl) (by kernel_rfl) (fun _ _ _ h => h) S316 (wants0 rfl) rfl (by kernel_rfl) (d := 183) (v := (.agg ⟨(([(.int .i64 (x284.cl)), (.int .i64 (x284.sq))] : List Value) ++ hc x284.h ++ ([(.int .u64 (x284.t))] : List Value))⟩)) rfl (fun _ H' => (e_loadRun (vs := (([(.int .i64 (x284.cl)), (.int .i64 (x284.sq))] : List Value) ++ hc x284.h ++ ([(.int .u64 (x284.t))] : List Value))) rfl (by kernel_rfl) (by kernel_rfl) (Nat.le_of_ble_eq_true (by kernel_rfl)) (rows_runK hkl (H'.at 2 rfl) e283 encEn_len h285 0 (show 0 + ((t : Int) - 1).toNat * 35 = ((t : Int) - 1).toNat * 35 + 0 by omega) (by kernel_rfl) (by kernel_rfl)))) ?_
              refine k_pure 10 rfl (by kernel_rfl) (by kernel_rfl) (by kernel_rfl) (fun _ _ _ h => h) S316 (wants0 rfl) rfl (d := 184) (v := (.slice oa O.length oc)) rfl (fun _ => (by kernel_rfl)) ?_
              refine k_pure 11 rfl (by kernel_rfl) (by kernel_rfl) (by kernel_rfl) (fun _ _ _ h => h) S316 (wants0 rfl) rfl (d := 185) (v := (.int .i64 ((t : Int)))) rfl (fun _ => (by kernel_rfl)) ?_
              refine k_pure 12 rfl (by kernel_rfl) (by kernel_rfl) (by kernel_rfl) (fun _ _ _ h => h) S316 (wants0 rfl) rfl (d := 186) (v := (.pointer (some ⟨g276, 0 + ((t : Int)).toNat * 35, none⟩))) rfl (fun _ => (e_indexAddrV (E := 50) (by kernel_rfl) (by kernel_rfl) (Nat.le_of_ble_eq_true rfl) rfl e278 rfl (by omega) (by omega))) ?_
              refine k_val 13 rfl (by kernel_rfl) (by kernel_rfl) (by kernel_rfl) (fun _ _ _ h => h) S316 (wants0 rfl) rfl (by kernel_rfl) (d := 187) (v := (.agg ⟨(([(.int .i64 (x279.cl)), (.int .i64 (x279.sq))] : List Value) ++ hc x279.h ++ ([(.int .u64 (x279.t))] : List Value))⟩)) rfl (fun _ H' => (e_loadRun (vs := (([(.int .i64 (x279.cl)), (.int .i64 (x279.sq))] : List Value) ++ hc x279.h ++ ([(.int .u64 (x279.t))] : List Value))) rfl (by kernel_rfl) (by kernel_rfl) (Nat.le_of_ble_eq_true (by kernel_rfl)) (rows_runK hkl (H'.at 2 rfl) e278 encEn_len h280 0 (show 0 + ((t : Int)).toNat * 35 = t * 35 + 0 by omega) (by kernel_rfl) (by kernel_rfl)))) ?_
              refine k_pure 14 rfl (by kernel_rfl) (by kernel_rfl) (by kernel_rfl) (fun _ _ _ h => h) S316 (wants0 rfl) rfl (d := 188) (v := (.pointer (some ⟨g276, 0 + ((t : Int)).toNat * 35, none⟩))) rfl (fun _ => (e_indexAddrV (E := 50) (by kernel_rfl) (by kernel_rfl) (Nat.le_of_ble_eq_true rfl) rfl e278 rfl (by omega) (by omega))) ?_
              refine k_brk 15 (Sat w [restC w (fun _ => False), cellC b2 27 ([(.int .i64 (ep)), (.int .u64 (tm)), (.slice pa P.length pc), (vo), (vt)] : List Value)]) rfl (by kernel_rfl) (wants0 rfl) rfl (fun K317 hK317 => ?_)
              have f320 := flat_set encEn 35 encEn_len O4 t x284 (by first | omega | (simp only [List.length_set]; omega))
              refine d_storeRow (u := (.agg ⟨(([(.int .i64 (x284.cl)), (.int .i64 (x284.sq))] : List Value) ++ hc x284.h ++ ([(.int .u64 (x284.t))] : List Value))⟩)) (vs := (([(.int .i64 (x284.cl)), (.int .i64 (x284.sq))] : List Value) ++ hc x284.h ++ ([(.int .u64 (x284.t))] : List Value))) rfl H315 2 rfl e278 rfl rfl rfl (by kernel_rfl) (Nat.lt_of_lt_of_eq (show 0 < 35 by decide) (show 35 = ((([(.int .i64 (x284.cl)), (.int .i64 (x284.sq))] : List Value) ++ hc x284.h ++ ([(.int .u64 (x284.t))] : List Value)) : List Value).length by kernel_rfl)) (by have q := flat_len encEn 35 encEn_len O4; rw [q, show ((([(.int .i64 (x284.cl)), (.int .i64 (x284.sq))] : List Value) ++ hc x284.h ++ ([(.int .u64 (x284.t))] : List Value)) : List Value).length = 35 from (by kernel_rfl)]; first | omega | (simp only [List.length_set]; omega)) (by kernel_rfl) ((congrArg (fun o_ => splice (O4.flatMap encEn) o_ (([(.int .i64 (x284.cl)), (.int .i64 (x284.sq))] : List Value) ++ hc x284.h ++ ([(.int .u64 (x284.t))] : List Value))) (show 0 + ((t : Int)).toNat * 35 = t * 35 by omega)).trans f320) ?_
              intro w318 (H319 : Sat w [restC w (fun _ => False), cellC b2 27 ([(.int .i64 (ep)), (.int .u64 (tm)), (.slice pa P.length pc), (vo), (vt)] : List Value), rowC 50 35 (.slice oa O.length oc) O.length ((O4.set t x284).flatMap encEn)] w318)
              have S321 := H319.pick [0, 1] (by decide)
              refine hK317 _ _ S321 ?_
              clear hK317 K317
              refine h_do 16 rfl (by kernel_rfl) (wants0 rfl) (fun K322 hK322 => ?_)
              refine d_pure (d := 189) (v := (.pointer (some ⟨g281, 0 + ((t : Int) - 1).toNat * 35, none⟩))) rfl (e_indexAddrV (E := 50) (by kernel_rfl) (by kernel_rfl) (Nat.le_of_ble_eq_true rfl) rfl e283 rfl (by omega) (by omega)) ?_
              have S323 := H319.pick [0, 1] (by decide)
              refine hK322 _ _ S323 ?_
              clear hK322 K322
              refine h_do 17 rfl (by kernel_rfl) (wants0 rfl) (fun K324 hK324 => ?_)
              have f327 := flat_set encEn 35 encEn_len (O4.set t x284) (((t : Int) - 1).toNat) x279 (by first | omega | (simp only [List.length_set]; omega))
              refine d_storeRow (u := (.agg ⟨(([(.int .i64 (x279.cl)), (.int .i64 (x279.sq))] : List Value) ++ hc x279.h ++ ([(.int .u64 (x279.t))] : List Value))⟩)) (vs := (([(.int .i64 (x279.cl)), (.int .i64 (x279.sq))] : List Value) ++ hc x279.h ++ ([(.int .u64 (x279.t))] : List Value))) rfl H319 2 rfl e283 rfl rfl rfl (by kernel_rfl) (Nat.lt_of_lt_of_eq (show 0 < 35 by decide) (show 35 = ((([(.int .i64 (x279.cl)), (.int .i64 (x279.sq))] : List Value) ++ hc x279.h ++ ([(.int .u64 (x279.t))] : List Value)) : List Value).length by kernel_rfl)) (by have q := flat_len encEn 35 encEn_len (O4.set t x284); rw [q, show ((([(.int .i64 (x279.cl)), (.int .i64 (x279.sq))] : List Value) ++ hc x279.h ++ ([(.int .u64 (x279.t))] : List Value)) : List Value).length = 35 from (by kernel_rfl)]; first | omega | (simp only [List.length_set]; omega)) (by kernel_rfl) ((congrArg (fun o_ => splice ((O4.set t x284).flatMap encEn) o_ (([(.int .i64 (x279.cl)), (.int .i64 (x279.sq))] : List Value) ++ hc x279.h ++ ([(.int .u64 (x279.t))] : List Value))) (show 0 + ((t : Int) - 1).toNat * 35 = (((t : Int) - 1).toNat) * 35 by omega)).trans f327) ?_
              intro w325 (H326 : Sat w [restC w (fun _ => False), cellC b2 27 ([(.int .i64 (ep)), (.int .u64 (tm)), (.slice pa P.length pc), (vo), (vt)] : List Value), rowC 50 35 (.slice oa O.length oc) O.length (((O4.set t x284).set (((t : Int) - 1).toNat) x279).flatMap encEn)] w325)
              have S328 := H326.pick [0, 1] (by decide)
              refine hK324 _ _ S328 ?_
              clear hK324 K324
              refine h_fin (by kernel_rfl) ?_
              refine blk_normal ?_
              refine then_normal ?_
              refine w_lit ?_
              refine wl_pure (wants0 rfl) (d := 172) (v := (.int .i64 ((t : Int)))) rfl (by kernel_rfl) ?_
              refine wl_pure (wants0 rfl) (d := 173) (v := (.int .i64 ((t : Int) - 1))) rfl (e_int (z := (t : Int) - 1) (by kernel_rfl) (IntWalk.i64_in _ (by omega))) ?_
              refine wl_pure (wants0 rfl) (d := 15) (v := (.int .i64 ((t : Int) - 1))) rfl (by kernel_rfl) ?_
              refine w_nil ?_
              refine round_back ?_ _ ⟨(t - 1), ((O4.set t x284).set (((t : Int) - 1).toNat) x279), (show ((.int .i64 ((t : Int) - 1)) : Value) = _ by first | rfl | go_num), (by omega), (by have q := (swap_perm (by omega) h280 (show O4[t - 1]? = some x284 from (show ((t : Int) - 1).toNat = t - 1 by omega) ▸ h285)).trans hn4; exact (show ((t : Int) - 1).toNat = t - 1 by omega) ▸ q), (by have q := sb_swap hs4 (by omega) (by omega) h280 (show O4[t - 1]? = some x284 from (show ((t : Int) - 1).toNat = t - 1 by omega) ▸ h285) (lt2 b308 b313); exact (show ((t : Int) - 1).toNat = t - 1 by omega) ▸ q), H326, rfl⟩ (by omega)
              exact (same_upd rfl (same_upd rfl (same_upd rfl (same_upd rfl (same_upd rfl (same_upd rfl (same_upd rfl (same_upd rfl (same_upd rfl (same_upd rfl (same_upd rfl (same_upd rfl (same_upd rfl (same_upd rfl (same_upd rfl (same_upd rfl (same_upd rfl (same_upd rfl (same_upd rfl (same_upd rfl (same_upd rfl (same_upd rfl (same_upd rfl (same_upd rfl (same_upd rfl (same_upd rfl (same_upd rfl (same_upd rfl (same_upd rfl (same_upd rfl (same_upd rfl (same_upd rfl (same_upd rfl (same_upd rfl (same_upd rfl (same_upd rfl (same_upd rfl (same_upd rfl (same_upd rfl (same_upd rfl (same_upd rfl (same_upd rfl (same_upd rfl (same_upd rfl (same_upd rfl (same_upd rfl (same_upd rfl (same_upd rfl (same_upd rfl (same_upd rfl (same_upd rfl (same_upd rfl (same_upd rfl (same_upd rfl (same_upd rfl (same_upd rfl (same_upd rfl (same_upd rfl (same_upd rfl (same_upd rfl (same_upd rfl (same_upd rfl (same_upd rfl (same_upd rfl (same_upd rfl (same_upd rfl (same_upd rfl (same_upd rfl (same_ovr)))))))))))))))))))))))))))))))))))))))))))))))))))))))))))))))))))))
            · refine wp_know 171 (.bool false) (congrArg Value.bool b313) ?_
              refine wp_iff rfl ?_
              refine w_exit ?_
              refine then_exit ?_
              refine back_exit ?_
              refine blk_hit ?_
              refine blk_normal ?_
              refine then_normal ?_
              refine w_lit ?_
              refine wl_pure (wants0 rfl) (d := 190) (v := (.int .i64 ((p : Int) + 1))) rfl (e_int (z := (p : Int) + 1) (by kernel_rfl) (IntWalk.i64_in _ (by omega))) ?_
              refine wl_pure (wants0 rfl) (d := 124) (v := (.int .i64 ((p : Int) + 1))) rfl (by kernel_rfl) ?_
              refine w_nil ?_
              refine round_back ?_ _ ⟨(p + 1), O4, (show ((.int .i64 ((p : Int) + 1)) : Value) = _ by first | rfl | go_num), (by omega), (hn4), (sb_stop hs4 (by omega) h280 (show O4[t - 1]? = some x284 from (show ((t : Int) - 1).toNat = t - 1 by omega) ▸ h285) (nl2 b286 b313)), H312, rfl⟩ (by omega)
              exact (same_upd rfl (same_upd rfl (same_upd rfl (same_upd rfl (same_upd rfl (same_upd rfl (same_upd rfl (same_upd rfl (same_upd rfl (same_upd rfl (same_upd rfl (same_upd rfl (same_upd rfl (same_upd rfl (same_upd rfl (same_upd rfl (same_upd rfl (same_upd rfl (same_upd rfl (same_upd rfl (same_upd rfl (same_upd rfl (same_upd rfl (same_upd rfl (same_upd rfl (same_upd rfl (same_upd rfl (same_upd rfl (same_upd rfl (same_upd rfl (same_upd rfl (same_upd rfl (same_upd rfl (same_upd rfl (same_upd rfl (same_upd rfl (same_upd rfl (same_upd rfl (same_upd rfl (same_upd rfl (same_upd rfl (same_upd rfl (same_upd rfl (same_upd rfl (same_upd rfl (same_upd rfl (same_upd rfl (same_upd rfl (same_upd rfl (same_upd rfl (same_upd rfl (same_ovr2 rfl (same_upd rfl (same_upd rfl (same_upd rfl (same_upd rfl (same_upd rfl (same_upd rfl (same_upd rfl (same_ovr))))))))))))))))))))))))))))))))))))))))))))))))))))))))))))
          · have g329 := of_decide_eq_false b308
            refine q_know 156 (.bool false) (congrArg Value.bool b308) ?_
            have g330 := of_decide_eq_false b308
            refine q_pass (wantsN 28 156 true rfl (by kernel_rfl) rfl (by kernel_rfl)) rfl ?_
            refine q_pass (wantsN 28 156 true rfl (by kernel_rfl) rfl (by kernel_rfl)) rfl ?_
            refine q_pass (wantsN 28 156 true rfl (by kernel_rfl) rfl (by kernel_rfl)) rfl ?_
            refine q_pass (wantsN 28 156 true rfl (by kernel_rfl) rfl (by kernel_rfl)) rfl ?_
            refine q_pass (wantsN 28 156 true rfl (by kernel_rfl) rfl (by kernel_rfl)) rfl ?_
            refine q_pass (wantsN 28 156 true rfl (by kernel_rfl) rfl (by kernel_rfl)) rfl ?_
            refine q_pass (wantsN 28 156 true rfl (by kernel_rfl) rfl (by kernel_rfl)) rfl ?_
            refine q_pass (wantsN 28 156 true rfl (by kernel_rfl) rfl (by kernel_rfl)) rfl ?_
            refine q_pass (wantsN 28 156 true rfl (by kernel_rfl) rfl (by kernel_rfl)) rfl ?_
            refine q_pass (wantsN 28 156 true rfl (by kernel_rfl) rfl (by kernel_rfl)) rfl ?_
            refine q_pass (wantsN 28 156 true rfl (by kernel_rfl) rfl (by kernel_rfl)) rfl ?_
            refine q_pass (wantsN 28 156 true rfl (by kernel_rfl) rfl (by kernel_rfl)) rfl ?_
            refine q_val (wantsY 15 143 false rfl (by kernel_rfl) rfl (by kernel_rfl)) (d := 169) (v := (.bool false)) rfl (fun _ H' => (by kernel_rfl)) ?_
            refine q_val (wantsY 2 130 true rfl (by kernel_rfl) rfl (by kernel_rfl)) (d := 170) (v := (.bool false)) rfl (fun _ H' => (by kernel_rfl)) ?_
            refine q_val (wants0 rfl) (d := 171) (v := (.bool false)) rfl (fun _ H' => (by kernel_rfl)) ?_
            refine q_end ?_
            intro w331 H332
            refine then_normal ?_
            refine wp_iff rfl ?_
            refine w_exit ?_
            refine then_exit ?_
            refine back_exit ?_
            refine blk_hit ?_
            refine blk_normal ?_
            refine then_normal ?_
            refine w_lit ?_
            refine wl_pure (wants0 rfl) (d := 190) (v := (.int .i64 ((p : Int) + 1))) rfl (e_int (z := (p : Int) + 1) (by kernel_rfl) (IntWalk.i64_in _ (by omega))) ?_
            refine wl_pure (wants0 rfl) (d := 124) (v := (.int .i64 ((p : Int) + 1))) rfl (by kernel_rfl) ?_
            refine w_nil ?_
            refine round_back ?_ _ ⟨(p + 1), O4, (show ((.int .i64 ((p : Int) + 1)) : Value) = _ by first | rfl | go_num), (by omega), (hn4), (sb_stop hs4 (by omega) h280 (show O4[t - 1]? = some x284 from (show ((t : Int) - 1).toNat = t - 1 by omega) ▸ h285) (nl3 b286 b308)), H332, rfl⟩ (by omega)
            exact (same_upd rfl (same_upd rfl (same_upd rfl (same_upd rfl (same_upd rfl (same_upd rfl (same_upd rfl (same_upd rfl (same_upd rfl (same_upd rfl (same_upd rfl (same_upd rfl (same_upd rfl (same_upd rfl (same_upd rfl (same_upd rfl (same_upd rfl (same_upd rfl (same_upd rfl (same_upd rfl (same_upd rfl (same_upd rfl (same_upd rfl (same_upd rfl (same_upd rfl (same_upd rfl (same_upd rfl (same_upd rfl (same_upd rfl (same_upd rfl (same_upd rfl (same_upd rfl (same_upd rfl (same_upd rfl (same_upd rfl (same_upd rfl (same_upd rfl (same_upd rfl (same_upd rfl (same_upd rfl (same_upd rfl (same_upd rfl (same_upd rfl (same_upd rfl (same_upd rfl (same_upd rfl (same_upd rfl (same_upd rfl (same_upd rfl (same_upd rfl (same_ovr2 rfl (same_upd rfl (same_upd rfl (same_upd rfl (same_upd rfl (same_upd rfl (same_upd rfl (same_upd rfl (same_ovr)))))))))))))))))))))))))))))))))))))))))))))))))))))))))))
      · have g333 := of_decide_eq_false b273
        refine q_know 130 (.bool false) (congrArg Value.bool b273) ?_
        have g334 := of_decide_eq_false b273
        refine q_pass (wantsN 2 130 true rfl (by kernel_rfl) rfl (by kernel_rfl)) rfl ?_
        refine q_pass (wantsN 2 130 true rfl (by kernel_rfl) rfl (by kernel_rfl)) rfl ?_
        refine q_pass (wantsN 2 130 true rfl (by kernel_rfl) rfl (by kernel_rfl)) rfl ?_
        refine q_pass (wantsN 2 130 true rfl (by kernel_rfl) rfl (by kernel_rfl)) rfl ?_
        refine q_pass (wantsN 2 130 true rfl (by kernel_rfl) rfl (by kernel_rfl)) rfl ?_
        refine q_pass (wantsN 2 130 true rfl (by kernel_rfl) rfl (by kernel_rfl)) rfl ?_
        refine q_pass (wantsN 2 130 true rfl (by kernel_rfl) rfl (by kernel_rfl)) rfl ?_
        refine q_pass (wantsN 2 130 true rfl (by kernel_rfl) rfl (by kernel_rfl)) rfl ?_
        refine q_pass (wantsN 2 130 true rfl (by kernel_rfl) rfl (by kernel_rfl)) rfl ?_
        refine q_pass (wantsN 2 130 true rfl (by kernel_rfl) rfl (by kernel_rfl)) rfl ?_
        refine q_pass (wantsN 2 130 true rfl (by kernel_rfl) rfl (by kernel_rfl)) rfl ?_
        refine q_pass (wantsN 2 130 true rfl (by kernel_rfl) rfl (by kernel_rfl)) rfl ?_
        refine q_pass (wantsN 2 130 true rfl (by kernel_rfl) rfl (by kernel_rfl)) rfl ?_
        refine q_pass (wantsU 15 143 false rfl (by kernel_rfl) rfl (by kernel_rfl)) rfl ?_
        refine q_pass (wantsU 15 143 false rfl (by kernel_rfl) rfl (by kernel_rfl)) rfl ?_
        refine q_pass (wantsU 15 143 false rfl (by kernel_rfl) rfl (by kernel_rfl)) rfl ?_
        refine q_pass (wantsU 15 143 false rfl (by kernel_rfl) rfl (by kernel_rfl)) rfl ?_
        refine q_pass (wantsU 15 143 false rfl (by kernel_rfl) rfl (by kernel_rfl)) rfl ?_
        refine q_pass (wantsU 15 143 false rfl (by kernel_rfl) rfl (by kernel_rfl)) rfl ?_
        refine q_pass (wantsU 15 143 false rfl (by kernel_rfl) rfl (by kernel_rfl)) rfl ?_
        refine q_pass (wantsU 15 143 false rfl (by kernel_rfl) rfl (by kernel_rfl)) rfl ?_
        refine q_pass (wantsU 15 143 false rfl (by kernel_rfl) rfl (by kernel_rfl)) rfl ?_
        refine q_pass (wantsU 15 143 false rfl (by kernel_rfl) rfl (by kernel_rfl)) rfl ?_
        refine q_pass (wantsU 15 143 false rfl (by kernel_rfl) rfl (by kernel_rfl)) rfl ?_
        refine q_pass (wantsU 15 143 false rfl (by kernel_rfl) rfl (by kernel_rfl)) rfl ?_
        refine q_pass (wantsU 15 143 false rfl (by kernel_rfl) rfl (by kernel_rfl)) rfl ?_
        refine q_pass (wantsU 28 156 true rfl (by kernel_rfl) rfl (by kernel_rfl)) rfl ?_
        refine q_pass (wantsU 28 156 true rfl (by kernel_rfl) rfl (by kernel_rfl)) rfl ?_
        refine q_pass (wantsU 28 156 true rfl (by kernel_rfl) rfl (by kernel_rfl)) rfl ?_
        refine q_pass (wantsU 28 156 true rfl (by kernel_rfl) rfl (by kernel_rfl)) rfl ?_
        refine q_pass (wantsU 28 156 true rfl (by kernel_rfl) rfl (by kernel_rfl)) rfl ?_
        refine q_pass (wantsU 28 156 true rfl (by kernel_rfl) rfl (by kernel_rfl)) rfl ?_
        refine q_pass (wantsU 28 156 true rfl (by kernel_rfl) rfl (by kernel_rfl)) rfl ?_
        refine q_pass (wantsU 28 156 true rfl (by kernel_rfl) rfl (by kernel_rfl)) rfl ?_
        refine q_pass (wantsU 28 156 true rfl (by kernel_rfl) rfl (by kernel_rfl)) rfl ?_
        refine q_pass (wantsU 28 156 true rfl (by kernel_rfl) rfl (by kernel_rfl)) rfl ?_
        refine q_pass (wantsU 28 156 true rfl (by kernel_rfl) rfl (by kernel_rfl)) rfl ?_
        refine q_pass (wantsU 28 156 true rfl (by kernel_rfl) rfl (by kernel_rfl)) rfl ?_
        refine q_pass (wantsU 15 143 false rfl (by kernel_rfl) rfl (by kernel_rfl)) rfl ?_
        refine q_pass (wantsN 2 130 true rfl (by kernel_rfl) rfl (by kernel_rfl)) rfl ?_
        refine q_val (wants0 rfl) (d := 171) (v := (.bool false)) rfl (fun _ H' => (by kernel_rfl)) ?_
        refine q_end ?_
        intro w335 H336
        refine then_normal ?_
        refine wp_iff rfl ?_
        refine w_exit ?_
        refine then_exit ?_
        refine back_exit ?_
        refine blk_hit ?_
        refine blk_normal ?_
        refine then_normal ?_
        refine w_lit ?_
        refine wl_pure (wants0 rfl) (d := 190) (v := (.int .i64 ((p : Int) + 1))) rfl (e_int (z := (p : Int) + 1) (by kernel_rfl) (IntWalk.i64_in _ (by omega))) ?_
        refine wl_pure (wants0 rfl) (d := 124) (v := (.int .i64 ((p : Int) + 1))) rfl (by kernel_rfl) ?_
        refine w_nil ?_
        refine round_back ?_ _ ⟨(p + 1), O4, (show ((.int .i64 ((p : Int) + 1)) : Value) = _ by first | rfl | go_num), (by omega), (hn4), (sb_zero ((show t = 0 by omega) ▸ hs4)), H336, rfl⟩ (by omega)
        exact (same_upd rfl (same_upd rfl (same_upd rfl (same_upd rfl (same_upd rfl (same_upd rfl (same_upd rfl (same_upd rfl (same_upd rfl (same_upd rfl (same_upd rfl (same_upd rfl (same_upd rfl (same_upd rfl (same_upd rfl (same_upd rfl (same_upd rfl (same_upd rfl (same_upd rfl (same_upd rfl (same_upd rfl (same_upd rfl (same_upd rfl (same_upd rfl (same_upd rfl (same_upd rfl (same_upd rfl (same_upd rfl (same_upd rfl (same_upd rfl (same_upd rfl (same_upd rfl (same_upd rfl (same_upd rfl (same_upd rfl (same_upd rfl (same_upd rfl (same_upd rfl (same_upd rfl (same_upd rfl (same_upd rfl (same_upd rfl (same_upd rfl (same_upd rfl (same_upd rfl (same_upd rfl (same_upd rfl (same_upd rfl (same_ovr2 rfl (same_upd rfl (same_upd rfl (same_upd rfl (same_upd rfl (same_upd rfl (same_upd rfl (same_upd rfl (same_ovr)))))))))))))))))))))))))))))))))))))))))))))))))))))))))
    · have g337 := of_decide_eq_false b265
      refine wp_know 125 (.bool false) (congrArg Value.bool b265) ?_
      have g338 := of_decide_eq_false b265
      refine wp_iff rfl ?_
      refine w_exit ?_
      refine then_exit ?_
      refine back_exit ?_
      refine blk_hit ?_
      refine then_normal ?_
      refine w_seq ?_
      refine w_lit ?_
      refine wl_pure (wants0 rfl) (d := 191) (v := (.slice oa O.length oc)) rfl (by kernel_rfl) ?_
      refine wl_pure (wants0 rfl) (d := 6) (v := (.slice oa O.length oc)) rfl (by kernel_rfl) ?_
      refine w_nil ?_
      refine then_normal ?_
      refine w_ret ?_
      refine end1 rfl (res_tmp (v := (.slice oa O.length oc)) rfl) ?_
      exact ⟨oa, oc, O3, by rw [hl3], by rw [← hlg, ← hMf]; exact hn3, sp_pairwise hs3 (by omega), by rw [hl3]; exact H262.at 2 rfl, H262.upd 0 rfl [] (fun _ h => h.elim), by rw [hl3]; exact H262.fresh 0 rfl (fun _ h => h) 2 rfl rfl⟩

end Go.Proofs.Ytenihpghfdcpkaa
