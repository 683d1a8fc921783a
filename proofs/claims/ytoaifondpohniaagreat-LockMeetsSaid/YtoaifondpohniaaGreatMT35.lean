/- WHAT IS PROVED: contracts and plain laws of RiseM, Fams, MtM. Conditions: stated with each. -/
import Derived.Test.YtoaifondpohniaaGreatMT04
import Derived.Test.YtoaifondpohniaaGreatMT33
import Derived.Test.YtoaifondpohniaaGreatMT34
set_option maxHeartbeats 4000000
set_option maxRecDepth 100000
namespace Go.Proofs.YtoaifondpohniaaGreat
open Go.RowKit
def RiseS (x : Zk) (fr : Int) (L : List Signed) (D : List Ze) : Prop := ∀ (k : Nat) (s : Ze), D[k]? = some s → Z7m L s ∧ s.r = fr + (k : Int) ∧ Z2n s x = true ∧ 1 ≤ s.t ∧ s.t ≤ 1000
section
variable {x : Zk} {fr t f cn : Int} {L : List Signed} {D : List Ze} {i : Nat}
theorem RiseS.nil : RiseS x fr L [] := fun k s h => by simp at h
theorem RiseS.keep (h : RiseS x fr L D) (y : Signed) : RiseS x fr (Zg L y) D := fun k s hs => (h k s hs).imp (fun g => Z2p g y) id
theorem RiseS.step (h : RiseS x fr L D) (hl : D.length = i) (ht : 1 ≤ t ∧ t ≤ 1000) : RiseS x fr (Zg L (yS (fr + (i : Int)) x t)) (D ++ [mkS L (fr + (i : Int)) x t]) := fun k s hs => by
 rcases Nat.lt_or_ge k D.length with q | q
 ·rw [List.getElem?_append_left q] at hs
  exact h.keep _ k s hs
 ·rw [List.getElem?_append_right q] at hs
  have hk : k = i := by
   by_cases e : k - D.length = 0
   ·omega
   ·rw [List.getElem?_eq_none (by simp only [List.length_cons, List.length_nil]; omega)] at hs; cases hs
  subst hk
  rw [hl, Nat.sub_self] at hs
  obtain rfl := Option.some.inj hs
  exact ⟨Z3j L _ x t, rfl, Z5N L _ x t, ht.1, ht.2⟩
theorem Z3C (h : RiseS x fr L D) (hc : Z2h cn L x = true) (hl : (D.length : Int) = 2 * f + 1) (hfr : 0 ≤ fr ∧ fr ≤ f) : Z08 f cn L x D = true := by
 unfold Z08
 rw [hc, decide_eq_true hl, Bool.true_and, Bool.true_and]
 refine Z3p fun i hi => ?_
 have at_ : ∀ j, j < D.length → D[j]? = some (D.getD j Zf) := fun j hj => by rw [List.getD_eq_getElem?_getD, List.getElem?_eq_getElem hj]; rfl
 obtain ⟨g, hr, hn, ht⟩ := h i _ (at_ i hi)
 unfold Z4C
 rw [hn, Z4d g ⟨by omega, by omega⟩ ⟨ht.1, by omega⟩, Bool.and_true, Bool.and_true]
 by_cases h0 : i = 0
 ·subst h0; rfl
 ·obtain ⟨_, hr', _⟩ := h (i - 1) _ (at_ (i - 1) (by omega))
  rw [Bool.or_eq_true]
  right
  rw [Bool.not_eq_true', decide_eq_false_iff_not]
  omega
theorem Z4h {p m : Int} {s : List UInt8} (h : Z1f L p m s = true) (y : Signed) : Z1f (Zg L y) p m s = true := by
 unfold Z1f at *
 rw [decide_eq_true_eq] at *
 have hm : (⟨p, s⟩ : Signed) ∈ L := by
  rcases Decidable.em ((⟨p, s⟩ : Signed) ∈ L) with q | q
  ·exact q
  ·have : Zm L ⟨p, s⟩ = 0 := by unfold Zm; rw [List.idxOf?_eq_none_iff.2 q]; rfl
   omega
 rw [Z3R hm]; exact h
theorem Z1c (h : Z08 f cn L x D = true) (y : Signed) : Z08 f cn (Zg L y) x D = true := by
 unfold Z08 Z2h at *
 simp only [Bool.and_eq_true, List.all_eq_true] at *
 obtain ⟨⟨⟨⟨h1, h2⟩, h3⟩, h4⟩, h5⟩ := h
 refine ⟨⟨⟨⟨h1, h2⟩, Z4h h3 y⟩, h4⟩, fun i hi => ?_⟩
 have := h5 i hi
 unfold Z4C Z1M at *
 simp only [Bool.and_eq_true] at *
 exact ⟨this.1, this.2.1, Z4h this.2.2 y⟩
end
section
variable {α : Type} {f : α → List Ck} {Q : List α} {q : α} {k : Nat} {w0 w : World} {G G' L R : List Ck}
theorem Sat.perm (H : Sat w0 G w) (h : G.Perm G') : Sat w0 G' w :=
 ⟨H.ext, fun B hB => H.all B (h.mem_iff.2 hB), (h.pairwise_iff (fun hab b hb ha => hab b ha hb)).1 H.dis⟩
theorem Sat.openL (H : Sat w0 (ZI L :: R) w) : Sat w0 (L ++ R) w := by
 have q := H.open 0 rfl
 simpa using q
def Z1D (f : α → List Ck) (Q : List α) : Ck := ZI (Q.flatMap f)
theorem Z63 (hk : Q[k]? = some q) : (Q.flatMap f).Perm (f q ++ (Q.eraseIdx k).flatMap f) := by
 obtain ⟨hl, rfl⟩ := List.getElem?_eq_some_iff.1 hk
 have h : Q.Perm (Q[k] :: Q.eraseIdx k) := by
  rw [List.eraseIdx_eq_take_drop_succ]
  have e : Q = Q.take k ++ Q[k] :: Q.drop (k + 1) := by rw [List.getElem_cons_drop, List.take_append_drop]
  exact (List.Perm.of_eq e).trans List.perm_middle
 exact h.flatMap_right f
theorem Sat.famOut (H : Sat w0 (Z1D f Q :: R) w) (hk : Q[k]? = some q) : Sat w0 (f q ++ (Z1D f (Q.eraseIdx k) :: R)) w := by
 have h1 := Sat.openL H
 have h2 : Sat w0 ((Q.eraseIdx k).flatMap f ++ (f q ++ R)) w := h1.perm (by
  refine ((Z63 hk).append_right R).trans ?_
  rw [List.append_assoc]
  exact (List.perm_append_comm_assoc _ _ _))
 have h3 : Sat w0 (Z1D f (Q.eraseIdx k) :: (f q ++ R)) w := Sat.closeL h2
 exact h3.perm List.perm_middle.symm
theorem Sat.famIn (H : Sat w0 (f q ++ (Z1D f (Q.eraseIdx k) :: R)) w) (hk : k < Q.length) : Sat w0 (Z1D f (Q.set k q) :: R) w := by
 have h1 : Sat w0 (Z1D f (Q.eraseIdx k) :: (f q ++ R)) w := H.perm List.perm_middle
 have h2 := Sat.openL h1
 refine Sat.closeL (L := (Q.set k q).flatMap f) (R := R) (h2.perm ?_)
 have e : (Q.set k q).eraseIdx k = Q.eraseIdx k := by rw [List.eraseIdx_set_eq]
 have h3 := Z63 (f := f) (Q := Q.set k q) (k := k) (q := q) (by rw [List.getElem?_set_self hk])
 rw [e] at h3
 refine ((List.perm_append_comm_assoc _ _ _).trans ?_)
 rw [← List.append_assoc]
 exact h3.symm.append_right R
theorem Sat.famNew (H : Sat w0 G w) (f : α → List Ck) : Sat w0 (G ++ [Z1D f []]) w :=
 H.add (Ext.refl w) (fun _ _ => rfl) ⟨fun A hA => by simp at hA, by simp⟩ (fun b hb => by obtain ⟨A, hA, _⟩ := hb; simp at hA)
theorem Sat.famPush (H : Sat w0 (f q ++ (Z1D f Q :: R)) w) : Sat w0 (Z1D f (Q ++ [q]) :: R) w := by
 have h1 : Sat w0 (Z1D f Q :: (f q ++ R)) w := H.perm List.perm_middle
 have h2 := Sat.openL h1
 refine Sat.closeL (L := (Q ++ [q]).flatMap f) (R := R) (h2.cast ?_)
 rw [List.flatMap_append, List.append_assoc]
 simp
end
structure TbR where
 t : Nat
 tm : Nat
 rp : Int
 M : List (NmD × CeR)
def tbL (F : Int) (q : TbR) : List Ck := [Z1 q.t 121 [.int .i64 F, .int .i64 3, .int .i64 q.rp, .map (some q.tm)], ZA q.tm nmV ceV q.M]
def Z0H (q : Nat) : List Value := [.pointer (some ⟨q, 0, none⟩)]
theorem Z1A (q : Nat) : (Z0H q).length = 1 := rfl
theorem Z7S (q : Nat) : (Z0H q).all (·.oneCell') = true := rfl
section
variable {B B' : List Ck} {X c : CeR} {M M' : List (NmD × CeR)} {F Cn floor : Int} {L : List Signed} {h : Bool} {T : List TbR} {Hs : List Bool} {P : List Nat} {k : Nat} {q : TbR} {ss : List NmD} {D : List CeR}
def HM (B : List Ck) (X : CeR) (h : Bool) (M : List (NmD × CeR)) : Prop := (h = false ∧ M = []) ∨ (h = true ∧ ∃ (sa : Option Addr) (sc : Nat), M = [(nmX X, ⟨X.x, sa, sc, X.S⟩)] ∧ stC ⟨X.x, sa, sc, X.S⟩ ∈ B)
theorem HM.len (hm : HM B X h M) : M.length = if h then 1 else 0 := by
 rcases hm with ⟨rfl, rfl⟩ | ⟨rfl, sa, sc, rfl, _⟩ <;> rfl
theorem HM.len1 (hm : HM B X h M) : M.length ≤ 1 := by rw [hm.len]; split <;> omega
theorem HM.more (hm : HM B X h M) (hb : ∀ A ∈ B, A ∈ B') : HM B' X h M := by
 rcases hm with ⟨rfl, rfl⟩ | ⟨rfl, sa, sc, rfl, hb1⟩
 ·exact .inl ⟨rfl, rfl⟩
 ·exact .inr ⟨rfl, sa, sc, rfl, hb _ hb1⟩
theorem HM.ceT (hm : HM B X h M) (hX : CeT B' X) : ∀ q ∈ M, CeT B q.2 := fun q hq => by
 rcases hm with ⟨rfl, rfl⟩ | ⟨rfl, sa, sc, rfl, hb⟩
 ·cases hq
 ·rw [List.mem_singleton.1 hq]; exact ⟨hX.x, hX.S, hX.len, hb⟩
theorem HM.take (hm : HM B X h M) (hr : Z08 F Cn L X.x X.S = true) (hf : floor < Z8 X.S) : Z2G F Cn floor L M X = 0 := by
 unfold Z2G
 rw [if_pos hr]
 rcases hm with ⟨rfl, rfl⟩ | ⟨rfl, sa, sc, rfl, hb⟩
 ·rw [if_neg (by simp [Z6]), if_neg (by omega), if_neg (by simp)]
 ·rw [if_pos (by simp [Z6]), if_pos (by simp [Z6])]
theorem HM.late (hm : HM B X false M) (hr : Z08 F Cn L X.x X.S = true) (hf : Z8 X.S ≤ floor) : Z2G F Cn floor L M X = 4 := by
 rcases hm with ⟨_, rfl⟩ | ⟨h, _⟩
 ·unfold Z2G
  rw [if_pos hr, if_neg (by simp [Z6]), if_pos hf]
 ·cases h
theorem HM.put {R E : Prop} (hm : HM B X h M) (hd : (M' = M ∧ B' = B ∧ ((0 : Int) = 0 → (Z6 M (nmX X)).isSome = true) ∧ E) ∨ (R ∧ (Z6 M (nmX X)).isSome = false ∧ ∃ (sa : Option Addr) (sc : Nat), M' = Z2r M (nmX X) ⟨X.x, sa, sc, X.S⟩ ∧ B' = stC ⟨X.x, sa, sc, X.S⟩ :: B)) : HM B' X true M' ∧ ∀ A ∈ B, A ∈ B' := by
 rcases hd with ⟨rfl, rfl, hs, _⟩ | ⟨_, hl, sa, sc, rfl, rfl⟩
 ·refine ⟨?_, fun _ h => h⟩
  rcases hm with ⟨rfl, rfl⟩ | ⟨rfl, hm⟩
  ·have := hs rfl; simp [Z6] at this
  ·exact .inr ⟨rfl, hm⟩
 ·refine ⟨.inr ⟨rfl, sa, sc, ?_, List.mem_cons_self⟩, fun A hA => List.mem_cons_of_mem _ hA⟩
  rcases hm with ⟨rfl, rfl⟩ | ⟨rfl, sa', sc', rfl, hb⟩
  ·rfl
  ·simp [Z6] at hl
theorem HM.span {HL : List CeR} {til : Int} (hm : HM B X h M) (hs : ss.Perm (M.map (·.1))) (hv : HvC M ss HL) (h0 : 0 < Z8 X.S) (h1 : Z8 X.S ≤ til) : (Zo HL 0 til).length = (if h then 1 else 0) ∧ ∀ y ∈ Zo HL 0 til, y.x = X.x ∧ y.S = X.S := by
 have hl := Z5l hv
 have hl2 := hs.length_eq
 rw [List.length_map] at hl2
 rcases hm with ⟨rfl, rfl⟩ | ⟨rfl, sa, sc, rfl, _⟩
 ·have : HL = [] := List.eq_nil_of_length_eq_zero (by rw [hl, hl2]; rfl)
  subst this
  exact ⟨rfl, fun y hy => by cases hy⟩
 ·have hss : ss = [nmX X] := List.perm_singleton.1 hs
  subst hss
  obtain ⟨y, rfl⟩ := List.length_eq_one_iff.1 (show HL.length = 1 by rw [hl]; rfl)
  have e : Z9o y = Z9o (⟨X.x, sa, sc, X.S⟩ : CeR) := by
   have := hv
   unfold HvC at this
   simpa [Z6] using this
  obtain ⟨e1, e2⟩ := Prod.mk.inj e
  have e1' : y.x = X.x := e1
  have e2' : y.S = X.S := e2
  have hp : (decide (Z8 y.S > 0) && decide (Z8 y.S ≤ til)) = true := by rw [e2']; simp; omega
  unfold Zo
  rw [List.filter_cons, hp]
  exact ⟨rfl, fun z hz => by rw [List.mem_singleton.1 hz]; exact ⟨e1', e2'⟩⟩
theorem Z2U {D : List CeR} {rp til : Int} {ca : Option Addr} {cc : Nat} (hin : inB F rp = true) (hD : D.length ≤ 1) (hx : ∀ y ∈ D, y.x = X.x ∧ y.S = X.S) (hr : Z08 F Cn L X.x X.S = true) (ht : Z8 X.S ≤ til) (hn : til < 18446744073709551615) (hY : (⟨rp, ZB (⟨rp, 0, til, ca, cc, 0, 0, D⟩ : PrR)⟩ : Signed) ∈ L) :
  Z1s F Cn L ⟨rp, 0, til, ca, cc, rp, Zm L ⟨rp, ZB (⟨rp, 0, til, ca, cc, 0, 0, D⟩ : PrR)⟩, D⟩ = true := by
 unfold Z1s
 simp only [Bool.and_eq_true, Bool.not_eq_true', decide_eq_false_iff_not, decide_eq_true_eq]
 refine ⟨⟨⟨⟨⟨⟨⟨hin, by decide⟩, by decide⟩, by omega⟩, by omega⟩, trivial⟩, Z3I hY rfl⟩, Z3p fun i hi => ?_⟩
 have hi0 : i = 0 := by omega
 subst hi0
 have hm : D.getD 0 ce0 ∈ D := by rw [List.getD_eq_getElem?_getD, List.getElem?_eq_getElem hi]; exact List.getElem_mem hi
 obtain ⟨e1, e2⟩ := hx _ hm
 unfold Z5Q
 simp only [Bool.and_eq_true, Bool.or_eq_true, Bool.not_eq_true', decide_eq_false_iff_not]
 refine ⟨⟨.inl (by omega), ?_⟩, ?_⟩
 ·rw [e1, e2]; exact hr
 ·rw [e2]; omega
structure TsOk (B : List Ck) (X : CeR) (T : List TbR) (P : List Nat) (Hs : List Bool) : Prop where
 ptr : T.map (·.t) = P
 got : ∀ (k : Nat) (q : TbR), T[k]? = some q → q.rp = (k : Int) ∧ HM B X (Hs.getD k false) q.M
theorem TsOk.set (hT : TsOk B X T P Hs) (hk : T[k]? = some q) (hkl : k < Hs.length) (hm : HM B' X true M') (hb : ∀ A ∈ B, A ∈ B') : TsOk B' X (T.set k { q with M := M' }) P (Hs.set k true) := by
 obtain ⟨hl, e⟩ := List.getElem?_eq_some_iff.1 hk
 refine ⟨?_, fun j x hx => ?_⟩
 ·rw [List.map_set, ← hT.ptr]
  refine List.ext_getElem? fun j => ?_
  rw [List.getElem?_set]
  by_cases hj : k = j
  ·subst hj
   simp only [if_true]
   rw [if_pos (by simpa using hl), List.getElem?_map, hk]; rfl
  ·rw [if_neg hj]
 ·rw [List.getElem?_set] at hx
  by_cases hj : k = j
  ·subst hj
   simp only [if_true] at hx
   rw [if_pos hl] at hx
   obtain rfl := Option.some.inj hx
   refine ⟨(hT.got _ _ hk).1, ?_⟩
   rw [List.getD_eq_getElem?_getD, List.getElem?_set_self hkl]
   exact hm
  ·rw [if_neg hj] at hx
   obtain ⟨h1, h2⟩ := hT.got j x hx
   refine ⟨h1, ?_⟩
   rw [List.getD_eq_getElem?_getD, List.getElem?_set_ne hj, ← List.getD_eq_getElem?_getD]
   exact h2.more hb
theorem TsOk.get {x : Nat} (h : TsOk B X T P Hs) (hx : P[k]? = some x) : ∃ q, T[k]? = some q ∧ q.t = x := by
 rw [← h.ptr, List.getElem?_map] at hx
 cases e : T[k]? with
 | none => rw [e] at hx; cases hx
 | some q => rw [e] at hx; exact ⟨q, rfl, Option.some.inj hx⟩
theorem TsOk.push {t m : Nat} (h : TsOk B X T P []) (hl : T.length = k) : TsOk B X (T ++ [⟨t, m, (k : Int), []⟩]) (P ++ [t]) [] := by
 refine ⟨by rw [List.map_append, h.ptr]; rfl, fun j q hq => ?_⟩
 rcases Nat.lt_or_ge j T.length with h1 | h1
 ·rw [List.getElem?_append_left h1] at hq; exact h.got j q hq
 ·rw [List.getElem?_append_right h1] at hq
  have hj : j = k := by
   by_cases e : j - T.length = 0
   ·omega
   ·rw [List.getElem?_eq_none (by simp only [List.length_cons, List.length_nil]; omega)] at hq; cases hq
  subst hj
  rw [hl, Nat.sub_self] at hq
  obtain rfl := Option.some.inj hq
  exact ⟨rfl, .inl ⟨by simp, rfl⟩⟩
theorem TsOk.nil : TsOk B X [] [] [] := ⟨rfl, fun j q hq => by simp at hq⟩
theorem TsOk.init {N : Nat} (h : TsOk B X T P []) : TsOk B X T P (List.replicate N false) := ⟨h.ptr, fun j q hq => by
 have := h.got j q hq
 have e : (List.replicate N false).getD j false = false := by
  rw [List.getD_eq_getElem?_getD]
  rcases Nat.lt_or_ge j N with q | q
  ·rw [List.getElem?_eq_getElem (by simpa using q), List.getElem_replicate]; rfl
  ·rw [List.getElem?_eq_none (by simpa using q)]; rfl
 rw [e]; exact this⟩
theorem Z2f (hk : T[k]? = some q) : T.set k ⟨q.t, q.tm, q.rp, q.M⟩ = T := by
 obtain ⟨hl, e⟩ := List.getElem?_eq_some_iff.1 hk
 show T.set k q = T
 rw [← e]; exact List.set_getElem_self hl
theorem Z6H (A : List Bool) {c : Nat} (hc : c < A.length) : (A.take (c + 1)).count true = (A.take c).count true + (if A.getD c false = true then 1 else 0) := by
 rw [List.take_add_one, List.getD_eq_getElem?_getD, List.getElem?_eq_getElem hc, List.count_append]
 cases A[c] <;> simp
theorem Z8D {A : List Bool} {n k : Nat} (h : n ≤ k) (b : Bool) : (A.set k b).take n = A.take n := by
 rw [List.take_set]
 exact List.set_eq_of_length_le (by rw [List.length_take]; omega)
theorem Z89 {G j k : Nat} (hk : k < G) (hj : j < G) (hn : k ≠ j) : (j + G - (k + 1) % G) % G < (j + G - k) % G := by
 have h1 : (j + G - k) % G = if k ≤ j then j - k else j + G - k := by
  split
  ·rw [show j + G - k = (j - k) + G by omega, Nat.add_mod_right]; exact Nat.mod_eq_of_lt (by omega)
  ·exact Nat.mod_eq_of_lt (by omega)
 rw [h1]
 rcases Nat.lt_or_ge (k + 1) G with q | q
 ·rw [Nat.mod_eq_of_lt q]
  have h2 : (j + G - (k + 1)) % G = if k + 1 ≤ j then j - (k + 1) else j + G - (k + 1) := by
   split
   ·rw [show j + G - (k + 1) = (j - (k + 1)) + G by omega, Nat.add_mod_right]; exact Nat.mod_eq_of_lt (by omega)
   ·exact Nat.mod_eq_of_lt (by omega)
  rw [h2]; split <;> split <;> omega
 ·obtain rfl : k + 1 = G := by omega
  rw [Nat.mod_self, Nat.sub_zero, Nat.add_mod_right, Nat.mod_eq_of_lt hj]
  split <;> omega
theorem Z88 : ∀ (A B : List Bool), A.length = B.length → A.length < A.count true + B.count true → ∃ j : Nat, j < A.length ∧ A.getD j false = true ∧ B.getD j false = true
 | [], [], _, h => by simp at h
 | a :: A, [], hl, _ => by simp at hl
 | [], b :: B, hl, _ => by simp at hl
 | a :: A, b :: B, hl, h => by
  by_cases q : a = true ∧ b = true
  ·exact ⟨0, by simp, by simp [q.1], by simp [q.2]⟩
  ·have hq : (if a = true then 1 else 0) + (if b = true then 1 else 0) ≤ 1 := by
    cases a <;> cases b <;> simp_all
   simp only [List.count_cons, List.length_cons] at h hl
   obtain ⟨j, h1, h2, h3⟩ := Z88 A B (by omega) (by cases a <;> cases b <;> simp_all <;> omega)
   exact ⟨j + 1, by simp; omega, by simpa using h2, by simpa using h3⟩
theorem Z7L (A : List Bool) (k : Nat) (hk : k < A.length) (h : A.getD k false = false) : (A.set k true).count true = A.count true + 1 := by
 induction A generalizing k with
 | nil => simp at hk
 | cons a A ih =>
  cases k with
  | zero => simp only [List.getD_cons_zero] at h; subst h; simp [List.count_cons]
  | succ k =>
   simp only [List.getD_cons_succ] at h
   simp only [List.set_cons_succ, List.count_cons, ih k (by simpa using hk) h]
   omega
theorem cnt_in {A : List Bool} {n k : Nat} (hk : k < n) (hl : n ≤ A.length) (h : A.getD k false = false) : ((A.set k true).take n).count true = (A.take n).count true + 1 := by
 rw [List.take_set]
 refine Z7L _ k (by rw [List.length_take]; omega) ?_
 rw [List.getD_eq_getElem?_getD, List.getElem?_take_of_lt hk, ← List.getD_eq_getElem?_getD]
 exact h
theorem Z9q (A : List Bool) (h : A.count true < A.length) : ∃ j : Nat, j < A.length ∧ A.getD j false = false := by
 induction A with
 | nil => simp at h
 | cons a A ih =>
  cases a with
  | false => exact ⟨0, by simp, rfl⟩
  | true =>
   simp only [List.count_cons, List.length_cons, beq_self_eq_true, if_true] at h
   obtain ⟨j, h1, h2⟩ := ih (by omega)
   exact ⟨j + 1, by simp; omega, by simpa using h2⟩
theorem Z7M (N z : Nat) : (List.replicate N false).getD z false = false := by
 rw [List.getD_eq_getElem?_getD]
 rcases Nat.lt_or_ge z N with q | q
 ·rw [List.getElem?_eq_getElem (by simpa using q), List.getElem_replicate]; rfl
 ·rw [List.getElem?_eq_none (by simpa using q)]; rfl
theorem Z8l (N n : Nat) : ((List.replicate N false).take n).count true = 0 := by
 rw [List.take_replicate, List.count_replicate]; rfl
theorem Z5z {A : List Bool} {n z : Nat} (h : z < n) (q : (A.take n).getD z false = true) : A.getD z false = true := by
 rw [List.getD_eq_getElem?_getD, List.getElem?_take_of_lt h, ← List.getD_eq_getElem?_getD] at q; exact q
theorem Z79 {A : List Bool} {n N : Nat} (h : ∀ z, n ≤ z → A.getD z false = false) (hn : n ≤ N) (hl : A.length = N) : (A.take N).count true = (A.take n).count true := by
 rw [List.take_of_length_le (by omega)]
 have h0 : (A.drop n).count true = 0 := List.count_eq_zero.2 fun hm => by
  obtain ⟨i, hi, e⟩ := List.mem_iff_getElem.1 hm
  rw [List.getElem_drop] at e
  have := h (n + i) (by omega)
  rw [List.length_drop] at hi
  rw [List.getD_eq_getElem?_getD, List.getElem?_eq_getElem (by omega), e] at this
  cases this
 have e := congrArg (List.count true) (List.take_append_drop n A)
 rw [List.count_append, h0] at e
 omega
theorem Z5X {A H : List Bool} {g : Nat} {fd : Bool} (h : fd = true ↔ ∃ z : Nat, z < g ∧ A.getD z false = true ∧ H.getD z false = true) (hq : A.getD g false = true) : (fd || H.getD g false) = true ↔ ∃ z : Nat, z < g + 1 ∧ A.getD z false = true ∧ H.getD z false = true := by
 rw [Bool.or_eq_true, h]
 constructor
 ·rintro (⟨z, h1, h2⟩ | h1)
  ·exact ⟨z, by omega, h2⟩
  ·exact ⟨g, by omega, hq, h1⟩
 ·rintro ⟨z, h1, h2, h3⟩
  rcases Nat.lt_or_ge z g with q | q
  ·exact .inl ⟨z, q, h2, h3⟩
  ·obtain rfl : z = g := by omega
   exact .inr h3
theorem Z8P {A H : List Bool} {g : Nat} {fd : Bool} (h : fd = true ↔ ∃ z : Nat, z < g ∧ A.getD z false = true ∧ H.getD z false = true) (hq : A.getD g false = false) : fd = true ↔ ∃ z : Nat, z < g + 1 ∧ A.getD z false = true ∧ H.getD z false = true := by
 rw [h]
 constructor
 ·rintro ⟨z, h1, h2⟩; exact ⟨z, by omega, h2⟩
 ·rintro ⟨z, h1, h2, h3⟩
  refine ⟨z, ?_, h2, h3⟩
  rcases Nat.lt_or_ge z g with q | q
  ·exact q
  ·obtain rfl : z = g := by omega
   rw [hq] at h2; cases h2
end
end Go.Proofs.YtoaifondpohniaaGreat
