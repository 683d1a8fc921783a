/- WHAT IS PROVED: contracts and plain laws of MkAll. Conditions: stated with each. -/
import Derived.Test.YtgigjkjdmalmaaaGreatPY02
import Derived.Test.YtgigjkjdmalmaaaGreatPY03
import Derived.Test.YtgigjkjdmalmaaaGreatPY04
set_option maxHeartbeats 4000000
set_option maxRecDepth 100000
namespace Go.Proofs.YtgigjkjdmalmaaaGreat
open Go.RowKit
structure Mk where
 i : Nat
 d : Nat
 A : Value → Ck
 Ok : Value → Prop
def Z8Q (f : Nat → Value) (T : List (Mk × Value)) : Nat → Value := T.foldl (fun f x => upd f x.1.d x.2) f
def Zbd (l : Array Bool) (T : List (Mk × Value)) : Array Bool := T.foldl (fun l x => l.setIfInBounds x.1.i true) l
def Z60 (ops : Array Oper) : Nat → Array Bool → List Nat → Bool
 | 0, _, L => L.isEmpty
 | m + 1, l, L => L.isEmpty || ((Region.ready .any ops l == L) && L.all fun i => Z60 ops m (l.setIfInBounds i true) (L.filter fun j => !Nat.beq j i))
theorem Z6Y {α β : Type} (g : α → β) : ∀ (l : List α) (L : List β), (l.map g).Perm L → ∃ l', l.Perm l' ∧ l'.map g = L
 | [], L, h => ⟨[], List.Perm.nil, by simpa using h⟩
 | a :: l, L, h => by
  have hm : g a ∈ L := h.subset (by simp)
  obtain ⟨s, t, rfl⟩ := List.append_of_mem hm
  have h1 : (l.map g).Perm (s ++ t) := by
   rw [List.map_cons] at h
   exact List.Perm.cons_inv (h.trans List.perm_middle)
  obtain ⟨l', hp, he⟩ := Z6Y g l (s ++ t) h1
  obtain ⟨l1, l2, rfl, h3, h4⟩ := List.map_eq_append_iff.1 he
  exact ⟨l1 ++ a :: l2, (List.Perm.cons a hp).trans List.perm_middle.symm, by rw [List.map_append, List.map_cons, h3, h4]⟩
theorem Sat.perm {w0 w : World} {G G' : List Ck} (H : Sat w0 G w) (h : G.Perm G') : Sat w0 G' w :=
 ⟨H.ext, fun B hB => H.all B (h.mem_iff.2 hB), (h.pairwise_iff (fun {_ _} q b h1 h2 => q b h2 h1)).1 H.dis⟩
theorem Zbj {f : Nat → Value} {a b : Nat} {u v : Value} (h : a ≠ b) : upd (upd f a u) b v = upd (upd f b v) a u := by
 funext t
 simp only [Z4D]
 by_cases h1 : t = a
 ·subst h1; simp [h]
 ·by_cases h2 : t = b
  ·subst h2; simp [h1]
  ·simp [h1, h2]
theorem Za3 {f : Nat → Value} {T T' : List (Mk × Value)} (h : T.Perm T') (hd : (T.map fun x => x.1.d).Nodup) : Z8Q f T = Z8Q f T' := by
 refine h.foldl_eq' (fun x hx y hy z => ?_) f
 by_cases e : x.1.d = y.1.d
 ·have : x = y := by
   obtain ⟨i, hi, rfl⟩ := List.mem_iff_getElem.1 hx
   obtain ⟨j, hj, rfl⟩ := List.mem_iff_getElem.1 hy
   have hq := List.pairwise_iff_getElem.1 hd
   rcases Nat.lt_trichotomy i j with q | q | q
   ·have hz := hq i j (by simpa using hi) (by simpa using hj) q
    rw [List.getElem_map, List.getElem_map] at hz
    exact absurd e hz
   ·subst q; rfl
   ·have hz := hq j i (by simpa using hj) (by simpa using hi) q
    rw [List.getElem_map, List.getElem_map] at hz
    exact absurd e.symm hz
  rw [this]
 ·exact Zbj e
theorem Za4 {l : Array Bool} {T T' : List (Mk × Value)} (h : T.Perm T') : Zbd l T = Zbd l T' := by
 refine h.foldl_eq' (fun x _ y _ z => ?_) l
 by_cases e : x.1.i = y.1.i
 ·rw [e]
 ·exact Array.setIfInBounds_comm _ _ e
theorem Z8c {f : Nat → Value} {t : Nat} : ∀ {T : List (Mk × Value)}, (∀ x ∈ T, x.1.d ≠ t) → Z8Q f T t = f t
 | [], _ => rfl
 | x :: T, h => by
  have h1 := Z8c (f := upd f x.1.d x.2) (t := t) (T := T) fun y hy => h y (List.mem_cons_of_mem _ hy)
  have h2 := h x List.mem_cons_self
  show Z8Q (upd f x.1.d x.2) T t = f t
  rw [h1, Z4D, if_neg (fun e => h2 e.symm)]
section
variable {P : Program} {ops : Array Oper} {Q : Exit → Act → World → Prop} {S : World → Prop} {n : Nat} {f0 : Nat → Value} {w0 : World} {G0 : List Ck} {all : List Mk} {l0 : Array Bool} {fuel : Nat}
variable {B : List Nat}
theorem Z9G (hB : ∀ m ∈ all, Z20 B m.i = false) (hnd : (all.map Mk.d).Nodup) (hS : ∀ w' G', Sat w0 (G0 ++ G') w' → S w')
  (hm : ∀ m ∈ all, ∃ o, ops[m.i]? = some o ∧ (∀ f, Z1w ops o n f true) ∧ ∀ (f' : Nat → Value) (G' : List Ck) (w' : World) (K : Act → World → Prop), (∀ t, t ∉ all.map Mk.d → f' t = f0 t) → Sat w0 (G0 ++ G') w' →
   (∀ v w'', m.Ok v → Sat w0 (G0 ++ G' ++ [m.A v]) w'' → K (fr n (upd f' m.d v)) w'') → WO P o K Q n f' w')
  (k : ∀ (T : List (Mk × Value)) (w' : World), T.map (·.1) = all → (∀ x ∈ T, x.1.Ok x.2) → Sat w0 (G0 ++ T.map fun x => x.1.A x.2) w' → WK P ops Q S (Z20 B) fuel (Zbd l0 T) n (Z8Q f0 T) w') :
  ∀ (r : Nat) (todo : List Mk) (T : List (Mk × Value)) (w : World), todo.length = r → Z60 ops r (Zbd l0 T) (todo.map Mk.i) = true → (todo.map Mk.i).Nodup → Sat w0 (G0 ++ T.map fun x => x.1.A x.2) w → (∀ x ∈ T, x.1.Ok x.2) →
   (T.map (·.1) ++ todo).Perm all → WK P ops Q S (Z20 B) (fuel + r) (Zbd l0 T) n (Z8Q f0 T) w
 | 0, todo, T, w, hr, _, _, H, hok, hp => by
  obtain rfl : todo = [] := List.eq_nil_of_length_eq_zero hr
  rw [List.append_nil] at hp
  obtain ⟨T', h1, h2⟩ := Z6Y (·.1) T all hp
  have hd : (T.map fun x => x.1.d).Nodup := by
   have : T.map (fun x => x.1.d) = (T.map (·.1)).map Mk.d := by rw [List.map_map]; rfl
   rw [this]
   exact (hp.map Mk.d).nodup_iff.2 hnd
  rw [Za4 h1, Za3 h1 hd]
  exact k T' w h2 (fun x hx => hok x (h1.mem_iff.2 hx)) (H.perm ((h1.map _).append_left G0))
 | r + 1, todo, T, w, hr, hrd, hni, H, hok, hp => by
  have hne : todo ≠ [] := fun e => by rw [e] at hr; simp at hr
  have hne' : (todo.map Mk.i).isEmpty = false := by cases todo with | nil => exact absurd rfl hne | cons _ _ => rfl
  unfold Z60 at hrd
  rw [hne', Bool.false_or, Bool.and_eq_true, beq_iff_eq] at hrd
  obtain ⟨h1, h2⟩ := hrd
  refine ⟨⟨fun h0 => absurd (h1 ▸ h0) (by cases todo with | nil => exact absurd rfl hne | cons _ _ => simp), fun q hq => ?_⟩⟩
  rw [h1] at hq
  obtain ⟨m, hmt, rfl⟩ := List.mem_map.1 hq
  have hma : m ∈ all := hp.mem_iff.1 (List.mem_append_right _ hmt)
  obtain ⟨o, ho, hw, hmk⟩ := hm m hma
  refine wpOp_step ho fun K' hK => ?_
  rw [if_pos (hw _).h]
  obtain ⟨s, t, rfl⟩ := List.append_of_mem hmt
  have hoff : ∀ t', t' ∉ all.map Mk.d → Z8Q f0 T t' = f0 t' := fun t' ht => Z8c fun x hx e => ht (by
   rw [← e]; exact List.mem_map.2 ⟨x.1, hp.mem_iff.1 (List.mem_append_left _ (List.mem_map.2 ⟨x, hx, rfl⟩)), rfl⟩)
  refine (hmk (Z8Q f0 T) _ w K' hoff H fun v w'' hv H2 => hK _ _ ?_).h
  have eF : upd (Z8Q f0 T) m.d v = Z8Q f0 (T ++ [(m, v)]) := by simp [Z8Q]
  have eL : (Zbd l0 T).setIfInBounds m.i true = Zbd l0 (T ++ [(m, v)]) := by simp [Zbd]
  have H3 : Sat w0 (G0 ++ (T ++ [(m, v)]).map fun x => x.1.A x.2) w'' := by rw [List.map_append, ← List.append_assoc]; exact H2
  have hfil : (((s ++ m :: t).map Mk.i).filter fun j => !Nat.beq j m.i) = (s ++ t).map Mk.i := by
   rw [List.map_append, List.map_cons] at hni ⊢
   have hx := List.nodup_append.1 hni
   have hy := List.nodup_cons.1 hx.2.1
   rw [List.filter_append, List.filter_cons, List.map_append]
   have hb : (!Nat.beq m.i m.i) = false := by simp
   rw [hb]
   have h3 : ∀ j ∈ s.map Mk.i, (!Nat.beq j m.i) = true := fun j hj => by
    have : j ≠ m.i := fun e => hx.2.2 j hj m.i List.mem_cons_self e
    cases hc : Nat.beq j m.i with
    | false => rfl
    | true => exact absurd (Nat.eq_of_beq_eq_true hc) this
   have h4 : ∀ j ∈ t.map Mk.i, (!Nat.beq j m.i) = true := fun j hj => by
    have : j ≠ m.i := fun e => hy.1 (e ▸ hj)
    cases hc : Nat.beq j m.i with
    | false => rfl
    | true => exact absurd (Nat.eq_of_beq_eq_true hc) this
   rw [List.filter_eq_self.2 h3, if_neg (by simp), List.filter_eq_self.2 h4]
  have h5 := List.all_eq_true.1 h2 m.i (List.mem_map.2 ⟨m, hmt, rfl⟩)
  rw [hfil, eL] at h5
  have hrec := Z9G hB hnd hS hm k r (s ++ t) (T ++ [(m, v)]) w'' (by simp only [List.length_append, List.length_cons] at hr ⊢; omega) h5
   (by rw [← hfil]; exact hni.filter _) H3
   (fun x hx => by
    rcases List.mem_append.1 hx with hx | hx
    ·exact hok x hx
    ·rw [List.mem_singleton.1 hx]; exact hv)
   (by
    refine List.Perm.trans ?_ hp
    rw [List.map_append, List.map_cons, List.map_nil, List.append_assoc]
    refine List.Perm.append_left _ ?_
    show (m :: (s ++ t)).Perm (s ++ m :: t)
    exact List.perm_middle.symm)
  rw [eF]
  rw [if_neg (by rw [hB m hma]; simp)]
  exact ⟨hS _ _ H3, by rw [eL]; exact hrec.h⟩
theorem ZaH (m1 m2 m3 m4 m5 : Mk) {w : World} (H : Sat w0 G0 w) (hrd : Z60 ops 5 l0 [m1.i, m2.i, m3.i, m4.i, m5.i] = true) (hni : [m1.i, m2.i, m3.i, m4.i, m5.i].Nodup) (hB : ([m1.i, m2.i, m3.i, m4.i, m5.i].all fun i => !Z20 B i) = true) (hnd : [m1.d, m2.d, m3.d, m4.d, m5.d].Nodup)
  (hS : ∀ w' G', Sat w0 (G0 ++ G') w' → S w') (hm : ∀ m, m = m1 ∨ m = m2 ∨ m = m3 ∨ m = m4 ∨ m = m5 → ∃ o, ops[m.i]? = some o ∧ (∀ f, Z1w ops o n f true) ∧ ∀ (f' : Nat → Value) (G' : List Ck) (w' : World) (K : Act → World → Prop), (∀ t, t ∉ [m1.d, m2.d, m3.d, m4.d, m5.d] → f' t = f0 t) → Sat w0 (G0 ++ G') w' →
   (∀ v w'', m.Ok v → Sat w0 (G0 ++ G' ++ [m.A v]) w'' → K (fr n (upd f' m.d v)) w'') → WO P o K Q n f' w')
  (k : ∀ v1 v2 v3 v4 v5 w', m1.Ok v1 → m2.Ok v2 → m3.Ok v3 → m4.Ok v4 → m5.Ok v5 → Sat w0 (G0 ++ [m1.A v1, m2.A v2, m3.A v3, m4.A v4, m5.A v5]) w' → WK P ops Q S (Z20 B) fuel (((((l0.setIfInBounds m1.i true).setIfInBounds m2.i true).setIfInBounds m3.i true).setIfInBounds m4.i true).setIfInBounds m5.i true) n (upd (upd (upd (upd (upd f0 m1.d v1) m2.d v2) m3.d v3) m4.d v4) m5.d v5) w') : WK P ops Q S (Z20 B) (fuel + 5) l0 n f0 w := by
 refine Z9G (all := [m1, m2, m3, m4, m5]) (G0 := G0) (f0 := f0) (l0 := l0) (w0 := w0) (fun m h => ?_) hnd hS (fun m h => ?_) (fun T w' hT hok H' => ?_) 5 [m1, m2, m3, m4, m5] [] w rfl hrd hni (by simpa using H) (by simp) (by simp)
 ·have h1 : (([m1, m2, m3, m4, m5] : List Mk).map Mk.i).all (fun i => !Z20 B i) = true := hB
  have h2 := List.all_eq_true.1 h1 m.i (List.mem_map.2 ⟨m, h, rfl⟩)
  cases hc : Z20 B m.i with
  | false => rfl
  | true => rw [hc] at h2; cases h2
 ·exact hm m (by simpa using h)
 ·match T, hT with
  | [(a1, v1), (a2, v2), (a3, v3), (a4, v4), (a5, v5)], hT =>
   have o1 : a1.Ok v1 := hok (a1, v1) (.head _)
   have o2 : a2.Ok v2 := hok (a2, v2) (.tail _ (.head _))
   have o3 : a3.Ok v3 := hok (a3, v3) (.tail _ (.tail _ (.head _)))
   have o4 : a4.Ok v4 := hok (a4, v4) (.tail _ (.tail _ (.tail _ (.head _))))
   have o5 : a5.Ok v5 := hok (a5, v5) (.tail _ (.tail _ (.tail _ (.tail _ (.head _)))))
   clear hok
   simp only [List.map_cons, List.map_nil, List.cons.injEq, and_true] at hT
   obtain ⟨e1, e2, e3, e4, e5⟩ := hT
   subst e1 e2 e3 e4 e5
   simp only [Zbd, Z8Q, List.foldl_cons, List.foldl_nil]
   simp only [List.map_cons, List.map_nil] at H'
   exact k v1 v2 v3 v4 v5 w' o1 o2 o3 o4 o5 H'
end
def mkM {κ ν : Type} (encK : κ → Value) (encV : ν → Value) : Value → Ck
 | .map (some b) => ZI b encK encV []
 | _ => ZL []
def isM (v : Value) : Prop := ∃ b, v = .map (some b)
end Go.Proofs.YtgigjkjdmalmaaaGreat
