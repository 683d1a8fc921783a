/- WHAT IS PROVED: contracts and plain laws of SortMath, MedMath, RightD, BatD, Small, Less, Sort12, SortU. Conditions: stated with each. -/
import Derived.Calls
import Derived.Test.YtoaifondpohniaaGreatPL04
import Derived.Test.YtoaifondpohniaaGreatPL05
import Derived.Test.YtoaifondpohniaaGreatPL06
import Derived.Test.YtoaifondpohniaaGreatPL09
import Derived.Test.YtoaifondpohniaaGreatPL10
import Derived.Test.YtoaifondpohniaaGreatPL12
set_option maxHeartbeats 4000000
set_option maxRecDepth 100000
namespace Go.Proofs.YtoaifondpohniaaGreat
structure SW {α : Type} (lt : α → α → Bool) : Prop where
 asym : ∀ x y, lt x y = true → lt y x = false
 neg : ∀ x y w, lt x y = false → lt y w = false → lt x w = false
section
variable {α : Type} {lt : α → α → Bool} {A B C D : List α} {a b c d i j k m : Nat} {x y z : α}
theorem SW.irrefl (h : SW lt) (x : α) : lt x x = false := by
 cases e : lt x x
 ·rfl
 ·exact absurd (h.asym x x e) (by simp [e])
inductive SegP (a b : Nat) (A : List α) : List α → Prop
 | refl : SegP a b A A
 | swap {B : List α} {i j : Nat} {x y : α} : SegP a b A B → a ≤ i → i < b → a ≤ j → j < b → B[i]? = some x → B[j]? = some y → SegP a b A ((B.set i y).set j x)
theorem Zc2 (h : A[i]? = some x) : i < A.length := (List.getElem?_eq_some_iff.1 h).1
theorem Z2S (hx : A[i]? = some x) (hy : A[j]? = some y) (k : Nat) : ((A.set i y).set j x)[k]? = if k = j then some x else if k = i then some y else A[k]? := by
 have h1 := Zc2 hx
 have h2 := Zc2 hy
 rw [List.getElem?_set, List.getElem?_set, List.length_set]
 by_cases e1 : j = k
 ·subst e1; simp [h2]
 ·rw [if_neg e1, if_neg (Ne.symm e1)]
  by_cases e2 : i = k
  ·subst e2; simp [h1]
  ·rw [if_neg e2, if_neg (Ne.symm e2)]
theorem SegP.len (h : SegP a b A B) : B.length = A.length := by
 induction h with
 | refl => rfl
 | swap _ _ _ _ _ _ _ ih => simpa using ih
theorem SegP.perm (h : SegP a b A B) : B.Perm A := by
 induction h with
 | refl => exact List.Perm.refl _
 | @swap B i j x y _ _ _ _ _ hx hy ih =>
  refine List.Perm.trans ?_ ih
  obtain ⟨h1, rfl⟩ := List.getElem?_eq_some_iff.1 hx
  obtain ⟨h2, rfl⟩ := List.getElem?_eq_some_iff.1 hy
  exact List.set_set_perm h1 h2
theorem SegP.out (h : SegP a b A B) (hk : k < a ∨ b ≤ k) : B[k]? = A[k]? := by
 induction h with
 | refl => rfl
 | @swap B i j x y _ h1 h2 h3 h4 hx hy ih => rw [Z2S hx hy, if_neg (by omega), if_neg (by omega), ih]
theorem SegP.mono (h : SegP a b A B) (ha : c ≤ a) (hb : b ≤ d) : SegP c d A B := by
 induction h with
 | refl => exact .refl
 | swap _ h1 h2 h3 h4 hx hy ih => exact ih.swap (by omega) (by omega) (by omega) (by omega) hx hy
theorem SegP.trans (h : SegP a b A B) (k : SegP a b B C) : SegP a b A C := by
 induction k with
 | refl => exact h
 | swap _ h1 h2 h3 h4 hx hy ih => exact ih.swap h1 h2 h3 h4 hx hy
theorem SegP.of_swap (h1 : a ≤ i) (h2 : i < b) (h3 : a ≤ j) (h4 : j < b) (hx : A[i]? = some x) (hy : A[j]? = some y) : SegP a b A ((A.set i y).set j x) := SegP.refl.swap h1 h2 h3 h4 hx hy
def Z6L (p : α → Prop) (c d : Nat) (A : List α) : Prop := ∀ k x, c ≤ k → k < d → A[k]? = some x → p x
theorem SegP.all {p : α → Prop} (h : SegP a b A B) (hc : c ≤ a) (hd : b ≤ d) (hA : Z6L p c d A) : Z6L p c d B := by
 induction h with
 | refl => exact hA
 | @swap B i j x y _ h1 h2 h3 h4 hx hy ih =>
  intro k u hk hk2 hu
  rw [Z2S hx hy] at hu
  split at hu
  ·cases hu; exact ih i x (by omega) (by omega) hx
  split at hu
  ·cases hu; exact ih j y (by omega) (by omega) hy
  ·exact ih k u hk hk2 hu
def Srt (lt : α → α → Bool) (a b : Nat) (A : List α) : Prop := ∀ i j x y, a ≤ i → i < j → j < b → A[i]? = some x → A[j]? = some y → lt y x = false
def Le2 (lt : α → α → Bool) (a b c d : Nat) (A : List α) : Prop := ∀ i j x y, a ≤ i → i < b → c ≤ j → j < d → A[i]? = some x → A[j]? = some y → lt y x = false
theorem Srt.short (h : b ≤ a + 1) : Srt lt a b A := fun i j _ _ h1 h2 h3 _ _ => by omega
theorem Srt.out (hs : Srt lt a b A) (h : SegP c d A B) (hcd : b ≤ c ∨ d ≤ a) : Srt lt a b B := by
 intro i j x y h1 h2 h3 hx hy
 rw [h.out (by omega)] at hx hy
 exact hs i j x y h1 h2 h3 hx hy
theorem Srt.join (h1 : Srt lt a m A) (h2 : Srt lt m b A) (h3 : Le2 lt a m m b A) : Srt lt a b A := by
 intro i j x y ha hij hb hx hy
 by_cases e1 : j < m
 ·exact h1 i j x y ha hij e1 hx hy
 ·by_cases e2 : i < m
  ·exact h3 i j x y ha e2 (by omega) hb hx hy
  ·exact h2 i j x y (by omega) hij hb hx hy
theorem Le2.left (hl : Le2 lt a b c d A) (h : SegP i j A B) (h1 : a ≤ i) (h2 : j ≤ b) (h3 : b ≤ c) : Le2 lt a b c d B := by
 intro p q x y hp1 hp2 hq1 hq2 hx hy
 rw [h.out (by omega)] at hy
 exact h.all (p := fun x => lt y x = false) h1 h2 (fun k u hk hk2 hu => hl k q u y hk hk2 hq1 hq2 hu hy) p x hp1 hp2 hx
theorem Le2.right (hl : Le2 lt a b c d A) (h : SegP i j A B) (h1 : c ≤ i) (h2 : j ≤ d) (h3 : b ≤ c) : Le2 lt a b c d B := by
 intro p q x y hp1 hp2 hq1 hq2 hx hy
 rw [h.out (by omega)] at hx
 exact h.all (p := fun y => lt y x = false) h1 h2 (fun k u hk hk2 hu => hl p k x u hp1 hp2 hk hk2 hx hu) q y hq1 hq2 hy
theorem Le2.sub (hl : Le2 lt a b c d A) {a' b' c' d' : Nat} (h1 : a ≤ a') (h2 : b' ≤ b) (h3 : c ≤ c') (h4 : d' ≤ d) : Le2 lt a' b' c' d' A :=
 fun p q x y hp1 hp2 hq1 hq2 hx hy => hl p q x y (by omega) (by omega) (by omega) (by omega) hx hy
theorem Srt.sub (h : Srt lt a b A) {a' b' : Nat} (h1 : a ≤ a') (h2 : b' ≤ b) : Srt lt a' b' A := fun i j x y h3 h4 h5 hx hy => h i j x y (by omega) h4 (by omega) hx hy
structure Ins (lt : α → α → Bool) (a i j : Nat) (B : List α) : Prop where
 lo : Srt lt a j B
 hi : Srt lt j (i + 1) B
 cr : Le2 lt a j (j + 1) (i + 1) B
theorem Ins.start (h : Srt lt a i B) : Ins lt a i i B := ⟨h, Srt.short (by omega), fun p q _ _ _ _ h3 h4 _ _ => by omega⟩
theorem Ins.step (hw : SW lt) (h : Ins lt a i j B) (ha : a < j) (_hj : j ≤ i) (hx : B[j]? = some x) (hy : B[j - 1]? = some y) (hl : lt x y = true) : Ins lt a i (j - 1) ((B.set j y).set (j - 1) x) := by
 have g := Z2S hx hy
 refine ⟨?_, ?_, ?_⟩
 ·intro p q u v h1 h2 h3 hu hv
  rw [g, if_neg (by omega), if_neg (by omega)] at hu hv
  exact h.lo p q u v h1 h2 (by omega) hu hv
 ·intro p q u v h1 h2 h3 hu hv
  rw [g] at hu hv
  by_cases e1 : p = j - 1
  ·rw [if_pos e1] at hu; cases hu
   rw [if_neg (by omega)] at hv
   by_cases e2 : q = j
   ·rw [if_pos e2] at hv; cases hv; exact hw.asym _ _ hl
   ·rw [if_neg e2] at hv
    exact h.hi j q x v (by omega) (by omega) (by omega) hx hv
  ·rw [if_neg e1] at hu
   rw [if_neg (by omega)] at hv
   rw [if_neg (by omega)] at hv
   by_cases e2 : p = j
   ·rw [if_pos e2] at hu; cases hu
    exact h.cr (j - 1) q y v (by omega) (by omega) (by omega) (by omega) hy hv
   ·rw [if_neg e2] at hu
    exact h.hi p q u v (by omega) h2 h3 hu hv
 ·intro p q u v h1 h2 h3 h4 hu hv
  rw [g, if_neg (by omega), if_neg (by omega)] at hu
  rw [g, if_neg (by omega)] at hv
  by_cases e : q = j
  ·rw [if_pos e] at hv; cases hv
   exact h.lo p (j - 1) u y h1 (by omega) (by omega) hu hy
  ·rw [if_neg e] at hv
   exact h.cr p q u v h1 (by omega) (by omega) h4 hu hv
theorem Ins.low (h : Ins lt a i a B) : Srt lt a (i + 1) B := h.hi
theorem Ins.stop (hw : SW lt) (h : Ins lt a i j B) (ha : a < j) (hj : j ≤ i) (hx : B[j]? = some x) (hy : B[j - 1]? = some y) (hl : lt x y = false) : Srt lt a (i + 1) B := by
 refine h.lo.join h.hi ?_
 intro p q u v h1 h2 h3 h4 hu hv
 by_cases e : q = j
 ·subst e; rw [hx] at hv; cases hv
  by_cases e2 : p = q - 1
  ·subst e2; rw [hy] at hu; cases hu; exact hl
  ·exact hw.neg _ _ _ hl (h.lo p (q - 1) u y h1 (by omega) (by omega) hu hy)
 ·exact h.cr p q u v h1 h2 (by omega) h4 hu hv
def Kid (r c : Nat) : Prop := c = 2 * r + 1 ∨ c = 2 * r + 2
def Heap (lt : α → α → Bool) (f lo hi : Nat) (B : List α) : Prop := ∀ r c x y, lo ≤ r → Kid r c → c < hi → B[f + r]? = some x → B[f + c]? = some y → lt x y = false
structure Sift (lt : α → α → Bool) (f lo hi root : Nat) (B : List α) : Prop where
 oth : ∀ r c x y, lo ≤ r → r ≠ root → Kid r c → c < hi → B[f + r]? = some x → B[f + c]? = some y → lt x y = false
 up : ∀ r c x y, lo ≤ r → Kid r root → Kid root c → c < hi → B[f + r]? = some x → B[f + c]? = some y → lt x y = false
theorem Sift.start {f lo hi : Nat} (h : Heap lt f (lo + 1) hi B) : Sift lt f lo hi lo B :=
 ⟨fun r c x y h1 h2 h3 h4 hx hy => h r c x y (by omega) h3 h4 hx hy, fun r c x y h1 h2 _ _ _ _ => by unfold Kid at h2; omega⟩
theorem Sift.step (hw : SW lt) {f lo hi root ch : Nat} (h : Sift lt f lo hi root B) (hlo : lo ≤ root) (hk : Kid root ch) (hc : ch < hi) (hx : B[f + root]? = some x) (hy : B[f + ch]? = some y) (hl : lt x y = true)
  (hmax : ∀ c z, Kid root c → c < hi → B[f + c]? = some z → lt y z = false) : Sift lt f lo hi ch ((B.set (f + root) y).set (f + ch) x) := by
 have g := Z2S hx hy
 unfold Kid at hk
 refine ⟨?_, ?_⟩
 ·intro r c u v h1 h2 h3 h4 hu hv
  rw [g] at hu hv
  rw [if_neg (by omega)] at hu
  by_cases e : r = root
  ·subst e
   rw [if_pos rfl] at hu; cases hu
   by_cases e2 : c = ch
   ·subst e2; rw [if_pos rfl] at hv; cases hv; exact hw.asym _ _ hl
   ·unfold Kid at h3
    rw [if_neg (by omega), if_neg (by omega)] at hv
    exact hmax c v (by unfold Kid; omega) h4 hv
  ·rw [if_neg (by omega)] at hu
   unfold Kid at h3
   rw [if_neg (by omega)] at hv
   by_cases e2 : c = root
   ·subst e2
    rw [if_pos rfl] at hv; cases hv
    exact h.up r ch u y h1 (by unfold Kid; omega) (by unfold Kid; omega) hc hu hy
   ·rw [if_neg (by omega)] at hv
    exact h.oth r c u v h1 e (by unfold Kid; omega) h4 hu hv
 ·intro r c u v h1 h2 h3 h4 hu hv
  unfold Kid at h2 h3
  obtain rfl : r = root := by omega
  rw [g] at hu hv
  rw [if_neg (by omega), if_pos rfl] at hu; cases hu
  rw [if_neg (by omega), if_neg (by omega)] at hv
  exact h.oth ch c y v (by omega) (by omega) (by unfold Kid; omega) h4 hy hv
theorem Sift.stop (hw : SW lt) {f lo hi root ch : Nat} (h : Sift lt f lo hi root B) (hx : B[f + root]? = some x) (hl : lt x y = false) (_hy : B[f + ch]? = some y)
  (hmax : ∀ c z, Kid root c → c < hi → B[f + c]? = some z → lt y z = false) : Heap lt f lo hi B := by
 intro r c u v h1 h2 h3 hu hv
 by_cases e : r = root
 ·subst e
  rw [hx] at hu; cases hu
  exact hw.neg _ _ _ hl (hmax c v h2 h3 hv)
 ·exact h.oth r c u v h1 e h2 h3 hu hv
theorem Heap.max (hw : SW lt) {f hi : Nat} (h : Heap lt f 0 hi B) (hb : f + hi ≤ B.length) (hx : B[f]? = some x) : ∀ k y, k < hi → B[f + k]? = some y → lt x y = false := by
 intro k
 induction k using Nat.strongRecOn with
 | _ k ih =>
  intro y hk hy
  by_cases e : k = 0
  ·subst e; rw [Nat.add_zero, hx] at hy; cases hy; exact hw.irrefl _
  ·have hp : f + (k - 1) / 2 < B.length := by omega
   have h1 := ih ((k - 1) / 2) (by omega) _ (by omega) (List.getElem?_eq_getElem hp)
   exact hw.neg _ _ _ h1 (h ((k - 1) / 2) k _ y (Nat.zero_le _) (by unfold Kid; omega) hk (List.getElem?_eq_getElem hp) hy)
structure Pop (lt : α → α → Bool) (f i hi : Nat) (B : List α) : Prop where
 heap : Heap lt f 0 i B
 srt : Srt lt (f + i) (f + hi) B
 le : Le2 lt f (f + i) (f + i) (f + hi) B
theorem Pop.start {f hi : Nat} (h : Heap lt f 0 hi B) : Pop lt f hi hi B := ⟨h, Srt.short (by omega), fun p q _ _ _ _ h3 h4 _ _ => by omega⟩
theorem Pop.swap (hw : SW lt) {f hi : Nat} (h : Pop lt f (i + 1) hi B) (hi' : i < hi) (hb : f + hi ≤ B.length) (hx : B[f]? = some x) (hy : B[f + i]? = some y) :
  Heap lt f 1 i ((B.set f y).set (f + i) x) ∧ Srt lt (f + i) (f + hi) ((B.set f y).set (f + i) x) ∧ Le2 lt f (f + i) (f + i) (f + hi) ((B.set f y).set (f + i) x) := by
 have g := Z2S hx hy
 have hm := h.heap.max hw (by omega) hx
 have hS : SegP f (f + i + 1) B ((B.set f y).set (f + i) x) := SegP.of_swap (by omega) (by omega) (by omega) (by omega) hx hy
 have hle : Le2 lt f (f + (i + 1)) (f + (i + 1)) (f + hi) ((B.set f y).set (f + i) x) := h.le.left hS (Nat.le_refl _) (by omega) (Nat.le_refl _)
 refine ⟨?_, ?_, ?_⟩
 ·intro r c u v h1 h2 h3 hu hv
  unfold Kid at h2
  rw [g, if_neg (by omega), if_neg (by omega)] at hu hv
  exact h.heap r c u v (by omega) (by unfold Kid; omega) (by omega) hu hv
 ·refine Srt.join (m := f + (i + 1)) (Srt.short (by omega)) (h.srt.out hS (.inr (by omega))) (hle.sub (by omega) (Nat.le_refl _) (Nat.le_refl _) (Nat.le_refl _))
 ·intro p q u v h1 h2 h3 h4 hu hv
  by_cases e : q = f + i
  ·subst e
   rw [g, if_pos rfl] at hv; cases hv
   rw [g, if_neg (by omega)] at hu
   by_cases e2 : p = f
   ·rw [if_pos e2] at hu; cases hu
    exact hm i y (by omega) hy
   ·rw [if_neg e2] at hu
    obtain ⟨k, rfl⟩ : ∃ k, p = f + k := ⟨p - f, by omega⟩
    exact hm k u (by omega) hu
  ·exact hle p q u v h1 (by omega) (by omega) h4 hu hv
structure Cut3 (lt : α → α → Bool) (a m b : Nat) (B : List α) : Prop where
 lo : ∀ k x y, a ≤ k → k < m → B[k]? = some x → B[m]? = some y → lt y x = false
 hi : ∀ k x y, m < k → k < b → B[k]? = some x → B[m]? = some y → lt x y = false
structure Part (lt : α → α → Bool) (a i j b : Nat) (pv : α) (B : List α) : Prop where
 at_ : B[a]? = some pv
 lo : Z6L (fun x => lt x pv = true) (a + 1) i B
 hi : Z6L (fun x => lt x pv = false) (j + 1) b B
theorem Part.start (h : B[a]? = some x) (_hb : a < b) : Part lt a (a + 1) (b - 1) b x B := ⟨h, fun k _ h1 h2 _ => by omega, fun k _ h1 h2 _ => by omega⟩
theorem Part.swap {pv : α} (h : Part lt a i j b pv B) (ha : a < i) (hij : i < j) (hx : B[i]? = some x) (hy : B[j]? = some y) (h1 : lt x pv = false) (h2 : lt y pv = true) : Part lt a (i + 1) (j - 1) b pv ((B.set i y).set j x) := by
 have g := Z2S hx hy
 refine ⟨by rw [g, if_neg (by omega), if_neg (by omega)]; exact h.at_, ?_, ?_⟩
 ·intro k u h3 h4 hu
  rw [g, if_neg (by omega)] at hu
  split at hu
  ·cases hu; exact h2
  ·exact h.lo k u h3 (by omega) hu
 ·intro k u h3 h4 hu
  rw [g] at hu
  split at hu
  ·cases hu; exact h1
  ·rw [if_neg (by omega)] at hu
   exact h.hi k u (by omega) h4 hu
theorem Part.done (hw : SW lt) {pv : α} (h : Part lt a i j b pv B) (ha : a ≤ j) (hij : j < i) (hij2 : i ≤ j + 1) (hy : B[j]? = some y) (h2 : j ≠ a → lt y pv = true) : Cut3 lt a j b ((B.set j pv).set a y) := by
 have g := Z2S hy h.at_
 have hm : ((B.set j pv).set a y)[j]? = some pv := by
  rw [g]
  split
  ·rename_i e; subst e; rw [h.at_] at hy; exact hy.symm
  ·rw [if_pos rfl]
 refine ⟨?_, ?_⟩
 ·intro k u v h3 h4 hu hv
  rw [hm] at hv; cases hv
  rw [g] at hu
  split at hu
  ·cases hu; exact hw.asym _ _ (h2 (by omega))
  ·rw [if_neg (by omega)] at hu
   exact hw.asym _ _ (h.lo k u (by omega) (by omega) hu)
 ·intro k u v h3 h4 hu hv
  rw [hm] at hv; cases hv
  rw [g, if_neg (by omega), if_neg (by omega)] at hu
  exact h.hi k u (by omega) h4 hu
structure PartE (lt : α → α → Bool) (a i j b : Nat) (pv : α) (B : List α) : Prop where
 at_ : B[a]? = some pv
 lo : Z6L (fun x => lt pv x = false) a i B
 hi : Z6L (fun x => lt pv x = true) (j + 1) b B
theorem PartE.start (hw : SW lt) (h : B[a]? = some x) (hb : a < b) : PartE lt a (a + 1) (b - 1) b x B :=
  ⟨h, fun k u h1 h2 hu => by obtain rfl : k = a := by omega
                             rw [h] at hu; cases hu; exact hw.irrefl _, fun k _ h1 h2 _ => by omega⟩
theorem PartE.swap {pv : α} (h : PartE lt a i j b pv B) (ha : a < i) (hij : i < j) (hx : B[i]? = some x) (hy : B[j]? = some y) (h1 : lt pv x = true) (h2 : lt pv y = false) : PartE lt a (i + 1) (j - 1) b pv ((B.set i y).set j x) := by
 have g := Z2S hx hy
 refine ⟨by rw [g, if_neg (by omega), if_neg (by omega)]; exact h.at_, ?_, ?_⟩
 ·intro k u h3 h4 hu
  rw [g, if_neg (by omega)] at hu
  split at hu
  ·cases hu; exact h2
  ·exact h.lo k u h3 (by omega) hu
 ·intro k u h3 h4 hu
  rw [g] at hu
  split at hu
  ·cases hu; exact h1
  ·rw [if_neg (by omega)] at hu
   exact h.hi k u (by omega) h4 hu
structure Pdq (lt : α → α → Bool) (a0 b0 a b : Nat) (A B : List α) : Prop where
 seg : SegP a0 b0 A B
 ab : a0 ≤ a ∧ a ≤ b ∧ b ≤ b0
 lo : Srt lt a0 a B
 l2 : Le2 lt a0 a a b0 B
 hi : Srt lt b b0 B
 h2 : Le2 lt a0 b b b0 B
def Low (lt : α → α → Bool) (a b : Nat) (A : List α) : Prop := a = 0 ∨ Le2 lt (a - 1) a a b A
theorem Low.seg (h : Low lt a b A) (hS : SegP a b A B) : Low lt a b B := h.elim .inl fun h => .inr (h.right hS (Nat.le_refl _) (Nat.le_refl _) (Nat.le_refl _))
theorem Low.sub (h : Low lt a b A) (hb : d ≤ b) : Low lt a d A := h.elim .inl fun h => .inr (h.sub (Nat.le_refl _) (Nat.le_refl _) (Nat.le_refl _) hb)
theorem Pdq.start (h : a ≤ b) : Pdq lt a b a b A A := ⟨.refl, by omega, Srt.short (by omega), fun p q _ _ h1 h2 _ _ _ _ => by omega, Srt.short (by omega), fun p q _ _ _ _ h1 h2 _ _ => by omega⟩
theorem Pdq.low {a0 b0 : Nat} (h : Pdq lt a0 b0 a b A B) (hl : Low lt a0 b0 A) : Low lt a b B := by
 have hab := h.ab
 by_cases e : a = a0
 ·subst e
  rcases hl.seg h.seg with h1 | h1
  ·exact .inl h1
  ·exact .inr (h1.sub (Nat.le_refl _) (Nat.le_refl _) (Nat.le_refl _) (by omega))
 ·exact .inr (h.l2.sub (by omega) (Nat.le_refl _) (Nat.le_refl _) (by omega))
theorem Pdq.done {a0 b0 : Nat} (h : Pdq lt a0 b0 a b A B) (hs : Srt lt a b B) : Srt lt a0 b0 B := by
 have hab := h.ab
 refine (h.lo.join (hs.join h.hi ?_) ?_)
 ·exact h.h2.sub (by omega) (Nat.le_refl _) (Nat.le_refl _) (Nat.le_refl _)
 ·exact h.l2.sub (Nat.le_refl _) (Nat.le_refl _) (Nat.le_refl _) (Nat.le_refl _)
theorem Pdq.equal (hw : SW lt) {a0 b0 : Nat} {pv : α} (h : Pdq lt a0 b0 a b A B) (ha : a < m) (hm : m ≤ b) (h1 : Z6L (fun x => lt pv x = false) a m B) (h2 : Z6L (fun x => lt pv x = true) m b B) (h3 : Z6L (fun x => lt x pv = false) a b B) : Pdq lt a0 b0 m b A B := by
 have hab := h.ab
 have hs : Srt lt a m B := fun p q x y e1 e2 e3 hx hy => hw.neg _ _ _ (h3 q y (by omega) (by omega) hy) (h1 p x e1 (by omega) hx)
 refine ⟨h.seg, by omega, ?_, ?_, h.hi, h.h2⟩
 ·exact h.lo.join hs (h.l2.sub (Nat.le_refl _) (Nat.le_refl _) (Nat.le_refl _) (by omega))
 ·intro p q x y e1 e2 e3 e4 hx hy
  by_cases e5 : p < a
  ·exact h.l2 p q x y e1 e5 (by omega) e4 hx hy
  ·by_cases e6 : q < b
   ·exact hw.neg _ _ _ (hw.asym _ _ (h2 q y e3 e6 hy)) (h1 p x (by omega) (by omega) hx)
   ·exact h.h2 p q x y (by omega) (by omega) (by omega) e4 hx hy
theorem Cut3.left (h : Cut3 lt a m b B) (hS : SegP a m B C) : Cut3 lt a m b C :=
  ⟨fun k x y h1 h2 hx hy => by
    rw [hS.out (.inr (Nat.le_refl _))] at hy
    exact hS.all (p := fun x => lt y x = false) (Nat.le_refl _) (Nat.le_refl _) (fun k u h3 h4 hu => h.lo k u y h3 h4 hu hy) k x h1 h2 hx,
   fun k x y h1 h2 hx hy => by
    rw [hS.out (.inr (by omega))] at hx
    rw [hS.out (.inr (Nat.le_refl _))] at hy
    exact h.hi k x y h1 h2 hx hy⟩
theorem Cut3.right (h : Cut3 lt a m b B) (hS : SegP (m + 1) b B C) : Cut3 lt a m b C :=
  ⟨fun k x y h1 h2 hx hy => by
    rw [hS.out (.inl (by omega))] at hx
    rw [hS.out (.inl (by omega))] at hy
    exact h.lo k x y h1 h2 hx hy,
   fun k x y h1 h2 hx hy => by
    rw [hS.out (.inl (by omega))] at hy
    exact hS.all (p := fun x => lt x y = false) (Nat.le_refl _) (Nat.le_refl _) (fun k u h3 h4 hu => h.hi k u y (by omega) h4 hu hy) k x (by omega) h2 hx⟩
theorem Cut3.low (h : Cut3 lt a m b B) : Low lt (m + 1) b B := .inr fun p q x y h1 h2 h3 h4 hx hy => by
 obtain rfl : p = m := by omega
 exact h.hi q y x (by omega) h4 hy hx
end
def cLt (xs : List Int) (m : Int) : Nat := xs.countP fun x => decide (x < m)
def cLe (xs : List Int) (m : Int) : Nat := xs.countP fun x => decide (x ≤ m)
structure MedP (xs : List Int) (m : Int) : Prop where
 mem : m ∈ xs
 lt : cLt xs m ≤ xs.length / 2
 le : xs.length / 2 < cLe xs m
theorem Z8K {xs : List Int} {a b : Int} (h : a < b) : cLe xs a ≤ cLt xs b := List.countP_mono_left fun x _ hx => by simp at hx ⊢; omega
theorem MedP.uniq {xs : List Int} {a b : Int} (ha : MedP xs a) (hb : MedP xs b) : a = b := by
 rcases Int.lt_trichotomy a b with h | h | h
 ·have := Z8K (xs := xs) h; have := ha.le; have := hb.lt; omega
 ·exact h
 ·have := Z8K (xs := xs) h; have := hb.le; have := ha.lt; omega
theorem MedP.perm {xs ys : List Int} {a : Int} (h : MedP xs a) (hp : xs.Perm ys) : MedP ys a := by
 refine ⟨hp.mem_iff.1 h.mem, ?_, ?_⟩
 ·unfold cLt; rw [← hp.countP_eq, ← hp.length_eq]; exact h.lt
 ·unfold cLe; rw [← hp.countP_eq, ← hp.length_eq]; exact h.le
theorem MedP.of_srt {B : List Int} {m : Int} (hs : Srt (fun x y : Int => decide (x < y)) 0 B.length B) (hm : B[B.length / 2]? = some m) : MedP B m := by
 have hlt := (List.getElem?_eq_some_iff.1 hm).1
 have hsplit : B = B.take (B.length / 2) ++ B.drop (B.length / 2) := (List.take_append_drop _ _).symm
 have hsplit2 : B = B.take (B.length / 2 + 1) ++ B.drop (B.length / 2 + 1) := (List.take_append_drop _ _).symm
 refine ⟨List.mem_of_getElem? hm, ?_, ?_⟩
 ·have h0 : (B.drop (B.length / 2)).countP (fun x => decide (x < m)) = 0 := by
   rw [List.countP_eq_zero]
   intro x hx
   obtain ⟨i, hi, rfl⟩ := List.mem_iff_getElem.1 hx
   rw [List.length_drop] at hi
   rw [List.getElem_drop]
   simp only [decide_eq_true_eq, Int.not_lt]
   by_cases e : i = 0
   ·subst e
    have := (List.getElem?_eq_some_iff.1 hm).2
    simp only [Nat.add_zero, this]; exact Int.le_refl _
   ·have := hs (B.length / 2) (B.length / 2 + i) m _ (Nat.zero_le _) (by omega) (by omega) hm (List.getElem?_eq_getElem (by omega))
    simpa using this
  have h1 : cLt B m = (B.take (B.length / 2)).countP (fun x => decide (x < m)) := by
   unfold cLt
   conv => lhs; rw [hsplit]
   rw [List.countP_append, h0, Nat.add_zero]
  rw [h1]
  exact Nat.le_trans List.countP_le_length (by rw [List.length_take]; omega)
 ·have h0 : (B.take (B.length / 2 + 1)).countP (fun x => decide (x ≤ m)) = (B.take (B.length / 2 + 1)).length := by
   rw [List.countP_eq_length]
   intro x hx
   obtain ⟨i, hi, rfl⟩ := List.mem_iff_getElem.1 hx
   rw [List.length_take] at hi
   rw [List.getElem_take]
   simp only [decide_eq_true_eq]
   by_cases e : i = B.length / 2
   ·subst e
    exact Int.le_of_eq (List.getElem?_eq_some_iff.1 hm).2
   ·have := hs i (B.length / 2) _ m (Nat.zero_le _) (by omega) (by omega) (List.getElem?_eq_getElem (by omega)) hm
    simpa using this
  have h1 : (B.take (B.length / 2 + 1)).countP (fun x => decide (x ≤ m)) ≤ cLe B m := by
   unfold cLe
   conv => rhs; rw [hsplit2]
   rw [List.countP_append]; omega
  rw [h0, List.length_take] at h1
  omega
theorem Zck {xs : List Int} (h : xs.length % 2 = 1) : ∃ m, MedP xs m := by
 obtain ⟨B, hB⟩ : ∃ B, xs.mergeSort (fun a b => decide (a ≤ b)) = B := ⟨_, rfl⟩
 have hp : B.Perm xs := hB ▸ List.mergeSort_perm xs _
 have hs : B.Pairwise fun a b => decide (a ≤ b) = true := hB ▸ List.pairwise_mergeSort (by simp; omega) (by simp; omega) xs
 have hl := hp.length_eq
 have hlt : B.length / 2 < B.length := by omega
 refine ⟨B[B.length / 2], (MedP.of_srt (B := B) ?_ (List.getElem?_eq_getElem hlt)).perm hp⟩
 intro i j x y _ hij hj hx hy
 obtain ⟨h1, rfl⟩ := List.getElem?_eq_some_iff.1 hx
 obtain ⟨h2, rfl⟩ := List.getElem?_eq_some_iff.1 hy
 have := List.pairwise_iff_getElem.1 hs i j h1 h2 hij
 simp at this ⊢; omega
noncomputable def Z4R (xs : List Int) : Int := open Classical in if h : xs.length % 2 = 1 then Classical.choose (Zck h) else 0
theorem Z94 {xs : List Int} (h : xs.length % 2 = 1) : MedP xs (Z4R xs) := by
 unfold Z4R; rw [dif_pos h]; exact Classical.choose_spec (Zck h)
theorem Z8p {xs : List Int} {m : Int} (h : xs.length % 2 = 1) (hm : MedP xs m) : Z4R xs = m := (Z94 h).uniq hm
theorem Z3I {xs : List Int} (h : xs.length % 2 = 0) : Z4R xs = 0 := by
 unfold Z4R; rw [dif_neg (by omega)]
theorem ZaP {xs ys : List Int} (hp : xs.Perm ys) : Z4R xs = Z4R ys := by
 rcases Nat.mod_two_eq_zero_or_one xs.length with h | h
 ·rw [Z3I h, Z3I (by rw [← hp.length_eq]; exact h)]
 ·exact Z8p h ((Z94 (by rw [← hp.length_eq]; exact h)).perm hp.symm)
def cEq (xs : List Int) (m : Int) : Nat := xs.countP fun x => decide (x = m)
theorem Z7k (xs : List Int) (m : Int) : cLe xs m = cLt xs m + cEq xs m := by
 unfold cLe cLt cEq
 induction xs with
 | nil => rfl
 | cons x xs ih =>
  simp only [List.countP_cons, ih]
  rcases Int.lt_trichotomy x m with h | h | h
  ·have a : x ≤ m := by omega
   have b : ¬ x = m := by omega
   simp [h, a, b]; omega
  ·subst h; simp; omega
  ·have a : ¬ x ≤ m := by omega
   have b : ¬ x = m := by omega
   have c : ¬ x < m := by omega
   simp [a, b, c]
theorem Z2W (p : Int → Bool) (xs : List Int) (k : Nat) (h : k < xs.length) : (xs.take (k + 1)).countP p = (xs.take k).countP p + if p (xs.getD k 0) = true then 1 else 0 := by
 rw [List.getD_eq_getElem?_getD, List.getElem?_eq_getElem h, List.take_add_one, List.getElem?_eq_getElem h, List.countP_append]
 simp only [Option.toList_some, List.countP_singleton, Option.getD_some]
theorem cLt_le (xs : List Int) (m : Int) : cLt xs m ≤ xs.length := List.countP_le_length
theorem cEq_le (xs : List Int) (m : Int) : cEq xs m ≤ xs.length := List.countP_le_length
theorem Z0D (p : Int → Bool) (xs : List Int) (k : Nat) : (xs.take k).countP p ≤ k := by
 have := List.countP_le_length (p := p) (l := xs.take k)
 rw [List.length_take] at this; omega
def Z5s (xs : List Int) (j : Nat) : Prop := ¬ (cLt xs (xs.getD j 0) ≤ xs.length / 2 ∧ xs.length / 2 < cLt xs (xs.getD j 0) + cEq xs (xs.getD j 0))
theorem Zak {xs : List Int} {j : Nat} (h : j < xs.length) : xs.getD j 0 ∈ xs := by
 rw [List.getD_eq_getElem?_getD, List.getElem?_eq_getElem h]; exact List.getElem_mem h
theorem ZcC {xs : List Int} {j : Nat} (h : xs.length % 2 = 1) (hj : j < xs.length) (h1 : cLt xs (xs.getD j 0) ≤ xs.length / 2) (h2 : xs.length / 2 < cLt xs (xs.getD j 0) + cEq xs (xs.getD j 0)) : Z4R xs = xs.getD j 0 :=
 Z8p h ⟨Zak hj, h1, by rw [Z7k]; exact h2⟩
theorem ZcD {xs : List Int} (h : xs.length % 2 = 1) (hn : ∀ j, j < xs.length → Z5s xs j) : False := by
 have hm := Z94 h
 obtain ⟨j, hj, he⟩ := List.mem_iff_getElem.1 hm.mem
 refine hn j hj ?_
 have : xs.getD j 0 = Z4R xs := by rw [List.getD_eq_getElem?_getD, List.getElem?_eq_getElem hj]; exact he
 rw [this, ← Z7k]
 exact ⟨hm.lt, hm.le⟩
theorem Z5N {xs : List Int} {i : Nat} (h : ∀ j, j < i → Z5s xs j) (hn : Z5s xs i) : ∀ j, j < i + 1 → Z5s xs j := fun j hj => by
 rcases Nat.lt_or_ge j i with h1 | h1
 ·exact h j h1
 ·obtain rfl : j = i := by omega
  exact hn
theorem srt_le {B : List Int} (h : Srt (fun x y : Int => decide (x < y)) 0 B.length B) {m : Int} (hm : B[B.length / 2]? = some m) : MedP B m := MedP.of_srt h hm
end Go.Proofs.YtoaifondpohniaaGreat
namespace Go.Proofs.YtoaifondpohniaaGreat
open Go.RowKit
def inB (f r : Int) : Bool := decide (0 ≤ r) && decide (r < 3 * f + 1)
def Z0R (cn : Int) (x : Zg) : Bool := decide (0 ≤ x.cl) && decide (x.cl < cn) && decide (1 ≤ x.seq) && decide (x.seq ≤ 1048576) && decide (0 ≤ x.len) && decide (x.len ≤ 256)
def Z2d (cn : Int) (L : List Signed) (x : Zg) : Bool := Z0R cn x && decide (x.sb = IntKind.i64.wrap (1000 + x.cl)) && Z1k L x.sb x.sm (Zy x)
def Z0Z (f : Int) (L : List Signed) (s : Za) : Bool := inB f s.r && decide (1 ≤ s.t) && decide (s.t < 18446744073709551615) && decide (s.sb = s.r) && Z1k L s.sb s.sm (ZH s)
def Z2h (s : Za) (x : Zg) : Bool := decide (s.cl = x.cl ∧ s.seq = x.seq) && decide (s.h = x.h)
def Z3d (f : Int) (L : List Signed) (x : Zg) (S : List Za) (i : Nat) : Bool := (!decide ((i : Int) > 0) || !decide ((S.getD i Ze).r ≤ (S.getD (i - 1) Ze).r)) && Z2h (S.getD i Ze) x && Z0Z f L (S.getD i Ze)
def Z0m (f cn : Int) (L : List Signed) (x : Zg) (S : List Za) : Bool := Z2d cn L x && decide ((S.length : Int) = 2 * f + 1) && (List.range S.length).all (Z3d f L x S)
theorem Z6P {p : Nat → Bool} {n : Nat} (h : ∀ j, j < n → p j = true) : (List.range n).all p = true := by
 rw [List.all_eq_true]; intro j hj; exact h j (List.mem_range.1 hj)
theorem Z24 {p : Nat → Bool} {n i : Nat} (hi : i < n) (h : p i = false) : (List.range n).all p = false := by
 rw [Bool.eq_false_iff]; intro hc
 rw [List.all_eq_true] at hc
 rw [hc i (List.mem_range.2 hi)] at h; cases h
def Z3b (S : List Za) : List Int := S.map (·.t)
noncomputable def ZA (S : List Za) : Int := Z4R (Z3b S)
def StOk (s : Za) : Prop := s.r ≤ 9223372036854775807 ∧ s.cl ≤ 9223372036854775807 ∧ s.seq ≤ 9223372036854775807 ∧ 0 ≤ s.t ∧ s.t < 18446744073709551616
def ZbX (s : Zg) : Prop := s.cl ≤ 9223372036854775807 ∧ s.seq ≤ 9223372036854775807 ∧ s.len ≤ 9223372036854775807
theorem Z4p {n : Nat} {f : Nat → Value} {w : World} {dst : Option Tmp} {ty : TypeId} {pos : String} {aft : Array Edge} {gd : Option (Nat × Bool)} {x y : Operand} {T : TypeId} (a b c d : Int) (hx : ev n f x = .agg ⟨[.int .i64 a, .int .i64 b]⟩) (hy : ev n f y = .agg ⟨[.int .i64 c, .int .i64 d]⟩) :
  (execOp (ev n f) ⟨dst, .binOp .neq 24 x y T, ty, pos, aft, gd⟩).run Tryz.prog w = .ok (.value (.bool (!decide (a = c ∧ b = d)))) w := by
 simp only [execOp, hx, hy]
 simp [go_sem]
 by_cases h1 : a = c <;> by_cases h2 : b = d <;> simp_all
theorem Z6J (S : List Za) {i : Nat} (h : i < S.length) : Z3b (S.take (i + 1)) = Z3b (S.take i) ++ [(S.getD i Ze).t] := by
 unfold Z3b
 rw [List.take_add_one, List.getElem?_eq_getElem h, List.map_append, List.getD_eq_getElem?_getD, List.getElem?_eq_getElem h]
 rfl
theorem Z4G (S : List Za) : (Z3b S).length = S.length := by simp [Z3b]
def Zbi (S : List Za) : Prop := ∀ i, i < S.length → StOk (S.getD i Ze)
def Z3 (v n : Int) : Int := if n < 1 then 0 else v % n
theorem Z2B (v n : Int) (h : 1 ≤ n) : 0 ≤ Z3 v n ∧ Z3 v n < n := by
 unfold Z3; rw [if_neg (by omega)]
 exact ⟨Int.emod_nonneg _ (by omega), Int.emod_lt_of_pos _ (by omega)⟩
structure NmD where
 cl : Int
 sq : Int
deriving DecidableEq
def Z1c (x : NmD) : List Value := [.int .i64 x.cl, .int .i64 x.sq]
theorem Z2l (x : NmD) : (Z1c x).length = 2 := rfl
theorem Zae (x : NmD) : (Z1c x).all (·.oneCell') = true := rfl
def nm0 : NmD := ⟨0, 0⟩
structure ZbY where
 cl : Int
 sq : Int
 h : Hash
 t : Int
def nmV (x : NmD) : Value := .agg ⟨Z1c x⟩
end Go.Proofs.YtoaifondpohniaaGreat
namespace Go.Proofs.YtoaifondpohniaaGreat
end Go.Proofs.YtoaifondpohniaaGreat
namespace Go.Proofs.YtoaifondpohniaaGreat
open Go.RowKit
def Hash.at (a : Hash) (i : Nat) : UInt8 := a.l.getD i 0
def LessH (a b : Hash) : Prop := ∃ i, i < 32 ∧ a.at i < b.at i ∧ ∀ j, j < i → a.at j = b.at j
theorem LessH.trans {a b c : Hash} (h : LessH a b) (k : LessH b c) : LessH a c := by
 obtain ⟨i, hi, h1, h2⟩ := h
 obtain ⟨j, hj, k1, k2⟩ := k
 rcases Nat.lt_trichotomy i j with e | e | e
 ·exact ⟨i, hi, by rw [← k2 i e]; exact h1, fun q hq => (h2 q hq).trans (k2 q (by omega))⟩
 ·subst e; exact ⟨i, hi, UInt8.lt_trans h1 k1, fun q hq => (h2 q hq).trans (k2 q hq)⟩
 ·exact ⟨j, hj, by rw [h2 j e]; exact k1, fun q hq => (h2 q (by omega)).trans (k2 q hq)⟩
section
variable {P : Program} {w : World}
end
section
variable {P : Program} {n : Nat} {f : Nat → Value} {w : World}
end
end Go.Proofs.YtoaifondpohniaaGreat
namespace Go.Proofs.YtoaifondpohniaaGreat
def ltEn (x y : ZbY) : Prop := x.t < y.t ∨ x.t = y.t ∧ (x.cl < y.cl ∨ x.cl = y.cl ∧ x.sq < y.sq)
instance (x y : ZbY) : Decidable (ltEn x y) := by unfold ltEn; exact inferInstance
end Go.Proofs.YtoaifondpohniaaGreat
namespace Go.Proofs.YtoaifondpohniaaGreat
open Go.RowKit
def Z3y (x : Int) : List Value := [.int .u64 x]
theorem Z1v (x : Int) : (Z3y x).length = 1 := rfl
theorem Z8Q (x : Int) : (Z3y x).all (·.oneCell') = true := rfl
def ltU (x y : Int) : Bool := decide (x < y)
theorem swU : SW ltU := ⟨fun x y h => by simp [ltU] at h ⊢; omega, fun x y z h1 h2 => by simp [ltU] at h1 h2 ⊢; omega⟩
def Z32 (g n c : Nat) (A : List Int) : Ck := Zk 27 1 (.slice (some ⟨g, 0, none⟩) n c) n (A.flatMap Z3y)
theorem Z79 {g n c : Nat} {A : List Int} {w : World} (h : (Z32 g n c A).ok w) : A.length = n := by
 have := h.1
 rw [Z1K Z3y 1 Z1v] at this
 omega
theorem Z4C {g n c o j : Nat} {A : List Int} {w : World} {x : Int} (h : (Z32 g n c A).ok w) (hx : A[j]? = some x) (ho : o = j) : w.cell? ⟨g, o, none⟩ = some (.int .u64 x) := by
 refine Z40 h rfl ?_
 have := Z3Q Z3y 1 Z1v A j 0 x hx (by omega)
 rw [Nat.mul_one, Nat.add_zero] at this
 rw [ho]
 exact this
theorem Z8N {P : Program} {n : Nat} {f : Nat → Value} {w : World} {ty : TypeId} {pos : String} {aft : Array Edge} {gd : Option (Nat × Bool)} {w0 : World} {G : List Ck} {K : Act → World → Prop} {Q : Exit → Act → World → Prop} {dst : Option Tmp} {T : TypeId} {x y : Operand} {g m c o j : Nat} {A : List Int} {u : Int}
  (hd : dst = none) (H : Sat w0 G w) (i : Nat) (hi : G[i]? = some (Z32 g m c A)) (hx : ev n f x = .pointer (some ⟨g, o, none⟩)) (hy : ev n f y = .int .u64 u) (hT : P.cellsOf T = 1) (ho : o = j) (hj : j < A.length)
  (k : ∀ w', Sat w0 (G.set i (Z32 g m c (A.set j u))) w' → K (fr n f) w') : WO P ⟨dst, .store T x y, ty, pos, aft, gd⟩ K Q n f w :=
 Z9s hd H i hi rfl hx hy (vs := [.int .u64 u]) rfl hT (Nat.succ_pos _) (by rw [Z1K Z3y 1 Z1v, ho]; show j + 1 ≤ _; omega) rfl (xs' := (A.set j u).flatMap Z3y) (by subst ho; have := Z8R Z3y 1 Z1v A o u hj; rw [Nat.mul_one] at this; exact this) k
end Go.Proofs.YtoaifondpohniaaGreat
