/- WHAT IS PROVED: contracts and plain laws of SortMath, MedMath, RightD, BatD, Bag, ClD, MsD. Conditions: stated with each. -/
import Derived.Calls
import Derived.Test.YtgigjkjdmalmaaaGreatPY04
import Derived.Test.YtgigjkjdmalmaaaGreatPY05
import Derived.Test.YtgigjkjdmalmaaaGreatPY06
import Derived.Test.YtgigjkjdmalmaaaGreatPY08
import Derived.Test.YtgigjkjdmalmaaaGreatPY09
set_option maxHeartbeats 4000000
set_option maxRecDepth 100000
namespace Go.Proofs.YtgigjkjdmalmaaaGreat
structure SW {α : Type} (lt : α → α → Bool) : Prop where
 asym : ∀ x y, lt x y = true → lt y x = false
 neg : ∀ x y w, lt x y = false → lt y w = false → lt x w = false
section
variable {α : Type} {lt : α → α → Bool} {A B C D : List α} {a b c d i j k m : Nat} {x y z : α}
theorem SW.irrefl (h : SW lt) (x : α) : lt x x = false := by
 cases e : lt x x
 ·rfl
 ·exact absurd (h.asym x x e) (by simp [e])
inductive SegP (a b : Nat) (A : List α) : List α → Prop
 | refl : SegP a b A A
 | swap {B : List α} {i j : Nat} {x y : α} : SegP a b A B → a ≤ i → i < b → a ≤ j → j < b → B[i]? = some x → B[j]? = some y → SegP a b A ((B.set i y).set j x)
theorem Zbp (h : A[i]? = some x) : i < A.length := (List.getElem?_eq_some_iff.1 h).1
theorem Z1S (hx : A[i]? = some x) (hy : A[j]? = some y) (k : Nat) : ((A.set i y).set j x)[k]? = if k = j then some x else if k = i then some y else A[k]? := by
 have h1 := Zbp hx
 have h2 := Zbp hy
 rw [List.getElem?_set, List.getElem?_set, List.length_set]
 by_cases e1 : j = k
 ·subst e1; simp [h2]
 ·rw [if_neg e1, if_neg (Ne.symm e1)]
  by_cases e2 : i = k
  ·subst e2; simp [h1]
  ·rw [if_neg e2, if_neg (Ne.symm e2)]
theorem SegP.len (h : SegP a b A B) : B.length = A.length := by
 induction h with
 | refl => rfl
 | swap _ _ _ _ _ _ _ ih => simpa using ih
theorem SegP.perm (h : SegP a b A B) : B.Perm A := by
 induction h with
 | refl => exact List.Perm.refl _
 | @swap B i j x y _ _ _ _ _ hx hy ih =>
  refine List.Perm.trans ?_ ih
  obtain ⟨h1, rfl⟩ := List.getElem?_eq_some_iff.1 hx
  obtain ⟨h2, rfl⟩ := List.getElem?_eq_some_iff.1 hy
  exact List.set_set_perm h1 h2
theorem SegP.out (h : SegP a b A B) (hk : k < a ∨ b ≤ k) : B[k]? = A[k]? := by
 induction h with
 | refl => rfl
 | @swap B i j x y _ h1 h2 h3 h4 hx hy ih => rw [Z1S hx hy, if_neg (by omega), if_neg (by omega), ih]
theorem SegP.mono (h : SegP a b A B) (ha : c ≤ a) (hb : b ≤ d) : SegP c d A B := by
 induction h with
 | refl => exact .refl
 | swap _ h1 h2 h3 h4 hx hy ih => exact ih.swap (by omega) (by omega) (by omega) (by omega) hx hy
theorem SegP.trans (h : SegP a b A B) (k : SegP a b B C) : SegP a b A C := by
 induction k with
 | refl => exact h
 | swap _ h1 h2 h3 h4 hx hy ih => exact ih.swap h1 h2 h3 h4 hx hy
theorem SegP.of_swap (h1 : a ≤ i) (h2 : i < b) (h3 : a ≤ j) (h4 : j < b) (hx : A[i]? = some x) (hy : A[j]? = some y) : SegP a b A ((A.set i y).set j x) := SegP.refl.swap h1 h2 h3 h4 hx hy
def Z8i (p : α → Prop) (c d : Nat) (A : List α) : Prop := ∀ k x, c ≤ k → k < d → A[k]? = some x → p x
theorem SegP.all {p : α → Prop} (h : SegP a b A B) (hc : c ≤ a) (hd : b ≤ d) (hA : Z8i p c d A) : Z8i p c d B := by
 induction h with
 | refl => exact hA
 | @swap B i j x y _ h1 h2 h3 h4 hx hy ih =>
  intro k u hk hk2 hu
  rw [Z1S hx hy] at hu
  split at hu
  ·cases hu; exact ih i x (by omega) (by omega) hx
  split at hu
  ·cases hu; exact ih j y (by omega) (by omega) hy
  ·exact ih k u hk hk2 hu
def Srt (lt : α → α → Bool) (a b : Nat) (A : List α) : Prop := ∀ i j x y, a ≤ i → i < j → j < b → A[i]? = some x → A[j]? = some y → lt y x = false
def Le2 (lt : α → α → Bool) (a b c d : Nat) (A : List α) : Prop := ∀ i j x y, a ≤ i → i < b → c ≤ j → j < d → A[i]? = some x → A[j]? = some y → lt y x = false
theorem Srt.short (h : b ≤ a + 1) : Srt lt a b A := fun i j _ _ h1 h2 h3 _ _ => by omega
theorem Srt.out (hs : Srt lt a b A) (h : SegP c d A B) (hcd : b ≤ c ∨ d ≤ a) : Srt lt a b B := by
 intro i j x y h1 h2 h3 hx hy
 rw [h.out (by omega)] at hx hy
 exact hs i j x y h1 h2 h3 hx hy
theorem Srt.join (h1 : Srt lt a m A) (h2 : Srt lt m b A) (h3 : Le2 lt a m m b A) : Srt lt a b A := by
 intro i j x y ha hij hb hx hy
 by_cases e1 : j < m
 ·exact h1 i j x y ha hij e1 hx hy
 ·by_cases e2 : i < m
  ·exact h3 i j x y ha e2 (by omega) hb hx hy
  ·exact h2 i j x y (by omega) hij hb hx hy
theorem Le2.left (hl : Le2 lt a b c d A) (h : SegP i j A B) (h1 : a ≤ i) (h2 : j ≤ b) (h3 : b ≤ c) : Le2 lt a b c d B := by
 intro p q x y hp1 hp2 hq1 hq2 hx hy
 rw [h.out (by omega)] at hy
 exact h.all (p := fun x => lt y x = false) h1 h2 (fun k u hk hk2 hu => hl k q u y hk hk2 hq1 hq2 hu hy) p x hp1 hp2 hx
theorem Le2.right (hl : Le2 lt a b c d A) (h : SegP i j A B) (h1 : c ≤ i) (h2 : j ≤ d) (h3 : b ≤ c) : Le2 lt a b c d B := by
 intro p q x y hp1 hp2 hq1 hq2 hx hy
 rw [h.out (by omega)] at hx
 exact h.all (p := fun y => lt y x = false) h1 h2 (fun k u hk hk2 hu => hl p k x u hp1 hp2 hk hk2 hx hu) q y hq1 hq2 hy
theorem Le2.sub (hl : Le2 lt a b c d A) {a' b' c' d' : Nat} (h1 : a ≤ a') (h2 : b' ≤ b) (h3 : c ≤ c') (h4 : d' ≤ d) : Le2 lt a' b' c' d' A :=
 fun p q x y hp1 hp2 hq1 hq2 hx hy => hl p q x y (by omega) (by omega) (by omega) (by omega) hx hy
theorem Srt.sub (h : Srt lt a b A) {a' b' : Nat} (h1 : a ≤ a') (h2 : b' ≤ b) : Srt lt a' b' A := fun i j x y h3 h4 h5 hx hy => h i j x y (by omega) h4 (by omega) hx hy
structure Ins (lt : α → α → Bool) (a i j : Nat) (B : List α) : Prop where
 lo : Srt lt a j B
 hi : Srt lt j (i + 1) B
 cr : Le2 lt a j (j + 1) (i + 1) B
theorem Ins.start (h : Srt lt a i B) : Ins lt a i i B := ⟨h, Srt.short (by omega), fun p q _ _ _ _ h3 h4 _ _ => by omega⟩
theorem Ins.step (hw : SW lt) (h : Ins lt a i j B) (ha : a < j) (_hj : j ≤ i) (hx : B[j]? = some x) (hy : B[j - 1]? = some y) (hl : lt x y = true) : Ins lt a i (j - 1) ((B.set j y).set (j - 1) x) := by
 have g := Z1S hx hy
 refine ⟨?_, ?_, ?_⟩
 ·intro p q u v h1 h2 h3 hu hv
  rw [g, if_neg (by omega), if_neg (by omega)] at hu hv
  exact h.lo p q u v h1 h2 (by omega) hu hv
 ·intro p q u v h1 h2 h3 hu hv
  rw [g] at hu hv
  by_cases e1 : p = j - 1
  ·rw [if_pos e1] at hu; cases hu
   rw [if_neg (by omega)] at hv
   by_cases e2 : q = j
   ·rw [if_pos e2] at hv; cases hv; exact hw.asym _ _ hl
   ·rw [if_neg e2] at hv
    exact h.hi j q x v (by omega) (by omega) (by omega) hx hv
  ·rw [if_neg e1] at hu
   rw [if_neg (by omega)] at hv
   rw [if_neg (by omega)] at hv
   by_cases e2 : p = j
   ·rw [if_pos e2] at hu; cases hu
    exact h.cr (j - 1) q y v (by omega) (by omega) (by omega) (by omega) hy hv
   ·rw [if_neg e2] at hu
    exact h.hi p q u v (by omega) h2 h3 hu hv
 ·intro p q u v h1 h2 h3 h4 hu hv
  rw [g, if_neg (by omega), if_neg (by omega)] at hu
  rw [g, if_neg (by omega)] at hv
  by_cases e : q = j
  ·rw [if_pos e] at hv; cases hv
   exact h.lo p (j - 1) u y h1 (by omega) (by omega) hu hy
  ·rw [if_neg e] at hv
   exact h.cr p q u v h1 (by omega) (by omega) h4 hu hv
theorem Ins.low (h : Ins lt a i a B) : Srt lt a (i + 1) B := h.hi
theorem Ins.stop (hw : SW lt) (h : Ins lt a i j B) (ha : a < j) (hj : j ≤ i) (hx : B[j]? = some x) (hy : B[j - 1]? = some y) (hl : lt x y = false) : Srt lt a (i + 1) B := by
 refine h.lo.join h.hi ?_
 intro p q u v h1 h2 h3 h4 hu hv
 by_cases e : q = j
 ·subst e; rw [hx] at hv; cases hv
  by_cases e2 : p = q - 1
  ·subst e2; rw [hy] at hu; cases hu; exact hl
  ·exact hw.neg _ _ _ hl (h.lo p (q - 1) u y h1 (by omega) (by omega) hu hy)
 ·exact h.cr p q u v h1 h2 (by omega) h4 hu hv
def Kid (r c : Nat) : Prop := c = 2 * r + 1 ∨ c = 2 * r + 2
def Heap (lt : α → α → Bool) (f lo hi : Nat) (B : List α) : Prop := ∀ r c x y, lo ≤ r → Kid r c → c < hi → B[f + r]? = some x → B[f + c]? = some y → lt x y = false
structure Sift (lt : α → α → Bool) (f lo hi root : Nat) (B : List α) : Prop where
 oth : ∀ r c x y, lo ≤ r → r ≠ root → Kid r c → c < hi → B[f + r]? = some x → B[f + c]? = some y → lt x y = false
 up : ∀ r c x y, lo ≤ r → Kid r root → Kid root c → c < hi → B[f + r]? = some x → B[f + c]? = some y → lt x y = false
theorem Sift.start {f lo hi : Nat} (h : Heap lt f (lo + 1) hi B) : Sift lt f lo hi lo B :=
 ⟨fun r c x y h1 h2 h3 h4 hx hy => h r c x y (by omega) h3 h4 hx hy, fun r c x y h1 h2 _ _ _ _ => by unfold Kid at h2; omega⟩
theorem Sift.step (hw : SW lt) {f lo hi root ch : Nat} (h : Sift lt f lo hi root B) (hlo : lo ≤ root) (hk : Kid root ch) (hc : ch < hi) (hx : B[f + root]? = some x) (hy : B[f + ch]? = some y) (hl : lt x y = true)
  (hmax : ∀ c z, Kid root c → c < hi → B[f + c]? = some z → lt y z = false) : Sift lt f lo hi ch ((B.set (f + root) y).set (f + ch) x) := by
 have g := Z1S hx hy
 unfold Kid at hk
 refine ⟨?_, ?_⟩
 ·intro r c u v h1 h2 h3 h4 hu hv
  rw [g] at hu hv
  rw [if_neg (by omega)] at hu
  by_cases e : r = root
  ·subst e
   rw [if_pos rfl] at hu; cases hu
   by_cases e2 : c = ch
   ·subst e2; rw [if_pos rfl] at hv; cases hv; exact hw.asym _ _ hl
   ·unfold Kid at h3
    rw [if_neg (by omega), if_neg (by omega)] at hv
    exact hmax c v (by unfold Kid; omega) h4 hv
  ·rw [if_neg (by omega)] at hu
   unfold Kid at h3
   rw [if_neg (by omega)] at hv
   by_cases e2 : c = root
   ·subst e2
    rw [if_pos rfl] at hv; cases hv
    exact h.up r ch u y h1 (by unfold Kid; omega) (by unfold Kid; omega) hc hu hy
   ·rw [if_neg (by omega)] at hv
    exact h.oth r c u v h1 e (by unfold Kid; omega) h4 hu hv
 ·intro r c u v h1 h2 h3 h4 hu hv
  unfold Kid at h2 h3
  obtain rfl : r = root := by omega
  rw [g] at hu hv
  rw [if_neg (by omega), if_pos rfl] at hu; cases hu
  rw [if_neg (by omega), if_neg (by omega)] at hv
  exact h.oth ch c y v (by omega) (by omega) (by unfold Kid; omega) h4 hy hv
theorem Sift.stop (hw : SW lt) {f lo hi root ch : Nat} (h : Sift lt f lo hi root B) (hx : B[f + root]? = some x) (hl : lt x y = false) (_hy : B[f + ch]? = some y)
  (hmax : ∀ c z, Kid root c → c < hi → B[f + c]? = some z → lt y z = false) : Heap lt f lo hi B := by
 intro r c u v h1 h2 h3 hu hv
 by_cases e : r = root
 ·subst e
  rw [hx] at hu; cases hu
  exact hw.neg _ _ _ hl (hmax c v h2 h3 hv)
 ·exact h.oth r c u v h1 e h2 h3 hu hv
theorem Heap.max (hw : SW lt) {f hi : Nat} (h : Heap lt f 0 hi B) (hb : f + hi ≤ B.length) (hx : B[f]? = some x) : ∀ k y, k < hi → B[f + k]? = some y → lt x y = false := by
 intro k
 induction k using Nat.strongRecOn with
 | _ k ih =>
  intro y hk hy
  by_cases e : k = 0
  ·subst e; rw [Nat.add_zero, hx] at hy; cases hy; exact hw.irrefl _
  ·have hp : f + (k - 1) / 2 < B.length := by omega
   have h1 := ih ((k - 1) / 2) (by omega) _ (by omega) (List.getElem?_eq_getElem hp)
   exact hw.neg _ _ _ h1 (h ((k - 1) / 2) k _ y (Nat.zero_le _) (by unfold Kid; omega) hk (List.getElem?_eq_getElem hp) hy)
structure Pop (lt : α → α → Bool) (f i hi : Nat) (B : List α) : Prop where
 heap : Heap lt f 0 i B
 srt : Srt lt (f + i) (f + hi) B
 le : Le2 lt f (f + i) (f + i) (f + hi) B
theorem Pop.start {f hi : Nat} (h : Heap lt f 0 hi B) : Pop lt f hi hi B := ⟨h, Srt.short (by omega), fun p q _ _ _ _ h3 h4 _ _ => by omega⟩
theorem Pop.swap (hw : SW lt) {f hi : Nat} (h : Pop lt f (i + 1) hi B) (hi' : i < hi) (hb : f + hi ≤ B.length) (hx : B[f]? = some x) (hy : B[f + i]? = some y) :
  Heap lt f 1 i ((B.set f y).set (f + i) x) ∧ Srt lt (f + i) (f + hi) ((B.set f y).set (f + i) x) ∧ Le2 lt f (f + i) (f + i) (f + hi) ((B.set f y).set (f + i) x) := by
 have g := Z1S hx hy
 have hm := h.heap.max hw (by omega) hx
 have hS : SegP f (f + i + 1) B ((B.set f y).set (f + i) x) := SegP.of_swap (by omega) (by omega) (by omega) (by omega) hx hy
 have hle : Le2 lt f (f + (i + 1)) (f + (i + 1)) (f + hi) ((B.set f y).set (f + i) x) := h.le.left hS (Nat.le_refl _) (by omega) (Nat.le_refl _)
 refine ⟨?_, ?_, ?_⟩
 ·intro r c u v h1 h2 h3 hu hv
  unfold Kid at h2
  rw [g, if_neg (by omega), if_neg (by omega)] at hu hv
  exact h.heap r c u v (by omega) (by unfold Kid; omega) (by omega) hu hv
 ·refine Srt.join (m := f + (i + 1)) (Srt.short (by omega)) (h.srt.out hS (.inr (by omega))) (hle.sub (by omega) (Nat.le_refl _) (Nat.le_refl _) (Nat.le_refl _))
 ·intro p q u v h1 h2 h3 h4 hu hv
  by_cases e : q = f + i
  ·subst e
   rw [g, if_pos rfl] at hv; cases hv
   rw [g, if_neg (by omega)] at hu
   by_cases e2 : p = f
   ·rw [if_pos e2] at hu; cases hu
    exact hm i y (by omega) hy
   ·rw [if_neg e2] at hu
    obtain ⟨k, rfl⟩ : ∃ k, p = f + k := ⟨p - f, by omega⟩
    exact hm k u (by omega) hu
  ·exact hle p q u v h1 (by omega) (by omega) h4 hu hv
structure Cut3 (lt : α → α → Bool) (a m b : Nat) (B : List α) : Prop where
 lo : ∀ k x y, a ≤ k → k < m → B[k]? = some x → B[m]? = some y → lt y x = false
 hi : ∀ k x y, m < k → k < b → B[k]? = some x → B[m]? = some y → lt x y = false
structure Part (lt : α → α → Bool) (a i j b : Nat) (pv : α) (B : List α) : Prop where
 at_ : B[a]? = some pv
 lo : Z8i (fun x => lt x pv = true) (a + 1) i B
 hi : Z8i (fun x => lt x pv = false) (j + 1) b B
theorem Part.start (h : B[a]? = some x) (_hb : a < b) : Part lt a (a + 1) (b - 1) b x B := ⟨h, fun k _ h1 h2 _ => by omega, fun k _ h1 h2 _ => by omega⟩
theorem Part.swap {pv : α} (h : Part lt a i j b pv B) (ha : a < i) (hij : i < j) (hx : B[i]? = some x) (hy : B[j]? = some y) (h1 : lt x pv = false) (h2 : lt y pv = true) : Part lt a (i + 1) (j - 1) b pv ((B.set i y).set j x) := by
 have g := Z1S hx hy
 refine ⟨by rw [g, if_neg (by omega), if_neg (by omega)]; exact h.at_, ?_, ?_⟩
 ·intro k u h3 h4 hu
  rw [g, if_neg (by omega)] at hu
  split at hu
  ·cases hu; exact h2
  ·exact h.lo k u h3 (by omega) hu
 ·intro k u h3 h4 hu
  rw [g] at hu
  split at hu
  ·cases hu; exact h1
  ·rw [if_neg (by omega)] at hu
   exact h.hi k u (by omega) h4 hu
theorem Part.done (hw : SW lt) {pv : α} (h : Part lt a i j b pv B) (ha : a ≤ j) (hij : j < i) (hij2 : i ≤ j + 1) (hy : B[j]? = some y) (h2 : j ≠ a → lt y pv = true) : Cut3 lt a j b ((B.set j pv).set a y) := by
 have g := Z1S hy h.at_
 have hm : ((B.set j pv).set a y)[j]? = some pv := by
  rw [g]
  split
  ·rename_i e; subst e; rw [h.at_] at hy; exact hy.symm
  ·rw [if_pos rfl]
 refine ⟨?_, ?_⟩
 ·intro k u v h3 h4 hu hv
  rw [hm] at hv; cases hv
  rw [g] at hu
  split at hu
  ·cases hu; exact hw.asym _ _ (h2 (by omega))
  ·rw [if_neg (by omega)] at hu
   exact hw.asym _ _ (h.lo k u (by omega) (by omega) hu)
 ·intro k u v h3 h4 hu hv
  rw [hm] at hv; cases hv
  rw [g, if_neg (by omega), if_neg (by omega)] at hu
  exact h.hi k u (by omega) h4 hu
structure PartE (lt : α → α → Bool) (a i j b : Nat) (pv : α) (B : List α) : Prop where
 at_ : B[a]? = some pv
 lo : Z8i (fun x => lt pv x = false) a i B
 hi : Z8i (fun x => lt pv x = true) (j + 1) b B
theorem PartE.start (hw : SW lt) (h : B[a]? = some x) (hb : a < b) : PartE lt a (a + 1) (b - 1) b x B :=
  ⟨h, fun k u h1 h2 hu => by obtain rfl : k = a := by omega
                             rw [h] at hu; cases hu; exact hw.irrefl _, fun k _ h1 h2 _ => by omega⟩
theorem PartE.swap {pv : α} (h : PartE lt a i j b pv B) (ha : a < i) (hij : i < j) (hx : B[i]? = some x) (hy : B[j]? = some y) (h1 : lt pv x = true) (h2 : lt pv y = false) : PartE lt a (i + 1) (j - 1) b pv ((B.set i y).set j x) := by
 have g := Z1S hx hy
 refine ⟨by rw [g, if_neg (by omega), if_neg (by omega)]; exact h.at_, ?_, ?_⟩
 ·intro k u h3 h4 hu
  rw [g, if_neg (by omega)] at hu
  split at hu
  ·cases hu; exact h2
  ·exact h.lo k u h3 (by omega) hu
 ·intro k u h3 h4 hu
  rw [g] at hu
  split at hu
  ·cases hu; exact h1
  ·rw [if_neg (by omega)] at hu
   exact h.hi k u (by omega) h4 hu
structure Pdq (lt : α → α → Bool) (a0 b0 a b : Nat) (A B : List α) : Prop where
 seg : SegP a0 b0 A B
 ab : a0 ≤ a ∧ a ≤ b ∧ b ≤ b0
 lo : Srt lt a0 a B
 l2 : Le2 lt a0 a a b0 B
 hi : Srt lt b b0 B
 h2 : Le2 lt a0 b b b0 B
def Low (lt : α → α → Bool) (a b : Nat) (A : List α) : Prop := a = 0 ∨ Le2 lt (a - 1) a a b A
theorem Low.seg (h : Low lt a b A) (hS : SegP a b A B) : Low lt a b B := h.elim .inl fun h => .inr (h.right hS (Nat.le_refl _) (Nat.le_refl _) (Nat.le_refl _))
theorem Low.sub (h : Low lt a b A) (hb : d ≤ b) : Low lt a d A := h.elim .inl fun h => .inr (h.sub (Nat.le_refl _) (Nat.le_refl _) (Nat.le_refl _) hb)
theorem Pdq.start (h : a ≤ b) : Pdq lt a b a b A A := ⟨.refl, by omega, Srt.short (by omega), fun p q _ _ h1 h2 _ _ _ _ => by omega, Srt.short (by omega), fun p q _ _ _ _ h1 h2 _ _ => by omega⟩
theorem Pdq.low {a0 b0 : Nat} (h : Pdq lt a0 b0 a b A B) (hl : Low lt a0 b0 A) : Low lt a b B := by
 have hab := h.ab
 by_cases e : a = a0
 ·subst e
  rcases hl.seg h.seg with h1 | h1
  ·exact .inl h1
  ·exact .inr (h1.sub (Nat.le_refl _) (Nat.le_refl _) (Nat.le_refl _) (by omega))
 ·exact .inr (h.l2.sub (by omega) (Nat.le_refl _) (Nat.le_refl _) (by omega))
theorem Pdq.done {a0 b0 : Nat} (h : Pdq lt a0 b0 a b A B) (hs : Srt lt a b B) : Srt lt a0 b0 B := by
 have hab := h.ab
 refine (h.lo.join (hs.join h.hi ?_) ?_)
 ·exact h.h2.sub (by omega) (Nat.le_refl _) (Nat.le_refl _) (Nat.le_refl _)
 ·exact h.l2.sub (Nat.le_refl _) (Nat.le_refl _) (Nat.le_refl _) (Nat.le_refl _)
theorem Cut3.left (h : Cut3 lt a m b B) (hS : SegP a m B C) : Cut3 lt a m b C :=
  ⟨fun k x y h1 h2 hx hy => by
    rw [hS.out (.inr (Nat.le_refl _))] at hy
    exact hS.all (p := fun x => lt y x = false) (Nat.le_refl _) (Nat.le_refl _) (fun k u h3 h4 hu => h.lo k u y h3 h4 hu hy) k x h1 h2 hx,
   fun k x y h1 h2 hx hy => by
    rw [hS.out (.inr (by omega))] at hx
    rw [hS.out (.inr (Nat.le_refl _))] at hy
    exact h.hi k x y h1 h2 hx hy⟩
theorem Cut3.right (h : Cut3 lt a m b B) (hS : SegP (m + 1) b B C) : Cut3 lt a m b C :=
  ⟨fun k x y h1 h2 hx hy => by
    rw [hS.out (.inl (by omega))] at hx
    rw [hS.out (.inl (by omega))] at hy
    exact h.lo k x y h1 h2 hx hy,
   fun k x y h1 h2 hx hy => by
    rw [hS.out (.inl (by omega))] at hy
    exact hS.all (p := fun x => lt x y = false) (Nat.le_refl _) (Nat.le_refl _) (fun k u h3 h4 hu => h.hi k u y (by omega) h4 hu hy) k x (by omega) h2 hx⟩
theorem Cut3.low (h : Cut3 lt a m b B) : Low lt (m + 1) b B := .inr fun p q x y h1 h2 h3 h4 hx hy => by
 obtain rfl : p = m := by omega
 exact h.hi q y x (by omega) h4 hy hx
end
def cLt (xs : List Int) (m : Int) : Nat := xs.countP fun x => decide (x < m)
def cLe (xs : List Int) (m : Int) : Nat := xs.countP fun x => decide (x ≤ m)
structure MedP (xs : List Int) (m : Int) : Prop where
 mem : m ∈ xs
 lt : cLt xs m ≤ xs.length / 2
 le : xs.length / 2 < cLe xs m
theorem Z7P {xs : List Int} {a b : Int} (h : a < b) : cLe xs a ≤ cLt xs b := List.countP_mono_left fun x _ hx => by simp at hx ⊢; omega
theorem MedP.uniq {xs : List Int} {a b : Int} (ha : MedP xs a) (hb : MedP xs b) : a = b := by
 rcases Int.lt_trichotomy a b with h | h | h
 ·have := Z7P (xs := xs) h; have := ha.le; have := hb.lt; omega
 ·exact h
 ·have := Z7P (xs := xs) h; have := hb.le; have := ha.lt; omega
theorem MedP.perm {xs ys : List Int} {a : Int} (h : MedP xs a) (hp : xs.Perm ys) : MedP ys a := by
 refine ⟨hp.mem_iff.1 h.mem, ?_, ?_⟩
 ·unfold cLt; rw [← hp.countP_eq, ← hp.length_eq]; exact h.lt
 ·unfold cLe; rw [← hp.countP_eq, ← hp.length_eq]; exact h.le
theorem MedP.of_srt {B : List Int} {m : Int} (hs : Srt (fun x y : Int => decide (x < y)) 0 B.length B) (hm : B[B.length / 2]? = some m) : MedP B m := by
 have hlt := (List.getElem?_eq_some_iff.1 hm).1
 have hsplit : B = B.take (B.length / 2) ++ B.drop (B.length / 2) := (List.take_append_drop _ _).symm
 have hsplit2 : B = B.take (B.length / 2 + 1) ++ B.drop (B.length / 2 + 1) := (List.take_append_drop _ _).symm
 refine ⟨List.mem_of_getElem? hm, ?_, ?_⟩
 ·have h0 : (B.drop (B.length / 2)).countP (fun x => decide (x < m)) = 0 := by
   rw [List.countP_eq_zero]
   intro x hx
   obtain ⟨i, hi, rfl⟩ := List.mem_iff_getElem.1 hx
   rw [List.length_drop] at hi
   rw [List.getElem_drop]
   simp only [decide_eq_true_eq, Int.not_lt]
   by_cases e : i = 0
   ·subst e
    have := (List.getElem?_eq_some_iff.1 hm).2
    simp only [Nat.add_zero, this]; exact Int.le_refl _
   ·have := hs (B.length / 2) (B.length / 2 + i) m _ (Nat.zero_le _) (by omega) (by omega) hm (List.getElem?_eq_getElem (by omega))
    simpa using this
  have h1 : cLt B m = (B.take (B.length / 2)).countP (fun x => decide (x < m)) := by
   unfold cLt
   conv => lhs; rw [hsplit]
   rw [List.countP_append, h0, Nat.add_zero]
  rw [h1]
  exact Nat.le_trans List.countP_le_length (by rw [List.length_take]; omega)
 ·have h0 : (B.take (B.length / 2 + 1)).countP (fun x => decide (x ≤ m)) = (B.take (B.length / 2 + 1)).length := by
   rw [List.countP_eq_length]
   intro x hx
   obtain ⟨i, hi, rfl⟩ := List.mem_iff_getElem.1 hx
   rw [List.length_take] at hi
   rw [List.getElem_take]
   simp only [decide_eq_true_eq]
   by_cases e : i = B.length / 2
   ·subst e
    exact Int.le_of_eq (List.getElem?_eq_some_iff.1 hm).2
   ·have := hs i (B.length / 2) _ m (Nat.zero_le _) (by omega) (by omega) (List.getElem?_eq_getElem (by omega)) hm
    simpa using this
  have h1 : (B.take (B.length / 2 + 1)).countP (fun x => decide (x ≤ m)) ≤ cLe B m := by
   unfold cLe
   conv => rhs; rw [hsplit2]
   rw [List.countP_append]; omega
  rw [h0, List.length_take] at h1
  omega
theorem ZbG {xs : List Int} (h : xs.length % 2 = 1) : ∃ m, MedP xs m := by
 obtain ⟨B, hB⟩ : ∃ B, xs.mergeSort (fun a b => decide (a ≤ b)) = B := ⟨_, rfl⟩
 have hp : B.Perm xs := hB ▸ List.mergeSort_perm xs _
 have hs : B.Pairwise fun a b => decide (a ≤ b) = true := hB ▸ List.pairwise_mergeSort (by simp; omega) (by simp; omega) xs
 have hl := hp.length_eq
 have hlt : B.length / 2 < B.length := by omega
 refine ⟨B[B.length / 2], (MedP.of_srt (B := B) ?_ (List.getElem?_eq_getElem hlt)).perm hp⟩
 intro i j x y _ hij hj hx hy
 obtain ⟨h1, rfl⟩ := List.getElem?_eq_some_iff.1 hx
 obtain ⟨h2, rfl⟩ := List.getElem?_eq_some_iff.1 hy
 have := List.pairwise_iff_getElem.1 hs i j h1 h2 hij
 simp at this ⊢; omega
noncomputable def Z6R (xs : List Int) : Int := open Classical in if h : xs.length % 2 = 1 then Classical.choose (ZbG h) else 0
theorem ZbF {xs : List Int} (h : xs.length % 2 = 1) : MedP xs (Z6R xs) := by
 unfold Z6R; rw [dif_pos h]; exact Classical.choose_spec (ZbG h)
theorem Z9P {xs : List Int} {m : Int} (h : xs.length % 2 = 1) (hm : MedP xs m) : Z6R xs = m := (ZbF h).uniq hm
theorem Z4r {xs : List Int} (h : xs.length % 2 = 0) : Z6R xs = 0 := by
 unfold Z6R; rw [dif_neg (by omega)]
theorem Z9Q {xs ys : List Int} (hp : xs.Perm ys) : Z6R xs = Z6R ys := by
 rcases Nat.mod_two_eq_zero_or_one xs.length with h | h
 ·rw [Z4r h, Z4r (by rw [← hp.length_eq]; exact h)]
 ·exact Z9P h ((ZbF (by rw [← hp.length_eq]; exact h)).perm hp.symm)
theorem srt_le {B : List Int} (h : Srt (fun x y : Int => decide (x < y)) 0 B.length B) {m : Int} (hm : B[B.length / 2]? = some m) : MedP B m := MedP.of_srt h hm
end Go.Proofs.YtgigjkjdmalmaaaGreat
namespace Go.Proofs.YtgigjkjdmalmaaaGreat
open Go.RowKit
def inB (f r : Int) : Bool := decide (0 ≤ r) && decide (r < 3 * f + 1)
def Z1s (f : Int) (L : List Z4) (s : Zk) : Bool := inB f s.r && decide (1 ≤ s.t) && decide (s.t < 18446744073709551615) && decide (s.sb = s.r) && Z2w L s.sb s.sm (Z1V s)
def Z3x (s : Zk) (x : Z0) : Bool := decide (s.cl = x.cl ∧ s.seq = x.seq) && decide (s.h = x.h)
def Z3T (S : List Zk) : List Int := S.map (·.t)
noncomputable def Z8I (S : List Zk) : Int := Z6R (Z3T S)
def Z3V (s : Zk) : Prop := s.r ≤ 9223372036854775807 ∧ s.cl ≤ 9223372036854775807 ∧ s.seq ≤ 9223372036854775807 ∧ 0 ≤ s.t ∧ s.t < 18446744073709551616
def CoOk (s : Z0) : Prop := s.cl ≤ 9223372036854775807 ∧ s.seq ≤ 9223372036854775807 ∧ s.len ≤ 9223372036854775807
theorem Z8J (S : List Zk) {i : Nat} (h : i < S.length) : Z3T (S.take (i + 1)) = Z3T (S.take i) ++ [(S.getD i Zr).t] := by
 unfold Z3T
 rw [List.take_add_one, List.getElem?_eq_getElem h, List.map_append, List.getD_eq_getElem?_getD, List.getElem?_eq_getElem h]
 rfl
theorem Z73 (S : List Zk) : (Z3T S).length = S.length := by simp [Z3T]
def Z04 (v n : Int) : Int := if n < 1 then 0 else v % n
theorem Z2G (v n : Int) (h : 1 ≤ n) : 0 ≤ Z04 v n ∧ Z04 v n < n := by
 unfold Z04; rw [if_neg (by omega)]
 exact ⟨Int.emod_nonneg _ (by omega), Int.emod_lt_of_pos _ (by omega)⟩
structure EntD where
 cl : Int
 sq : Int
 h : Z1e
 t : Int
def Z4L (x : EntD) : List Value := [.int .i64 x.cl, .int .i64 x.sq] ++ hc x.h ++ [.int .u64 x.t]
def ent0 : EntD := ⟨0, 0, Zx, 0⟩
def Z0j (L : List Ck) : Ck where
 fp b := ∃ A ∈ L, A.fp b
 ok w := ∀ A ∈ L, A.ok w
 stay {w w'} h hb A hA := A.stay (h A hA) fun b hf => hb b ⟨A, hA, hf⟩
 lt {w} h b hb := by obtain ⟨A, hA, hf⟩ := hb; exact A.lt (h A hA) b hf
section
variable {w0 w : World} {A : Ck} {L R G : List Ck}
theorem Sat.bag0 (H : Sat w0 G w) : Sat w0 (G ++ [Z0j []]) w :=
 H.add (Ext.refl w) (fun _ _ => rfl) (fun A hA => by simp at hA) (fun b hb => by obtain ⟨A, hA, _⟩ := hb; simp at hA)
theorem Sat.bag (H : Sat w0 (Z0j L :: A :: R) w) : Sat w0 (Z0j (A :: L) :: R) w := by
 have h1 := List.pairwise_cons.1 H.dis
 have h2 := List.pairwise_cons.1 h1.2
 refine ⟨H.ext, fun C hC => ?_, List.pairwise_cons.2 ⟨fun C hC b hb hc => ?_, h2.2⟩⟩
 ·rcases List.mem_cons.1 hC with rfl | hC
  ·intro B hB
   rcases List.mem_cons.1 hB with rfl | hB
   ·exact H.all _ (by simp)
   ·exact (show (Z0j L).ok w from H.all _ (by simp)) B hB
  ·exact H.all _ (by simp [hC])
 ·obtain ⟨B, hB, hf⟩ := hb
  rcases List.mem_cons.1 hB with rfl | hB
  ·exact h2.1 C hC b hf hc
  ·exact h1.1 C (by simp [hC]) b ⟨B, hB, hf⟩ hc
end
def stC (c : CeR) : Ck := Zc 49 38 (.slice c.sa c.S.length c.sc) c.S.length (c.S.flatMap ZV)
def ceC (p : PrR) : Ck := Zc 57 38 (.slice p.ca p.C.length p.cc) p.C.length (p.C.flatMap Z2J)
def PIn (L : List Ck) (p : PrR) : Prop := ceC p ∈ L ∧ ∀ c ∈ p.C, stC c ∈ L
section
variable {L : List Ck} {A : Ck} {p : PrR} {x : CeR} {C : List CeR} {D : List PrR} {w : World} {a b : Int} {S : List Zk}
theorem PIn.ok (h : PIn L p) (hb : (Z0j L).ok w) : Zct w p :=
 ⟨ListAt.row Z98 (by decide) (hb _ h.1), fun c hc => ListAt.row Z0W (by decide) (hb _ (h.2 c hc))⟩
theorem PIn.more (h : PIn L p) : PIn (A :: L) p := ⟨List.mem_cons_of_mem _ h.1, fun c hc => List.mem_cons_of_mem _ (h.2 c hc)⟩
end
def co0 : Z0 := ⟨0, 0, Zx, 0, 0, 0⟩
def zmS : List Value := [.int .i64 0, .int .i64 0, .int .i64 0] ++ hc Zx ++ [.int .u64 0, .int .i64 0, .int .i64 0]
def zmB : List Value := [.int .i64 0, .int .i64 0, .int .i64 0] ++ hc Zx ++ [.int .u64 0, .int .i64 0, .int .i64 0, .int .i64 0, .int .i64 0, .int .u64 0, .int .i64 0, .int .i64 0, .int .u64 0, .slice none 0 0, .int .i64 0, .int .i64 0, .int .i64 0, .int .i64 0, .int .i64 0, .int .i64 0, .int .i64 0, .int .u64 0, .slice none 0 0, .slice none 0 0, .slice none 0 0, .int .i64 0, .int .i64 0, .int .i64 0, .int .i64 0, .int .i64 0, .int .i64 0] ++ hc Zx ++ [.int .i64 0, .int .i64 0, .int .i64 0, .int .i64 0, .int .i64 0] ++ hc Zx ++ [.int .u64 0]
def zmT : List Value := [.int .i64 0, .int .i64 0, .int .i64 0, .int .i64 0, ZD [], .int .i64 0, .int .i64 0, .int .i64 0, .int .u64 0, .slice none 0 0, .slice none 0 0, .slice none 0 0, .slice none 0 0]
theorem Zcn : zmS.length = 38 := by simp [zmS, Z50]
theorem Zcm : zmB.length = 132 := by simp [zmB, Z50]
theorem Zco : zmT.length = 13 := rfl
theorem Zak : zmS.all (·.oneCell') = true ∧ zmB.all (·.oneCell') = true ∧ zmT.all (·.oneCell') = true := by
 simp only [zmS, zmB, zmT, List.all_append, Z3X]
 simp [Value.oneCell', Z1W, ZD]
structure OmR where
 k : Int
 fr : Int
 to : Int
 co : Z0
 cx : Z0
 sa : Option Addr
 sc : Nat
 S : List Zk
 oi : Int
 oa : Option Addr
 oc : Nat
 P : List UInt8
 oh : Z1e
def Z0d (m : OmR) : List Value :=
 [.int .i64 m.k, .int .i64 m.fr, .int .i64 m.to] ++ Z1E m.co ++ zmS ++ Z1E m.cx ++ [.slice m.sa m.S.length m.sc] ++ zmB ++ [.int .i64 m.oi, .slice m.oa m.P.length m.oc] ++ hc m.oh ++ zmT
theorem Z4e (m : OmR) : (Z0d m).length = 295 := by simp [Z0d, Z1E, Z50, Zcn, Zcm, Zco]
theorem Z9d (m : OmR) : (Z0d m).all (·.oneCell') = true := by
 simp only [Z0d, Z1E, List.all_append, Zak.1, Zak.2.1, Zak.2.2, Z3X]
 simp [Value.oneCell', Z1W]
def om0 : OmR := ⟨0, 0, 0, co0, co0, none, 0, [], 0, none, 0, [], Zx⟩
def omS (m : OmR) : Ck := Zc 49 38 (.slice m.sa m.S.length m.sc) m.S.length (m.S.flatMap ZV)
def omP (m : OmR) : Ck := Zc 5 1 (.slice m.oa m.P.length m.oc) m.P.length (m.P.flatMap ZH)
structure Z6g (fr : Int) (m : OmR) (B : List Ck) (i : Nat) (d : OmR) : Prop where
 k : d.k = m.k
 fr : d.fr = fr
 to : d.to = (i : Int)
 co : d.co = m.co
 cx : d.cx = m.cx
 oi : d.oi = m.oi
 oh : d.oh = m.oh
 S : d.S = m.S
 P : d.P = m.P
 sb : omS d ∈ B
 ob : omP d ∈ B
structure RcD where
 i : Int
 e : EntD
def Z9g (x : RcD) : List Value := .int .i64 x.i :: Z4L x.e
def rcV (x : RcD) : Value := .agg ⟨Z9g x⟩
def rc0 : RcD := ⟨0, ent0⟩
structure Zq where
 x : Z0
 pa : Option Addr
 pc : Nat
 P : List UInt8
 no : Z1e
 ms : Nat
 cb : Option Nat
 ma : Nat
 mr : Nat
 op : Bool
 pl : Int
 mp : Nat
 dn : Bool
 rp : List UInt8
def Zh (q : Zq) : List Value := Z1E q.x ++ [.slice q.pa q.P.length q.pc] ++ hc q.no ++ [.map (some q.ms), .pointer (q.cb.map fun z => ⟨z, 0, none⟩), .map (some q.ma), .map (some q.mr), .bool q.op, .int .i64 q.pl, .map (some q.mp), .bool q.dn, ZD q.rp]
theorem ZB (q : Zq) : (Zh q).length = 79 := by simp [Zh, Z1E, Z50]
theorem Z32 (q : Zq) : (Zh q).all (·.oneCell') = true := by
 simp only [Zh, Z1E, List.all_append, Z3X]
 simp [Value.oneCell', Z1W, ZD]
def rq0 : Zq := ⟨co0, none, 0, [], Zx, 0, none, 0, 0, false, 0, 0, false, []⟩
structure OpR where
 i : Int
 pa : Option Addr
 pc : Nat
 P : List UInt8
 h : Z1e
def Z3r (o : OpR) : List Value := [.int .i64 o.i, .slice o.pa o.P.length o.pc] ++ hc o.h
theorem Z9e (o : OpR) : (Z3r o).all (·.oneCell') = true := by
 simp only [Z3r, List.all_append, Z3X]; simp [Value.oneCell', Z1W]
def op0 : OpR := ⟨0, none, 0, [], Zx⟩
structure TbR where
 i : Int
 da : Option Addr
 dc : Nat
 D : List Z2H
def Z4f (t : TbR) : List Value := [.int .i64 t.i, .slice t.da t.D.length t.dc]
theorem Z9h (t : TbR) : (Z4f t).all (·.oneCell') = true := rfl
def tb0 : TbR := ⟨0, none, 0, []⟩
structure VtD where
 k : Int
 e : Int
 d : Int
 r : Int
 h : Z1e
 sb : Int
 sm : Int
def Z2n (v : VtD) : List Value := [.int .i64 v.k, .int .i64 v.e, .int .i64 v.d, .int .i64 v.r] ++ hc v.h ++ [.int .i64 v.sb, .int .i64 v.sm]
theorem Z9i (v : VtD) : (Z2n v).length = 38 := by simp [Z2n, Z50]
theorem Z9j (v : VtD) : (Z2n v).all (·.oneCell') = true := by
 simp only [Z2n, List.all_append, Z3X]; simp [Value.oneCell', Z1W]
def vt0 : VtD := ⟨0, 0, 0, 0, Zx, 0, 0⟩
structure BtR where
 e : Int
 t : Int
 pa : Option Addr
 pc : Nat
 P : List PrR
 oa : Option Addr
 oc : Nat
 O : List OpR
 ta : Option Addr
 tc : Nat
 T : List TbR
def Z7q (b : BtR) : List Value := [.int .i64 b.e, .int .u64 b.t, .slice b.pa b.P.length b.pc, .slice b.oa b.O.length b.oc, .slice b.ta b.T.length b.tc]
def bt0 : BtR := ⟨0, 0, none, 0, [], none, 0, [], none, 0, []⟩
structure MsR where
 k : Int
 fr : Int
 to : Int
 co : Z0
 st : Zk
 cx : CeR
 ak : Zk
 ep : Int
 rd : Int
 tm : Int
 pr : PrR
 qe : Int
 qd : Int
 qv : Int
 qr : Int
 qb : BtR
 qsb : Int
 qsm : Int
 vo : VtD
 ix : Int
 en : EntD
 op : OpR
 dn : Z2H
 re : List UInt8
 de : Int
 dd : Int
 db : BtR
 va : Option Addr
 vc : Nat
 V : List VtD
def Z6E (m : MsR) : List Value := [.int .i64 m.k, .int .i64 m.fr, .int .i64 m.to] ++ Z1E m.co ++ ZV m.st ++ Z2J m.cx ++ ZV m.ak ++ [.int .i64 m.ep, .int .i64 m.rd, .int .u64 m.tm] ++ Z3s m.pr ++ [.int .i64 m.qe, .int .i64 m.qd, .int .i64 m.qv, .int .i64 m.qr] ++ Z7q m.qb ++ [.int .i64 m.qsb, .int .i64 m.qsm] ++ Z2n m.vo ++ [.int .i64 m.ix] ++ Z4L m.en ++ Z3r m.op ++ Z2T m.dn ++ [ZD m.re, .int .i64 m.de, .int .i64 m.dd] ++ Z7q m.db ++ [.slice m.va m.V.length m.vc]
def ms0 : MsR := ⟨0, 0, 0, ⟨0, 0, Zx, 0, 0, 0⟩, Zr, ce0, Zr, 0, 0, 0, pr0, 0, 0, 0, 0, bt0, 0, 0, vt0, 0, ent0, op0, deny0, [], 0, 0, bt0, none, 0, []⟩
def OpIn (w : World) (o : OpR) : Prop := ListAt ZH 1 w (.slice o.pa o.P.length o.pc) o.P
def TbIn (w : World) (t : TbR) : Prop := ListAt Z2T 4 w (.slice t.da t.D.length t.dc) t.D
structure BtIn (w : World) (b : BtR) : Prop where
 p : ListAt Z3s 6 w (.slice b.pa b.P.length b.pc) b.P
 pi : ∀ x ∈ b.P, Zct w x
 o : ListAt Z3r 34 w (.slice b.oa b.O.length b.oc) b.O
 oi : ∀ x ∈ b.O, OpIn w x
 t : ListAt Z4f 2 w (.slice b.ta b.T.length b.tc) b.T
 ti : ∀ x ∈ b.T, TbIn w x
structure MsIn (w : World) (m : MsR) : Prop where
 cx : Zcs w m.cx
 pr : Zct w m.pr
 qb : BtIn w m.qb
 op : OpIn w m.op
 db : BtIn w m.db
 v : ListAt Z2n 38 w (.slice m.va m.V.length m.vc) m.V
 st : Z3V m.st
 ak : Z3V m.ak
structure MsEq (m n : MsR) : Prop where
 k : n.k = m.k
 fr : n.fr = m.fr
 st : n.st = m.st
 ak : n.ak = m.ak
 ix : n.ix = m.ix
 en : n.en = m.en
end Go.Proofs.YtgigjkjdmalmaaaGreat
