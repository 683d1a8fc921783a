/- WHAT IS PROVED: contracts and plain laws of Bag, SortMath, MedMath, RightD, SortU, IterU, CollU, SortUA, Laid12, SortUS. Conditions: stated with each. -/
import Derived.Calls
import Derived.Shelf.SlIter.Collect
import Derived.Shelf.SlSortCmp.SmallK
import Derived.Shelf.Small.Bits
import Derived.Test.YtenihpghfdcpkaaGreatT04
import Derived.Test.YtenihpghfdcpkaaGreatT05
import Derived.Test.YtenihpghfdcpkaaGreatT06
import Derived.Test.YtenihpghfdcpkaaGreatT08
set_option maxHeartbeats 4000000
set_option maxRecDepth 100000
namespace Go.Proofs.YtenihpghfdcpkaaGreat
open Go.RowKit
def bagC (L : List Ck) : Ck where
 fp b := ∃ A ∈ L, A.fp b
 ok w := ∀ A ∈ L, A.ok w
 stay {w w'} h hb A hA := A.stay (h A hA) fun b hf => hb b ⟨A, hA, hf⟩
 lt {w} h b hb := by obtain ⟨A, hA, hf⟩ := hb; exact A.lt (h A hA) b hf
section
variable {w0 w : World} {A : Ck} {L R G : List Ck}
theorem Sat.bag0 (H : Sat w0 G w) : Sat w0 (G ++ [bagC []]) w :=
 H.add (Ext.refl w) (fun _ _ => rfl) (fun A hA => by simp at hA) (fun b hb => by obtain ⟨A, hA, _⟩ := hb; simp at hA)
theorem Sat.bag (H : Sat w0 (bagC L :: A :: R) w) : Sat w0 (bagC (A :: L) :: R) w := by
 have h1 := List.pairwise_cons.1 H.dis
 have h2 := List.pairwise_cons.1 h1.2
 refine ⟨H.ext, fun C hC => ?_, List.pairwise_cons.2 ⟨fun C hC b hb hc => ?_, h2.2⟩⟩
 ·rcases List.mem_cons.1 hC with rfl | hC
  ·intro B hB
   rcases List.mem_cons.1 hB with rfl | hB
   ·exact H.all _ (by simp)
   ·exact (show (bagC L).ok w from H.all _ (by simp)) B hB
  ·exact H.all _ (by simp [hC])
 ·obtain ⟨B, hB, hf⟩ := hb
  rcases List.mem_cons.1 hB with rfl | hB
  ·exact h2.1 C hC b hf hc
  ·exact h1.1 C (by simp [hC]) b ⟨B, hB, hf⟩ hc
end
def stC (c : CeR) : Ck := rowC 149 38 (.slice c.sa c.S.length c.sc) c.S.length (c.S.flatMap encSt)
def ceC (p : PrR) : Ck := rowC 76 38 (.slice p.ca p.C.length p.cc) p.C.length (p.C.flatMap encCe)
def PIn (L : List Ck) (p : PrR) : Prop := ceC p ∈ L ∧ ∀ c ∈ p.C, stC c ∈ L
section
variable {L : List Ck} {A : Ck} {p : PrR} {x : CeR} {C : List CeR} {D : List PrR} {w : World} {a b : Int} {S : List StampD}
theorem PIn.ok (h : PIn L p) (hb : (bagC L).ok w) : PrOk w p :=
 ⟨ListAt.row encCe_len (by decide) (hb _ h.1), fun c hc => ListAt.row encSt_len (by decide) (hb _ (h.2 c hc))⟩
theorem PIn.more (h : PIn L p) : PIn (A :: L) p := ⟨List.mem_cons_of_mem _ h.1, fun c hc => List.mem_cons_of_mem _ (h.2 c hc)⟩
theorem in_more (h : ∀ c ∈ C, stC c ∈ L) : ∀ c ∈ C ++ [x], stC c ∈ stC x :: L := fun c hc => by
 rcases List.mem_append.1 hc with hc | hc
 ·exact List.mem_cons_of_mem _ (h c hc)
 ·rw [List.mem_singleton.1 hc]; exact List.mem_cons_self
theorem bag_st {c : CeR} (h : (bagC L).ok w) (hm : stC c ∈ L) : ListAt encSt 38 w (.slice c.sa c.S.length c.sc) c.S := ListAt.row encSt_len (by decide) (h _ hm)
theorem bag_ce (h : (bagC L).ok w) (hm : ceC p ∈ L) : ListAt encCe 38 w (.slice p.ca p.C.length p.cc) p.C := ListAt.row encCe_len (by decide) (h _ hm)
end
end Go.Proofs.YtenihpghfdcpkaaGreat
namespace Go.Proofs.YtenihpghfdcpkaaGreat
structure SW {α : Type} (lt : α → α → Bool) : Prop where
 asym : ∀ x y, lt x y = true → lt y x = false
 neg : ∀ x y w, lt x y = false → lt y w = false → lt x w = false
section
variable {α : Type} {lt : α → α → Bool} {A B C D : List α} {a b c d i j k m : Nat} {x y z : α}
theorem SW.irrefl (h : SW lt) (x : α) : lt x x = false := by
 cases e : lt x x
 ·rfl
 ·exact absurd (h.asym x x e) (by simp [e])
inductive SegP (a b : Nat) (A : List α) : List α → Prop
 | refl : SegP a b A A
 | swap {B : List α} {i j : Nat} {x y : α} : SegP a b A B → a ≤ i → i < b → a ≤ j → j < b → B[i]? = some x → B[j]? = some y → SegP a b A ((B.set i y).set j x)
theorem get_lt (h : A[i]? = some x) : i < A.length := (List.getElem?_eq_some_iff.1 h).1
theorem get_swap (hx : A[i]? = some x) (hy : A[j]? = some y) (k : Nat) : ((A.set i y).set j x)[k]? = if k = j then some x else if k = i then some y else A[k]? := by
 have h1 := get_lt hx
 have h2 := get_lt hy
 rw [List.getElem?_set, List.getElem?_set, List.length_set]
 by_cases e1 : j = k
 ·subst e1; simp [h2]
 ·rw [if_neg e1, if_neg (Ne.symm e1)]
  by_cases e2 : i = k
  ·subst e2; simp [h1]
  ·rw [if_neg e2, if_neg (Ne.symm e2)]
theorem SegP.len (h : SegP a b A B) : B.length = A.length := by
 induction h with
 | refl => rfl
 | swap _ _ _ _ _ _ _ ih => simpa using ih
theorem SegP.perm (h : SegP a b A B) : B.Perm A := by
 induction h with
 | refl => exact List.Perm.refl _
 | @swap B i j x y _ _ _ _ _ hx hy ih =>
  refine List.Perm.trans ?_ ih
  obtain ⟨h1, rfl⟩ := List.getElem?_eq_some_iff.1 hx
  obtain ⟨h2, rfl⟩ := List.getElem?_eq_some_iff.1 hy
  exact List.set_set_perm h1 h2
theorem SegP.out (h : SegP a b A B) (hk : k < a ∨ b ≤ k) : B[k]? = A[k]? := by
 induction h with
 | refl => rfl
 | @swap B i j x y _ h1 h2 h3 h4 hx hy ih => rw [get_swap hx hy, if_neg (by omega), if_neg (by omega), ih]
theorem SegP.mono (h : SegP a b A B) (ha : c ≤ a) (hb : b ≤ d) : SegP c d A B := by
 induction h with
 | refl => exact .refl
 | swap _ h1 h2 h3 h4 hx hy ih => exact ih.swap (by omega) (by omega) (by omega) (by omega) hx hy
theorem SegP.trans (h : SegP a b A B) (k : SegP a b B C) : SegP a b A C := by
 induction k with
 | refl => exact h
 | swap _ h1 h2 h3 h4 hx hy ih => exact ih.swap h1 h2 h3 h4 hx hy
def AllIn (p : α → Prop) (c d : Nat) (A : List α) : Prop := ∀ k x, c ≤ k → k < d → A[k]? = some x → p x
theorem SegP.all {p : α → Prop} (h : SegP a b A B) (hc : c ≤ a) (hd : b ≤ d) (hA : AllIn p c d A) : AllIn p c d B := by
 induction h with
 | refl => exact hA
 | @swap B i j x y _ h1 h2 h3 h4 hx hy ih =>
  intro k u hk hk2 hu
  rw [get_swap hx hy] at hu
  split at hu
  ·cases hu; exact ih i x (by omega) (by omega) hx
  split at hu
  ·cases hu; exact ih j y (by omega) (by omega) hy
  ·exact ih k u hk hk2 hu
def Srt (lt : α → α → Bool) (a b : Nat) (A : List α) : Prop := ∀ i j x y, a ≤ i → i < j → j < b → A[i]? = some x → A[j]? = some y → lt y x = false
def Le2 (lt : α → α → Bool) (a b c d : Nat) (A : List α) : Prop := ∀ i j x y, a ≤ i → i < b → c ≤ j → j < d → A[i]? = some x → A[j]? = some y → lt y x = false
theorem Srt.short (h : b ≤ a + 1) : Srt lt a b A := fun i j _ _ h1 h2 h3 _ _ => by omega
theorem Srt.out (hs : Srt lt a b A) (h : SegP c d A B) (hcd : b ≤ c ∨ d ≤ a) : Srt lt a b B := by
 intro i j x y h1 h2 h3 hx hy
 rw [h.out (by omega)] at hx hy
 exact hs i j x y h1 h2 h3 hx hy
theorem Srt.join (h1 : Srt lt a m A) (h2 : Srt lt m b A) (h3 : Le2 lt a m m b A) : Srt lt a b A := by
 intro i j x y ha hij hb hx hy
 by_cases e1 : j < m
 ·exact h1 i j x y ha hij e1 hx hy
 ·by_cases e2 : i < m
  ·exact h3 i j x y ha e2 (by omega) hb hx hy
  ·exact h2 i j x y (by omega) hij hb hx hy
theorem Le2.left (hl : Le2 lt a b c d A) (h : SegP i j A B) (h1 : a ≤ i) (h2 : j ≤ b) (h3 : b ≤ c) : Le2 lt a b c d B := by
 intro p q x y hp1 hp2 hq1 hq2 hx hy
 rw [h.out (by omega)] at hy
 exact h.all (p := fun x => lt y x = false) h1 h2 (fun k u hk hk2 hu => hl k q u y hk hk2 hq1 hq2 hu hy) p x hp1 hp2 hx
theorem Le2.right (hl : Le2 lt a b c d A) (h : SegP i j A B) (h1 : c ≤ i) (h2 : j ≤ d) (h3 : b ≤ c) : Le2 lt a b c d B := by
 intro p q x y hp1 hp2 hq1 hq2 hx hy
 rw [h.out (by omega)] at hx
 exact h.all (p := fun y => lt y x = false) h1 h2 (fun k u hk hk2 hu => hl p k x u hp1 hp2 hk hk2 hx hu) q y hq1 hq2 hy
theorem Le2.sub (hl : Le2 lt a b c d A) {a' b' c' d' : Nat} (h1 : a ≤ a') (h2 : b' ≤ b) (h3 : c ≤ c') (h4 : d' ≤ d) : Le2 lt a' b' c' d' A :=
 fun p q x y hp1 hp2 hq1 hq2 hx hy => hl p q x y (by omega) (by omega) (by omega) (by omega) hx hy
theorem Srt.sub (h : Srt lt a b A) {a' b' : Nat} (h1 : a ≤ a') (h2 : b' ≤ b) : Srt lt a' b' A := fun i j x y h3 h4 h5 hx hy => h i j x y (by omega) h4 (by omega) hx hy
structure Ins (lt : α → α → Bool) (a i j : Nat) (B : List α) : Prop where
 lo : Srt lt a j B
 hi : Srt lt j (i + 1) B
 cr : Le2 lt a j (j + 1) (i + 1) B
theorem Ins.start (h : Srt lt a i B) : Ins lt a i i B := ⟨h, Srt.short (by omega), fun p q _ _ _ _ h3 h4 _ _ => by omega⟩
theorem Ins.stop (hw : SW lt) (h : Ins lt a i j B) (ha : a < j) (hj : j ≤ i) (hx : B[j]? = some x) (hy : B[j - 1]? = some y) (hl : lt x y = false) : Srt lt a (i + 1) B := by
 refine h.lo.join h.hi ?_
 intro p q u v h1 h2 h3 h4 hu hv
 by_cases e : q = j
 ·subst e; rw [hx] at hv; cases hv
  by_cases e2 : p = q - 1
  ·subst e2; rw [hy] at hu; cases hu; exact hl
  ·exact hw.neg _ _ _ hl (h.lo p (q - 1) u y h1 (by omega) (by omega) hu hy)
 ·exact h.cr p q u v h1 h2 (by omega) h4 hu hv
def Kid (r c : Nat) : Prop := c = 2 * r + 1 ∨ c = 2 * r + 2
def Heap (lt : α → α → Bool) (f lo hi : Nat) (B : List α) : Prop := ∀ r c x y, lo ≤ r → Kid r c → c < hi → B[f + r]? = some x → B[f + c]? = some y → lt x y = false
structure Sift (lt : α → α → Bool) (f lo hi root : Nat) (B : List α) : Prop where
 oth : ∀ r c x y, lo ≤ r → r ≠ root → Kid r c → c < hi → B[f + r]? = some x → B[f + c]? = some y → lt x y = false
 up : ∀ r c x y, lo ≤ r → Kid r root → Kid root c → c < hi → B[f + r]? = some x → B[f + c]? = some y → lt x y = false
theorem Sift.start {f lo hi : Nat} (h : Heap lt f (lo + 1) hi B) : Sift lt f lo hi lo B :=
 ⟨fun r c x y h1 h2 h3 h4 hx hy => h r c x y (by omega) h3 h4 hx hy, fun r c x y h1 h2 _ _ _ _ => by unfold Kid at h2; omega⟩
theorem Sift.stop (hw : SW lt) {f lo hi root ch : Nat} (h : Sift lt f lo hi root B) (hx : B[f + root]? = some x) (hl : lt x y = false) (_hy : B[f + ch]? = some y)
  (hmax : ∀ c z, Kid root c → c < hi → B[f + c]? = some z → lt y z = false) : Heap lt f lo hi B := by
 intro r c u v h1 h2 h3 hu hv
 by_cases e : r = root
 ·subst e
  rw [hx] at hu; cases hu
  exact hw.neg _ _ _ hl (hmax c v h2 h3 hv)
 ·exact h.oth r c u v h1 e h2 h3 hu hv
theorem Heap.max (hw : SW lt) {f hi : Nat} (h : Heap lt f 0 hi B) (hb : f + hi ≤ B.length) (hx : B[f]? = some x) : ∀ k y, k < hi → B[f + k]? = some y → lt x y = false := by
 intro k
 induction k using Nat.strongRecOn with
 | _ k ih =>
  intro y hk hy
  by_cases e : k = 0
  ·subst e; rw [Nat.add_zero, hx] at hy; cases hy; exact hw.irrefl _
  ·have hp : f + (k - 1) / 2 < B.length := by omega
   have h1 := ih ((k - 1) / 2) (by omega) _ (by omega) (List.getElem?_eq_getElem hp)
   exact hw.neg _ _ _ h1 (h ((k - 1) / 2) k _ y (Nat.zero_le _) (by unfold Kid; omega) hk (List.getElem?_eq_getElem hp) hy)
structure Pop (lt : α → α → Bool) (f i hi : Nat) (B : List α) : Prop where
 heap : Heap lt f 0 i B
 srt : Srt lt (f + i) (f + hi) B
 le : Le2 lt f (f + i) (f + i) (f + hi) B
theorem Pop.start {f hi : Nat} (h : Heap lt f 0 hi B) : Pop lt f hi hi B := ⟨h, Srt.short (by omega), fun p q _ _ _ _ h3 h4 _ _ => by omega⟩
structure Cut3 (lt : α → α → Bool) (a m b : Nat) (B : List α) : Prop where
 lo : ∀ k x y, a ≤ k → k < m → B[k]? = some x → B[m]? = some y → lt y x = false
 hi : ∀ k x y, m < k → k < b → B[k]? = some x → B[m]? = some y → lt x y = false
structure Part (lt : α → α → Bool) (a i j b : Nat) (pv : α) (B : List α) : Prop where
 at_ : B[a]? = some pv
 lo : AllIn (fun x => lt x pv = true) (a + 1) i B
 hi : AllIn (fun x => lt x pv = false) (j + 1) b B
theorem Part.start (h : B[a]? = some x) (_hb : a < b) : Part lt a (a + 1) (b - 1) b x B := ⟨h, fun k _ h1 h2 _ => by omega, fun k _ h1 h2 _ => by omega⟩
theorem Part.done (hw : SW lt) {pv : α} (h : Part lt a i j b pv B) (ha : a ≤ j) (hij : j < i) (hij2 : i ≤ j + 1) (hy : B[j]? = some y) (h2 : j ≠ a → lt y pv = true) : Cut3 lt a j b ((B.set j pv).set a y) := by
 have g := get_swap hy h.at_
 have hm : ((B.set j pv).set a y)[j]? = some pv := by
  rw [g]
  split
  ·rename_i e; subst e; rw [h.at_] at hy; exact hy.symm
  ·rw [if_pos rfl]
 refine ⟨?_, ?_⟩
 ·intro k u v h3 h4 hu hv
  rw [hm] at hv; cases hv
  rw [g] at hu
  split at hu
  ·cases hu; exact hw.asym _ _ (h2 (by omega))
  ·rw [if_neg (by omega)] at hu
   exact hw.asym _ _ (h.lo k u (by omega) (by omega) hu)
 ·intro k u v h3 h4 hu hv
  rw [hm] at hv; cases hv
  rw [g, if_neg (by omega), if_neg (by omega)] at hu
  exact h.hi k u (by omega) h4 hu
structure PartE (lt : α → α → Bool) (a i j b : Nat) (pv : α) (B : List α) : Prop where
 at_ : B[a]? = some pv
 lo : AllIn (fun x => lt pv x = false) a i B
 hi : AllIn (fun x => lt pv x = true) (j + 1) b B
theorem PartE.start (hw : SW lt) (h : B[a]? = some x) (hb : a < b) : PartE lt a (a + 1) (b - 1) b x B :=
  ⟨h, fun k u h1 h2 hu => by obtain rfl : k = a := by omega
                             rw [h] at hu; cases hu; exact hw.irrefl _, fun k _ h1 h2 _ => by omega⟩
structure Pdq (lt : α → α → Bool) (a0 b0 a b : Nat) (A B : List α) : Prop where
 seg : SegP a0 b0 A B
 ab : a0 ≤ a ∧ a ≤ b ∧ b ≤ b0
 lo : Srt lt a0 a B
 l2 : Le2 lt a0 a a b0 B
 hi : Srt lt b b0 B
 h2 : Le2 lt a0 b b b0 B
def Low (lt : α → α → Bool) (a b : Nat) (A : List α) : Prop := a = 0 ∨ Le2 lt (a - 1) a a b A
theorem Low.seg (h : Low lt a b A) (hS : SegP a b A B) : Low lt a b B := h.elim .inl fun h => .inr (h.right hS (Nat.le_refl _) (Nat.le_refl _) (Nat.le_refl _))
theorem Low.sub (h : Low lt a b A) (hb : d ≤ b) : Low lt a d A := h.elim .inl fun h => .inr (h.sub (Nat.le_refl _) (Nat.le_refl _) (Nat.le_refl _) hb)
theorem Pdq.start (h : a ≤ b) : Pdq lt a b a b A A := ⟨.refl, by omega, Srt.short (by omega), fun p q _ _ h1 h2 _ _ _ _ => by omega, Srt.short (by omega), fun p q _ _ _ _ h1 h2 _ _ => by omega⟩
theorem Pdq.turn {a0 b0 : Nat} (h : Pdq lt a0 b0 a b A B) (hS : SegP a b B C) : Pdq lt a0 b0 a b A C := by
 have hab := h.ab
 refine ⟨h.seg.trans (hS.mono (by omega) (by omega)), h.ab, h.lo.out hS (.inl (Nat.le_refl _)), ?_, h.hi.out hS (.inr (Nat.le_refl _)), ?_⟩
 ·exact h.l2.right hS (Nat.le_refl _) (by omega) (Nat.le_refl _)
 ·exact h.h2.left hS (by omega) (Nat.le_refl _) (Nat.le_refl _)
theorem Pdq.done {a0 b0 : Nat} (h : Pdq lt a0 b0 a b A B) (hs : Srt lt a b B) : Srt lt a0 b0 B := by
 have hab := h.ab
 refine (h.lo.join (hs.join h.hi ?_) ?_)
 ·exact h.h2.sub (by omega) (Nat.le_refl _) (Nat.le_refl _) (Nat.le_refl _)
 ·exact h.l2.sub (Nat.le_refl _) (Nat.le_refl _) (Nat.le_refl _) (Nat.le_refl _)
theorem Pdq.equal (hw : SW lt) {a0 b0 : Nat} {pv : α} (h : Pdq lt a0 b0 a b A B) (ha : a < m) (hm : m ≤ b) (h1 : AllIn (fun x => lt pv x = false) a m B) (h2 : AllIn (fun x => lt pv x = true) m b B) (h3 : AllIn (fun x => lt x pv = false) a b B) : Pdq lt a0 b0 m b A B := by
 have hab := h.ab
 have hs : Srt lt a m B := fun p q x y e1 e2 e3 hx hy => hw.neg _ _ _ (h3 q y (by omega) (by omega) hy) (h1 p x e1 (by omega) hx)
 refine ⟨h.seg, by omega, ?_, ?_, h.hi, h.h2⟩
 ·exact h.lo.join hs (h.l2.sub (Nat.le_refl _) (Nat.le_refl _) (Nat.le_refl _) (by omega))
 ·intro p q x y e1 e2 e3 e4 hx hy
  by_cases e5 : p < a
  ·exact h.l2 p q x y e1 e5 (by omega) e4 hx hy
  ·by_cases e6 : q < b
   ·exact hw.neg _ _ _ (hw.asym _ _ (h2 q y e3 e6 hy)) (h1 p x (by omega) (by omega) hx)
   ·exact h.h2 p q x y (by omega) (by omega) (by omega) e4 hx hy
theorem Cut3.right (h : Cut3 lt a m b B) (hS : SegP (m + 1) b B C) : Cut3 lt a m b C :=
  ⟨fun k x y h1 h2 hx hy => by
    rw [hS.out (.inl (by omega))] at hx
    rw [hS.out (.inl (by omega))] at hy
    exact h.lo k x y h1 h2 hx hy,
   fun k x y h1 h2 hx hy => by
    rw [hS.out (.inl (by omega))] at hy
    exact hS.all (p := fun x => lt x y = false) (Nat.le_refl _) (Nat.le_refl _) (fun k u h3 h4 hu => h.hi k u y (by omega) h4 hu hy) k x (by omega) h2 hx⟩
end
def cLt (xs : List Int) (m : Int) : Nat := xs.countP fun x => decide (x < m)
def cLe (xs : List Int) (m : Int) : Nat := xs.countP fun x => decide (x ≤ m)
structure MedP (xs : List Int) (m : Int) : Prop where
 mem : m ∈ xs
 lt : cLt xs m ≤ xs.length / 2
 le : xs.length / 2 < cLe xs m
theorem cLe_mono {xs : List Int} {a b : Int} (h : a < b) : cLe xs a ≤ cLt xs b := List.countP_mono_left fun x _ hx => by simp at hx ⊢; omega
theorem MedP.uniq {xs : List Int} {a b : Int} (ha : MedP xs a) (hb : MedP xs b) : a = b := by
 rcases Int.lt_trichotomy a b with h | h | h
 ·have := cLe_mono (xs := xs) h; have := ha.le; have := hb.lt; omega
 ·exact h
 ·have := cLe_mono (xs := xs) h; have := hb.le; have := ha.lt; omega
theorem MedP.perm {xs ys : List Int} {a : Int} (h : MedP xs a) (hp : xs.Perm ys) : MedP ys a := by
 refine ⟨hp.mem_iff.1 h.mem, ?_, ?_⟩
 ·unfold cLt; rw [← hp.countP_eq, ← hp.length_eq]; exact h.lt
 ·unfold cLe; rw [← hp.countP_eq, ← hp.length_eq]; exact h.le
theorem MedP.of_srt {B : List Int} {m : Int} (hs : Srt (fun x y : Int => decide (x < y)) 0 B.length B) (hm : B[B.length / 2]? = some m) : MedP B m := by
 have hlt := (List.getElem?_eq_some_iff.1 hm).1
 have hsplit : B = B.take (B.length / 2) ++ B.drop (B.length / 2) := (List.take_append_drop _ _).symm
 have hsplit2 : B = B.take (B.length / 2 + 1) ++ B.drop (B.length / 2 + 1) := (List.take_append_drop _ _).symm
 refine ⟨List.mem_of_getElem? hm, ?_, ?_⟩
 ·have h0 : (B.drop (B.length / 2)).countP (fun x => decide (x < m)) = 0 := by
   rw [List.countP_eq_zero]
   intro x hx
   obtain ⟨i, hi, rfl⟩ := List.mem_iff_getElem.1 hx
   rw [List.length_drop] at hi
   rw [List.getElem_drop]
   simp only [decide_eq_true_eq, Int.not_lt]
   by_cases e : i = 0
   ·subst e
    have := (List.getElem?_eq_some_iff.1 hm).2
    simp only [Nat.add_zero, this]; exact Int.le_refl _
   ·have := hs (B.length / 2) (B.length / 2 + i) m _ (Nat.zero_le _) (by omega) (by omega) hm (List.getElem?_eq_getElem (by omega))
    simpa using this
  have h1 : cLt B m = (B.take (B.length / 2)).countP (fun x => decide (x < m)) := by
   unfold cLt
   conv => lhs; rw [hsplit]
   rw [List.countP_append, h0, Nat.add_zero]
  rw [h1]
  exact Nat.le_trans List.countP_le_length (by rw [List.length_take]; omega)
 ·have h0 : (B.take (B.length / 2 + 1)).countP (fun x => decide (x ≤ m)) = (B.take (B.length / 2 + 1)).length := by
   rw [List.countP_eq_length]
   intro x hx
   obtain ⟨i, hi, rfl⟩ := List.mem_iff_getElem.1 hx
   rw [List.length_take] at hi
   rw [List.getElem_take]
   simp only [decide_eq_true_eq]
   by_cases e : i = B.length / 2
   ·subst e
    exact Int.le_of_eq (List.getElem?_eq_some_iff.1 hm).2
   ·have := hs i (B.length / 2) _ m (Nat.zero_le _) (by omega) (by omega) (List.getElem?_eq_getElem (by omega)) hm
    simpa using this
  have h1 : (B.take (B.length / 2 + 1)).countP (fun x => decide (x ≤ m)) ≤ cLe B m := by
   unfold cLe
   conv => rhs; rw [hsplit2]
   rw [List.countP_append]; omega
  rw [h0, List.length_take] at h1
  omega
theorem med_ex {xs : List Int} (h : xs.length % 2 = 1) : ∃ m, MedP xs m := by
 obtain ⟨B, hB⟩ : ∃ B, xs.mergeSort (fun a b => decide (a ≤ b)) = B := ⟨_, rfl⟩
 have hp : B.Perm xs := hB ▸ List.mergeSort_perm xs _
 have hs : B.Pairwise fun a b => decide (a ≤ b) = true := hB ▸ List.pairwise_mergeSort (by simp; omega) (by simp; omega) xs
 have hl := hp.length_eq
 have hlt : B.length / 2 < B.length := by omega
 refine ⟨B[B.length / 2], (MedP.of_srt (B := B) ?_ (List.getElem?_eq_getElem hlt)).perm hp⟩
 intro i j x y _ hij hj hx hy
 obtain ⟨h1, rfl⟩ := List.getElem?_eq_some_iff.1 hx
 obtain ⟨h2, rfl⟩ := List.getElem?_eq_some_iff.1 hy
 have := List.pairwise_iff_getElem.1 hs i j h1 h2 hij
 simp at this ⊢; omega
noncomputable def medV (xs : List Int) : Int := open Classical in if h : xs.length % 2 = 1 then Classical.choose (med_ex h) else 0
theorem medV_p {xs : List Int} (h : xs.length % 2 = 1) : MedP xs (medV xs) := by
 unfold medV; rw [dif_pos h]; exact Classical.choose_spec (med_ex h)
theorem medV_eq {xs : List Int} {m : Int} (h : xs.length % 2 = 1) (hm : MedP xs m) : medV xs = m := (medV_p h).uniq hm
theorem medV_even {xs : List Int} (h : xs.length % 2 = 0) : medV xs = 0 := by
 unfold medV; rw [dif_neg (by omega)]
def cEq (xs : List Int) (m : Int) : Nat := xs.countP fun x => decide (x = m)
theorem cLe_split (xs : List Int) (m : Int) : cLe xs m = cLt xs m + cEq xs m := by
 unfold cLe cLt cEq
 induction xs with
 | nil => rfl
 | cons x xs ih =>
  simp only [List.countP_cons, ih]
  rcases Int.lt_trichotomy x m with h | h | h
  ·have a : x ≤ m := by omega
   have b : ¬ x = m := by omega
   simp [h, a, b]; omega
  ·subst h; simp; omega
  ·have a : ¬ x ≤ m := by omega
   have b : ¬ x = m := by omega
   have c : ¬ x < m := by omega
   simp [a, b, c]
theorem take_cnt (p : Int → Bool) (xs : List Int) (k : Nat) (h : k < xs.length) : (xs.take (k + 1)).countP p = (xs.take k).countP p + if p (xs.getD k 0) = true then 1 else 0 := by
 rw [List.getD_eq_getElem?_getD, List.getElem?_eq_getElem h, List.take_add_one, List.getElem?_eq_getElem h, List.countP_append]
 simp only [Option.toList_some, List.countP_singleton, Option.getD_some]
theorem cLt_le (xs : List Int) (m : Int) : cLt xs m ≤ xs.length := List.countP_le_length
theorem cEq_le (xs : List Int) (m : Int) : cEq xs m ≤ xs.length := List.countP_le_length
theorem cnt_take_le (p : Int → Bool) (xs : List Int) (k : Nat) : (xs.take k).countP p ≤ k := by
 have := List.countP_le_length (p := p) (l := xs.take k)
 rw [List.length_take] at this; omega
def NotMed (xs : List Int) (j : Nat) : Prop := ¬ (cLt xs (xs.getD j 0) ≤ xs.length / 2 ∧ xs.length / 2 < cLt xs (xs.getD j 0) + cEq xs (xs.getD j 0))
theorem getD_mem0 {xs : List Int} {j : Nat} (h : j < xs.length) : xs.getD j 0 ∈ xs := by
 rw [List.getD_eq_getElem?_getD, List.getElem?_eq_getElem h]; exact List.getElem_mem h
theorem medV_at {xs : List Int} {j : Nat} (h : xs.length % 2 = 1) (hj : j < xs.length) (h1 : cLt xs (xs.getD j 0) ≤ xs.length / 2) (h2 : xs.length / 2 < cLt xs (xs.getD j 0) + cEq xs (xs.getD j 0)) : medV xs = xs.getD j 0 :=
 medV_eq h ⟨getD_mem0 hj, h1, by rw [cLe_split]; exact h2⟩
theorem medV_no {xs : List Int} (h : xs.length % 2 = 1) (hn : ∀ j, j < xs.length → NotMed xs j) : False := by
 have hm := medV_p h
 obtain ⟨j, hj, he⟩ := List.mem_iff_getElem.1 hm.mem
 refine hn j hj ?_
 have : xs.getD j 0 = medV xs := by rw [List.getD_eq_getElem?_getD, List.getElem?_eq_getElem hj]; exact he
 rw [this, ← cLe_split]
 exact ⟨hm.lt, hm.le⟩
theorem notMed_step {xs : List Int} {i : Nat} (h : ∀ j, j < i → NotMed xs j) (hn : NotMed xs i) : ∀ j, j < i + 1 → NotMed xs j := fun j hj => by
 rcases Nat.lt_or_ge j i with h1 | h1
 ·exact h j h1
 ·obtain rfl : j = i := by omega
  exact hn
end Go.Proofs.YtenihpghfdcpkaaGreat
namespace Go.Proofs.YtenihpghfdcpkaaGreat
open Go.RowKit
def inB (f r : Int) : Bool := decide (0 ≤ r) && decide (r < 3 * f + 1)
def validC (cn : Int) (x : CommitD) : Bool := decide (0 ≤ x.cl) && decide (x.cl < cn) && decide (1 ≤ x.seq) && decide (x.seq ≤ 1048576) && decide (0 ≤ x.len) && decide (x.len ≤ 256)
def rightC (cn : Int) (L : List Signed) (x : CommitD) : Bool := validC cn x && decide (x.sb = IntKind.i64.wrap (1000 + x.cl)) && rightB L x.sb x.sm (commitB x)
def rightS (f : Int) (L : List Signed) (s : StampD) : Bool := inB f s.r && decide (1 ≤ s.t) && decide (s.t < 18446744073709551615) && decide (s.sb = s.r) && rightB L s.sb s.sm (stampB s)
def sameN (s : StampD) (x : CommitD) : Bool := decide (s.cl = x.cl ∧ s.seq = x.seq) && decide (s.h = x.h)
def okAt (f : Int) (L : List Signed) (x : CommitD) (S : List StampD) (i : Nat) : Bool := (!decide ((i : Int) > 0) || !decide ((S.getD i stamp0).r ≤ (S.getD (i - 1) stamp0).r)) && sameN (S.getD i stamp0) x && rightS f L (S.getD i stamp0)
def rightX (f cn : Int) (L : List Signed) (x : CommitD) (S : List StampD) : Bool := rightC cn L x && decide ((S.length : Int) = 2 * f + 1) && (List.range S.length).all (okAt f L x S)
theorem all_upto {p : Nat → Bool} {n : Nat} (h : ∀ j, j < n → p j = true) : (List.range n).all p = true := by
 rw [List.all_eq_true]; intro j hj; exact h j (List.mem_range.1 hj)
theorem all_not {p : Nat → Bool} {n i : Nat} (hi : i < n) (h : p i = false) : (List.range n).all p = false := by
 rw [Bool.eq_false_iff]; intro hc
 rw [List.all_eq_true] at hc
 rw [hc i (List.mem_range.2 hi)] at h; cases h
def timesD (S : List StampD) : List Int := S.map (·.t)
noncomputable def timeD (S : List StampD) : Int := medV (timesD S)
def StOk (s : StampD) : Prop := s.r ≤ 9223372036854775807 ∧ s.cl ≤ 9223372036854775807 ∧ s.seq ≤ 9223372036854775807 ∧ 0 ≤ s.t ∧ s.t < 18446744073709551616
def CoOk (s : CommitD) : Prop := s.cl ≤ 9223372036854775807 ∧ s.seq ≤ 9223372036854775807 ∧ s.len ≤ 9223372036854775807
theorem e_neqName {n : Nat} {f : Nat → Value} {w : World} {dst : Option Tmp} {ty : TypeId} {pos : String} {aft : Array Edge} {gd : Option (Nat × Bool)} {x y : Operand} {T : TypeId} (a b c d : Int) (hx : ev n f x = .agg ⟨[.int .i64 a, .int .i64 b]⟩) (hy : ev n f y = .agg ⟨[.int .i64 c, .int .i64 d]⟩) :
  (execOp (ev n f) ⟨dst, .binOp .neq 59 x y T, ty, pos, aft, gd⟩).run Tryz.prog w = .ok (.value (.bool (!decide (a = c ∧ b = d)))) w := by
 simp only [execOp, hx, hy]
 simp [go_sem]
 by_cases h1 : a = c <;> by_cases h2 : b = d <;> simp_all
theorem times_step (S : List StampD) {i : Nat} (h : i < S.length) : timesD (S.take (i + 1)) = timesD (S.take i) ++ [(S.getD i stamp0).t] := by
 unfold timesD
 rw [List.take_add_one, List.getElem?_eq_getElem h, List.map_append, List.getD_eq_getElem?_getD, List.getElem?_eq_getElem h]
 rfl
theorem times_len (S : List StampD) : (timesD S).length = S.length := by simp [timesD]
def StsOk (S : List StampD) : Prop := ∀ i, i < S.length → StOk (S.getD i stamp0)
def encU (x : Int) : List Value := [.int .u64 x]
theorem encU_len (x : Int) : (encU x).length = 1 := rfl
theorem encU_one (x : Int) : (encU x).all (·.oneCell') = true := rfl
end Go.Proofs.YtenihpghfdcpkaaGreat
namespace Go.Proofs.YtenihpghfdcpkaaGreat
open Go.RowKit Go.Maps Go.Sort Go.Shelf
end Go.Proofs.YtenihpghfdcpkaaGreat
namespace Go.Proofs.YtenihpghfdcpkaaGreat
open Go.RowKit
end Go.Proofs.YtenihpghfdcpkaaGreat
namespace Go.Proofs.YtenihpghfdcpkaaGreat
open Go.RowKit Go.Shelf
def bitsL_ren : Go.Shelf.Ren := ⟨fun | 125 => 102 | 128 => 136 | 129 => 137 | n => n, fun | 3 => 3 | 4 => 4 | 5 => 5 | 9 => 9 | 46 => 108 | 51 => 198 | 53 => 25 | n => n, fun | n => n⟩
theorem bitsL : Go.Proofs.Lays.n125 Tryz.prog bitsL_ren := {
 mixed := by kernel_rfl,
 f125 := Tryz.func102.trans (congrArg some (by kernel_rfl)),
 f128 := Tryz.func136.trans (congrArg some (by kernel_rfl)),
 f129 := Tryz.func137.trans (congrArg some (by kernel_rfl)),
 t3 := Tryz.underlying3,
 a3 := Tryz.isAgg3,
 z3 := Tryz.sizeOf3,
 v3 := Tryz.zeroValue3,
 t4 := Tryz.underlying4,
 a4 := Tryz.isAgg4,
 z4 := Tryz.sizeOf4,
 v4 := Tryz.zeroValue4,
 t5 := Tryz.underlying5,
 a5 := Tryz.isAgg5,
 z5 := Tryz.sizeOf5,
 v5 := Tryz.zeroValue5,
 t9 := Tryz.underlying9,
 a9 := Tryz.isAgg9,
 z9 := Tryz.sizeOf9,
 v9 := Tryz.zeroValue9,
 t46 := Tryz.underlying108,
 a46 := Tryz.isAgg108,
 z46 := Tryz.sizeOf108,
 v46 := Tryz.zeroValue108,
 t51 := Tryz.underlying198,
 a51 := Tryz.isAgg198,
 z51 := Tryz.sizeOf198,
 v51 := Tryz.zeroValue198,
 t53 := Tryz.underlying25,
 a53 := Tryz.isAgg25,
 z53 := Tryz.sizeOf25,
 v53 := Tryz.zeroValue25 }
end Go.Proofs.YtenihpghfdcpkaaGreat
namespace Go.Proofs.YtenihpghfdcpkaaGreat
open Go.RowKit
end Go.Proofs.YtenihpghfdcpkaaGreat
