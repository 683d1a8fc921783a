/- WHAT IS PROVED: contracts and plain laws of Bag, TabM. Conditions: stated with each. -/
import Derived.Test.YtenihpghfdcpkaaGreatPV02
import Derived.Test.YtenihpghfdcpkaaGreatPV04
import Derived.Test.YtenihpghfdcpkaaGreatPV20
import Derived.Test.YtenihpghfdcpkaaGreatPV21
import Derived.Test.YtenihpghfdcpkaaGreatPV23
set_option maxHeartbeats 4000000
set_option maxRecDepth 100000
namespace Go.Proofs.YtenihpghfdcpkaaGreat
open Go.RowKit
def Z0G (L : List Ck) : Ck where
 fp b := ∃ A ∈ L, A.fp b
 ok w := ∀ A ∈ L, A.ok w
 stay {w w'} h hb A hA := A.stay (h A hA) fun b hf => hb b ⟨A, hA, hf⟩
 lt {w} h b hb := by obtain ⟨A, hA, hf⟩ := hb; exact A.lt (h A hA) b hf
section
variable {w0 w : World} {A : Ck} {L R G : List Ck}
theorem Sat.bag0 (H : Sat w0 G w) : Sat w0 (G ++ [Z0G []]) w :=
 H.add (Ext.refl w) (fun _ _ => rfl) (fun A hA => by simp at hA) (fun b hb => by obtain ⟨A, hA, _⟩ := hb; simp at hA)
theorem Sat.bag (H : Sat w0 (Z0G L :: A :: R) w) : Sat w0 (Z0G (A :: L) :: R) w := by
 have h1 := List.pairwise_cons.1 H.dis
 have h2 := List.pairwise_cons.1 h1.2
 refine ⟨H.ext, fun C hC => ?_, List.pairwise_cons.2 ⟨fun C hC b hb hc => ?_, h2.2⟩⟩
 ·rcases List.mem_cons.1 hC with rfl | hC
  ·intro B hB
   rcases List.mem_cons.1 hB with rfl | hB
   ·exact H.all _ (by simp)
   ·exact (show (Z0G L).ok w from H.all _ (by simp)) B hB
  ·exact H.all _ (by simp [hC])
 ·obtain ⟨B, hB, hf⟩ := hb
  rcases List.mem_cons.1 hB with rfl | hB
  ·exact h2.1 C hC b hf hc
  ·exact h1.1 C (by simp [hC]) b ⟨B, hB, hf⟩ hc
end
def stC (c : CeR) : Ck := Zo 149 38 (.slice c.sa c.S.length c.sc) c.S.length (c.S.flatMap Z2O)
def ceC (p : PrR) : Ck := Zo 76 38 (.slice p.ca p.C.length p.cc) p.C.length (p.C.flatMap Z1o)
def PIn (L : List Ck) (p : PrR) : Prop := ceC p ∈ L ∧ ∀ c ∈ p.C, stC c ∈ L
section
variable {L : List Ck} {A : Ck} {p : PrR} {x : CeR} {C : List CeR} {D : List PrR} {w : World} {a b : Int} {S : List Zb}
theorem PIn.ok (h : PIn L p) (hb : (Z0G L).ok w) : PrOk w p :=
 ⟨ListAt.row Z13 (by decide) (hb _ h.1), fun c hc => ListAt.row Z3H (by decide) (hb _ (h.2 c hc))⟩
theorem PIn.more (h : PIn L p) : PIn (A :: L) p := ⟨List.mem_cons_of_mem _ h.1, fun c hc => List.mem_cons_of_mem _ (h.2 c hc)⟩
theorem Z5O {c : CeR} (h : (Z0G L).ok w) (hm : stC c ∈ L) : ListAt Z2O 38 w (.slice c.sa c.S.length c.sc) c.S := ListAt.row Z3H (by decide) (h _ hm)
theorem bag_ce (h : (Z0G L).ok w) (hm : ceC p ∈ L) : ListAt Z1o 38 w (.slice p.ca p.C.length p.cc) p.C := ListAt.row Z13 (by decide) (h _ hm)
end
def Z0d (L : List CeR) (a b : Int) : Option CeR := L.find? fun c => decide (c.x.cl = a ∧ c.x.seq = b)
section
variable {L : List CeR} {a b : Int} {i : Nat} {x : CeR} {B : List Ck} {w : World}
theorem ZdH (hno : ∀ j, j < i → ∀ y, L[j]? = some y → ¬ (y.x.cl = a ∧ y.x.seq = b)) (hx : L[i]? = some x) (h : decide (x.x.cl = a ∧ x.x.seq = b) = true) : Z0d L a b = some x := by
 unfold Z0d
 rw [List.find?_eq_some_iff_getElem]
 obtain ⟨hi, e⟩ := List.getElem?_eq_some_iff.1 hx
 refine ⟨h, i, hi, e, fun j hj => ?_⟩
 have := hno j hj _ (List.getElem?_eq_getElem (by omega))
 rw [show (decide (L[j].x.cl = a ∧ L[j].x.seq = b)) = false from decide_eq_false this]; rfl
theorem Zcc (hno : ∀ j, j < i → ∀ y, L[j]? = some y → ¬ (y.x.cl = a ∧ y.x.seq = b)) (hi : L.length ≤ i) : Z0d L a b = none := by
 unfold Z0d
 rw [List.find?_eq_none]
 intro y hy
 obtain ⟨j, hj, e⟩ := List.mem_iff_getElem.1 hy
 have := hno j (by omega) y (by rw [List.getElem?_eq_getElem hj, e])
 simpa using this
theorem Zby (hno : ∀ j, j < i → ∀ y, L[j]? = some y → ¬ (y.x.cl = a ∧ y.x.seq = b)) (hx : L[i]? = some x) (h : decide (x.x.cl = a ∧ x.x.seq = b) = false) : ∀ j, j < i + 1 → ∀ y, L[j]? = some y → ¬ (y.x.cl = a ∧ y.x.seq = b) := fun j hj y hy => by
 rcases Nat.lt_or_ge j i with q | q
 ·exact hno j q y hy
 ·have e : j = i := by omega
  subst e
  rw [hx] at hy
  obtain rfl := Option.some.inj hy
  exact of_decide_eq_false h
structure CeT (B : List Ck) (c : CeR) : Prop where
 x : CoB c.x
 S : ∀ i, i < c.S.length → StB (c.S.getD i Zl)
 len : c.S.length ≤ 12
 bag : stC c ∈ B
theorem CeT.cb (h : CeT B x) (hb : (Z0G B).ok w) : CeB w x := ⟨h.x, Z5O hb h.bag, h.S, Nat.le_trans h.len (by decide)⟩
noncomputable def Z2C (L : List CeR) (last tm : Int) : List CeR := L.filter fun c => decide (ZZ c.S > last) && decide (ZZ c.S ≤ tm)
variable {last tm : Int}
theorem Zdz {D : List CeR} (hD : D = Z2C (L.take i) last tm) (hx : L[i]? = some x) (h1 : decide (ZZ x.S > last) = true) (h2 : decide (ZZ x.S ≤ tm) = true) : D ++ [x] = Z2C (L.take (i + 1)) last tm := by
 unfold Z2C at hD ⊢
 rw [List.take_add_one, hx, Option.toList_some, List.filter_append, ← hD, List.filter_cons, h1, h2]; rfl
theorem Zdq {D : List CeR} (hD : D = Z2C (L.take i) last tm) (hx : L[i]? = some x) (h1 : decide (ZZ x.S > last) = false) : D = Z2C (L.take (i + 1)) last tm := by
 unfold Z2C at hD ⊢
 rw [List.take_add_one, hx, Option.toList_some, List.filter_append, ← hD, List.filter_cons, h1]; simp
theorem ZdI {D : List CeR} (hD : D = Z2C (L.take i) last tm) (hx : L[i]? = some x) (h2 : decide (ZZ x.S ≤ tm) = false) : D = Z2C (L.take (i + 1)) last tm := by
 unfold Z2C at hD ⊢
 rw [List.take_add_one, hx, Option.toList_some, List.filter_append, ← hD, List.filter_cons, h2]; simp
theorem Z59 {c : CeR} (h : c ∈ Z2C L last tm) : c ∈ L := (List.mem_filter.1 h).1
theorem Zah : (Z2C L last tm).length ≤ L.length := List.length_filter_le ..
theorem Z91 (h : (Z0d L a b).isSome = true) : (Z0d L a b).getD ce0 ∈ L := by
 obtain ⟨v, hv⟩ := Option.isSome_iff_exists.1 h
 rw [hv]
 exact List.mem_of_find?_eq_some (show L.find? (fun c => decide (c.x.cl = a ∧ c.x.seq = b)) = some v from hv)
noncomputable def Z5I (F Cn floor : Int) (Lb : List Signed) (L : List CeR) (x : CeR) : Int :=
 if Z0z F Cn Lb x.x x.S = true then
  if (Z0d L x.x.cl x.x.seq).isSome = true then
   if ((Z0d L x.x.cl x.x.seq).getD ce0).x.h = x.x.h ∧ ZZ ((Z0d L x.x.cl x.x.seq).getD ce0).S = ZZ x.S then 0 else 5
  else if ZZ x.S ≤ floor then 4 else if 64 ≤ L.length then 7 else 0
 else 3
noncomputable def ackT (rp : Int) (x : CeR) : Zb := ⟨rp, x.x.cl, x.x.seq, x.x.h, ZZ x.S, 0, 0⟩
noncomputable def ackY (rp : Int) (x : CeR) : Signed := ⟨rp, Z2L (ackT rp x)⟩
noncomputable def ackS (rp : Int) (Lb : List Signed) (x : CeR) : Zb := ⟨rp, x.x.cl, x.x.seq, x.x.h, ZZ x.S, rp, Zr (Zy Lb (ackY rp x)) (ackY rp x)⟩
def Z4Z (x y : CeR) : Bool := decide (x.x.cl < y.x.cl) || (decide (x.x.cl = y.x.cl) && decide (x.x.seq < y.x.seq))
structure Zbo (L : List CeR) (x : CeR) (k : Nat) : Prop where
 le : k ≤ L.length
 up : ∀ j, k ≤ j → ∀ y, L[j]? = some y → Z4Z x y = true
 stop : k = 0 ∨ ∃ y, L[k - 1]? = some y ∧ Z4Z x y = false
variable {F Cn floor rp : Int} {Lb : List Signed} {y : CeR} {k : Nat}
theorem tk3 (h : Z0z F Cn Lb x.x x.S = false) : Z5I F Cn floor Lb L x = 3 := by unfold Z5I; rw [if_neg (by rw [h]; decide)]
theorem tk5 (h : Z0z F Cn Lb x.x x.S = true) (h1 : (Z0d L x.x.cl x.x.seq).isSome = true) (h2 : ¬ (((Z0d L x.x.cl x.x.seq).getD ce0).x.h = x.x.h ∧ ZZ ((Z0d L x.x.cl x.x.seq).getD ce0).S = ZZ x.S)) : Z5I F Cn floor Lb L x = 5 := by unfold Z5I; rw [if_pos h, if_pos h1, if_neg h2]
theorem tk0 (h : Z0z F Cn Lb x.x x.S = true) (h1 : (Z0d L x.x.cl x.x.seq).isSome = true) (h2 : ((Z0d L x.x.cl x.x.seq).getD ce0).x.h = x.x.h) (h3 : ZZ ((Z0d L x.x.cl x.x.seq).getD ce0).S = ZZ x.S) : Z5I F Cn floor Lb L x = 0 := by unfold Z5I; rw [if_pos h, if_pos h1, if_pos ⟨h2, h3⟩]
theorem tk4 (h : Z0z F Cn Lb x.x x.S = true) (h1 : (Z0d L x.x.cl x.x.seq).isSome = false) (h2 : ZZ x.S ≤ floor) : Z5I F Cn floor Lb L x = 4 := by unfold Z5I; rw [if_pos h, if_neg (by rw [h1]; decide), if_pos h2]
theorem tk7 (h : Z0z F Cn Lb x.x x.S = true) (h1 : (Z0d L x.x.cl x.x.seq).isSome = false) (h2 : ¬ ZZ x.S ≤ floor) (h3 : 64 ≤ L.length) : Z5I F Cn floor Lb L x = 7 := by unfold Z5I; rw [if_pos h, if_neg (by rw [h1]; decide), if_neg h2, if_pos h3]
theorem tkn (h : Z0z F Cn Lb x.x x.S = true) (h1 : (Z0d L x.x.cl x.x.seq).isSome = false) (h2 : ¬ ZZ x.S ≤ floor) (h3 : ¬ 64 ≤ L.length) : Z5I F Cn floor Lb L x = 0 := by unfold Z5I; rw [if_pos h, if_neg (by rw [h1]; decide), if_neg h2, if_neg h3]
theorem Zd7 : ∀ j, L.length ≤ j → ∀ y, L[j]? = some y → Z4Z x y = true := fun j hj y hy => by
 have := (List.getElem?_eq_some_iff.1 hy).1; omega
theorem ZeD (h : ∀ j, k ≤ j → ∀ y, L[j]? = some y → Z4Z x y = true) (hy : L[k - 1]? = some y) (hl : Z4Z x y = true) : ∀ j, k - 1 ≤ j → ∀ y, L[j]? = some y → Z4Z x y = true := fun j hj z hz => by
 by_cases e : j = k - 1
 ·subst e
  rw [hy] at hz
  obtain rfl := Option.some.inj hz
  exact hl
 ·exact h j (by omega) z hz
theorem Zap {c : CeR} (h : CeT B c) : 0 ≤ ZZ c.S ∧ ZZ c.S < 18446744073709551616 := by
 unfold ZZ
 rcases Nat.mod_two_eq_zero_or_one (Z3C c.S).length with e | e
 ·rw [Z4k e]; decide
 ·have hm := (ZaE e).mem
  unfold Z3C at hm
  obtain ⟨s, hs, he⟩ := List.mem_map.1 hm
  obtain ⟨i, hi, hsi⟩ := List.mem_iff_getElem.1 hs
  have q := (h.S i hi).1
  rw [List.getD_eq_getElem?_getD, List.getElem?_eq_getElem hi, Option.getD_some, hsi] at q
  unfold Z3C
  rw [← he]; exact ⟨q.2.2.2.1, q.2.2.2.2⟩
end
end Go.Proofs.YtenihpghfdcpkaaGreat
