/- WHAT IS PROVED: contracts and plain laws of TabM. Conditions: stated with each. -/
import Derived.Test.YtoaifondpohniaaGreatPL17
import Derived.Test.YtoaifondpohniaaGreatPL19
import Derived.Test.YtoaifondpohniaaGreatPL21
set_option maxHeartbeats 4000000
set_option maxRecDepth 100000
namespace Go.Proofs.YtoaifondpohniaaGreat
open Go.RowKit
def ZP (L : List CeR) (a b : Int) : Option CeR := L.find? fun c => decide (c.x.cl = a ∧ c.x.seq = b)
section
variable {L : List CeR} {a b : Int} {i : Nat} {x : CeR} {B : List Ck} {w : World}
theorem Zbt (hno : ∀ j, j < i → ∀ y, L[j]? = some y → ¬ (y.x.cl = a ∧ y.x.seq = b)) (hx : L[i]? = some x) (h : decide (x.x.cl = a ∧ x.x.seq = b) = true) : ZP L a b = some x := by
 unfold ZP
 rw [List.find?_eq_some_iff_getElem]
 obtain ⟨hi, e⟩ := List.getElem?_eq_some_iff.1 hx
 refine ⟨h, i, hi, e, fun j hj => ?_⟩
 have := hno j hj _ (List.getElem?_eq_getElem (by omega))
 rw [show (decide (L[j].x.cl = a ∧ L[j].x.seq = b)) = false from decide_eq_false this]; rfl
theorem Zaf (hno : ∀ j, j < i → ∀ y, L[j]? = some y → ¬ (y.x.cl = a ∧ y.x.seq = b)) (hi : L.length ≤ i) : ZP L a b = none := by
 unfold ZP
 rw [List.find?_eq_none]
 intro y hy
 obtain ⟨j, hj, e⟩ := List.mem_iff_getElem.1 hy
 have := hno j (by omega) y (by rw [List.getElem?_eq_getElem hj, e])
 simpa using this
theorem Zag (hno : ∀ j, j < i → ∀ y, L[j]? = some y → ¬ (y.x.cl = a ∧ y.x.seq = b)) (hx : L[i]? = some x) (h : decide (x.x.cl = a ∧ x.x.seq = b) = false) : ∀ j, j < i + 1 → ∀ y, L[j]? = some y → ¬ (y.x.cl = a ∧ y.x.seq = b) := fun j hj y hy => by
 rcases Nat.lt_or_ge j i with q | q
 ·exact hno j q y hy
 ·have e : j = i := by omega
  subst e
  rw [hx] at hy
  obtain rfl := Option.some.inj hy
  exact of_decide_eq_false h
structure CeT (B : List Ck) (c : CeR) : Prop where
 x : CoB c.x
 S : ∀ i, i < c.S.length → StB (c.S.getD i Ze)
 len : c.S.length ≤ 12
 bag : stC c ∈ B
theorem CeT.cb (h : CeT B x) (hb : (ZY B).ok w) : CeB w x := ⟨h.x, Z21 hb h.bag, h.S, Nat.le_trans h.len (by decide)⟩
noncomputable def Z0a (L : List CeR) (last tm : Int) : List CeR := L.filter fun c => decide (ZA c.S > last) && decide (ZA c.S ≤ tm)
variable {last tm : Int}
theorem Z9e {D : List CeR} (hD : D = Z0a (L.take i) last tm) (hx : L[i]? = some x) (h1 : decide (ZA x.S > last) = true) (h2 : decide (ZA x.S ≤ tm) = true) : D ++ [x] = Z0a (L.take (i + 1)) last tm := by
 unfold Z0a at hD ⊢
 rw [List.take_add_one, hx, Option.toList_some, List.filter_append, ← hD, List.filter_cons, h1, h2]; rfl
theorem Z9c {D : List CeR} (hD : D = Z0a (L.take i) last tm) (hx : L[i]? = some x) (h1 : decide (ZA x.S > last) = false) : D = Z0a (L.take (i + 1)) last tm := by
 unfold Z0a at hD ⊢
 rw [List.take_add_one, hx, Option.toList_some, List.filter_append, ← hD, List.filter_cons, h1]; simp
theorem Z9d {D : List CeR} (hD : D = Z0a (L.take i) last tm) (hx : L[i]? = some x) (h2 : decide (ZA x.S ≤ tm) = false) : D = Z0a (L.take (i + 1)) last tm := by
 unfold Z0a at hD ⊢
 rw [List.take_add_one, hx, Option.toList_some, List.filter_append, ← hD, List.filter_cons, h2]; simp
theorem Z42 {c : CeR} (h : c ∈ Z0a L last tm) : c ∈ L := (List.mem_filter.1 h).1
theorem Z7c : (Z0a L last tm).length ≤ L.length := List.length_filter_le ..
theorem Z7s (h : (ZP L a b).isSome = true) : (ZP L a b).getD ce0 ∈ L := by
 obtain ⟨v, hv⟩ := Option.isSome_iff_exists.1 h
 rw [hv]
 exact List.mem_of_find?_eq_some (show L.find? (fun c => decide (c.x.cl = a ∧ c.x.seq = b)) = some v from hv)
noncomputable def Z44 (F Cn floor : Int) (Lb : List Signed) (L : List CeR) (x : CeR) : Int :=
 if Z0m F Cn Lb x.x x.S = true then
  if (ZP L x.x.cl x.x.seq).isSome = true then
   if ((ZP L x.x.cl x.x.seq).getD ce0).x.h = x.x.h ∧ ZA ((ZP L x.x.cl x.x.seq).getD ce0).S = ZA x.S then 0 else 5
  else if ZA x.S ≤ floor then 4 else if 64 ≤ L.length then 7 else 0
 else 3
noncomputable def ackT (rp : Int) (x : CeR) : Za := ⟨rp, x.x.cl, x.x.seq, x.x.h, ZA x.S, 0, 0⟩
noncomputable def Z9o (rp : Int) (x : CeR) : Signed := ⟨rp, Z1q (ackT rp x)⟩
noncomputable def Z9n (rp : Int) (Lb : List Signed) (x : CeR) : Za := ⟨rp, x.x.cl, x.x.seq, x.x.h, ZA x.S, rp, ZB (Zp Lb (Z9o rp x)) (Z9o rp x)⟩
def Z5p (x y : CeR) : Bool := decide (x.x.cl < y.x.cl) || (decide (x.x.cl = y.x.cl) && decide (x.x.seq < y.x.seq))
structure Z86 (L : List CeR) (x : CeR) (k : Nat) : Prop where
 le : k ≤ L.length
 up : ∀ j, k ≤ j → ∀ y, L[j]? = some y → Z5p x y = true
 stop : k = 0 ∨ ∃ y, L[k - 1]? = some y ∧ Z5p x y = false
variable {F Cn floor rp : Int} {Lb : List Signed} {y : CeR} {k : Nat}
theorem tk3 (h : Z0m F Cn Lb x.x x.S = false) : Z44 F Cn floor Lb L x = 3 := by unfold Z44; rw [if_neg (by rw [h]; decide)]
theorem tk5 (h : Z0m F Cn Lb x.x x.S = true) (h1 : (ZP L x.x.cl x.x.seq).isSome = true) (h2 : ¬ (((ZP L x.x.cl x.x.seq).getD ce0).x.h = x.x.h ∧ ZA ((ZP L x.x.cl x.x.seq).getD ce0).S = ZA x.S)) : Z44 F Cn floor Lb L x = 5 := by unfold Z44; rw [if_pos h, if_pos h1, if_neg h2]
theorem tk0 (h : Z0m F Cn Lb x.x x.S = true) (h1 : (ZP L x.x.cl x.x.seq).isSome = true) (h2 : ((ZP L x.x.cl x.x.seq).getD ce0).x.h = x.x.h) (h3 : ZA ((ZP L x.x.cl x.x.seq).getD ce0).S = ZA x.S) : Z44 F Cn floor Lb L x = 0 := by unfold Z44; rw [if_pos h, if_pos h1, if_pos ⟨h2, h3⟩]
theorem tk4 (h : Z0m F Cn Lb x.x x.S = true) (h1 : (ZP L x.x.cl x.x.seq).isSome = false) (h2 : ZA x.S ≤ floor) : Z44 F Cn floor Lb L x = 4 := by unfold Z44; rw [if_pos h, if_neg (by rw [h1]; decide), if_pos h2]
theorem tk7 (h : Z0m F Cn Lb x.x x.S = true) (h1 : (ZP L x.x.cl x.x.seq).isSome = false) (h2 : ¬ ZA x.S ≤ floor) (h3 : 64 ≤ L.length) : Z44 F Cn floor Lb L x = 7 := by unfold Z44; rw [if_pos h, if_neg (by rw [h1]; decide), if_neg h2, if_pos h3]
theorem tkn (h : Z0m F Cn Lb x.x x.S = true) (h1 : (ZP L x.x.cl x.x.seq).isSome = false) (h2 : ¬ ZA x.S ≤ floor) (h3 : ¬ 64 ≤ L.length) : Z44 F Cn floor Lb L x = 0 := by unfold Z44; rw [if_pos h, if_neg (by rw [h1]; decide), if_neg h2, if_neg h3]
theorem ZbV : ∀ j, L.length ≤ j → ∀ y, L[j]? = some y → Z5p x y = true := fun j hj y hy => by
 have := (List.getElem?_eq_some_iff.1 hy).1; omega
theorem ZcP (h : ∀ j, k ≤ j → ∀ y, L[j]? = some y → Z5p x y = true) (hy : L[k - 1]? = some y) (hl : Z5p x y = true) : ∀ j, k - 1 ≤ j → ∀ y, L[j]? = some y → Z5p x y = true := fun j hj z hz => by
 by_cases e : j = k - 1
 ·subst e
  rw [hy] at hz
  obtain rfl := Option.some.inj hz
  exact hl
 ·exact h j (by omega) z hz
theorem Z7d {c : CeR} (h : CeT B c) : 0 ≤ ZA c.S ∧ ZA c.S < 18446744073709551616 := by
 unfold ZA
 rcases Nat.mod_two_eq_zero_or_one (Z3b c.S).length with e | e
 ·rw [Z3I e]; decide
 ·have hm := (Z94 e).mem
  unfold Z3b at hm
  obtain ⟨s, hs, he⟩ := List.mem_map.1 hm
  obtain ⟨i, hi, hsi⟩ := List.mem_iff_getElem.1 hs
  have q := (h.S i hi).1
  rw [List.getD_eq_getElem?_getD, List.getElem?_eq_getElem hi, Option.getD_some, hsi] at q
  unfold Z3b
  rw [← he]; exact ⟨q.2.2.2.1, q.2.2.2.2⟩
end
end Go.Proofs.YtoaifondpohniaaGreat
