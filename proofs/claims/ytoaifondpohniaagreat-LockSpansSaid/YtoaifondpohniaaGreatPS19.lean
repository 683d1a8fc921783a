/- WHAT IS PROVED: contracts and plain laws of TxtP, Rt3, TabM. Conditions: stated with each. -/
import Derived.Test.YtoaifondpohniaaGreatPS06
import Derived.Test.YtoaifondpohniaaGreatPS15
import Derived.Test.YtoaifondpohniaaGreatPS17
import Derived.Test.YtoaifondpohniaaGreatPS18
set_option maxHeartbeats 4000000
set_option maxRecDepth 100000
namespace Go.Proofs.YtoaifondpohniaaGreat
open Go.RowKit
def Z2X (a b : Int) : List UInt8 := [Z9 a, Z9 b].flatten
def ZQ (s : Zd) : List UInt8 := [Z0U s, Z2X s.sb s.sm].flatten
def Z01 (x : Zn) : List UInt8 := [ZD x.cl x.seq, x.h.l, Z9 x.len, Z2X x.sb x.sm].flatten
def Z5F (S : List Zd) : List UInt8 := S.flatMap ZQ
def ZJ (c : CeR) : List UInt8 := [Z01 c.x, Z9 (c.S.length : Int)].flatten ++ Z5F c.S
def Z7w (C : List CeR) : List UInt8 := C.flatMap ZJ
def Z4u (p : PrR) : List UInt8 := [Z9 p.r, Z9 p.e, Z0g p.f.toNat, Z9 (p.C.length : Int)].flatten ++ Z7w p.C
def Zy (p : PrR) : List UInt8 := [Zu [112, 114, 111, 109, 105, 115, 101], Z4u p].flatten
def Z26 (s : Zd) : List UInt8 := [Zu [97, 99, 107], Z0U s].flatten
theorem Z3u (a b : Int) : (Z2X a b).length ≤ 20 := by
 have h1 := ZN a; have h2 := ZN b
 simp only [Z2X, List.flatten_cons, List.flatten_nil, List.length_append, List.length_nil]; omega
theorem Z1b (s : Zd) : (ZQ s).length ≤ 92 := by
 have h1 := Z3P s; have h2 := Z3u s.sb s.sm
 simp only [ZQ, List.flatten_cons, List.flatten_nil, List.length_append, List.length_nil]; omega
theorem Z2v (x : Zn) : (Z01 x).length ≤ 82 := by
 have h1 := Z1w x.cl x.seq; have h2 := x.h.len; have h3 := ZN x.len; have h4 := Z3u x.sb x.sm
 simp only [Z01, List.flatten_cons, List.flatten_nil, List.length_append, List.length_nil]; omega
theorem Z65 (s : Zd) : (Z26 s).length ≤ 100 := by
 have h1 := Z3P s; have h2 := Z0P [97, 99, 107]
 simp only [List.length_cons, List.length_nil] at h2
 simp only [Z26, List.flatten_cons, List.flatten_nil, List.length_append, List.length_nil]; omega
section
variable {α : Type} {g : α → List UInt8} {k : Nat}
theorem Z3q (hg : ∀ x, (g x).length ≤ k) : ∀ (L : List α), (L.flatMap g).length ≤ L.length * k
 | [] => by simp
 | x :: L => by
  have h1 := hg x; have h2 := Z3q hg L
  rw [List.flatMap_cons, List.length_append, List.length_cons, Nat.succ_mul]; omega
theorem Z2M : ∀ (L : List α), (∀ x ∈ L, (g x).length ≤ k) → (L.flatMap g).length ≤ L.length * k
 | [], _ => by simp
 | x :: L, hg => by
  have h1 := hg x (by simp); have h2 := Z2M L fun y hy => hg y (by simp [hy])
  rw [List.flatMap_cons, List.length_append, List.length_cons, Nat.succ_mul]; omega
theorem Z4l (L : List α) (d : α) {i : Nat} (h : i < L.length) : (L.take (i + 1)).flatMap g = (L.take i).flatMap g ++ g (L.getD i d) := by
 have e : L.take (i + 1) = L.take i ++ [L.getD i d] := by
  rw [List.take_add_one, List.getElem?_eq_getElem h, List.getD_eq_getElem?_getD, List.getElem?_eq_getElem h]; rfl
 rw [e, List.flatMap_append]; simp only [List.flatMap_cons, List.flatMap_nil, List.append_nil]
end
theorem Z5o (S : List Zd) : (Z5F S).length ≤ S.length * 92 := Z3q Z1b S
theorem Z1l {c : CeR} (h : c.S.length ≤ 100) : (ZJ c).length ≤ 9292 := by
 have h1 := Z2v c.x; have h2 := ZN (c.S.length : Int); have h3 := Z5o c.S
 simp only [ZJ, List.flatten_cons, List.flatten_nil, List.length_append, List.length_nil]; omega
theorem Z6w {C : List CeR} (h : ∀ c ∈ C, c.S.length ≤ 100) : (Z7w C).length ≤ C.length * 9292 := Z2M C fun c hc => Z1l (h c hc)
theorem Z3Q {p : PrR} (h : ∀ c ∈ p.C, c.S.length ≤ 100) (hl : p.C.length ≤ 64) : (Z4u p).length ≤ 600000 := by
 have h1 := ZN p.r; have h2 := ZN p.e; have h3 := Z1G p.f.toNat; have h4 := ZN (p.C.length : Int); have h5 := Z6w h
 simp only [Z4u, List.flatten_cons, List.flatten_nil, List.length_append, List.length_nil]; omega
theorem Z71 {p : PrR} (h : ∀ c ∈ p.C, c.S.length ≤ 100) (hl : p.C.length ≤ 64) : (Zy p).length ≤ 600100 := by
 have h1 := Z3Q h hl; have h2 := Z0P [112, 114, 111, 109, 105, 115, 101]
 simp only [List.length_cons, List.length_nil] at h2
 simp only [Zy, List.flatten_cons, List.flatten_nil, List.length_append, List.length_nil]; omega
def StB (s : Zd) : Prop := (s.r ≤ 9223372036854775807 ∧ s.cl ≤ 9223372036854775807 ∧ s.seq ≤ 9223372036854775807 ∧ 0 ≤ s.t ∧ s.t < 18446744073709551616) ∧ s.sb ≤ 9223372036854775807 ∧ s.sm ≤ 9223372036854775807
def CoB (x : Zn) : Prop := (x.cl ≤ 9223372036854775807 ∧ x.seq ≤ 9223372036854775807 ∧ x.len ≤ 9223372036854775807) ∧ x.sb ≤ 9223372036854775807 ∧ x.sm ≤ 9223372036854775807
structure CeB (w : World) (c : CeR) : Prop where
 x : CoB c.x
 at_ : ListAt Z0l 38 w (.slice c.sa c.S.length c.sc) c.S
 S : ∀ i, i < c.S.length → StB (c.S.getD i Z8)
 len : c.S.length ≤ 100
theorem CeB.keep {w w0 w' : World} {G : List Ck} {c : CeR} (h : CeB w c) (H : Sat w0 G w') (j : Nat) (hj : G[j]? = some (Z6 w fun _ => False)) : CeB w' c := ⟨h.x, ListAt.now H j hj h.at_, h.S, h.len⟩
theorem Z5C {w : World} {C : List CeR} (h : ∀ i, i < C.length → CeB w (C.getD i ce0)) : ∀ c ∈ C, c.S.length ≤ 100 := fun c hm => by
 obtain ⟨i, hi, e⟩ := List.mem_iff_getElem.1 hm
 have q := (h i hi).len
 rw [List.getD_eq_getElem?_getD, List.getElem?_eq_getElem hi] at q
 rw [← e]; exact q
section
variable {L : List CeR} {a b : Int} {i : Nat} {x : CeR} {B : List Ck} {w : World}
structure CeT (B : List Ck) (c : CeR) : Prop where
 x : CoB c.x
 S : ∀ i, i < c.S.length → StB (c.S.getD i Z8)
 len : c.S.length ≤ 12
 bag : stC c ∈ B
theorem CeT.cb (h : CeT B x) (hb : (ZI B).ok w) : CeB w x := ⟨h.x, Z2h hb h.bag, h.S, Nat.le_trans h.len (by decide)⟩
noncomputable def Zf (L : List CeR) (last tm : Int) : List CeR := L.filter fun c => decide (ZO c.S > last) && decide (ZO c.S ≤ tm)
variable {last tm : Int}
theorem Z7T {D : List CeR} (hD : D = Zf (L.take i) last tm) (hx : L[i]? = some x) (h1 : decide (ZO x.S > last) = true) (h2 : decide (ZO x.S ≤ tm) = true) : D ++ [x] = Zf (L.take (i + 1)) last tm := by
 unfold Zf at hD ⊢
 rw [List.take_add_one, hx, Option.toList_some, List.filter_append, ← hD, List.filter_cons, h1, h2]; rfl
theorem Z7J {D : List CeR} (hD : D = Zf (L.take i) last tm) (hx : L[i]? = some x) (h1 : decide (ZO x.S > last) = false) : D = Zf (L.take (i + 1)) last tm := by
 unfold Zf at hD ⊢
 rw [List.take_add_one, hx, Option.toList_some, List.filter_append, ← hD, List.filter_cons, h1]; simp
theorem Z7M {D : List CeR} (hD : D = Zf (L.take i) last tm) (hx : L[i]? = some x) (h2 : decide (ZO x.S ≤ tm) = false) : D = Zf (L.take (i + 1)) last tm := by
 unfold Zf at hD ⊢
 rw [List.take_add_one, hx, Option.toList_some, List.filter_append, ← hD, List.filter_cons, h2]; simp
theorem Z2o {c : CeR} (h : c ∈ Zf L last tm) : c ∈ L := (List.mem_filter.1 h).1
theorem Z2S : (Zf L last tm).length ≤ L.length := List.length_filter_le ..
noncomputable def ackT (rp : Int) (x : CeR) : Zd := ⟨rp, x.x.cl, x.x.seq, x.x.h, ZO x.S, 0, 0⟩
noncomputable def Z6E (rp : Int) (x : CeR) : Signed := ⟨rp, Z26 (ackT rp x)⟩
noncomputable def Z19 (rp : Int) (Lb : List Signed) (x : CeR) : Zd := ⟨rp, x.x.cl, x.x.seq, x.x.h, ZO x.S, rp, Zt (Zg Lb (Z6E rp x)) (Z6E rp x)⟩
variable {F Cn floor rp : Int} {Lb : List Signed} {y : CeR} {k : Nat}
theorem Z6b {c : CeR} (h : CeT B c) : 0 ≤ ZO c.S ∧ ZO c.S < 18446744073709551616 := by
 unfold ZO
 rcases Nat.mod_two_eq_zero_or_one (Z29 c.S).length with e | e
 ·rw [Z2E e]; decide
 ·have hm := (Z6M e).mem
  unfold Z29 at hm
  obtain ⟨s, hs, he⟩ := List.mem_map.1 hm
  obtain ⟨i, hi, hsi⟩ := List.mem_iff_getElem.1 hs
  have q := (h.S i hi).1
  rw [List.getD_eq_getElem?_getD, List.getElem?_eq_getElem hi, Option.getD_some, hsi] at q
  unfold Z29
  rw [← he]; exact ⟨q.2.2.2.1, q.2.2.2.2⟩
end
end Go.Proofs.YtoaifondpohniaaGreat
