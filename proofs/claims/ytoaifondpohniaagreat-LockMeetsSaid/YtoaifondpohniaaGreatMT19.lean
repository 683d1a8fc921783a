/- WHAT IS PROVED: contracts and plain laws of TxtP, Rt3, TabM. Conditions: stated with each. -/
import Derived.Test.YtoaifondpohniaaGreatMT06
import Derived.Test.YtoaifondpohniaaGreatMT15
import Derived.Test.YtoaifondpohniaaGreatMT17
import Derived.Test.YtoaifondpohniaaGreatMT18
set_option maxHeartbeats 4000000
set_option maxRecDepth 100000
namespace Go.Proofs.YtoaifondpohniaaGreat
open Go.RowKit
def Z67 (a b : Int) : List UInt8 := [Zc a, Zc b].flatten
def Z0n (s : Ze) : List UInt8 := [Z18 s, Z67 s.sb s.sm].flatten
def Z0F (x : Zk) : List UInt8 := [ZN x.cl x.seq, x.h.l, Zc x.len, Z67 x.sb x.sm].flatten
def Z6f (S : List Ze) : List UInt8 := S.flatMap Z0n
def Z0b (c : CeR) : List UInt8 := [Z0F c.x, Zc (c.S.length : Int)].flatten ++ Z6f c.S
def Z8o (C : List CeR) : List UInt8 := C.flatMap Z0b
def Z5b (p : PrR) : List UInt8 := [Zc p.r, Zc p.e, Z0G p.f.toNat, Zc (p.C.length : Int)].flatten ++ Z8o p.C
def ZB (p : PrR) : List UInt8 := [Zv [112, 114, 111, 109, 105, 115, 101], Z5b p].flatten
def Z2C (s : Ze) : List UInt8 := [Zv [97, 99, 107], Z18 s].flatten
theorem Z48 (a b : Int) : (Z67 a b).length ≤ 20 := by
 have h1 := ZR a; have h2 := ZR b
 simp only [Z67, List.flatten_cons, List.flatten_nil, List.length_append, List.length_nil]; omega
theorem Z1x (s : Ze) : (Z0n s).length ≤ 92 := by
 have h1 := Z4F s; have h2 := Z48 s.sb s.sm
 simp only [Z0n, List.flatten_cons, List.flatten_nil, List.length_append, List.length_nil]; omega
theorem Z31 (x : Zk) : (Z0F x).length ≤ 82 := by
 have h1 := Z28 x.cl x.seq; have h2 := x.h.len; have h3 := ZR x.len; have h4 := Z48 x.sb x.sm
 simp only [Z0F, List.flatten_cons, List.flatten_nil, List.length_append, List.length_nil]; omega
theorem Z6E (s : Ze) : (Z2C s).length ≤ 100 := by
 have h1 := Z4F s; have h2 := Z12 [97, 99, 107]
 simp only [List.length_cons, List.length_nil] at h2
 simp only [Z2C, List.flatten_cons, List.flatten_nil, List.length_append, List.length_nil]; omega
section
variable {α : Type} {g : α → List UInt8} {k : Nat}
theorem Z47 (hg : ∀ x, (g x).length ≤ k) : ∀ (L : List α), (L.flatMap g).length ≤ L.length * k
 | [] => by simp
 | x :: L => by
  have h1 := hg x; have h2 := Z47 hg L
  rw [List.flatMap_cons, List.length_append, List.length_cons, Nat.succ_mul]; omega
theorem Z3B : ∀ (L : List α), (∀ x ∈ L, (g x).length ≤ k) → (L.flatMap g).length ≤ L.length * k
 | [], _ => by simp
 | x :: L, hg => by
  have h1 := hg x (by simp); have h2 := Z3B L fun y hy => hg y (by simp [hy])
  rw [List.flatMap_cons, List.length_append, List.length_cons, Nat.succ_mul]; omega
theorem Z4X (L : List α) (d : α) {i : Nat} (h : i < L.length) : (L.take (i + 1)).flatMap g = (L.take i).flatMap g ++ g (L.getD i d) := by
 have e : L.take (i + 1) = L.take i ++ [L.getD i d] := by
  rw [List.take_add_one, List.getElem?_eq_getElem h, List.getD_eq_getElem?_getD, List.getElem?_eq_getElem h]; rfl
 rw [e, List.flatMap_append]; simp only [List.flatMap_cons, List.flatMap_nil, List.append_nil]
end
theorem Z6x (S : List Ze) : (Z6f S).length ≤ S.length * 92 := Z47 Z1x S
theorem Z1K {c : CeR} (h : c.S.length ≤ 100) : (Z0b c).length ≤ 9292 := by
 have h1 := Z31 c.x; have h2 := ZR (c.S.length : Int); have h3 := Z6x c.S
 simp only [Z0b, List.flatten_cons, List.flatten_nil, List.length_append, List.length_nil]; omega
theorem Z7q {C : List CeR} (h : ∀ c ∈ C, c.S.length ≤ 100) : (Z8o C).length ≤ C.length * 9292 := Z3B C fun c hc => Z1K (h c hc)
theorem Z4H {p : PrR} (h : ∀ c ∈ p.C, c.S.length ≤ 100) (hl : p.C.length ≤ 64) : (Z5b p).length ≤ 600000 := by
 have h1 := ZR p.r; have h2 := ZR p.e; have h3 := Z2g p.f.toNat; have h4 := ZR (p.C.length : Int); have h5 := Z7q h
 simp only [Z5b, List.flatten_cons, List.flatten_nil, List.length_append, List.length_nil]; omega
theorem Z7Y {p : PrR} (h : ∀ c ∈ p.C, c.S.length ≤ 100) (hl : p.C.length ≤ 64) : (ZB p).length ≤ 600100 := by
 have h1 := Z4H h hl; have h2 := Z12 [112, 114, 111, 109, 105, 115, 101]
 simp only [List.length_cons, List.length_nil] at h2
 simp only [ZB, List.flatten_cons, List.flatten_nil, List.length_append, List.length_nil]; omega
def StB (s : Ze) : Prop := (s.r ≤ 9223372036854775807 ∧ s.cl ≤ 9223372036854775807 ∧ s.seq ≤ 9223372036854775807 ∧ 0 ≤ s.t ∧ s.t < 18446744073709551616) ∧ s.sb ≤ 9223372036854775807 ∧ s.sm ≤ 9223372036854775807
def CoB (x : Zk) : Prop := (x.cl ≤ 9223372036854775807 ∧ x.seq ≤ 9223372036854775807 ∧ x.len ≤ 9223372036854775807) ∧ x.sb ≤ 9223372036854775807 ∧ x.sm ≤ 9223372036854775807
structure CeB (w : World) (c : CeR) : Prop where
 x : CoB c.x
 at_ : ListAt Z0o 38 w (.slice c.sa c.S.length c.sc) c.S
 S : ∀ i, i < c.S.length → StB (c.S.getD i Zf)
 len : c.S.length ≤ 100
theorem CeB.keep {w w0 w' : World} {G : List Ck} {c : CeR} (h : CeB w c) (H : Sat w0 G w') (j : Nat) (hj : G[j]? = some (Z5 w fun _ => False)) : CeB w' c := ⟨h.x, ListAt.now H j hj h.at_, h.S, h.len⟩
theorem Z6z {w : World} {C : List CeR} (h : ∀ i, i < C.length → CeB w (C.getD i ce0)) : ∀ c ∈ C, c.S.length ≤ 100 := fun c hm => by
 obtain ⟨i, hi, e⟩ := List.mem_iff_getElem.1 hm
 have q := (h i hi).len
 rw [List.getD_eq_getElem?_getD, List.getElem?_eq_getElem hi] at q
 rw [← e]; exact q
section
variable {L : List CeR} {a b : Int} {i : Nat} {x : CeR} {B : List Ck} {w : World}
structure CeT (B : List Ck) (c : CeR) : Prop where
 x : CoB c.x
 S : ∀ i, i < c.S.length → StB (c.S.getD i Zf)
 len : c.S.length ≤ 12
 bag : stC c ∈ B
theorem CeT.cb (h : CeT B x) (hb : (ZL B).ok w) : CeB w x := ⟨h.x, Z3g hb h.bag, h.S, Nat.le_trans h.len (by decide)⟩
noncomputable def Zo (L : List CeR) (last tm : Int) : List CeR := L.filter fun c => decide (Z8 c.S > last) && decide (Z8 c.S ≤ tm)
variable {last tm : Int}
theorem Z8I {D : List CeR} (hD : D = Zo (L.take i) last tm) (hx : L[i]? = some x) (h1 : decide (Z8 x.S > last) = true) (h2 : decide (Z8 x.S ≤ tm) = true) : D ++ [x] = Zo (L.take (i + 1)) last tm := by
 unfold Zo at hD ⊢
 rw [List.take_add_one, hx, Option.toList_some, List.filter_append, ← hD, List.filter_cons, h1, h2]; rfl
theorem Z90 {D : List CeR} (hD : D = Zo (L.take i) last tm) (hx : L[i]? = some x) (h1 : decide (Z8 x.S > last) = false) : D = Zo (L.take (i + 1)) last tm := by
 unfold Zo at hD ⊢
 rw [List.take_add_one, hx, Option.toList_some, List.filter_append, ← hD, List.filter_cons, h1]; simp
theorem Z8x {D : List CeR} (hD : D = Zo (L.take i) last tm) (hx : L[i]? = some x) (h2 : decide (Z8 x.S ≤ tm) = false) : D = Zo (L.take (i + 1)) last tm := by
 unfold Zo at hD ⊢
 rw [List.take_add_one, hx, Option.toList_some, List.filter_append, ← hD, List.filter_cons, h2]; simp
theorem Z2O {c : CeR} (h : c ∈ Zo L last tm) : c ∈ L := (List.mem_filter.1 h).1
theorem Z6R : (Zo L last tm).length ≤ L.length := List.length_filter_le ..
noncomputable def ackT (rp : Int) (x : CeR) : Ze := ⟨rp, x.x.cl, x.x.seq, x.x.h, Z8 x.S, 0, 0⟩
noncomputable def Z68 (rp : Int) (x : CeR) : Signed := ⟨rp, Z2C (ackT rp x)⟩
noncomputable def Z1t (rp : Int) (Lb : List Signed) (x : CeR) : Ze := ⟨rp, x.x.cl, x.x.seq, x.x.h, Z8 x.S, rp, Zm (Zg Lb (Z68 rp x)) (Z68 rp x)⟩
def ltNm (x y : CeR) : Bool := decide (x.x.cl < y.x.cl) || (decide (x.x.cl = y.x.cl) && decide (x.x.seq < y.x.seq))
variable {F Cn floor rp : Int} {Lb : List Signed} {y : CeR} {k : Nat}
theorem Z72 {c : CeR} (h : CeT B c) : 0 ≤ Z8 c.S ∧ Z8 c.S < 18446744073709551616 := by
 unfold Z8
 rcases Nat.mod_two_eq_zero_or_one (Z2z c.S).length with e | e
 ·rw [Z3w e]; decide
 ·have hm := (Z6N e).mem
  unfold Z2z at hm
  obtain ⟨s, hs, he⟩ := List.mem_map.1 hm
  obtain ⟨i, hi, hsi⟩ := List.mem_iff_getElem.1 hs
  have q := (h.S i hi).1
  rw [List.getD_eq_getElem?_getD, List.getElem?_eq_getElem hi, Option.getD_some, hsi] at q
  unfold Z2z
  rw [← he]; exact ⟨q.2.2.2.1, q.2.2.2.2⟩
end
end Go.Proofs.YtoaifondpohniaaGreat
