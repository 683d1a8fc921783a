/- WHAT IS PROVED: contracts and plain laws of TxtP. Conditions: stated with each. -/
import Derived.Test.YtoaifondpohniaaGreatPL06
import Derived.Test.YtoaifondpohniaaGreatPL17
set_option maxHeartbeats 4000000
set_option maxRecDepth 100000
namespace Go.Proofs.YtoaifondpohniaaGreat
open Go.RowKit
def Z3t (a b : Int) : List UInt8 := [Zf a, Zf b].flatten
def Z05 (s : Za) : List UInt8 := [Z12 s, Z3t s.sb s.sm].flatten
def Z02 (x : Zg) : List UInt8 := [Z00 x.cl x.seq, x.h.l, Zf x.len, Z3t x.sb x.sm].flatten
def Z5Y (S : List Za) : List UInt8 := S.flatMap Z05
def Z01 (c : CeR) : List UInt8 := [Z02 c.x, Zf (c.S.length : Int)].flatten ++ Z5Y c.S
def Z4X (C : List CeR) : List UInt8 := C.flatMap Z01
def Z1l (p : PrR) : List UInt8 := [Zf p.r, Zf p.e, Z0H p.f.toNat, Zf (p.C.length : Int)].flatten ++ Z4X p.C
def Z0f (p : PrR) : List UInt8 := [ZK [112, 114, 111, 109, 105, 115, 101], Z1l p].flatten
def Z1q (s : Za) : List UInt8 := [ZK [97, 99, 107], Z12 s].flatten
theorem Z41 (a b : Int) : (Z3t a b).length ≤ 20 := by
 have h1 := ZO a; have h2 := ZO b
 simp only [Z3t, List.flatten_cons, List.flatten_nil, List.length_append, List.length_nil]; omega
theorem Z1p (s : Za) : (Z05 s).length ≤ 92 := by
 have h1 := Z3u s; have h2 := Z41 s.sb s.sm
 simp only [Z05, List.flatten_cons, List.flatten_nil, List.length_append, List.length_nil]; omega
theorem Z2j (x : Zg) : (Z02 x).length ≤ 82 := by
 have h1 := Z27 x.cl x.seq; have h2 := x.h.len; have h3 := ZO x.len; have h4 := Z41 x.sb x.sm
 simp only [Z02, List.flatten_cons, List.flatten_nil, List.length_append, List.length_nil]; omega
theorem Z5j (s : Za) : (Z1q s).length ≤ 100 := by
 have h1 := Z3u s; have h2 := Z18 [97, 99, 107]
 simp only [List.length_cons, List.length_nil] at h2
 simp only [Z1q, List.flatten_cons, List.flatten_nil, List.length_append, List.length_nil]; omega
section
variable {α : Type} {g : α → List UInt8} {k : Nat}
theorem Z4s (hg : ∀ x, (g x).length ≤ k) : ∀ (L : List α), (L.flatMap g).length ≤ L.length * k
 | [] => by simp
 | x :: L => by
  have h1 := hg x; have h2 := Z4s hg L
  rw [List.flatMap_cons, List.length_append, List.length_cons, Nat.succ_mul]; omega
theorem Z3B : ∀ (L : List α), (∀ x ∈ L, (g x).length ≤ k) → (L.flatMap g).length ≤ L.length * k
 | [], _ => by simp
 | x :: L, hg => by
  have h1 := hg x (by simp); have h2 := Z3B L fun y hy => hg y (by simp [hy])
  rw [List.flatMap_cons, List.length_append, List.length_cons, Nat.succ_mul]; omega
theorem Z3P (L : List α) (d : α) {i : Nat} (h : i < L.length) : (L.take (i + 1)).flatMap g = (L.take i).flatMap g ++ g (L.getD i d) := by
 have e : L.take (i + 1) = L.take i ++ [L.getD i d] := by
  rw [List.take_add_one, List.getElem?_eq_getElem h, List.getD_eq_getElem?_getD, List.getElem?_eq_getElem h]; rfl
 rw [e, List.flatMap_append]; simp only [List.flatMap_cons, List.flatMap_nil, List.append_nil]
end
theorem Z8D (S : List Za) : (Z5Y S).length ≤ S.length * 92 := Z4s Z1p S
theorem Z1C {c : CeR} (h : c.S.length ≤ 100) : (Z01 c).length ≤ 9292 := by
 have h1 := Z2j c.x; have h2 := ZO (c.S.length : Int); have h3 := Z8D c.S
 simp only [Z01, List.flatten_cons, List.flatten_nil, List.length_append, List.length_nil]; omega
theorem Z9q {C : List CeR} (h : ∀ c ∈ C, c.S.length ≤ 100) : (Z4X C).length ≤ C.length * 9292 := Z3B C fun c hc => Z1C (h c hc)
theorem Z4e {p : PrR} (h : ∀ c ∈ p.C, c.S.length ≤ 100) (hl : p.C.length ≤ 64) : (Z1l p).length ≤ 600000 := by
 have h1 := ZO p.r; have h2 := ZO p.e; have h3 := Z2b p.f.toNat; have h4 := ZO (p.C.length : Int); have h5 := Z9q h
 simp only [Z1l, List.flatten_cons, List.flatten_nil, List.length_append, List.length_nil]; omega
theorem Z7N {p : PrR} (h : ∀ c ∈ p.C, c.S.length ≤ 100) (hl : p.C.length ≤ 64) : (Z0f p).length ≤ 600100 := by
 have h1 := Z4e h hl; have h2 := Z18 [112, 114, 111, 109, 105, 115, 101]
 simp only [List.length_cons, List.length_nil] at h2
 simp only [Z0f, List.flatten_cons, List.flatten_nil, List.length_append, List.length_nil]; omega
end Go.Proofs.YtoaifondpohniaaGreat
