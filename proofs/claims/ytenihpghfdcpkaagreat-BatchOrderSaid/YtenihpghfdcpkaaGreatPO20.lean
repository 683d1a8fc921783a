/- WHAT IS PROVED: contracts and plain laws of EntD, TxtP. Conditions: stated with each. -/
import Derived.Test.YtenihpghfdcpkaaGreatPO02
import Derived.Test.YtenihpghfdcpkaaGreatPO06
import Derived.Test.YtenihpghfdcpkaaGreatPO07
set_option maxHeartbeats 4000000
set_option maxRecDepth 100000
namespace Go.Proofs.YtenihpghfdcpkaaGreat
open Go.RowKit
structure CeR where
 x : Zg
 sa : Option Addr
 sc : Nat
 S : List Z9
def Z0Z (c : CeR) : List Value := Zax c.x ++ [.slice c.sa c.S.length c.sc]
theorem Z0W (c : CeR) : (Z0Z c).length = 38 := by simp [Z0Z, Zax, Zb8]
theorem Z5R (c : CeR) : (Z0Z c).all (·.oneCell') = true := by
 simp only [Z0Z, Zax, List.all_append, Z8p]
 simp [Value.oneCell', Z45]
def ce0 : CeR := ⟨⟨0, 0, ZC, 0, 0, 0⟩, none, 0, []⟩
structure PrR where
 r : Int
 e : Int
 f : Int
 ca : Option Addr
 cc : Nat
 sb : Int
 sm : Int
 C : List CeR
def Z0C (p : PrR) : List Value := [i6 p.r, i6 p.e, u6 p.f, .slice p.ca p.C.length p.cc, i6 p.sb, i6 p.sm]
theorem Z2i (p : PrR) : (Z0C p).length = 6 := rfl
theorem Z5l (p : PrR) : (Z0C p).all (·.oneCell') = true := rfl
def pr0 : PrR := ⟨0, 0, 0, none, 0, 0, 0, []⟩
def CeOk (w : World) (c : CeR) : Prop := ListAt Z1T 38 w (.slice c.sa c.S.length c.sc) c.S
def PrOk (w : World) (p : PrR) : Prop := ListAt Z0Z 38 w (.slice p.ca p.C.length p.cc) p.C ∧ ∀ c ∈ p.C, CeOk w c
def Z5f (a b : Int) : List UInt8 := [Z4 a, Z4 b].flatten
def Z0e (s : Z9) : List UInt8 := [Z28 s, Z5f s.sb s.sm].flatten
def ZV (x : Zg) : List UInt8 := [Z0l x.cl x.seq, x.h.l, Z4 x.len, Z5f x.sb x.sm].flatten
def Z76 (S : List Z9) : List UInt8 := S.flatMap Z0e
def Z05 (c : CeR) : List UInt8 := [ZV c.x, Z4 (c.S.length : Int)].flatten ++ Z76 c.S
def Z6h (C : List CeR) : List UInt8 := C.flatMap Z05
def Z1O (p : PrR) : List UInt8 := [Z4 p.r, Z4 p.e, Z1A p.f.toNat, Z4 (p.C.length : Int)].flatten ++ Z6h p.C
def Z1a (p : PrR) : List UInt8 := [Zj zq3, Z1O p].flatten
def Z2T (s : Z9) : List UInt8 := [Zj [97, 99, 107], Z28 s].flatten
theorem Z4J (a b : Int) : (Z5f a b).length ≤ 20 := by
 have h1 := Zv a; have h2 := Zv b
 simp only [Z5f, List.flatten_cons, List.flatten_nil, List.length_append, List.length_nil]; omega
theorem Z1D (s : Z9) : (Z0e s).length ≤ 92 := by
 have h1 := Z4v s; have h2 := Z4J s.sb s.sm
 simp only [Z0e, List.flatten_cons, List.flatten_nil, List.length_append, List.length_nil]; omega
theorem Z2W (x : Zg) : (ZV x).length ≤ 82 := by
 have h1 := Z32 x.cl x.seq; have h2 := x.h.len; have h3 := Zv x.len; have h4 := Z4J x.sb x.sm
 simp only [ZV, List.flatten_cons, List.flatten_nil, List.length_append, List.length_nil]; omega
theorem Z8c (s : Z9) : (Z2T s).length ≤ 100 := by
 have h1 := Z4v s; have h2 := Z0A [97, 99, 107]
 simp only [List.length_cons, List.length_nil] at h2
 simp only [Z2T, List.flatten_cons, List.flatten_nil, List.length_append, List.length_nil]; omega
section
variable {α : Type} {g : α → List UInt8} {k : Nat}
theorem Z5L (hg : ∀ x, (g x).length ≤ k) : ∀ (L : List α), (L.flatMap g).length ≤ L.length * k
 | [] => by simp
 | x :: L => by
  have h1 := hg x; have h2 := Z5L hg L
  rw [List.flatMap_cons, List.length_append, List.length_cons, Nat.succ_mul]; omega
theorem Z4F : ∀ (L : List α), (∀ x ∈ L, (g x).length ≤ k) → (L.flatMap g).length ≤ L.length * k
 | [], _ => by simp
 | x :: L, hg => by
  have h1 := hg x (by simp); have h2 := Z4F L fun y hy => hg y (by simp [hy])
  rw [List.flatMap_cons, List.length_append, List.length_cons, Nat.succ_mul]; omega
theorem Z50 (L : List α) (d : α) {i : Nat} (h : i < L.length) : (L.take (i + 1)).flatMap g = (L.take i).flatMap g ++ g (L.getD i d) := by
 have e : L.take (i + 1) = L.take i ++ [L.getD i d] := by
  rw [List.take_add_one, List.getElem?_eq_getElem h, List.getD_eq_getElem?_getD, List.getElem?_eq_getElem h]; rfl
 rw [e, List.flatMap_append]; simp only [List.flatMap_cons, List.flatMap_nil, List.append_nil]
end
theorem Z9W (S : List Z9) : (Z76 S).length ≤ S.length * 92 := Z5L Z1D S
theorem Z1Z {c : CeR} (h : c.S.length ≤ 100) : (Z05 c).length ≤ 9292 := by
 have h1 := Z2W c.x; have h2 := Zv (c.S.length : Int); have h3 := Z9W c.S
 simp only [Z05, List.flatten_cons, List.flatten_nil, List.length_append, List.length_nil]; omega
theorem ZbA {C : List CeR} (h : ∀ c ∈ C, c.S.length ≤ 100) : (Z6h C).length ≤ C.length * 9292 := Z4F C fun c hc => Z1Z (h c hc)
theorem Z5j {p : PrR} (h : ∀ c ∈ p.C, c.S.length ≤ 100) (hl : p.C.length ≤ 64) : (Z1O p).length ≤ 600000 := by
 have h1 := Zv p.r; have h2 := Zv p.e; have h3 := Z2U p.f.toNat; have h4 := Zv (p.C.length : Int); have h5 := ZbA h
 simp only [Z1O, List.flatten_cons, List.flatten_nil, List.length_append, List.length_nil]; omega
theorem Z9B {p : PrR} (h : ∀ c ∈ p.C, c.S.length ≤ 100) (hl : p.C.length ≤ 64) : (Z1a p).length ≤ 600100 := by
 have h1 := Z5j h hl; have h2 := Z0A zq3
 simp only [List.length_cons, List.length_nil] at h2
 simp only [Z1a, List.flatten_cons, List.flatten_nil, List.length_append, List.length_nil]; omega
end Go.Proofs.YtenihpghfdcpkaaGreat
