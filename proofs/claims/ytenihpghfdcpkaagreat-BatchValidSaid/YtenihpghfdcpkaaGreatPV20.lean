/- WHAT IS PROVED: contracts and plain laws of EntD, TxtP. Conditions: stated with each. -/
import Derived.Test.YtenihpghfdcpkaaGreatPV02
import Derived.Test.YtenihpghfdcpkaaGreatPV06
set_option maxHeartbeats 4000000
set_option maxRecDepth 100000
namespace Go.Proofs.YtenihpghfdcpkaaGreat
open Go.RowKit
structure CeR where
 x : Zj
 sa : Option Addr
 sc : Nat
 S : List Zb
def Z1o (c : CeR) : List Value := ZaK c.x ++ [.slice c.sa c.S.length c.sc]
theorem Z13 (c : CeR) : (Z1o c).length = 38 := by simp [Z1o, ZaK, Zck]
theorem Z6N (c : CeR) : (Z1o c).all (·.oneCell') = true := by
 simp only [Z1o, ZaK, List.all_append, Z98]
 simp [Value.oneCell', Z51]
def ce0 : CeR := ⟨⟨0, 0, Zz, 0, 0, 0⟩, none, 0, []⟩
structure PrR where
 r : Int
 e : Int
 f : Int
 ca : Option Addr
 cc : Nat
 sb : Int
 sm : Int
 C : List CeR
def Z0T (p : PrR) : List Value := [i6 p.r, i6 p.e, u6 p.f, .slice p.ca p.C.length p.cc, i6 p.sb, i6 p.sm]
theorem Z0g (p : PrR) : (Z0T p).length = 6 := rfl
theorem Z6e (p : PrR) : (Z0T p).all (·.oneCell') = true := rfl
def pr0 : PrR := ⟨0, 0, 0, none, 0, 0, 0, []⟩
def CeOk (w : World) (c : CeR) : Prop := ListAt Z2O 38 w (.slice c.sa c.S.length c.sc) c.S
def PrOk (w : World) (p : PrR) : Prop := ListAt Z1o 38 w (.slice p.ca p.C.length p.cc) p.C ∧ ∀ c ∈ p.C, CeOk w c
def Z50 (a b : Int) : List UInt8 := [Z5 a, Z5 b].flatten
def Z0p (s : Zb) : List UInt8 := [Z27 s, Z50 s.sb s.sm].flatten
def Z07 (x : Zj) : List UInt8 := [Z0y x.cl x.seq, x.h.l, Z5 x.len, Z50 x.sb x.sm].flatten
def Z6W (S : List Zb) : List UInt8 := S.flatMap Z0p
def Z0e (c : CeR) : List UInt8 := [Z07 c.x, Z5 (c.S.length : Int)].flatten ++ Z6W c.S
def Z5P (C : List CeR) : List UInt8 := C.flatMap Z0e
def Z1O (p : PrR) : List UInt8 := [Z5 p.r, Z5 p.e, Z1I p.f.toNat, Z5 (p.C.length : Int)].flatten ++ Z5P p.C
def Z11 (p : PrR) : List UInt8 := [Zm zq3, Z1O p].flatten
def Z2L (s : Zb) : List UInt8 := [Zm [97, 99, 107], Z27 s].flatten
theorem Z4C (a b : Int) : (Z50 a b).length ≤ 20 := by
 have h1 := ZA a; have h2 := ZA b
 simp only [Z50, List.flatten_cons, List.flatten_nil, List.length_append, List.length_nil]; omega
theorem Z1E (s : Zb) : (Z0p s).length ≤ 92 := by
 have h1 := Z4s s; have h2 := Z4C s.sb s.sm
 simp only [Z0p, List.flatten_cons, List.flatten_nil, List.length_append, List.length_nil]; omega
theorem Z2J (x : Zj) : (Z07 x).length ≤ 82 := by
 have h1 := Z2V x.cl x.seq; have h2 := x.h.len; have h3 := ZA x.len; have h4 := Z4C x.sb x.sm
 simp only [Z07, List.flatten_cons, List.flatten_nil, List.length_append, List.length_nil]; omega
theorem Z81 (s : Zb) : (Z2L s).length ≤ 100 := by
 have h1 := Z4s s; have h2 := Z0K [97, 99, 107]
 simp only [List.length_cons, List.length_nil] at h2
 simp only [Z2L, List.flatten_cons, List.flatten_nil, List.length_append, List.length_nil]; omega
section
variable {α : Type} {g : α → List UInt8} {k : Nat}
theorem Z5u (hg : ∀ x, (g x).length ≤ k) : ∀ (L : List α), (L.flatMap g).length ≤ L.length * k
 | [] => by simp
 | x :: L => by
  have h1 := hg x; have h2 := Z5u hg L
  rw [List.flatMap_cons, List.length_append, List.length_cons, Nat.succ_mul]; omega
theorem Z4m : ∀ (L : List α), (∀ x ∈ L, (g x).length ≤ k) → (L.flatMap g).length ≤ L.length * k
 | [], _ => by simp
 | x :: L, hg => by
  have h1 := hg x (by simp); have h2 := Z4m L fun y hy => hg y (by simp [hy])
  rw [List.flatMap_cons, List.length_append, List.length_cons, Nat.succ_mul]; omega
theorem Z4I (L : List α) (d : α) {i : Nat} (h : i < L.length) : (L.take (i + 1)).flatMap g = (L.take i).flatMap g ++ g (L.getD i d) := by
 have e : L.take (i + 1) = L.take i ++ [L.getD i d] := by
  rw [List.take_add_one, List.getElem?_eq_getElem h, List.getD_eq_getElem?_getD, List.getElem?_eq_getElem h]; rfl
 rw [e, List.flatMap_append]; simp only [List.flatMap_cons, List.flatMap_nil, List.append_nil]
end
theorem Z9l (S : List Zb) : (Z6W S).length ≤ S.length * 92 := Z5u Z1E S
theorem Z1V {c : CeR} (h : c.S.length ≤ 100) : (Z0e c).length ≤ 9292 := by
 have h1 := Z2J c.x; have h2 := ZA (c.S.length : Int); have h3 := Z9l c.S
 simp only [Z0e, List.flatten_cons, List.flatten_nil, List.length_append, List.length_nil]; omega
theorem Zb2 {C : List CeR} (h : ∀ c ∈ C, c.S.length ≤ 100) : (Z5P C).length ≤ C.length * 9292 := Z4m C fun c hc => Z1V (h c hc)
theorem Z53 {p : PrR} (h : ∀ c ∈ p.C, c.S.length ≤ 100) (hl : p.C.length ≤ 64) : (Z1O p).length ≤ 600000 := by
 have h1 := ZA p.r; have h2 := ZA p.e; have h3 := Z2I p.f.toNat; have h4 := ZA (p.C.length : Int); have h5 := Zb2 h
 simp only [Z1O, List.flatten_cons, List.flatten_nil, List.length_append, List.length_nil]; omega
theorem Z8D {p : PrR} (h : ∀ c ∈ p.C, c.S.length ≤ 100) (hl : p.C.length ≤ 64) : (Z11 p).length ≤ 600100 := by
 have h1 := Z53 h hl; have h2 := Z0K zq3
 simp only [List.length_cons, List.length_nil] at h2
 simp only [Z11, List.flatten_cons, List.flatten_nil, List.length_append, List.length_nil]; omega
end Go.Proofs.YtenihpghfdcpkaaGreat
