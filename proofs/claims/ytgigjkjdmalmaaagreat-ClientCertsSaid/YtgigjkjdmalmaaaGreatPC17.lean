/- WHAT IS PROVED: contracts and plain laws of ShaQ. Conditions: stated with each. -/
import Derived.Test.YtgigjkjdmalmaaaGreatPC09
set_option maxHeartbeats 4000000
set_option maxRecDepth 100000
namespace Go.Proofs.YtgigjkjdmalmaaaGreat
open Go.RowKit
theorem Z72 (k : IntKind) (a b : Int) : bOr k a b = bOr k b a := by unfold bOr; rw [BitVec.or_comm]
theorem Z7n (x n s : Int) (hs : s = 32 - n) : bOr .u32 (Z1d .u32 x s) (x / 2 ^ (min (32 - s).toNat 32)) = ZL x n := by
 unfold ZL
 rw [Z72, hs, show 32 - (32 - n) = n by omega]
def Z6W (s : List UInt8) : Int := bOr .u32 (bOr .u32 (bOr .u32 (Z1d .u32 (IntKind.u32.wrap ((s.getD 0 0).toNat : Int)) 24) (Z1d .u32 (IntKind.u32.wrap ((s.getD 1 0).toNat : Int)) 16)) (Z1d .u32 (IntKind.u32.wrap ((s.getD 2 0).toNat : Int)) 8)) (IntKind.u32.wrap ((s.getD 3 0).toNat : Int))
def wLq (s : List UInt8) : Nat → List Int
 | 0 => List.replicate 64 0
 | i + 1 => (wLq s i).set i (Z6W (s.drop (4 * i)))
def wOq (s : List UInt8) : List Int := wEx (wLq s 16) 48
theorem wLq_eq (D : List UInt8) (b : Nat) (i : Nat) : wLq (D.drop (64 * b)) i = wLd D b i := by
 induction i with
 | zero => rfl
 | succ i ih =>
  show (wLq (D.drop (64 * b)) i).set i (Z6W ((D.drop (64 * b)).drop (4 * i))) = ldS D b i (wLd D b i)
  rw [ih, List.drop_drop]
  rfl
theorem wOq_eq (D : List UInt8) (b : Nat) : wOq (D.drop (64 * b)) = wOf D b := by unfold wOq wOf; rw [wLq_eq]
def Z6y (HH : List Int) (s : List UInt8) : List Int := hAd (vRu (wOq s) HH 64) HH 8
theorem Z7d (D : List UInt8) (b : Nat) : Z7S D (b + 1) = Z6y (Z7S D b) (D.drop (64 * b)) := by unfold Z6y; rw [wOq_eq]; rfl
theorem Z7R (V HH : List Int) (i : Nat) : (hAd V HH i).length = HH.length := by
 induction i with
 | zero => rfl
 | succ i ih => simp [hAd, adS, ih]
theorem Z7h (HH : List Int) (s : List UInt8) : (Z6y HH s).length = HH.length := Z7R _ _ _
def oIn (h : Int) (i : Nat) (O : List Int) : Nat → List Int
 | 0 => O
 | j + 1 => (oIn h i O j).set (4 * i + j) (IntKind.u8.wrap (h / 2 ^ (min (24 - 8 * (j : Int)).toNat 32)))
theorem Z7i (HH : List Int) (i : Nat) (O : List Int) : oIn (HH.getD i 0) i O 4 = ouS HH i O := by
 unfold ouS
 simp [oIn]
theorem Z6r (bits : Int) (q : Nat) : Z70 bits (q + 1) = Z70 bits q ++ [UInt8.ofNat (IntKind.u8.wrap (bits / 2 ^ (min (56 - 8 * (q : Int)).toNat 64))).toNat] := by
 rw [Z5l, show (8 * (7 - (q : Int))) = 56 - 8 * (q : Int) by omega]
theorem shl3 {n : Nat} (h : n ≤ 1000000) : Z1d .u64 (n : Int) 3 = (n : Int) * 8 := by
 unfold Z1d
 exact Z0Z (by rw [show (2 : Int) ^ (min (3 : Int).toNat IntKind.u64.bits) = 8 from rfl]; omega)
theorem Z6S {a : Option Addr} {n c k : Nat} {s : List UInt8} {w : World} (hk : k ≤ n) (h : (ZN (.slice a n c) s).ok w) : (ZN (.slice (if c = k then a else a.map (·.add (k * 1))) (n - k) (c - k)) (s.drop k)).ok w := Z1y (ListAt.dropG (ListAt.ofTxt h) hk)
theorem Z5S {a : Option Addr} {n c k : Nat} {s : List UInt8} {b : Nat} (h : (ZN (.slice (if c = k then a else a.map (·.add (k * 1))) (n - k) (c - k)) (s.drop k)).fp b) : (ZN (.slice a n c) s).fp b := by
 obtain ⟨h0, hb⟩ := h
 refine ⟨by rw [List.length_drop] at h0; omega, ?_⟩
 cases a with
 | none => simp [Value.ownBlock] at hb
 | some ad =>
  rcases ad with ⟨g, o, f⟩
  split at hb
  ·exact hb
  ·simp only [Option.map_some, Value.ownBlock, Addr.add, Option.some.injEq] at hb ⊢
   split at hb <;> exact hb
section
variable {P : Program} {n : Nat} {f : Nat → Value} {w : World} {dst : Option Tmp} {ty : TypeId} {pos : String} {aft : Array Edge} {gd : Option (Nat × Bool)}
theorem Z5G {T E N : TypeId} {x y : Operand} {k ky : IntKind} {A : List Int} {z : Int} {q : Nat} (hT : P.underlying T = some (.array N E)) (hA : A.length = N) (hs : P.cellsOf E = 1) (hc : Z4h P E = true) (hx : ev n f x = .agg ⟨A.map (Value.int k)⟩) (hy : ev n f y = .int ky z) (hz : z = (q : Int)) (hq : q < N) :
  (execOp (ev n f) ⟨dst, .index T x y, ty, pos, aft, gd⟩).run P w = .ok (.value (.int k (A.getD q 0))) w := by
 subst hz
 have hq' : q < A.length := by omega
 simp only [execOp, hx, hy, Instr.index, asIntOf]
 simp [run_underlying hT, hq, Result.andThen, Z26 hc, Z0q hs (by decide), part, List.getD_eq_getElem?_getD, List.getElem?_eq_getElem hq']
end
section
variable {P : Program} {ops : Array Oper} {S : World → Prop} {Q : Exit → Act → World → Prop} {n : Nat} {f : Nat → Value} {w : World} {listed : Array Bool} {fuel : Nat}
theorem h_do3 {o1 o2 o3 : Oper} (i j k : Nat) (hi : ops[i]? = some o1) (hj : ops[j]? = some o2) (hk : ops[k]? = some o3) (hr : Region.ready .any ops listed = [i, j, k]) (hw1 : Z1l ops o1 n f true) (hw2 : Z1l ops o2 n f true) (hw3 : Z1l ops o3 n f true)
  (k1 : ∀ K : Act → World → Prop, (∀ g w', S w' → (WH P ops Q S fuel (listed.setIfInBounds i true) n g w') → K (fr n g) w') → WO P o1 K Q n f w)
  (k2 : ∀ K : Act → World → Prop, (∀ g w', S w' → (WH P ops Q S fuel (listed.setIfInBounds j true) n g w') → K (fr n g) w') → WO P o2 K Q n f w)
  (k3 : ∀ K : Act → World → Prop, (∀ g w', S w' → (WH P ops Q S fuel (listed.setIfInBounds k true) n g w') → K (fr n g) w') → WO P o3 K Q n f w) : WH P ops Q S (fuel + 1) listed n f w := by
 refine ⟨wpAnyH_all hr (by simp) fun q hq => ?_⟩
 rcases List.mem_cons.1 hq with rfl | hq
 ·refine wpOp_step hi fun K' hK => ?_
  rw [if_pos hw1.h]
  exact (k1 K' fun g w' hS hk => hK _ _ ⟨hS, hk.h⟩).h
 rcases List.mem_cons.1 hq with rfl | hq
 ·refine wpOp_step hj fun K' hK => ?_
  rw [if_pos hw2.h]
  exact (k2 K' fun g w' hS hk => hK _ _ ⟨hS, hk.h⟩).h
 ·obtain rfl := List.mem_singleton.1 hq
  refine wpOp_step hk fun K' hK => ?_
  rw [if_pos hw3.h]
  exact (k3 K' fun g w' hS hk => hK _ _ ⟨hS, hk.h⟩).h
end
end Go.Proofs.YtgigjkjdmalmaaaGreat
