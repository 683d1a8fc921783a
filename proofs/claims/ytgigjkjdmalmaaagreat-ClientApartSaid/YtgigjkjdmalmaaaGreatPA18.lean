/- WHAT IS PROVED: contracts and plain laws of SilM, ShaQ. Conditions: stated with each. -/
import Derived.Test.YtgigjkjdmalmaaaGreatPA09
import Derived.Test.YtgigjkjdmalmaaaGreatPA17
set_option maxHeartbeats 4000000
set_option maxRecDepth 100000
namespace Go.Proofs.YtgigjkjdmalmaaaGreat
open Go.RowKit
def rcS (h : Z1J) (s : Z6M) : RcD := ⟨s.p, ⟨0, 1, h, s.t⟩⟩
theorem Z6C {h : Z1J} {a b : Z6M} (e : rcS h a = rcS h b) : a = b := by
 cases a; cases b
 simp only [rcS, RcD.mk.injEq, EntD.mk.injEq] at e
 obtain ⟨rfl, _, _, _, rfl⟩ := e
 rfl
structure Sil (F : Int) (h : Z1J) (S : List (Int × Z6M)) (R : List (Int × RcD)) (op : Bool) : Prop where
 R : R = S.map fun e => (e.1, rcS h e.2)
 op : op = true ↔ Z5h S (F + 1).toNat
section
variable {F mo : Int} {h : Z1J} {S : List (Int × Z6M)} {R : List (Int × RcD)} {op : Bool} {fr : Int} {s : Z6M} {n : Nat}
theorem Sil.nil : Sil F h [] [] false := ⟨rfl, ⟨(fun e => nomatch e), fun e => absurd e Z5Y⟩⟩
theorem Sil.cnt (H : Sil F h S R op) : Z10 (Z0d R fr (rcS h s)) ((Zq (Z0d R fr (rcS h s)) fr).getD rc0) = Z10 (Z0d S fr s) ((Zq (Z0d S fr s) fr).getD sy0) := by
 have e : Z0d R fr (rcS h s) = (Z0d S fr s).map fun e => (e.1, rcS h e.2) := by rw [H.R]; exact Z4f (f := rcS h)
 have hm : fr ∈ (Z0d S fr s).map (·.1) := by
  by_cases q : fr ∈ S.map (·.1)
  ·rw [Z2u q]; exact q
  ·rw [Z1x q]; simp
 rw [e, Z5T (f := rcS h)]
 cases hl : Zq (Z0d S fr s) fr with
 | none => exact absurd hm (Z13.1 hl)
 | some v => exact Z6s (f := rcS h) (fun a b => Z6C)
theorem Sil.no (H : Sil F h S R op) (hc : op = true ∨ (Z10 (Z0d R fr (rcS h s)) ((Zq (Z0d R fr (rcS h s)) fr).getD rc0) : Int) < F + 1) : Sil F h (Z0d S fr s) (Z0d R fr (rcS h s)) op := by
 refine ⟨by rw [H.R]; exact Z4f (f := rcS h), ?_⟩
 rw [Z5X (d := sy0)]
 constructor
 ·exact fun q => .inl (H.op.1 q)
 ·rintro (q | q)
  ·exact H.op.2 q
  ·rcases hc with hc | hc
   ·exact hc
   ·rw [H.cnt] at hc; omega
theorem Sil.place (H : Sil F h S R op) (h0 : op = false) (hF : 1 ≤ F) (hc : F + 1 ≤ (Z10 (Z0d R fr (rcS h s)) ((Zq (Z0d R fr (rcS h s)) fr).getD rc0) : Int)) : ((Zq (Z0d R fr (rcS h s)) fr).getD rc0).i = s.p := by
 by_cases q : fr ∈ S.map (·.1)
 ·have h1 : Z5h S (F + 1).toNat := ⟨_, Z53 (d := sy0) q, by have z := hc; rw [H.cnt, Z2u q] at z; show (F + 1).toNat ≤ Z10 S ((Zq S fr).getD sy0); omega⟩
  have := H.op.2 h1
  rw [h0] at this; cases this
 ·have hR : fr ∉ R.map (·.1) := by rw [H.R, Z4j]; exact q
  rw [Z1O hR]; rfl
end
theorem Z3g {e size n c : Nat} {oa : Option Addr} {xs : List Value} {w : World} (h : (Zd e size (.slice oa n c) n xs).ok w) : ∀ ad, oa = some ad → ad.spot = none := fun ad ha => by
 rcases h.2 with ⟨h1, _⟩ | ⟨g, cap, cur, h1, _⟩
 ·simp only [Value.slice.injEq] at h1
  rw [ha] at h1; simp at h1
 ·simp only [Value.slice.injEq] at h1
  rw [ha] at h1
  obtain ⟨h2, _⟩ := h1
  simp only [Option.some.injEq] at h2
  rw [h2]
theorem Z5E (k : IntKind) (a b : Int) : bOr k a b = bOr k b a := by unfold bOr; rw [BitVec.or_comm]
theorem Z65 (x n s : Int) (hs : s = 32 - n) : bOr .u32 (Z0U .u32 x s) (x / 2 ^ (min (32 - s).toNat 32)) = ZG x n := by
 unfold ZG
 rw [Z5E, hs, show 32 - (32 - n) = n by omega]
def Z5z (s : List UInt8) : Int := bOr .u32 (bOr .u32 (bOr .u32 (Z0U .u32 (IntKind.u32.wrap ((s.getD 0 0).toNat : Int)) 24) (Z0U .u32 (IntKind.u32.wrap ((s.getD 1 0).toNat : Int)) 16)) (Z0U .u32 (IntKind.u32.wrap ((s.getD 2 0).toNat : Int)) 8)) (IntKind.u32.wrap ((s.getD 3 0).toNat : Int))
def wLq (s : List UInt8) : Nat → List Int
 | 0 => List.replicate 64 0
 | i + 1 => (wLq s i).set i (Z5z (s.drop (4 * i)))
def wOq (s : List UInt8) : List Int := wEx (wLq s 16) 48
theorem wLq_eq (D : List UInt8) (b : Nat) (i : Nat) : wLq (D.drop (64 * b)) i = wLd D b i := by
 induction i with
 | zero => rfl
 | succ i ih =>
  show (wLq (D.drop (64 * b)) i).set i (Z5z ((D.drop (64 * b)).drop (4 * i))) = ldS D b i (wLd D b i)
  rw [ih, List.drop_drop]
  rfl
theorem wOq_eq (D : List UInt8) (b : Nat) : wOq (D.drop (64 * b)) = wOf D b := by unfold wOq wOf; rw [wLq_eq]
def Z5g (HH : List Int) (s : List UInt8) : List Int := hAd (vRu (wOq s) HH 64) HH 8
theorem Z5N (D : List UInt8) (b : Nat) : Z6y D (b + 1) = Z5g (Z6y D b) (D.drop (64 * b)) := by unfold Z5g; rw [wOq_eq]; rfl
theorem Z6x (V HH : List Int) (i : Nat) : (hAd V HH i).length = HH.length := by
 induction i with
 | zero => rfl
 | succ i ih => simp [hAd, adS, ih]
theorem Z5W (HH : List Int) (s : List UInt8) : (Z5g HH s).length = HH.length := Z6x _ _ _
def oIn (h : Int) (i : Nat) (O : List Int) : Nat → List Int
 | 0 => O
 | j + 1 => (oIn h i O j).set (4 * i + j) (IntKind.u8.wrap (h / 2 ^ (min (24 - 8 * (j : Int)).toNat 32)))
theorem Z5Z (HH : List Int) (i : Nat) (O : List Int) : oIn (HH.getD i 0) i O 4 = ouS HH i O := by
 unfold ouS
 simp [oIn]
theorem Z59 (bits : Int) (q : Nat) : Z5D bits (q + 1) = Z5D bits q ++ [UInt8.ofNat (IntKind.u8.wrap (bits / 2 ^ (min (56 - 8 * (q : Int)).toNat 64))).toNat] := by
 rw [Z4l, show (8 * (7 - (q : Int))) = 56 - 8 * (q : Int) by omega]
theorem shl3 {n : Nat} (h : n ≤ 1000000) : Z0U .u64 (n : Int) 3 = (n : Int) * 8 := by
 unfold Z0U
 exact Z0W (by rw [show (2 : Int) ^ (min (3 : Int).toNat IntKind.u64.bits) = 8 from rfl]; omega)
theorem Z5x {a : Option Addr} {n c k : Nat} {s : List UInt8} {w : World} (hk : k ≤ n) (h : (ZH (.slice a n c) s).ok w) : (ZH (.slice (if c = k then a else a.map (·.add (k * 1))) (n - k) (c - k)) (s.drop k)).ok w := Z0S (ListAt.dropG (ListAt.ofTxt h) hk)
theorem Z4H {a : Option Addr} {n c k : Nat} {s : List UInt8} {b : Nat} (h : (ZH (.slice (if c = k then a else a.map (·.add (k * 1))) (n - k) (c - k)) (s.drop k)).fp b) : (ZH (.slice a n c) s).fp b := by
 obtain ⟨h0, hb⟩ := h
 refine ⟨by rw [List.length_drop] at h0; omega, ?_⟩
 cases a with
 | none => simp [Value.ownBlock] at hb
 | some ad =>
  rcases ad with ⟨g, o, f⟩
  split at hb
  ·exact hb
  ·simp only [Option.map_some, Value.ownBlock, Addr.add, Option.some.injEq] at hb ⊢
   split at hb <;> exact hb
section
variable {P : Program} {n : Nat} {f : Nat → Value} {w : World} {dst : Option Tmp} {ty : TypeId} {pos : String} {aft : Array Edge} {gd : Option (Nat × Bool)}
theorem Z4A {T E N : TypeId} {x y : Operand} {k ky : IntKind} {A : List Int} {z : Int} {q : Nat} (hT : P.underlying T = some (.array N E)) (hA : A.length = N) (hs : P.cellsOf E = 1) (hc : Z3o P E = true) (hx : ev n f x = .agg ⟨A.map (Value.int k)⟩) (hy : ev n f y = .int ky z) (hz : z = (q : Int)) (hq : q < N) :
  (execOp (ev n f) ⟨dst, .index T x y, ty, pos, aft, gd⟩).run P w = .ok (.value (.int k (A.getD q 0))) w := by
 subst hz
 have hq' : q < A.length := by omega
 simp only [execOp, hx, hy, Instr.index, asIntOf]
 simp [run_underlying hT, hq, Result.andThen, Z1I hc, Z0c hs (by decide), part, List.getD_eq_getElem?_getD, List.getElem?_eq_getElem hq']
end
section
variable {P : Program} {ops : Array Oper} {S : World → Prop} {Q : Exit → Act → World → Prop} {n : Nat} {f : Nat → Value} {w : World} {listed : Array Bool} {fuel : Nat}
theorem h_do3 {o1 o2 o3 : Oper} (i j k : Nat) (hi : ops[i]? = some o1) (hj : ops[j]? = some o2) (hk : ops[k]? = some o3) (hr : Region.ready .any ops listed = [i, j, k]) (hw1 : Z15 ops o1 n f true) (hw2 : Z15 ops o2 n f true) (hw3 : Z15 ops o3 n f true)
  (k1 : ∀ K : Act → World → Prop, (∀ g w', S w' → (WH P ops Q S fuel (listed.setIfInBounds i true) n g w') → K (fr n g) w') → WO P o1 K Q n f w)
  (k2 : ∀ K : Act → World → Prop, (∀ g w', S w' → (WH P ops Q S fuel (listed.setIfInBounds j true) n g w') → K (fr n g) w') → WO P o2 K Q n f w)
  (k3 : ∀ K : Act → World → Prop, (∀ g w', S w' → (WH P ops Q S fuel (listed.setIfInBounds k true) n g w') → K (fr n g) w') → WO P o3 K Q n f w) : WH P ops Q S (fuel + 1) listed n f w := by
 refine ⟨wpAnyH_all hr (by simp) fun q hq => ?_⟩
 rcases List.mem_cons.1 hq with rfl | hq
 ·refine wpOp_step hi fun K' hK => ?_
  rw [if_pos hw1.h]
  exact (k1 K' fun g w' hS hk => hK _ _ ⟨hS, hk.h⟩).h
 rcases List.mem_cons.1 hq with rfl | hq
 ·refine wpOp_step hj fun K' hK => ?_
  rw [if_pos hw2.h]
  exact (k2 K' fun g w' hS hk => hK _ _ ⟨hS, hk.h⟩).h
 ·obtain rfl := List.mem_singleton.1 hq
  refine wpOp_step hk fun K' hK => ?_
  rw [if_pos hw3.h]
  exact (k3 K' fun g w' hS hk => hK _ _ ⟨hS, hk.h⟩).h
end
end Go.Proofs.YtgigjkjdmalmaaaGreat
