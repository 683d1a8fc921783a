/- WHAT IS PROVED: contracts and plain laws of ShaS. Conditions: stated with each. -/
import Derived.Test.YtenihpghfdcpkaaGreatPV02
import Derived.Test.YtenihpghfdcpkaaGreatPV03
import Derived.Test.YtenihpghfdcpkaaGreatPV06
set_option maxHeartbeats 4000000
set_option maxRecDepth 100000
namespace Go.Proofs.YtenihpghfdcpkaaGreat
open Go.RowKit
def Z0b (x n : Int) : Int := bOr .u32 (x / 2 ^ (min n.toNat 32)) (Z2A .u32 x (32 - n))
def kR : List Int := ([1116352408, 1899447441, 3049323471, 3921009573, 961987163, 1508970993, 2453635748, 2870763221, 3624381080, 310598401, 607225278, 1426881987, 1925078388, 2162078206, 2614888103, 3248222580, 3835390401, 4022224774, 264347078, 604807628, 770255983, 1249150122, 1555081692, 1996064986, 2554220882, 2821834349, 2952996808, 3210313671, 3336571891, 3584528711, 113926993, 338241895, 666307205, 773529912, 1294757372, 1396182291, 1695183700, 1986661051, 2177026350, 2456956037, 2730485921, 2820302411, 3259730800, 3345764771, 3516065817, 3600352804, 4094571909, 275423344, 430227734, 506948616, 659060556, 883997877, 958139571, 1322822218, 1537002063, 1747873779, 1955562222, 2024104815, 2227730452, 2361852424, 2428436474, 2756734187, 3204031479, 3329325298] : List Int)
def ldS (D : List UInt8) (b : Nat) (i : Nat) (A : List Int) : List Int := (A.set i (bOr .u32 (bOr .u32 (bOr .u32 (Z2A .u32 (IntKind.u32.wrap ((((D.drop ((64 * b) + (4 * i))).getD 0 0).toNat : Int))) 24) (Z2A .u32 (IntKind.u32.wrap ((((D.drop ((64 * b) + (4 * i))).getD 1 0).toNat : Int))) 16)) (Z2A .u32 (IntKind.u32.wrap ((((D.drop ((64 * b) + (4 * i))).getD 2 0).toNat : Int))) 8)) (IntKind.u32.wrap ((((D.drop ((64 * b) + (4 * i))).getD 3 0).toNat : Int)))))
def exS (j : Nat) (B : List Int) : List Int := (B.set (j + 16) (IntKind.u32.wrap ((IntKind.u32.wrap ((IntKind.u32.wrap ((B.getD ((j + 16) - 16) 0) + (Z03 .u32 (Z03 .u32 (Z0b (B.getD ((j + 16) - 15) 0) 7) (Z0b (B.getD ((j + 16) - 15) 0) 18)) ((B.getD ((j + 16) - 15) 0) / 8)))) + (B.getD ((j + 16) - 7) 0))) + (Z03 .u32 (Z03 .u32 (Z0b (B.getD ((j + 16) - 2) 0) 17) (Z0b (B.getD ((j + 16) - 2) 0) 19)) ((B.getD ((j + 16) - 2) 0) / 1024)))))
def ruS (B : List Int) (i : Nat) (V : List Int) : List Int := ([IntKind.u32.wrap ((IntKind.u32.wrap ((IntKind.u32.wrap ((IntKind.u32.wrap ((IntKind.u32.wrap ((V.getD 7 0) + (Z03 .u32 (Z03 .u32 (Z0b (V.getD 4 0) 6) (Z0b (V.getD 4 0) 11)) (Z0b (V.getD 4 0) 25)))) + (Z03 .u32 (Z0P .u32 (V.getD 4 0) (V.getD 5 0)) (Z0P .u32 (Z03 .u32 4294967295 (V.getD 4 0)) (V.getD 6 0))))) + (kR.getD i 0))) + (B.getD i 0))) + (IntKind.u32.wrap ((Z03 .u32 (Z03 .u32 (Z0b (V.getD 0 0) 2) (Z0b (V.getD 0 0) 13)) (Z0b (V.getD 0 0) 22)) + (Z03 .u32 (Z03 .u32 (Z0P .u32 (V.getD 0 0) (V.getD 1 0)) (Z0P .u32 (V.getD 0 0) (V.getD 2 0))) (Z0P .u32 (V.getD 1 0) (V.getD 2 0)))))), V.getD 0 0, V.getD 1 0, V.getD 2 0, IntKind.u32.wrap ((V.getD 3 0) + (IntKind.u32.wrap ((IntKind.u32.wrap ((IntKind.u32.wrap ((IntKind.u32.wrap ((V.getD 7 0) + (Z03 .u32 (Z03 .u32 (Z0b (V.getD 4 0) 6) (Z0b (V.getD 4 0) 11)) (Z0b (V.getD 4 0) 25)))) + (Z03 .u32 (Z0P .u32 (V.getD 4 0) (V.getD 5 0)) (Z0P .u32 (Z03 .u32 4294967295 (V.getD 4 0)) (V.getD 6 0))))) + (kR.getD i 0))) + (B.getD i 0)))), V.getD 4 0, V.getD 5 0, V.getD 6 0] : List Int)
def adS (V : List Int) (i : Nat) (X : List Int) : List Int := (X.set i (IntKind.u32.wrap ((X.getD i 0) + (V.getD i 0))))
def ouS (HH : List Int) (i : Nat) (O : List Int) : List Int := ((((O.set (4 * i) (IntKind.u8.wrap ((HH.getD i 0) / 16777216))).set ((4 * i) + 1) (IntKind.u8.wrap ((HH.getD i 0) / 65536))).set ((4 * i) + 2) (IntKind.u8.wrap ((HH.getD i 0) / 256))).set ((4 * i) + 3) (IntKind.u8.wrap (HH.getD i 0)))
def Zd3 (n : Nat) : Nat := (119 - n % 64) % 64
def padP (s : List UInt8) : List UInt8 := s ++ [128] ++ List.replicate (Zd3 s.length) 0
def ZcT (bits : Int) : Nat → List UInt8
 | 0 => []
 | q + 1 => ZcT bits q ++ [UInt8.ofNat (IntKind.u8.wrap (bits / 2 ^ (min (8 * (7 - (q : Int))).toNat 64))).toNat]
def Zf7 (s : List UInt8) : List UInt8 := padP s ++ ZcT ((s.length : Int) * 8) 8
def wLd (D : List UInt8) (b : Nat) : Nat → List Int
 | 0 => List.replicate 64 0
 | i + 1 => ldS D b i (wLd D b i)
def wEx (A : List Int) : Nat → List Int
 | 0 => A
 | j + 1 => exS j (wEx A j)
def wOf (D : List UInt8) (b : Nat) : List Int := wEx (wLd D b 16) 48
def vRu (B HH : List Int) : Nat → List Int
 | 0 => HH
 | i + 1 => ruS B i (vRu B HH i)
def hAd (V HH : List Int) : Nat → List Int
 | 0 => HH
 | i + 1 => adS V i (hAd V HH i)
def ZeX (D : List UInt8) : Nat → List Int
 | 0 => [1779033703, 3144134277, 1013904242, 2773480762, 1359893119, 2600822924, 528734635, 1541459225]
 | b + 1 => hAd (vRu (wOf D b) (ZeX D b) 64) (ZeX D b) 8
def oOf (HH : List Int) : Nat → List Int
 | 0 => List.replicate 32 0
 | i + 1 => ouS HH i (oOf HH i)
theorem ZaC (bits : Int) (q : Nat) : (ZcT bits q).length = q := by
 induction q with
 | zero => rfl
 | succ q ih => simp [ZcT, ih]
theorem Zas (bits : Int) (q : Nat) : ZcT bits (q + 1) = ZcT bits q ++ [UInt8.ofNat (IntKind.u8.wrap (bits / 2 ^ (min (8 * (7 - (q : Int))).toNat 64))).toNat] := rfl
theorem ZaD (s : List UInt8) (j : Nat) : s ++ [128] ++ List.replicate j 0 ++ [0] = s ++ [128] ++ List.replicate (j + 1) 0 := by
 rw [List.replicate_succ', List.append_assoc]
theorem Z2E (z : Int) : 0 ≤ IntKind.u8.wrap z ∧ IntKind.u8.wrap z < 256 := by
 rw [Z3X]; omega
theorem Zen (HH : List Int) (i : Nat) : (oOf HH i).length = 32 := by
 induction i with
 | zero => rfl
 | succ i ih => simp [oOf, ouS, ih]
theorem Z7M {A : List Int} {i : Nat} {z : Int} (h : ∀ x ∈ A, 0 ≤ x ∧ x < 256) (hz : 0 ≤ z ∧ z < 256) : ∀ x ∈ A.set i z, 0 ≤ x ∧ x < 256 := fun x hx => by
 rcases List.mem_or_eq_of_mem_set hx with h1 | rfl
 ·exact h x h1
 ·exact hz
theorem Zey (HH : List Int) (i : Nat) : ∀ x ∈ oOf HH i, 0 ≤ x ∧ x < 256 := by
 induction i with
 | zero => intro x hx; obtain ⟨_, rfl⟩ := List.mem_replicate.1 hx; omega
 | succ i ih => exact Z7M (Z7M (Z7M (Z7M ih (Z2E _)) (Z2E _)) (Z2E _)) (Z2E _)
theorem Z9L {L : List Int} (h : ∀ x ∈ L, 0 ≤ x ∧ x < 256) : L.map (Value.int .u8) = (L.map fun z => UInt8.ofNat z.toNat).map Z51 := by
 rw [List.map_map]
 refine List.map_congr_left fun z hz => ?_
 obtain ⟨h0, h1⟩ := h z hz
 simp only [Function.comp, Z51]
 congr 1
 simp; omega
def ZbL (L : List Int) (h : L.length = 32) : Hash := ⟨L.map fun z => UInt8.ofNat z.toNat, by simp [h]⟩
theorem Z8t (L : List Int) (h : L.length = 32) (hr : ∀ x ∈ L, 0 ≤ x ∧ x < 256) : L.map (Value.int .u8) = hc (ZbL L h) := (Z9L hr).trans (Z98 (ZbL L h)).symm
def Zd4 (s : List UInt8) : List Int := oOf (ZeX (Zf7 s) ((Zf7 s).length / 64)) 8
theorem Zam (s : List UInt8) : (Zd4 s).length = 32 := Zen _ _
theorem ZdL (s : List UInt8) : ∀ x ∈ Zd4 s, 0 ≤ x ∧ x < 256 := Zey _ _
def Z0E (s : List UInt8) : Hash := ZbL (Zd4 s) (Zam s)
theorem Z7e (s : List UInt8) : (Zd4 s).map (Value.int .u8) = hc (Z0E s) := Z8t (Zd4 s) (Zam s) (ZdL s)
end Go.Proofs.YtenihpghfdcpkaaGreat
