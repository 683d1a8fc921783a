/- WHAT IS PROVED: contracts and plain laws of ShaR. Conditions: stated with each. -/
import Derived.Test.YtenihpghfdcpkaaGreatPV02
import Derived.Test.YtenihpghfdcpkaaGreatPV05
import Derived.Test.YtenihpghfdcpkaaGreatPV06
import Derived.Test.YtenihpghfdcpkaaGreatPV10
import Derived.Test.YtenihpghfdcpkaaGreatPV11
set_option maxHeartbeats 4000000
set_option maxRecDepth 100000
namespace Go.Proofs.YtenihpghfdcpkaaGreat
open Go.RowKit
abbrev Z5x : List Value := ([(.int .u32 (0)), (.int .u32 (0)), (.int .u32 (0)), (.int .u32 (0)), (.int .u32 (0)), (.int .u32 (0)), (.int .u32 (0)), (.int .u32 (0)), (.int .u32 (0)), (.int .u32 (0)), (.int .u32 (0)), (.int .u32 (0)), (.int .u32 (0)), (.int .u32 (0)), (.int .u32 (0)), (.int .u32 (0)), (.int .u32 (0)), (.int .u32 (0)), (.int .u32 (0)), (.int .u32 (0)), (.int .u32 (0)), (.int .u32 (0)), (.int .u32 (0)), (.int .u32 (0))] : LV) ++ ([(.int .u32 (0)), (.int .u32 (0)), (.int .u32 (0)), (.int .u32 (0)), (.int .u32 (0)), (.int .u32 (0)), (.int .u32 (0)), (.int .u32 (0)), (.int .u32 (0)), (.int .u32 (0)), (.int .u32 (0)), (.int .u32 (0)), (.int .u32 (0)), (.int .u32 (0)), (.int .u32 (0)), (.int .u32 (0)), (.int .u32 (0)), (.int .u32 (0)), (.int .u32 (0)), (.int .u32 (0)), (.int .u32 (0)), (.int .u32 (0)), (.int .u32 (0)), (.int .u32 (0))] : LV) ++ ([(.int .u32 (0)), (.int .u32 (0)), (.int .u32 (0)), (.int .u32 (0)), (.int .u32 (0)), (.int .u32 (0)), (.int .u32 (0)), (.int .u32 (0)), (.int .u32 (0)), (.int .u32 (0)), (.int .u32 (0)), (.int .u32 (0)), (.int .u32 (0)), (.int .u32 (0)), (.int .u32 (0)), (.int .u32 (0))] : LV)
abbrev Z86 : List Value := ([(.int .u32 (0)), (.int .u32 (0)), (.int .u32 (0)), (.int .u32 (0)), (.int .u32 (0)), (.int .u32 (0)), (.int .u32 (0)), (.int .u32 (0))] : LV)
abbrev Z1z (p0 : Option Addr) (p1 : List UInt8) (p2 : Nat) : Ck := Zo 5 1 (.slice p0 p1.length p2) p1.length (p1.flatMap Zx)
theorem Z2K (w : World) (x n : Int) (hn : 0 ≤ n ∧ n ≤ 32) :
  Calls Tryz.prog 112 #[(.int .u32 (x)), u6 n] w fun e w' => e = .returned (.int .u32 (Z0b x n)) ∧ Upd [] w w' := by
 have H := Sat.start0 w
 refine Zg Tryz.func112 rfl 13 rfl kn ?_
 refine zsl <| wv 4 (.int .u32 (0)) <| Z1a <| wv 5 (.int .u32 (x)) <| wv 6 (vu n) <| wv 7 (.int .u32 (x / 2 ^ (min n.toNat 32))) ?_ (hr := Z5b rfl rfl om rfl (Int.le_of_lt (Int.pow_pos (by decide))))
 refine wv 8 (.int .u32 (x)) <| wv 9 (vu n) <| wv 10 (vu (32 - n)) ?_ (hr := Z0A (z := 32 - n) kr (Z1h om))
 refine wv 11 (.int .u32 (Z2A .u32 x (32 - n))) ?_ (hr := Z7a rfl rfl om)
 let A0 : Value := .int .u32 (bOr .u32 (x / 2 ^ (min n.toNat 32)) (Z2A .u32 x (32 - n)))
 refine wv 12 A0 <| wv 4 A0 <| znt <| Zk <| ze1 A0 ?_
 exact ⟨rfl, H.upd 0 rfl [] ne⟩
theorem ZaZ (w : World) :
  Calls Tryz.prog 111 #[] w fun e w' => e = .returned (.agg ⟨kR.map (Value.int .u32)⟩) ∧ Upd [] w w' := by
 have H := Sat.start0 w
 refine Zg Tryz.func111 rfl 2 rfl kn ?_
 refine zsl <| zy <| zda (Z5x) H ?_
 intro b2 w3 (H4 : Sat w [zR w, Z0 b2 199 (Z5x)] w3)
 have H5 : Sat w [zR w, ZV .u32 b2 199 64 (List.replicate 64 (0 : Int))] w3 := Sat.toW H4 1 .u32 (List.replicate 64 (0 : Int)) kr (by first | rfl | simp)
 refine kk <| Z1a <| wv 1 (.agg ⟨(([(.int .u32 (1116352408)), (.int .u32 (1899447441)), (.int .u32 (3049323471)), (.int .u32 (3921009573)), (.int .u32 (961987163)), (.int .u32 (1508970993)), (.int .u32 (2453635748)), (.int .u32 (2870763221)), (.int .u32 (3624381080)), (.int .u32 (310598401)), (.int .u32 (607225278)), (.int .u32 (1426881987)), (.int .u32 (1925078388)), (.int .u32 (2162078206)), (.int .u32 (2614888103)), (.int .u32 (3248222580)), (.int .u32 (3835390401)), (.int .u32 (4022224774)), (.int .u32 (264347078)), (.int .u32 (604807628)), (.int .u32 (770255983)), (.int .u32 (1249150122)), (.int .u32 (1555081692)), (.int .u32 (1996064986))] : LV) ++ ([(.int .u32 (2554220882)), (.int .u32 (2821834349)), (.int .u32 (2952996808)), (.int .u32 (3210313671)), (.int .u32 (3336571891)), (.int .u32 (3584528711)), (.int .u32 (113926993)), (.int .u32 (338241895)), (.int .u32 (666307205)), (.int .u32 (773529912)), (.int .u32 (1294757372)), (.int .u32 (1396182291)), (.int .u32 (1695183700)), (.int .u32 (1986661051)), (.int .u32 (2177026350)), (.int .u32 (2456956037)), (.int .u32 (2730485921)), (.int .u32 (2820302411)), (.int .u32 (3259730800)), (.int .u32 (3345764771)), (.int .u32 (3516065817)), (.int .u32 (3600352804)), (.int .u32 (4094571909)), (.int .u32 (275423344))] : LV) ++ ([(.int .u32 (430227734)), (.int .u32 (506948616)), (.int .u32 (659060556)), (.int .u32 (883997877)), (.int .u32 (958139571)), (.int .u32 (1322822218)), (.int .u32 (1537002063)), (.int .u32 (1747873779)), (.int .u32 (1955562222)), (.int .u32 (2024104815)), (.int .u32 (2227730452)), (.int .u32 (2361852424)), (.int .u32 (2428436474)), (.int .u32 (2756734187)), (.int .u32 (3204031479)), (.int .u32 (3329325298))] : LV))⟩) <| zy <| Z0u .u32 (B := ([1116352408, 1899447441, 3049323471, 3921009573, 961987163, 1508970993, 2453635748, 2870763221, 3624381080, 310598401, 607225278, 1426881987, 1925078388, 2162078206, 2614888103, 3248222580, 3835390401, 4022224774, 264347078, 604807628, 770255983, 1249150122, 1555081692, 1996064986, 2554220882, 2821834349, 2952996808, 3210313671, 3336571891, 3584528711, 113926993, 338241895, 666307205, 773529912, 1294757372, 1396182291, 1695183700, 1986661051, 2177026350, 2456956037, 2730485921, 2820302411, 3259730800, 3345764771, 3516065817, 3600352804, 4094571909, 275423344, 430227734, 506948616, 659060556, 883997877, 958139571, 1322822218, 1537002063, 1747873779, 1955562222, 2024104815, 2227730452, 2361852424, 2428436474, 2756734187, 3204031479, 3329325298] : List Int)) rfl H5 1 rfl rfl rfl kr kr (by decide) (by first | rfl | simp) fun w7 H8 => ?_
 refine kk <| znt <| Zk ?_
 have hAL_ : ([1116352408, 1899447441, 3049323471, 3921009573, 961987163, 1508970993, 2453635748, 2870763221, 3624381080, 310598401, 607225278, 1426881987, 1925078388, 2162078206, 2614888103, 3248222580, 3835390401, 4022224774, 264347078, 604807628, 770255983, 1249150122, 1555081692, 1996064986, 2554220882, 2821834349, 2952996808, 3210313671, 3336571891, 3584528711, 113926993, 338241895, 666307205, 773529912, 1294757372, 1396182291, 1695183700, 1986661051, 2177026350, 2456956037, 2730485921, 2820302411, 3259730800, 3345764771, 3516065817, 3600352804, 4094571909, 275423344, 430227734, 506948616, 659060556, 883997877, 958139571, 1322822218, 1537002063, 1747873779, 1955562222, 2024104815, 2227730452, 2361852424, 2428436474, 2756734187, 3204031479, 3329325298] : List Int).length = 64 := Z12 (H8.at 1 rfl)
 have H9 := Sat.offW H8 1 rfl
 refine Z5v rfl (Z02 (vs := (([1116352408, 1899447441, 3049323471, 3921009573, 961987163, 1508970993, 2453635748, 2870763221, 3624381080, 310598401, 607225278, 1426881987, 1925078388, 2162078206, 2614888103, 3248222580, 3835390401, 4022224774, 264347078, 604807628, 770255983, 1249150122, 1555081692, 1996064986, 2554220882, 2821834349, 2952996808, 3210313671, 3336571891, 3584528711, 113926993, 338241895, 666307205, 773529912, 1294757372, 1396182291, 1695183700, 1986661051, 2177026350, 2456956037, 2730485921, 2820302411, 3259730800, 3345764771, 3516065817, 3600352804, 4094571909, 275423344, 430227734, 506948616, 659060556, 883997877, 958139571, 1322822218, 1537002063, 1747873779, 1955562222, 2024104815, 2227730452, 2361852424, 2428436474, 2756734187, 3204031479, 3329325298] : List Int).map (Value.int .u32))) rfl kr (by rw [List.length_map, hAL_]; kernel_rfl) (by rw [List.length_map, hAL_]; decide) (H9.at 1 rfl) (List.take_length)) ?_
 exact ⟨rfl, H9.upd 0 rfl [] ne⟩
theorem ZdT (w : World) (sa : Option Addr) (sc : Nat) (s : List UInt8) (hs : ListAt Zx 1 w (.slice sa s.length sc) s) (hl : s.length ≤ 1000000) :
  Calls Tryz.prog 78 #[(.slice sa s.length sc)] w fun e w' => e = .returned (.agg ⟨hc (Z0E s)⟩) ∧ Upd [] w w' := by
 have H := Sat.start0 w
 refine Zg Tryz.func78 rfl 269 rfl kn ?_
 refine zsl <| zy <| zda (hc Zz) H ?_
 intro b2 w3 (H4 : Sat w [zR w, Z0 b2 61 (hc Zz)] w3)
 have H5 : Sat w [zR w, ZV .u8 b2 61 32 (List.replicate 32 (0 : Int))] w3 := Sat.toW H4 1 .u8 (List.replicate 32 (0 : Int)) kr (by first | rfl | simp)
 refine kk <| Z1a <| zy <| zdq 24 (ZaZ w3) H5 fun w7 H8 => ?_
 refine kk <| zy <| zda (Z5x) H8 ?_
 intro b11 w12 (H13 : Sat w [zR w, ZV .u8 b2 61 32 (List.replicate 32 (0 : Int)), Z0 b11 199 (Z5x)] w12)
 have H14 : Sat w [zR w, ZV .u8 b2 61 32 (List.replicate 32 (0 : Int)), ZV .u32 b11 199 64 (List.replicate 64 (0 : Int))] w12 := Sat.toW H13 2 .u32 (List.replicate 64 (0 : Int)) kr (by first | rfl | simp)
 refine kk <| zy <| Z0u .u32 (B := kR) rfl H14 2 rfl rfl rfl kr kr (by decide) (by first | rfl | simp) fun w16 H17 => ?_
 refine kk <| Z1a <| wv 25 (.agg ⟨([(.int .u32 (1779033703)), (.int .u32 (3144134277)), (.int .u32 (1013904242)), (.int .u32 (2773480762)), (.int .u32 (1359893119)), (.int .u32 (2600822924)), (.int .u32 (528734635)), (.int .u32 (1541459225))] : LV)⟩) <| zy <| zda (Z86) H17 ?_
 intro b19 w20 (H21 : Sat w [zR w, ZV .u8 b2 61 32 (List.replicate 32 (0 : Int)), ZV .u32 b11 199 64 kR, Z0 b19 201 (Z86)] w20)
 have H22 : Sat w [zR w, ZV .u8 b2 61 32 (List.replicate 32 (0 : Int)), ZV .u32 b11 199 64 kR, ZV .u32 b19 201 8 ([0, 0, 0, 0, 0, 0, 0, 0] : List Int)] w20 := Sat.toW H21 3 .u32 ([0, 0, 0, 0, 0, 0, 0, 0] : List Int) kr (by first | rfl | simp)
 refine kk <| zy <| Z0u .u32 (B := ([1779033703, 3144134277, 1013904242, 2773480762, 1359893119, 2600822924, 528734635, 1541459225] : List Int)) rfl H22 3 rfl rfl rfl kr kr (by decide) (by first | rfl | simp) fun w24 H25 => ?_
 refine kk <| Z1a <| wv 26 (.slice sa s.length sc) <| zy <| Z5U (T := 84) (e := 5) (size := 1) (bytes := 1) rfl H25 kr Zw Z1c (ListAt.now H25 0 rfl hs) rfl rfl om om fun v27 w28 H29 => ?_
 obtain ⟨a30, c31, rfl⟩ := Z3 (H29.at 4 rfl)
 let Aa : Value := .int .u8 (0)
 refine kk <| zy <| Z2z 5 1 1 Aa [(0, (.int .u8 (128)))] ([(.int .u8 (128))] : LV) H29 fun b33 w34 H35 => ?_
 let A1 := ([128] : List UInt8)
 have H36 := H35.ct 5 rfl (Zo 5 1 (.slice (some ⟨b33, 0, none⟩) 1 1) 1 (A1.flatMap Zx)) (by rw [(show ([.int .u8 128] : LV) = A1.flatMap Zx by kernel_rfl)])
 refine kk <| zy <| Z0t (T := 84) (e := 5) (size := 1) (bytes := 1) rfl H36 kr 4 5 rfl rfl rfl rfl (Z0q Zx Z1c A1) om om fun v38 w39 H40 => ?_
 have H43 := H40.ct 4 rfl (Zo 5 1 v38 ((s ++ A1).length) ((s ++ A1).flatMap Zx)) ja
 obtain ⟨a41, c42, rfl⟩ := Z3 (H43.at 4 rfl)
 refine kk <| wv 5 (.slice a41 ((s ++ A1).length) c42) <| znt <| Z9 <| Zh ?_
 have hD0 : (s ++ A1) = s ++ [128] ++ List.replicate 0 0 := (List.append_nil _).symm
 refine ZB [5, 30, 31, 32, 33, 34, 35, 36] (fun F_ W_ m_ => ∃ (j : Nat) (a : Option Addr) (c : Nat) (D : List UInt8), F_ 5 = (.slice a D.length c) ∧ (j ≤ Zd3 s.length) ∧ (D = s ++ [128] ++ List.replicate j 0) ∧ (True) ∧ Sat w [zR w, ZV .u8 b2 61 32 (List.replicate 32 (0 : Int)), ZV .u32 b11 199 64 kR, ZV .u32 b19 201 8 ([1779033703, 3144134277, 1013904242, 2773480762, 1359893119, 2600822924, 528734635, 1541459225] : List Int), (Z1z a D c), Zo 5 1 (.slice (some ⟨b33, 0, none⟩) 1 1) 1 (A1.flatMap Zx)] W_ ∧ m_ = 64 - j) _ ⟨0, a41, c42, (s ++ A1), (by first | rfl | go_num), (Nat.zero_le _), hD0, trivial, H43, rfl⟩ ?_
 rintro g44 w45 _ ⟨j, a, c, D, v47, hj, hD, ht_, H46, rfl⟩
 refine Zn 5 _ v47 ?_
 have hDl : D.length = s.length + 1 + j := by rw [hD]; simp; omega
 have hj2 : j ≤ (119 - s.length % 64) % 64 := hj
 refine Z9 <| zsl <| wv 30 (.slice a D.length c) <| wv 31 (vi D.length) <| wv 32 (vi ((D.length : Int) % 64)) ?_ (hr := Z7E kr om om)
 refine wv 33 (.bool (!(decide (((D.length : Int) % 64) = 56)))) <| znt ?_
 refine (ZY (!(decide (((D.length : Int) % 64) = 56)))).elim (fun b49 => ?_) (fun b49 => ?_)
 ·have g50 := Z7 b49
  have g51 := of_decide_eq_false g50
  refine Z48 _ b49 ?_
  refine Zp <| ztn <| Zh <| ZG <| wv 34 (.slice a D.length c) <| zy <| Z2z 5 1 1 Aa [(0, Aa)] ([Aa] : LV) H46 fun b55 w56 H57 => ?_
  let A6 := ([0] : List UInt8)
  have H58 := H57.ct 6 rfl (Zo 5 1 (.slice (some ⟨b55, 0, none⟩) 1 1) 1 (A6.flatMap Zx)) (by rw [(show ([.int .u8 0] : LV) = A6.flatMap Zx by kernel_rfl)])
  refine kk <| zy <| Z0t (T := 84) (e := 5) (size := 1) (bytes := 1) rfl H58 kr 4 6 rfl rfl rfl rfl (Z0q Zx Z1c A6) om om fun v60 w61 H62 => ?_
  have H65 := H62.ct 4 rfl (Zo 5 1 v60 ((D ++ A6).length) ((D ++ A6).flatMap Zx)) ja
  obtain ⟨a63, c64, rfl⟩ := Z3 (H65.at 4 rfl)
  refine kk <| wv 5 (.slice a63 ((D ++ A6).length) c64) <| ZL <| Z6 ?_
  have H66 := H65.pk [0, 1, 2, 3, 4, 5]
  refine Za ?_ _ ⟨(j + 1), a63, c64, (D ++ A6), (show ((.slice a63 ((D ++ A6).length) c64) : Value) = _ by first | rfl | go_num), (by unfold Zd3; omega), (by rw [hD]; exact ZaD s j), trivial, H66, rfl⟩ om
  exact zs
 have g67 := Z2 b49
 have g68 := of_decide_eq_true g67
 refine Z3L _ b49 ?_
 refine zxb <| ztn <| zsl <| wv 37 (.slice sa s.length sc) <| wv 38 (vi s.length) <| wv 39 (vu s.length) ?_ (hr := Z0A (z := (s.length : Int)) kr (Z1h om))
 refine wv 40 (vu ((s.length : Int) * 8)) ?_ (hr := Z0A (z := (s.length : Int) * 8) kr (Z1h om))
 refine wv 6 (vu ((s.length : Int) * 8)) <| znt <| Z9 <| zsl <| wv 7 (vi 7) <| znt <| Zh ?_
 obtain ⟨P, hP⟩ : ∃ P, P = D := ⟨_, rfl⟩
 have hPl : P.length % 64 = 56 := by rw [hP]; omega
 have hP2 : P = padP s := by rw [hP, hD]; unfold padP; rw [show j = Zd3 s.length by unfold Zd3; omega]
 have hPn : P.length ≤ s.length + 100 := by rw [hP, hDl]; omega
 refine ZB ([5, 7] ++ List.range' 41 13) (fun F_ W_ m_ => ∃ (q : Nat) (a : Option Addr) (c : Nat) (D : List UInt8), F_ 7 = (vi (7 - (q : Int))) ∧ F_ 5 = (.slice a D.length c) ∧ (q ≤ 8) ∧ (D = P ++ ZcT ((s.length : Int) * 8) q) ∧ Sat w [zR w, ZV .u8 b2 61 32 (List.replicate 32 (0 : Int)), ZV .u32 b11 199 64 kR, ZV .u32 b19 201 8 ([1779033703, 3144134277, 1013904242, 2773480762, 1359893119, 2600822924, 528734635, 1541459225] : List Int), (Z1z a D c), Zo 5 1 (.slice (some ⟨b33, 0, none⟩) 1 1) 1 (A1.flatMap Zx)] W_ ∧ m_ = 8 - q) _ ⟨0, a, c, D, (show ((vi 7) : Value) = _ by first | rfl | go_num), (by first | rfl | go_num), (Nat.zero_le _), (by rw [hP]; exact (List.append_nil _).symm), H46, rfl⟩ ?_
 rintro g71 w72 _ ⟨q, a, c, D, v74, v75, hq, hD, H73, rfl⟩
 refine Zn 7 _ v74 ?_
 refine Zn 5 _ v75 ?_
 have hDl : D.length = P.length + q := by rw [hD, List.length_append, ZaC]
 refine Z9 <| zsl <| wv 41 (vi (7 - (q : Int))) <| wv 42 (.bool (decide ((7 - (q : Int)) ≥ 0))) <| znt ?_
 refine zid (fun b77 g78 => ?_) fun b77 g93 => ?_
 ·refine Zp <| ztn <| Z9 <| Zh <| ZG <| wv 45 (.slice a D.length c) <| wv 46 (vu ((s.length : Int) * 8)) <| wv 47 (vi (7 - (q : Int))) <| zwi 48 (8 * (7 - (q : Int))) <| wv 49 (vu (8 * (7 - (q : Int)))) ?_ (hr := Z0A (z := 8 * (7 - (q : Int))) kr (Z1h om))
  refine wv 50 (vu (((s.length : Int) * 8) / 2 ^ (min (8 * (7 - (q : Int))).toNat 64))) ?_ (hr := Z5b rfl rfl om rfl (Int.le_of_lt (Int.pow_pos (by decide))))
  refine wv 51 (.int .u8 (IntKind.u8.wrap (((s.length : Int) * 8) / 2 ^ (min (8 * (7 - (q : Int))).toNat 64)))) <| zy <| Z2z 5 1 1 Aa [(0, (.int .u8 (IntKind.u8.wrap (((s.length : Int) * 8) / 2 ^ (min (8 * (7 - (q : Int))).toNat 64)))))] ([(.int .u8 (IntKind.u8.wrap (((s.length : Int) * 8) / 2 ^ (min (8 * (7 - (q : Int))).toNat 64))))] : LV) H73 fun b81 w82 H83 => ?_
  have H84 := H83.ct 6 rfl (Zo 5 1 (.slice (some ⟨b81, 0, none⟩) 1 1) 1 ([UInt8.ofNat (IntKind.u8.wrap (((s.length : Int) * 8) / 2 ^ (min (8 * (7 - (q : Int))).toNat 64))).toNat].flatMap Zx)) (by rw [Z33 (Z2E _)])
  refine kk <| zy <| Z0t (T := 84) (e := 5) (size := 1) (bytes := 1) rfl H84 kr 4 6 rfl rfl rfl rfl (Z0q Zx Z1c [UInt8.ofNat (IntKind.u8.wrap (((s.length : Int) * 8) / 2 ^ (min (8 * (7 - (q : Int))).toNat 64))).toNat]) om om fun v86 w87 H88 => ?_
  have H91 := H88.ct 4 rfl (Zo 5 1 v86 ((D ++ [UInt8.ofNat (IntKind.u8.wrap (((s.length : Int) * 8) / 2 ^ (min (8 * (7 - (q : Int))).toNat 64))).toNat]).length) ((D ++ [UInt8.ofNat (IntKind.u8.wrap (((s.length : Int) * 8) / 2 ^ (min (8 * (7 - (q : Int))).toNat 64))).toNat]).flatMap Zx)) ja
  obtain ⟨a89, c90, rfl⟩ := Z3 (H91.at 4 rfl)
  refine kk <| wv 5 (.slice a89 ((D ++ [UInt8.ofNat (IntKind.u8.wrap (((s.length : Int) * 8) / 2 ^ (min (8 * (7 - (q : Int))).toNat 64))).toNat]).length) c90) <| ZL <| Z6 <| ztn <| ZG <| wv 43 (vi (7 - (q : Int))) <| zwi 44 ((7 - (q : Int)) - 1) <| wv 7 (vi ((7 - (q : Int)) - 1)) <| ZL ?_
  have H92 := H91.pk [0, 1, 2, 3, 4, 5]
  refine Za ?_ _ ⟨(q + 1), a89, c90, (D ++ [UInt8.ofNat (IntKind.u8.wrap (((s.length : Int) * 8) / 2 ^ (min (8 * (7 - (q : Int))).toNat 64))).toNat]), (show ((vi ((7 - (q : Int)) - 1)) : Value) = _ by first | rfl | go_num | exact congrArg (Value.int .i64) om), (show ((.slice a89 ((D ++ [UInt8.ofNat (IntKind.u8.wrap (((s.length : Int) * 8) / 2 ^ (min (8 * (7 - (q : Int))).toNat 64))).toNat]).length) c90) : Value) = _ by first | rfl | go_num | exact congrArg (Value.int .i64) om), om, (by rw [hD]; exact (List.append_assoc _ _ _).trans (congrArg (P ++ ·) (Zas _ q).symm)), H92, rfl⟩ om
  exact zs
 refine zxb <| ztn <| Z9 <| zsl <| wv 8 (vi 0) <| znt <| Zh ?_
 have hDm : D = Zf7 s := by unfold Zf7; rw [hD, ← hP2, show q = 8 by omega]
 obtain ⟨nb, hnb⟩ : ∃ nb, nb = D.length / 64 := ⟨_, rfl⟩
 have hml : D.length = 64 * nb := by omega
 refine ZB (List.range' 8 14 ++ List.range' 54 176) (fun F_ W_ m_ => ∃ (b : Nat) (HH : List Int), F_ 8 = (vi (64 * (b : Int))) ∧ (b ≤ nb) ∧ (HH = ZeX D b) ∧ Sat w [zR w, ZV .u8 b2 61 32 (List.replicate 32 (0 : Int)), ZV .u32 b11 199 64 kR, ZV .u32 b19 201 8 HH, (Z1z a D c), Zo 5 1 (.slice (some ⟨b33, 0, none⟩) 1 1) 1 (A1.flatMap Zx)] W_ ∧ m_ = nb - b) _ ⟨0, ([1779033703, 3144134277, 1013904242, 2773480762, 1359893119, 2600822924, 528734635, 1541459225] : List Int), (show ((vi 0) : Value) = _ by first | rfl | go_num), (Nat.zero_le _), rfl, H73, rfl⟩ ?_
 rintro g95 w96 _ ⟨b, HH, v98, hb, hHH, H97, rfl⟩
 refine Zn 8 _ v98 ?_
 refine Z9 <| zsl <| wv 54 (vi (64 * (b : Int))) <| wv 55 (.slice a D.length c) <| wv 56 (vi D.length) <| wv 57 (.bool (decide ((64 * (b : Int)) < (D.length : Int)))) <| znt ?_
 refine zid (fun b100 g101 => ?_) fun b100 g221 => ?_
 ·refine Zp <| ztn <| Z9 <| Zh <| zsl <| zy <| zda (Z5x) H97 ?_
  intro b104 w105 (H106 : Sat w [zR w, ZV .u8 b2 61 32 (List.replicate 32 (0 : Int)), ZV .u32 b11 199 64 kR, ZV .u32 b19 201 8 HH, (Z1z a D c), Zo 5 1 (.slice (some ⟨b33, 0, none⟩) 1 1) 1 (A1.flatMap Zx), Z0 b104 199 (Z5x)] w105)
  have H107 : Sat w [zR w, ZV .u8 b2 61 32 (List.replicate 32 (0 : Int)), ZV .u32 b11 199 64 kR, ZV .u32 b19 201 8 HH, (Z1z a D c), Zo 5 1 (.slice (some ⟨b33, 0, none⟩) 1 1) 1 (A1.flatMap Zx), ZV .u32 b104 199 64 (List.replicate 64 (0 : Int))] w105 := Sat.toW H106 6 .u32 (List.replicate 64 (0 : Int)) kr (by first | rfl | simp)
  refine kk <| znt <| Z9 <| zsl <| wv 10 (vi 0) <| znt <| Zh ?_
  have hb1 : b < nb := by omega
  refine ZB ([10, 11] ++ List.range' 60 34) (fun F_ W_ m_ => ∃ (i : Nat) (A : List Int), F_ 10 = (vi i) ∧ (i ≤ 16) ∧ (A = wLd D b i) ∧ Sat w [zR w, ZV .u8 b2 61 32 (List.replicate 32 (0 : Int)), ZV .u32 b11 199 64 kR, ZV .u32 b19 201 8 HH, (Z1z a D c), Zo 5 1 (.slice (some ⟨b33, 0, none⟩) 1 1) 1 (A1.flatMap Zx), ZV .u32 b104 199 64 A] W_ ∧ m_ = 16 - i) _ ⟨0, (List.replicate 64 (0 : Int)), (show ((vi 0) : Value) = _ by first | rfl | go_num), (Nat.zero_le _), rfl, H107, rfl⟩ ?_
  rintro g108 w109 _ ⟨i, A, v111, hi, hA, H110, rfl⟩
  refine Zn 10 _ v111 ?_
  refine Z9 <| zsl <| wv 60 (vi i) <| wv 61 (.bool (decide ((i : Int) < 16))) <| znt ?_
  refine zid (fun b113 g114 => ?_) fun b113 g135 => ?_
  ·refine Zp <| ztn <| Z9 <| Zh <| zsl <| wv 64 (.slice a D.length c) <| wv 65 (vi (64 * (b : Int))) <| wv 66 (vi i) <| zwi 67 (4 * (i : Int)) <| zwi 68 ((64 * (b : Int)) + (4 * (i : Int))) ?_
   refine wv 69 (.slice (if c = ((64 * b) + (4 * i)) then a else a.map (·.add (((64 * b) + (4 * i)) * 1))) (D.length - ((64 * b) + (4 * i))) (c - ((64 * b) + (4 * i)))) ?_ (hr := Z35 (E := 5) (q := ((64 * b) + (4 * i))) kr kr rfl rfl rfl om)
   refine wv 11 (.slice (if c = ((64 * b) + (4 * i)) then a else a.map (·.add (((64 * b) + (4 * i)) * 1))) (D.length - ((64 * b) + (4 * i))) (c - ((64 * b) + (4 * i)))) <| znt ?_
   obtain ⟨g116, o117, c118, e119⟩ := Z4G (ListAt.dropG (k := ((64 * b) + (4 * i))) (ListAt.row (enc := Zx) (sz := 1) Zw (by decide) (H110.at 4 rfl)) om) (show 0 < (D.drop ((64 * b) + (4 * i))).length by (simp only [List.length_drop]; omega))
   obtain ⟨g120, o121, c122, e123⟩ := Z4G (ListAt.dropG (k := ((64 * b) + (4 * i))) (ListAt.row (enc := Zx) (sz := 1) Zw (by decide) (H110.at 4 rfl)) om) (show 0 < (D.drop ((64 * b) + (4 * i))).length by (simp only [List.length_drop]; omega))
   refine Z0a H110 [zR w, ZV .u8 b2 61 32 (List.replicate 32 (0 : Int)), ZV .u32 b11 199 64 kR, ZV .u32 b19 201 8 HH, (Z1z a D c), Zo 5 1 (.slice (some ⟨b33, 0, none⟩) 1 1) 1 (A1.flatMap Zx)] 25 rfl kr (fun Hx => (Hx.pk [0, 1, 2, 3, 4, 5])) ?_
   intro w124 H125 S126
   refine hv0 0 S126 70 (vi i) <| hv0 1 S126 71 (.slice (if c = ((64 * b) + (4 * i)) then a else a.map (·.add (((64 * b) + (4 * i)) * 1))) (D.length - ((64 * b) + (4 * i))) (c - ((64 * b) + (4 * i)))) ?_
   obtain ⟨g127, o128, c129, e130⟩ := Z4G (ListAt.dropG (k := ((64 * b) + (4 * i))) (ListAt.row (enc := Zx) (sz := 1) Zw (by decide) (H125.at 4 rfl)) om) (show 0 < (D.drop ((64 * b) + (4 * i))).length by (simp only [List.length_drop]; omega))
   refine Z0V 2 rfl kr kr kr (fun _ _ _ h => h) S126 (Zc rfl) (d := 72) (v := (.pointer (some ⟨g127, o128 + ((0 : Int)).toNat * 1, none⟩))) rfl (fun _ H' => (Z8 (E := 5) kr kr kn rfl e130 rfl om (by (simp only [List.length_drop]; omega)))) ?_
   refine hv0 3 S126 73 (.int .u8 ((((D.drop ((64 * b) + (4 * i))).getD 0 0).toNat : Int))) ?_ (he := fun _ H' => (zl1 (Z2U (by have q := (ListAt.dropG (k := ((64 * b) + (4 * i))) (ListAt.row (enc := Zx) (sz := 1) Zw (by decide) (H'.at 4 rfl)) om); rw [e130] at q; exact q) (show 0 < (D.drop ((64 * b) + (4 * i))).length by (simp only [List.length_drop]; omega)) (show o128 + ((0 : Int)).toNat * 1 = o128 + 0 by omega))))
   refine hv0 4 S126 74 (.int .u32 (IntKind.u32.wrap ((((D.drop ((64 * b) + (4 * i))).getD 0 0).toNat : Int)))) <| hv0 5 S126 75 (.int .u32 (Z2A .u32 (IntKind.u32.wrap ((((D.drop ((64 * b) + (4 * i))).getD 0 0).toNat : Int))) 24)) ?_ (he := fun _ H' => (Z7a rfl rfl (by decide)))
   refine hv0 6 S126 76 (.slice (if c = ((64 * b) + (4 * i)) then a else a.map (·.add (((64 * b) + (4 * i)) * 1))) (D.length - ((64 * b) + (4 * i))) (c - ((64 * b) + (4 * i)))) <| Z0V 7 rfl kr kr kr (fun _ _ _ h => h) S126 (Zc rfl) (d := 77) (v := (.pointer (some ⟨g127, o128 + ((1 : Int)).toNat * 1, none⟩))) rfl (fun _ H' => (Z8 (E := 5) kr kr kn rfl e130 rfl om (by (simp only [List.length_drop]; omega)))) ?_
   refine hv0 8 S126 78 (.int .u8 ((((D.drop ((64 * b) + (4 * i))).getD 1 0).toNat : Int))) ?_ (he := fun _ H' => (zl1 (Z2U (by have q := (ListAt.dropG (k := ((64 * b) + (4 * i))) (ListAt.row (enc := Zx) (sz := 1) Zw (by decide) (H'.at 4 rfl)) om); rw [e130] at q; exact q) (show 1 < (D.drop ((64 * b) + (4 * i))).length by (simp only [List.length_drop]; omega)) (show o128 + ((1 : Int)).toNat * 1 = o128 + 1 by omega))))
   refine hv0 9 S126 79 (.int .u32 (IntKind.u32.wrap ((((D.drop ((64 * b) + (4 * i))).getD 1 0).toNat : Int)))) <| hv0 10 S126 80 (.int .u32 (Z2A .u32 (IntKind.u32.wrap ((((D.drop ((64 * b) + (4 * i))).getD 1 0).toNat : Int))) 16)) ?_ (he := fun _ H' => (Z7a rfl rfl (by decide)))
   refine hv0 11 S126 81 (.int .u32 (bOr .u32 (Z2A .u32 (IntKind.u32.wrap ((((D.drop ((64 * b) + (4 * i))).getD 0 0).toNat : Int))) 24) (Z2A .u32 (IntKind.u32.wrap ((((D.drop ((64 * b) + (4 * i))).getD 1 0).toNat : Int))) 16))) <| hv0 12 S126 82 (.slice (if c = ((64 * b) + (4 * i)) then a else a.map (·.add (((64 * b) + (4 * i)) * 1))) (D.length - ((64 * b) + (4 * i))) (c - ((64 * b) + (4 * i)))) <| Z0V 13 rfl kr kr kr (fun _ _ _ h => h) S126 (Zc rfl) (d := 83) (v := (.pointer (some ⟨g127, o128 + ((2 : Int)).toNat * 1, none⟩))) rfl (fun _ H' => (Z8 (E := 5) kr kr kn rfl e130 rfl om (by (simp only [List.length_drop]; omega)))) ?_
   refine hv0 14 S126 84 (.int .u8 ((((D.drop ((64 * b) + (4 * i))).getD 2 0).toNat : Int))) ?_ (he := fun _ H' => (zl1 (Z2U (by have q := (ListAt.dropG (k := ((64 * b) + (4 * i))) (ListAt.row (enc := Zx) (sz := 1) Zw (by decide) (H'.at 4 rfl)) om); rw [e130] at q; exact q) (show 2 < (D.drop ((64 * b) + (4 * i))).length by (simp only [List.length_drop]; omega)) (show o128 + ((2 : Int)).toNat * 1 = o128 + 2 by omega))))
   refine hv0 15 S126 85 (.int .u32 (IntKind.u32.wrap ((((D.drop ((64 * b) + (4 * i))).getD 2 0).toNat : Int)))) <| hv0 16 S126 86 (.int .u32 (Z2A .u32 (IntKind.u32.wrap ((((D.drop ((64 * b) + (4 * i))).getD 2 0).toNat : Int))) 8)) ?_ (he := fun _ H' => (Z7a rfl rfl (by decide)))
   refine hv0 17 S126 87 (.int .u32 (bOr .u32 (bOr .u32 (Z2A .u32 (IntKind.u32.wrap ((((D.drop ((64 * b) + (4 * i))).getD 0 0).toNat : Int))) 24) (Z2A .u32 (IntKind.u32.wrap ((((D.drop ((64 * b) + (4 * i))).getD 1 0).toNat : Int))) 16)) (Z2A .u32 (IntKind.u32.wrap ((((D.drop ((64 * b) + (4 * i))).getD 2 0).toNat : Int))) 8))) <| hv0 18 S126 88 (.slice (if c = ((64 * b) + (4 * i)) then a else a.map (·.add (((64 * b) + (4 * i)) * 1))) (D.length - ((64 * b) + (4 * i))) (c - ((64 * b) + (4 * i)))) <| Z0V 19 rfl kr kr kr (fun _ _ _ h => h) S126 (Zc rfl) (d := 89) (v := (.pointer (some ⟨g127, o128 + ((3 : Int)).toNat * 1, none⟩))) rfl (fun _ H' => (Z8 (E := 5) kr kr kn rfl e130 rfl om (by (simp only [List.length_drop]; omega)))) ?_
   refine hv0 20 S126 90 (.int .u8 ((((D.drop ((64 * b) + (4 * i))).getD 3 0).toNat : Int))) ?_ (he := fun _ H' => (zl1 (Z2U (by have q := (ListAt.dropG (k := ((64 * b) + (4 * i))) (ListAt.row (enc := Zx) (sz := 1) Zw (by decide) (H'.at 4 rfl)) om); rw [e130] at q; exact q) (show 3 < (D.drop ((64 * b) + (4 * i))).length by (simp only [List.length_drop]; omega)) (show o128 + ((3 : Int)).toNat * 1 = o128 + 3 by omega))))
   refine hv0 21 S126 91 (.int .u32 (IntKind.u32.wrap ((((D.drop ((64 * b) + (4 * i))).getD 3 0).toNat : Int)))) <| hv0 22 S126 92 (.int .u32 (bOr .u32 (bOr .u32 (bOr .u32 (Z2A .u32 (IntKind.u32.wrap ((((D.drop ((64 * b) + (4 * i))).getD 0 0).toNat : Int))) 24) (Z2A .u32 (IntKind.u32.wrap ((((D.drop ((64 * b) + (4 * i))).getD 1 0).toNat : Int))) 16)) (Z2A .u32 (IntKind.u32.wrap ((((D.drop ((64 * b) + (4 * i))).getD 2 0).toNat : Int))) 8)) (IntKind.u32.wrap ((((D.drop ((64 * b) + (4 * i))).getD 3 0).toNat : Int))))) <| hv0 23 S126 93 (.pointer (some ⟨b104, 0 + ((i : Int)).toNat * 1, none⟩)) ?_ (he := fun _ H' => (ZT (E := 198) (N := 64) kr kr kn rfl rfl om om))
   refine zhy 24 ?_
   refine Z2w .u32 rfl H125 6 rfl rfl rfl kr (show 0 + ((i : Int)).toNat * 1 = i by omega) (show i < 64 by omega) ?_
   intro w132 H133
   have S134 := H133.pk [0, 1, 2, 3, 4, 5]
   refine kh S134 <| zhf <| Z6 <| ztn <| ZG <| wv 62 (vi i) <| zwi 63 ((i : Int) + 1) <| wv 10 (vi ((i : Int) + 1)) <| ZL <| Za ?_ _ ⟨(i + 1), (A.set i (bOr .u32 (bOr .u32 (bOr .u32 (Z2A .u32 (IntKind.u32.wrap ((((D.drop ((64 * b) + (4 * i))).getD 0 0).toNat : Int))) 24) (Z2A .u32 (IntKind.u32.wrap ((((D.drop ((64 * b) + (4 * i))).getD 1 0).toNat : Int))) 16)) (Z2A .u32 (IntKind.u32.wrap ((((D.drop ((64 * b) + (4 * i))).getD 2 0).toNat : Int))) 8)) (IntKind.u32.wrap ((((D.drop ((64 * b) + (4 * i))).getD 3 0).toNat : Int))))), (show ((vi ((i : Int) + 1)) : Value) = _ by first | rfl | go_num | exact congrArg (Value.int .i64) om), om, (by rw [hA]; rfl), H133, rfl⟩ om
   exact zs
  refine zxb <| ztn <| Z9 <| zsl <| wv 12 (vi 16) <| znt <| Zh ?_
  obtain rfl : i = 16 := by omega
  refine ZB ([12, 13, 14] ++ List.range' 94 41) (fun F_ W_ m_ => ∃ (j : Nat) (B : List Int), F_ 12 = (vi ((j : Int) + 16)) ∧ (j ≤ 48) ∧ (B = wEx A j) ∧ Sat w [zR w, ZV .u8 b2 61 32 (List.replicate 32 (0 : Int)), ZV .u32 b11 199 64 kR, ZV .u32 b19 201 8 HH, (Z1z a D c), Zo 5 1 (.slice (some ⟨b33, 0, none⟩) 1 1) 1 (A1.flatMap Zx), ZV .u32 b104 199 64 B] W_ ∧ m_ = 48 - j) _ ⟨0, A, (show ((vi 16) : Value) = _ by first | rfl | go_num), (Nat.zero_le _), rfl, H110, rfl⟩ ?_
  rintro g137 w138 _ ⟨j, B, v140, hj, hB, H139, rfl⟩
  refine Zn 12 _ v140 ?_
  refine Z9 <| zsl <| wv 94 (vi ((j : Int) + 16)) <| wv 95 (.bool (decide (((j : Int) + 16) < 64))) <| znt ?_
  refine zid (fun b142 g143 => ?_) fun b142 g174 => ?_
  ·refine Zp <| ztn <| Z9 <| Zh <| Z9 <| zqs H139 ?_
   refine qv 98 (vi ((j : Int) + 16)) <| qv 99 (vi (((j : Int) + 16) - 15)) ?_ (hr := fun _ H' => (Z0A (z := ((j : Int) + 16) - 15) kr (IntWalk.i64_in _ om)))
   refine qv 100 (.pointer (some ⟨b104, 0 + (((j : Int) + 16) - 15).toNat * 1, none⟩)) ?_ (hr := fun _ H' => (ZT (E := 198) (N := 64) kr kr kn rfl rfl om om))
   let A4 : Value := .int .u32 (B.getD ((j + 16) - 15) 0)
   refine qv 101 A4 ?_ (hr := fun _ H' => (zl1 (ZM (H'.at 6 rfl) (show ((j + 16) - 15) < 64 by omega) (show 0 + (((j : Int) + 16) - 15).toNat * 1 = ((j + 16) - 15) by omega))))
   refine qv 102 (vi ((j : Int) + 16)) <| qv 103 (vi (((j : Int) + 16) - 2)) ?_ (hr := fun _ H' => (Z0A (z := ((j : Int) + 16) - 2) kr (IntWalk.i64_in _ om)))
   refine qv 104 (.pointer (some ⟨b104, 0 + (((j : Int) + 16) - 2).toNat * 1, none⟩)) ?_ (hr := fun _ H' => (ZT (E := 198) (N := 64) kr kr kn rfl rfl om om))
   let A5 : Value := .int .u32 (B.getD ((j + 16) - 2) 0)
   refine qv 105 A5 ?_ (hr := fun _ H' => (zl1 (ZM (H'.at 6 rfl) (show ((j + 16) - 2) < 64 by omega) (show 0 + (((j : Int) + 16) - 2).toNat * 1 = ((j + 16) - 2) by omega))))
   refine qv 13 A4 <| qv 14 A5 <| Z01 fun w145 H146 => ?_
   refine ztn <| Z0Z H146 [zR w, ZV .u8 b2 61 32 (List.replicate 32 (0 : Int)), ZV .u32 b11 199 64 kR, ZV .u32 b19 201 8 HH, (Z1z a D c), Zo 5 1 (.slice (some ⟨b33, 0, none⟩) 1 1) 1 (A1.flatMap Zx), ZV .u32 b104 199 64 B] [29] 30 rfl kr (fun Hx => (Hx.pk [0, 1, 2, 3, 4, 5, 6])) fun w147 H148 S149 => ?_
   refine zkp 0 S149 106 (vi ((j : Int) + 16)) <| zkp 1 S149 107 (vi ((j : Int) + 16)) <| zkp 2 S149 108 (vi (((j : Int) + 16) - 16)) ?_ (he := fun _ => (Z0A (z := ((j : Int) + 16) - 16) kr (IntWalk.i64_in _ om)))
   refine zkp 3 S149 109 (.pointer (some ⟨b104, 0 + (((j : Int) + 16) - 16).toNat * 1, none⟩)) ?_ (he := fun _ => (ZT (E := 198) (N := 64) kr kr kn rfl rfl om om))
   refine zkv 4 S149 110 (.int .u32 (B.getD ((j + 16) - 16) 0)) ?_ (he := fun _ H' => (zl1 (ZM (H'.at 6 rfl) (show ((j + 16) - 16) < 64 by omega) (show 0 + (((j : Int) + 16) - 16).toNat * 1 = ((j + 16) - 16) by omega))))
   refine zkp 5 S149 111 A4 <| zkp 7 S149 113 A4 <| zkp 10 S149 116 A4 <| zkp 11 S149 117 (.int .u32 ((B.getD ((j + 16) - 15) 0) / 8)) ?_ (he := fun _ => (Z5b rfl rfl (by decide) (by decide) (by decide)))
   refine zkp 14 S149 120 (vi ((j : Int) + 16)) <| zkp 15 S149 121 (vi (((j : Int) + 16) - 7)) ?_ (he := fun _ => (Z0A (z := ((j : Int) + 16) - 7) kr (IntWalk.i64_in _ om)))
   refine zkp 16 S149 122 (.pointer (some ⟨b104, 0 + (((j : Int) + 16) - 7).toNat * 1, none⟩)) ?_ (he := fun _ => (ZT (E := 198) (N := 64) kr kr kn rfl rfl om om))
   refine zkv 17 S149 123 (.int .u32 (B.getD ((j + 16) - 7) 0)) ?_ (he := fun _ H' => (zl1 (ZM (H'.at 6 rfl) (show ((j + 16) - 7) < 64 by omega) (show 0 + (((j : Int) + 16) - 7).toNat * 1 = ((j + 16) - 7) by omega))))
   refine zkp 19 S149 125 A5 <| zkp 21 S149 127 A5 <| zkp 24 S149 130 A5 <| zkp 25 S149 131 (.int .u32 ((B.getD ((j + 16) - 2) 0) / 1024)) ?_ (he := fun _ => (Z5b rfl rfl (by decide) (by decide) (by decide)))
   refine zky 6 ?_
   refine zdq 112 (Z2K w147 (B.getD ((j + 16) - 15) 0) 7 om) H148 ?_
   intro w151 H152
   have S154 := H152.pk [0, 1, 2, 3, 4, 5, 6]
   refine ke S154 <| zky 8 ?_
   refine zdq 114 (Z2K w151 (B.getD ((j + 16) - 15) 0) 18 om) H152 ?_
   intro w156 H157
   have S159 := H157.pk [0, 1, 2, 3, 4, 5, 6]
   refine ke S159 <| zkp 9 S159 115 (.int .u32 (Z03 .u32 (Z0b (B.getD ((j + 16) - 15) 0) 7) (Z0b (B.getD ((j + 16) - 15) 0) 18))) <| zkp 12 S159 118 (.int .u32 (Z03 .u32 (Z03 .u32 (Z0b (B.getD ((j + 16) - 15) 0) 7) (Z0b (B.getD ((j + 16) - 15) 0) 18)) ((B.getD ((j + 16) - 15) 0) / 8))) <| zkp 13 S159 119 (.int .u32 (IntKind.u32.wrap ((B.getD ((j + 16) - 16) 0) + (Z03 .u32 (Z03 .u32 (Z0b (B.getD ((j + 16) - 15) 0) 7) (Z0b (B.getD ((j + 16) - 15) 0) 18)) ((B.getD ((j + 16) - 15) 0) / 8))))) <| zkp 18 S159 124 (.int .u32 (IntKind.u32.wrap ((IntKind.u32.wrap ((B.getD ((j + 16) - 16) 0) + (Z03 .u32 (Z03 .u32 (Z0b (B.getD ((j + 16) - 15) 0) 7) (Z0b (B.getD ((j + 16) - 15) 0) 18)) ((B.getD ((j + 16) - 15) 0) / 8)))) + (B.getD ((j + 16) - 7) 0)))) <| zky 20 ?_
   refine zdq 126 (Z2K w156 (B.getD ((j + 16) - 2) 0) 17 om) H157 ?_
   intro w161 H162
   have S164 := H162.pk [0, 1, 2, 3, 4, 5, 6]
   refine ke S164 <| zky 22 ?_
   refine zdq 128 (Z2K w161 (B.getD ((j + 16) - 2) 0) 19 om) H162 ?_
   intro w166 H167
   have S169 := H167.pk [0, 1, 2, 3, 4, 5, 6]
   refine ke S169 <| zkp 23 S169 129 (.int .u32 (Z03 .u32 (Z0b (B.getD ((j + 16) - 2) 0) 17) (Z0b (B.getD ((j + 16) - 2) 0) 19))) <| zkp 26 S169 132 (.int .u32 (Z03 .u32 (Z03 .u32 (Z0b (B.getD ((j + 16) - 2) 0) 17) (Z0b (B.getD ((j + 16) - 2) 0) 19)) ((B.getD ((j + 16) - 2) 0) / 1024))) <| zkp 27 S169 133 (.int .u32 (IntKind.u32.wrap ((IntKind.u32.wrap ((IntKind.u32.wrap ((B.getD ((j + 16) - 16) 0) + (Z03 .u32 (Z03 .u32 (Z0b (B.getD ((j + 16) - 15) 0) 7) (Z0b (B.getD ((j + 16) - 15) 0) 18)) ((B.getD ((j + 16) - 15) 0) / 8)))) + (B.getD ((j + 16) - 7) 0))) + (Z03 .u32 (Z03 .u32 (Z0b (B.getD ((j + 16) - 2) 0) 17) (Z0b (B.getD ((j + 16) - 2) 0) 19)) ((B.getD ((j + 16) - 2) 0) / 1024))))) <| zkp 28 S169 134 (.pointer (some ⟨b104, 0 + (((j : Int) + 16)).toNat * 1, none⟩)) ?_ (he := fun _ => (ZT (E := 198) (N := 64) kr kr kn rfl rfl om om))
   refine Z2B 29 (Sat w [zR w, ZV .u8 b2 61 32 (List.replicate 32 (0 : Int)), ZV .u32 b11 199 64 kR, ZV .u32 b19 201 8 HH, (Z1z a D c), Zo 5 1 (.slice (some ⟨b33, 0, none⟩) 1 1) 1 (A1.flatMap Zx)]) rfl kr (Zc rfl) rfl (fun Kq kq => ?_)
   refine Z2w .u32 rfl H167 6 rfl rfl rfl kr (show 0 + (((j : Int) + 16)).toNat * 1 = (j + 16) by omega) (show (j + 16) < 64 by omega) ?_
   intro w171 H172
   have S173 := H172.pk [0, 1, 2, 3, 4, 5]
   refine kq _ _ S173 <| zhf <| Z6 <| ztn <| ZG <| wv 96 (vi ((j : Int) + 16)) <| zwi 97 (((j : Int) + 16) + 1) <| wv 12 (vi (((j : Int) + 16) + 1)) <| ZL <| Za ?_ _ ⟨(j + 1), (B.set (j + 16) (IntKind.u32.wrap ((IntKind.u32.wrap ((IntKind.u32.wrap ((B.getD ((j + 16) - 16) 0) + (Z03 .u32 (Z03 .u32 (Z0b (B.getD ((j + 16) - 15) 0) 7) (Z0b (B.getD ((j + 16) - 15) 0) 18)) ((B.getD ((j + 16) - 15) 0) / 8)))) + (B.getD ((j + 16) - 7) 0))) + (Z03 .u32 (Z03 .u32 (Z0b (B.getD ((j + 16) - 2) 0) 17) (Z0b (B.getD ((j + 16) - 2) 0) 19)) ((B.getD ((j + 16) - 2) 0) / 1024))))), (show ((vi (((j : Int) + 16) + 1)) : Value) = _ by first | rfl | go_num | exact congrArg (Value.int .i64) om), om, (by rw [hB]; rfl), H172, rfl⟩ om
   exact zs
  refine zxb <| ztn <| zsl <| wv 135 (.agg ⟨(HH.map (Value.int .u32))⟩) ?_ (hr := Z32 rfl kr kr (by decide) (H139.at 3 rfl))
  refine zy <| zda (Z86) H139 ?_
  intro b177 w178 (H179 : Sat w [zR w, ZV .u8 b2 61 32 (List.replicate 32 (0 : Int)), ZV .u32 b11 199 64 kR, ZV .u32 b19 201 8 HH, (Z1z a D c), Zo 5 1 (.slice (some ⟨b33, 0, none⟩) 1 1) 1 (A1.flatMap Zx), ZV .u32 b104 199 64 B, Z0 b177 201 (Z86)] w178)
  have H180 : Sat w [zR w, ZV .u8 b2 61 32 (List.replicate 32 (0 : Int)), ZV .u32 b11 199 64 kR, ZV .u32 b19 201 8 HH, (Z1z a D c), Zo 5 1 (.slice (some ⟨b33, 0, none⟩) 1 1) 1 (A1.flatMap Zx), ZV .u32 b104 199 64 B, ZV .u32 b177 201 8 ([0, 0, 0, 0, 0, 0, 0, 0] : List Int)] w178 := Sat.toW H179 7 .u32 ([0, 0, 0, 0, 0, 0, 0, 0] : List Int) kr (by first | rfl | simp)
  refine kk <| zy <| Z0u .u32 (B := HH) rfl H180 7 rfl rfl rfl kr kr (by decide) (by exact Z12 (H180.at 3 rfl)) fun w182 H183 => ?_
  refine kk <| znt <| Z9 <| zsl <| wv 16 (vi 0) <| znt <| Zh ?_
  have hww : B = wOf D b := by rw [hB, hA, show j = 48 by omega]; rfl
  refine ZB ([16, 17, 18, 19, 20] ++ List.range' 136 82) (fun F_ W_ m_ => ∃ (i : Nat) (V : List Int), F_ 16 = (vi i) ∧ (i ≤ 64) ∧ (V = vRu B HH i) ∧ Sat w [zR w, ZV .u8 b2 61 32 (List.replicate 32 (0 : Int)), ZV .u32 b11 199 64 kR, ZV .u32 b19 201 8 HH, (Z1z a D c), Zo 5 1 (.slice (some ⟨b33, 0, none⟩) 1 1) 1 (A1.flatMap Zx), ZV .u32 b104 199 64 B, ZV .u32 b177 201 8 V] W_ ∧ m_ = 64 - i) _ ⟨0, HH, (show ((vi 0) : Value) = _ by first | rfl | go_num), (Nat.zero_le _), rfl, H183, rfl⟩ ?_
  rintro g184 w185 _ ⟨i, V, v187, hi, hV, H186, rfl⟩
  refine Zn 16 _ v187 ?_
  refine Z9 <| zsl <| wv 136 (vi i) <| wv 137 (.bool (decide ((i : Int) < 64))) <| znt ?_
  refine zid (fun b189 g190 => ?_) fun b189 g201 => ?_
  ·refine Zp <| ztn <| Z9 <| Zh <| Z9 <| zqs H186 ?_
   let A2 : Value := .int .u32 (V.getD 4 0)
   refine qv 140 (pt b177 4) <| qv 141 A2 ?_ (hr := fun _ H' => (zl1 (ZM (H'.at 7 rfl) (show 4 < 8 by omega) (show 4 = 4 by omega))))
   let A3 : Value := .int .u32 (V.getD 0 0)
   refine qv 142 (pt b177 0) <| qv 143 A3 ?_ (hr := fun _ H' => (zl1 (ZM (H'.at 7 rfl) (show 0 < 8 by omega) (show 0 = 0 by omega))))
   refine qv 17 A2 <| qv 18 A3 <| Z01 fun w192 H193 => ?_
   refine ztn <| Z9 <| zqs H193 ?_
   refine qv 144 (pt b177 7) <| qv 145 (.int .u32 (V.getD 7 0)) ?_ (hr := fun _ H' => (zl1 (ZM (H'.at 7 rfl) (show 7 < 8 by omega) (show 7 = 7 by omega))))
   refine qv 146 A2 <| Z0r (Zc rfl) (d := 147) (v := (.int .u32 (Z0b (V.getD 4 0) 6))) rfl (fun _ _ => by kernel_rfl) (fun w' H' => (Z2K w' (V.getD 4 0) 6 om).mono fun _ _ h => ⟨h.1, H'.keepU h.2⟩) ?_
   refine qv 148 A2 <| Z0r (Zc rfl) (d := 149) (v := (.int .u32 (Z0b (V.getD 4 0) 11))) rfl (fun _ _ => by kernel_rfl) (fun w' H' => (Z2K w' (V.getD 4 0) 11 om).mono fun _ _ h => ⟨h.1, H'.keepU h.2⟩) ?_
   refine qv 150 (.int .u32 (Z03 .u32 (Z0b (V.getD 4 0) 6) (Z0b (V.getD 4 0) 11))) <| qv 151 A2 <| Z0r (Zc rfl) (d := 152) (v := (.int .u32 (Z0b (V.getD 4 0) 25))) rfl (fun _ _ => by kernel_rfl) (fun w' H' => (Z2K w' (V.getD 4 0) 25 om).mono fun _ _ h => ⟨h.1, H'.keepU h.2⟩) ?_
   let Ab : Value := .int .u32 (V.getD 5 0)
   refine qv 153 (.int .u32 (Z03 .u32 (Z03 .u32 (Z0b (V.getD 4 0) 6) (Z0b (V.getD 4 0) 11)) (Z0b (V.getD 4 0) 25))) <| qv 154 (.int .u32 (IntKind.u32.wrap ((V.getD 7 0) + (Z03 .u32 (Z03 .u32 (Z0b (V.getD 4 0) 6) (Z0b (V.getD 4 0) 11)) (Z0b (V.getD 4 0) 25))))) <| qv 155 A2 <| qv 156 (pt b177 5) <| qv 157 Ab ?_ (hr := fun _ H' => (zl1 (ZM (H'.at 7 rfl) (show 5 < 8 by omega) (show 5 = 5 by omega))))
   let Ac : Value := .int .u32 (V.getD 6 0)
   refine qv 158 (.int .u32 (Z0P .u32 (V.getD 4 0) (V.getD 5 0))) <| qv 159 A2 <| qv 160 (.int .u32 (Z03 .u32 4294967295 (V.getD 4 0))) <| qv 161 (pt b177 6) <| qv 162 Ac ?_ (hr := fun _ H' => (zl1 (ZM (H'.at 7 rfl) (show 6 < 8 by omega) (show 6 = 6 by omega))))
   refine qv 163 (.int .u32 (Z0P .u32 (Z03 .u32 4294967295 (V.getD 4 0)) (V.getD 6 0))) <| qv 164 (.int .u32 (Z03 .u32 (Z0P .u32 (V.getD 4 0) (V.getD 5 0)) (Z0P .u32 (Z03 .u32 4294967295 (V.getD 4 0)) (V.getD 6 0)))) <| qv 165 (.int .u32 (IntKind.u32.wrap ((IntKind.u32.wrap ((V.getD 7 0) + (Z03 .u32 (Z03 .u32 (Z0b (V.getD 4 0) 6) (Z0b (V.getD 4 0) 11)) (Z0b (V.getD 4 0) 25)))) + (Z03 .u32 (Z0P .u32 (V.getD 4 0) (V.getD 5 0)) (Z0P .u32 (Z03 .u32 4294967295 (V.getD 4 0)) (V.getD 6 0)))))) <| qv 166 (vi i) <| qv 167 (.pointer (some ⟨b11, 0 + ((i : Int)).toNat * 1, none⟩)) ?_ (hr := fun _ H' => (ZT (E := 198) (N := 64) kr kr kn rfl rfl om om))
   refine qv 168 (.int .u32 (kR.getD i 0)) ?_ (hr := fun _ H' => (zl1 (ZM (H'.at 2 rfl) (show i < 64 by omega) (show 0 + ((i : Int)).toNat * 1 = i by omega))))
   refine qv 169 (.int .u32 (IntKind.u32.wrap ((IntKind.u32.wrap ((IntKind.u32.wrap ((V.getD 7 0) + (Z03 .u32 (Z03 .u32 (Z0b (V.getD 4 0) 6) (Z0b (V.getD 4 0) 11)) (Z0b (V.getD 4 0) 25)))) + (Z03 .u32 (Z0P .u32 (V.getD 4 0) (V.getD 5 0)) (Z0P .u32 (Z03 .u32 4294967295 (V.getD 4 0)) (V.getD 6 0))))) + (kR.getD i 0)))) <| qv 170 (vi i) <| qv 171 (.pointer (some ⟨b104, 0 + ((i : Int)).toNat * 1, none⟩)) ?_ (hr := fun _ H' => (ZT (E := 198) (N := 64) kr kr kn rfl rfl om om))
   refine qv 172 (.int .u32 (B.getD i 0)) ?_ (hr := fun _ H' => (zl1 (ZM (H'.at 6 rfl) (show i < 64 by omega) (show 0 + ((i : Int)).toNat * 1 = i by omega))))
   refine qv 173 (.int .u32 (IntKind.u32.wrap ((IntKind.u32.wrap ((IntKind.u32.wrap ((IntKind.u32.wrap ((V.getD 7 0) + (Z03 .u32 (Z03 .u32 (Z0b (V.getD 4 0) 6) (Z0b (V.getD 4 0) 11)) (Z0b (V.getD 4 0) 25)))) + (Z03 .u32 (Z0P .u32 (V.getD 4 0) (V.getD 5 0)) (Z0P .u32 (Z03 .u32 4294967295 (V.getD 4 0)) (V.getD 6 0))))) + (kR.getD i 0))) + (B.getD i 0)))) <| qv 19 (.int .u32 (IntKind.u32.wrap ((IntKind.u32.wrap ((IntKind.u32.wrap ((IntKind.u32.wrap ((V.getD 7 0) + (Z03 .u32 (Z03 .u32 (Z0b (V.getD 4 0) 6) (Z0b (V.getD 4 0) 11)) (Z0b (V.getD 4 0) 25)))) + (Z03 .u32 (Z0P .u32 (V.getD 4 0) (V.getD 5 0)) (Z0P .u32 (Z03 .u32 4294967295 (V.getD 4 0)) (V.getD 6 0))))) + (kR.getD i 0))) + (B.getD i 0)))) <| Z01 fun w194 H195 => ?_
   refine ztn <| Z9 <| zqs H195 ?_
   refine qv 174 A3 <| Z0r (Zc rfl) (d := 175) (v := (.int .u32 (Z0b (V.getD 0 0) 2))) rfl (fun _ _ => by kernel_rfl) (fun w' H' => (Z2K w' (V.getD 0 0) 2 om).mono fun _ _ h => ⟨h.1, H'.keepU h.2⟩) ?_
   refine qv 176 A3 <| Z0r (Zc rfl) (d := 177) (v := (.int .u32 (Z0b (V.getD 0 0) 13))) rfl (fun _ _ => by kernel_rfl) (fun w' H' => (Z2K w' (V.getD 0 0) 13 om).mono fun _ _ h => ⟨h.1, H'.keepU h.2⟩) ?_
   refine qv 178 (.int .u32 (Z03 .u32 (Z0b (V.getD 0 0) 2) (Z0b (V.getD 0 0) 13))) <| qv 179 A3 <| Z0r (Zc rfl) (d := 180) (v := (.int .u32 (Z0b (V.getD 0 0) 22))) rfl (fun _ _ => by kernel_rfl) (fun w' H' => (Z2K w' (V.getD 0 0) 22 om).mono fun _ _ h => ⟨h.1, H'.keepU h.2⟩) ?_
   let A8 : Value := .int .u32 (V.getD 1 0)
   refine qv 181 (.int .u32 (Z03 .u32 (Z03 .u32 (Z0b (V.getD 0 0) 2) (Z0b (V.getD 0 0) 13)) (Z0b (V.getD 0 0) 22))) <| qv 182 A3 <| qv 183 (pt b177 1) <| qv 184 A8 ?_ (hr := fun _ H' => (zl1 (ZM (H'.at 7 rfl) (show 1 < 8 by omega) (show 1 = 1 by omega))))
   let A9 : Value := .int .u32 (V.getD 2 0)
   refine qv 185 (.int .u32 (Z0P .u32 (V.getD 0 0) (V.getD 1 0))) <| qv 186 A3 <| qv 187 (pt b177 2) <| qv 188 A9 ?_ (hr := fun _ H' => (zl1 (ZM (H'.at 7 rfl) (show 2 < 8 by omega) (show 2 = 2 by omega))))
   refine qv 189 (.int .u32 (Z0P .u32 (V.getD 0 0) (V.getD 2 0))) <| qv 190 (.int .u32 (Z03 .u32 (Z0P .u32 (V.getD 0 0) (V.getD 1 0)) (Z0P .u32 (V.getD 0 0) (V.getD 2 0)))) <| qv 191 (pt b177 1) <| qv 192 A8 ?_ (hr := fun _ H' => (zl1 (ZM (H'.at 7 rfl) (show 1 < 8 by omega) (show 1 = 1 by omega))))
   refine qv 193 (pt b177 2) <| qv 194 A9 ?_ (hr := fun _ H' => (zl1 (ZM (H'.at 7 rfl) (show 2 < 8 by omega) (show 2 = 2 by omega))))
   let A0 : Value := .int .u32 (IntKind.u32.wrap ((Z03 .u32 (Z03 .u32 (Z0b (V.getD 0 0) 2) (Z0b (V.getD 0 0) 13)) (Z0b (V.getD 0 0) 22)) + (Z03 .u32 (Z03 .u32 (Z0P .u32 (V.getD 0 0) (V.getD 1 0)) (Z0P .u32 (V.getD 0 0) (V.getD 2 0))) (Z0P .u32 (V.getD 1 0) (V.getD 2 0)))))
   refine qv 195 (.int .u32 (Z0P .u32 (V.getD 1 0) (V.getD 2 0))) <| qv 196 (.int .u32 (Z03 .u32 (Z03 .u32 (Z0P .u32 (V.getD 0 0) (V.getD 1 0)) (Z0P .u32 (V.getD 0 0) (V.getD 2 0))) (Z0P .u32 (V.getD 1 0) (V.getD 2 0)))) <| qv 197 A0 <| qv 20 A0 <| Z01 fun w196 H197 => ?_
   refine ztn <| ZG <| wv 198 (.int .u32 (IntKind.u32.wrap ((IntKind.u32.wrap ((IntKind.u32.wrap ((IntKind.u32.wrap ((V.getD 7 0) + (Z03 .u32 (Z03 .u32 (Z0b (V.getD 4 0) 6) (Z0b (V.getD 4 0) 11)) (Z0b (V.getD 4 0) 25)))) + (Z03 .u32 (Z0P .u32 (V.getD 4 0) (V.getD 5 0)) (Z0P .u32 (Z03 .u32 4294967295 (V.getD 4 0)) (V.getD 6 0))))) + (kR.getD i 0))) + (B.getD i 0)))) <| wv 199 A0 <| wv 200 (.int .u32 (IntKind.u32.wrap ((IntKind.u32.wrap ((IntKind.u32.wrap ((IntKind.u32.wrap ((IntKind.u32.wrap ((V.getD 7 0) + (Z03 .u32 (Z03 .u32 (Z0b (V.getD 4 0) 6) (Z0b (V.getD 4 0) 11)) (Z0b (V.getD 4 0) 25)))) + (Z03 .u32 (Z0P .u32 (V.getD 4 0) (V.getD 5 0)) (Z0P .u32 (Z03 .u32 4294967295 (V.getD 4 0)) (V.getD 6 0))))) + (kR.getD i 0))) + (B.getD i 0))) + (IntKind.u32.wrap ((Z03 .u32 (Z03 .u32 (Z0b (V.getD 0 0) 2) (Z0b (V.getD 0 0) 13)) (Z0b (V.getD 0 0) 22)) + (Z03 .u32 (Z03 .u32 (Z0P .u32 (V.getD 0 0) (V.getD 1 0)) (Z0P .u32 (V.getD 0 0) (V.getD 2 0))) (Z0P .u32 (V.getD 1 0) (V.getD 2 0)))))))) <| wv 201 (pt b177 0) <| zw1 202 A3 (ZM (H197.at 7 rfl) (show 0 < 8 by omega) (show 0 = 0 by omega)) <| wv 203 (pt b177 1) <| zw1 204 A8 (ZM (H197.at 7 rfl) (show 1 < 8 by omega) (show 1 = 1 by omega)) <| wv 205 (pt b177 2) ?_
   refine zw1 206 A9 (ZM (H197.at 7 rfl) (show 2 < 8 by omega) (show 2 = 2 by omega)) <| wv 207 (pt b177 3) <| zw1 208 (.int .u32 (V.getD 3 0)) (ZM (H197.at 7 rfl) (show 3 < 8 by omega) (show 3 = 3 by omega)) <| wv 209 (.int .u32 (IntKind.u32.wrap ((IntKind.u32.wrap ((IntKind.u32.wrap ((IntKind.u32.wrap ((V.getD 7 0) + (Z03 .u32 (Z03 .u32 (Z0b (V.getD 4 0) 6) (Z0b (V.getD 4 0) 11)) (Z0b (V.getD 4 0) 25)))) + (Z03 .u32 (Z0P .u32 (V.getD 4 0) (V.getD 5 0)) (Z0P .u32 (Z03 .u32 4294967295 (V.getD 4 0)) (V.getD 6 0))))) + (kR.getD i 0))) + (B.getD i 0)))) <| wv 210 (.int .u32 (IntKind.u32.wrap ((V.getD 3 0) + (IntKind.u32.wrap ((IntKind.u32.wrap ((IntKind.u32.wrap ((IntKind.u32.wrap ((V.getD 7 0) + (Z03 .u32 (Z03 .u32 (Z0b (V.getD 4 0) 6) (Z0b (V.getD 4 0) 11)) (Z0b (V.getD 4 0) 25)))) + (Z03 .u32 (Z0P .u32 (V.getD 4 0) (V.getD 5 0)) (Z0P .u32 (Z03 .u32 4294967295 (V.getD 4 0)) (V.getD 6 0))))) + (kR.getD i 0))) + (B.getD i 0)))))) <| wv 211 (pt b177 4) <| zw1 212 A2 (ZM (H197.at 7 rfl) (show 4 < 8 by omega) (show 4 = 4 by omega)) <| wv 213 (pt b177 5) <| zw1 214 Ab (ZM (H197.at 7 rfl) (show 5 < 8 by omega) (show 5 = 5 by omega)) <| wv 215 (pt b177 6) ?_
   refine zw1 216 Ac (ZM (H197.at 7 rfl) (show 6 < 8 by omega) (show 6 = 6 by omega)) <| wv 217 (.agg ⟨([(.int .u32 (IntKind.u32.wrap ((IntKind.u32.wrap ((IntKind.u32.wrap ((IntKind.u32.wrap ((IntKind.u32.wrap ((V.getD 7 0) + (Z03 .u32 (Z03 .u32 (Z0b (V.getD 4 0) 6) (Z0b (V.getD 4 0) 11)) (Z0b (V.getD 4 0) 25)))) + (Z03 .u32 (Z0P .u32 (V.getD 4 0) (V.getD 5 0)) (Z0P .u32 (Z03 .u32 4294967295 (V.getD 4 0)) (V.getD 6 0))))) + (kR.getD i 0))) + (B.getD i 0))) + (IntKind.u32.wrap ((Z03 .u32 (Z03 .u32 (Z0b (V.getD 0 0) 2) (Z0b (V.getD 0 0) 13)) (Z0b (V.getD 0 0) 22)) + (Z03 .u32 (Z03 .u32 (Z0P .u32 (V.getD 0 0) (V.getD 1 0)) (Z0P .u32 (V.getD 0 0) (V.getD 2 0))) (Z0P .u32 (V.getD 1 0) (V.getD 2 0)))))))), A3, A8, A9, (.int .u32 (IntKind.u32.wrap ((V.getD 3 0) + (IntKind.u32.wrap ((IntKind.u32.wrap ((IntKind.u32.wrap ((IntKind.u32.wrap ((V.getD 7 0) + (Z03 .u32 (Z03 .u32 (Z0b (V.getD 4 0) 6) (Z0b (V.getD 4 0) 11)) (Z0b (V.getD 4 0) 25)))) + (Z03 .u32 (Z0P .u32 (V.getD 4 0) (V.getD 5 0)) (Z0P .u32 (Z03 .u32 4294967295 (V.getD 4 0)) (V.getD 6 0))))) + (kR.getD i 0))) + (B.getD i 0)))))), A2, Ab, Ac] : LV)⟩) <| zy <| Z0u .u32 (B := ([IntKind.u32.wrap ((IntKind.u32.wrap ((IntKind.u32.wrap ((IntKind.u32.wrap ((IntKind.u32.wrap ((V.getD 7 0) + (Z03 .u32 (Z03 .u32 (Z0b (V.getD 4 0) 6) (Z0b (V.getD 4 0) 11)) (Z0b (V.getD 4 0) 25)))) + (Z03 .u32 (Z0P .u32 (V.getD 4 0) (V.getD 5 0)) (Z0P .u32 (Z03 .u32 4294967295 (V.getD 4 0)) (V.getD 6 0))))) + (kR.getD i 0))) + (B.getD i 0))) + (IntKind.u32.wrap ((Z03 .u32 (Z03 .u32 (Z0b (V.getD 0 0) 2) (Z0b (V.getD 0 0) 13)) (Z0b (V.getD 0 0) 22)) + (Z03 .u32 (Z03 .u32 (Z0P .u32 (V.getD 0 0) (V.getD 1 0)) (Z0P .u32 (V.getD 0 0) (V.getD 2 0))) (Z0P .u32 (V.getD 1 0) (V.getD 2 0)))))), V.getD 0 0, V.getD 1 0, V.getD 2 0, IntKind.u32.wrap ((V.getD 3 0) + (IntKind.u32.wrap ((IntKind.u32.wrap ((IntKind.u32.wrap ((IntKind.u32.wrap ((V.getD 7 0) + (Z03 .u32 (Z03 .u32 (Z0b (V.getD 4 0) 6) (Z0b (V.getD 4 0) 11)) (Z0b (V.getD 4 0) 25)))) + (Z03 .u32 (Z0P .u32 (V.getD 4 0) (V.getD 5 0)) (Z0P .u32 (Z03 .u32 4294967295 (V.getD 4 0)) (V.getD 6 0))))) + (kR.getD i 0))) + (B.getD i 0)))), V.getD 4 0, V.getD 5 0, V.getD 6 0] : List Int)) rfl H197 7 rfl rfl rfl kr kr (by decide) (by first | rfl | simp) fun w199 H200 => ?_
   refine kk <| ZL <| Z6 <| ztn <| ZG <| wv 138 (vi i) <| zwi 139 ((i : Int) + 1) <| wv 16 (vi ((i : Int) + 1)) <| ZL <| Za ?_ _ ⟨(i + 1), ([IntKind.u32.wrap ((IntKind.u32.wrap ((IntKind.u32.wrap ((IntKind.u32.wrap ((IntKind.u32.wrap ((V.getD 7 0) + (Z03 .u32 (Z03 .u32 (Z0b (V.getD 4 0) 6) (Z0b (V.getD 4 0) 11)) (Z0b (V.getD 4 0) 25)))) + (Z03 .u32 (Z0P .u32 (V.getD 4 0) (V.getD 5 0)) (Z0P .u32 (Z03 .u32 4294967295 (V.getD 4 0)) (V.getD 6 0))))) + (kR.getD i 0))) + (B.getD i 0))) + (IntKind.u32.wrap ((Z03 .u32 (Z03 .u32 (Z0b (V.getD 0 0) 2) (Z0b (V.getD 0 0) 13)) (Z0b (V.getD 0 0) 22)) + (Z03 .u32 (Z03 .u32 (Z0P .u32 (V.getD 0 0) (V.getD 1 0)) (Z0P .u32 (V.getD 0 0) (V.getD 2 0))) (Z0P .u32 (V.getD 1 0) (V.getD 2 0)))))), V.getD 0 0, V.getD 1 0, V.getD 2 0, IntKind.u32.wrap ((V.getD 3 0) + (IntKind.u32.wrap ((IntKind.u32.wrap ((IntKind.u32.wrap ((IntKind.u32.wrap ((V.getD 7 0) + (Z03 .u32 (Z03 .u32 (Z0b (V.getD 4 0) 6) (Z0b (V.getD 4 0) 11)) (Z0b (V.getD 4 0) 25)))) + (Z03 .u32 (Z0P .u32 (V.getD 4 0) (V.getD 5 0)) (Z0P .u32 (Z03 .u32 4294967295 (V.getD 4 0)) (V.getD 6 0))))) + (kR.getD i 0))) + (B.getD i 0)))), V.getD 4 0, V.getD 5 0, V.getD 6 0] : List Int), (show ((vi ((i : Int) + 1)) : Value) = _ by first | rfl | go_num | exact congrArg (Value.int .i64) om), om, (by rw [hV]; rfl), H200, rfl⟩ om
   exact zs
  refine zxb <| ztn <| zsl <| wv 218 (vi 0) <| znt <| Zh ?_
  have hvv : V = vRu B HH 64 := by rw [hV, show i = 64 by omega]
  refine ZB ([21] ++ List.range' 218 12) (fun F_ W_ m_ => ∃ (i : Nat) (X : List Int), F_ 218 = (vi i) ∧ (i ≤ 8) ∧ (X = hAd V HH i) ∧ Sat w [zR w, ZV .u8 b2 61 32 (List.replicate 32 (0 : Int)), ZV .u32 b11 199 64 kR, ZV .u32 b19 201 8 X, (Z1z a D c), Zo 5 1 (.slice (some ⟨b33, 0, none⟩) 1 1) 1 (A1.flatMap Zx), ZV .u32 b104 199 64 B, ZV .u32 b177 201 8 V] W_ ∧ m_ = 8 - i) _ ⟨0, HH, (show ((vi 0) : Value) = _ by first | rfl | go_num), (Nat.zero_le _), rfl, H186, rfl⟩ ?_
  rintro g203 w204 _ ⟨i, X, v206, hi, hX, H205, rfl⟩
  refine Zn 218 _ v206 ?_
  refine zsl <| wv 219 (.bool (decide ((i : Int) < 8))) <| znt <| Z9 ?_
  refine zid (fun b208 g209 => ?_) fun b208 g218 => ?_
  ·refine Zp <| ztn <| Z9 <| Zh <| zsl <| wv 220 (vi i) <| wv 21 (vi i) <| znt <| Z0Z H205 [zR w, ZV .u8 b2 61 32 (List.replicate 32 (0 : Int)), ZV .u32 b11 199 64 kR, ZV .u32 b19 201 8 X, (Z1z a D c), Zo 5 1 (.slice (some ⟨b33, 0, none⟩) 1 1) 1 (A1.flatMap Zx), ZV .u32 b104 199 64 B, ZV .u32 b177 201 8 V] [8] 9 rfl kr (fun Hx => (Hx.pk [0, 1, 2, 3, 4, 5, 6, 7])) fun w211 H212 S213 => ?_
   refine zkp 0 S213 221 (vi i) <| zkp 1 S213 222 (.pointer (some ⟨b19, 0 + ((i : Int)).toNat * 1, none⟩)) ?_ (he := fun _ => (ZT (E := 198) (N := 8) kr kr kn rfl rfl om om))
   refine zkv 2 S213 223 (.int .u32 (X.getD i 0)) ?_ (he := fun _ H' => (zl1 (ZM (H'.at 3 rfl) (show i < 8 by omega) (show 0 + ((i : Int)).toNat * 1 = i by omega))))
   refine zkp 3 S213 224 (vi i) <| zkp 4 S213 225 (.pointer (some ⟨b177, 0 + ((i : Int)).toNat * 1, none⟩)) ?_ (he := fun _ => (ZT (E := 198) (N := 8) kr kr kn rfl rfl om om))
   refine zkv 5 S213 226 (.int .u32 (V.getD i 0)) ?_ (he := fun _ H' => (zl1 (ZM (H'.at 7 rfl) (show i < 8 by omega) (show 0 + ((i : Int)).toNat * 1 = i by omega))))
   refine zkp 6 S213 227 (.int .u32 (IntKind.u32.wrap ((X.getD i 0) + (V.getD i 0)))) <| zkp 7 S213 228 (.pointer (some ⟨b19, 0 + ((i : Int)).toNat * 1, none⟩)) ?_ (he := fun _ => (ZT (E := 198) (N := 8) kr kr kn rfl rfl om om))
   refine Z2B 8 (Sat w [zR w, ZV .u8 b2 61 32 (List.replicate 32 (0 : Int)), ZV .u32 b11 199 64 kR, (Z1z a D c), Zo 5 1 (.slice (some ⟨b33, 0, none⟩) 1 1) 1 (A1.flatMap Zx), ZV .u32 b104 199 64 B, ZV .u32 b177 201 8 V]) rfl kr (Zc rfl) rfl (fun Kq kq => ?_)
   refine Z2w .u32 rfl H212 3 rfl rfl rfl kr (show 0 + ((i : Int)).toNat * 1 = i by omega) (show i < 8 by omega) ?_
   intro w215 H216
   have S217 := H216.pk [0, 1, 2, 4, 5, 6, 7]
   refine kq _ _ S217 <| zhf <| Z6 <| ztn <| ZG <| zwi 229 ((i : Int) + 1) <| wv 218 (vi ((i : Int) + 1)) <| ZL <| Za ?_ _ ⟨(i + 1), (X.set i (IntKind.u32.wrap ((X.getD i 0) + (V.getD i 0)))), (show ((vi ((i : Int) + 1)) : Value) = _ by first | rfl | go_num | exact congrArg (Value.int .i64) om), om, (by rw [hX]; rfl), H216, rfl⟩ om
   exact zs
  refine zxb <| Z6 <| ztn ?_
  have hadd : X = hAd V HH 8 := by rw [hX, show i = 8 by omega]
  refine ZG <| wv 58 (vi (64 * (b : Int))) <| zwi 59 ((64 * (b : Int)) + 64) <| wv 8 (vi ((64 * (b : Int)) + 64)) <| ZL ?_
  have H220 := H205.pk [0, 1, 2, 3, 4, 5]
  refine Za ?_ _ ⟨(b + 1), X, (show ((vi ((64 * (b : Int)) + 64)) : Value) = _ by first | rfl | go_num | exact congrArg (Value.int .i64) om), om, (by rw [hadd, hvv, hww, hHH]; rfl), H220, rfl⟩ om
  exact zs
 refine zxb <| ztn <| zsl <| zy <| zda (hc Zz) H97 ?_
 intro b224 w225 (H226 : Sat w [zR w, ZV .u8 b2 61 32 (List.replicate 32 (0 : Int)), ZV .u32 b11 199 64 kR, ZV .u32 b19 201 8 HH, (Z1z a D c), Zo 5 1 (.slice (some ⟨b33, 0, none⟩) 1 1) 1 (A1.flatMap Zx), Z0 b224 61 (hc Zz)] w225)
 have H227 : Sat w [zR w, ZV .u8 b2 61 32 (List.replicate 32 (0 : Int)), ZV .u32 b11 199 64 kR, ZV .u32 b19 201 8 HH, (Z1z a D c), Zo 5 1 (.slice (some ⟨b33, 0, none⟩) 1 1) 1 (A1.flatMap Zx), ZV .u8 b224 61 32 (List.replicate 32 (0 : Int))] w225 := Sat.toW H226 6 .u8 (List.replicate 32 (0 : Int)) kr (by exact Z12 (H226.at 1 rfl))
 refine kk <| znt <| Z9 <| zsl <| wv 23 (vi 0) <| znt <| Zh <| ZB ([23] ++ List.range' 230 38) (fun F_ W_ m_ => ∃ (i : Nat) (O : List Int), F_ 23 = (vi i) ∧ (i ≤ 8) ∧ (O = oOf HH i) ∧ Sat w [zR w, ZV .u8 b2 61 32 (List.replicate 32 (0 : Int)), ZV .u32 b11 199 64 kR, ZV .u32 b19 201 8 HH, (Z1z a D c), Zo 5 1 (.slice (some ⟨b33, 0, none⟩) 1 1) 1 (A1.flatMap Zx), ZV .u8 b224 61 32 O] W_ ∧ m_ = 8 - i) _ ⟨0, (List.replicate 32 (0 : Int)), (show ((vi 0) : Value) = _ by first | rfl | go_num), (Nat.zero_le _), rfl, H227, rfl⟩ ?_
 rintro g228 w229 _ ⟨i, O, v231, hi, hO, H230, rfl⟩
 refine Zn 23 _ v231 ?_
 refine Z9 <| zsl <| wv 230 (vi i) <| wv 231 (.bool (decide ((i : Int) < 8))) <| znt ?_
 refine zid (fun b233 g234 => ?_) fun b233 g255 => ?_
 ·refine Zp <| ztn <| Z9 <| Zh <| Z0a H230 [zR w, ZV .u8 b2 61 32 (List.replicate 32 (0 : Int)), ZV .u32 b11 199 64 kR, ZV .u32 b19 201 8 HH, (Z1z a D c), Zo 5 1 (.slice (some ⟨b33, 0, none⟩) 1 1) 1 (A1.flatMap Zx)] 38 rfl kr (fun Hx => (Hx.pk [0, 1, 2, 3, 4, 5])) fun w236 H237 S238 => ?_
  refine hv0 0 S238 234 (vi i) <| hv0 1 S238 235 (vi (4 * (i : Int))) ?_ (he := fun _ H' => (Z0A (z := 4 * (i : Int)) kr (IntWalk.i64_in _ om)))
  refine hv0 2 S238 236 (vi i) <| hv0 3 S238 237 (vi (4 * (i : Int))) ?_ (he := fun _ H' => (Z0A (z := 4 * (i : Int)) kr (IntWalk.i64_in _ om)))
  refine hv0 4 S238 238 (vi ((4 * (i : Int)) + 1)) ?_ (he := fun _ H' => (Z0A (z := (4 * (i : Int)) + 1) kr (IntWalk.i64_in _ om)))
  refine hv0 5 S238 239 (vi i) <| hv0 6 S238 240 (vi (4 * (i : Int))) ?_ (he := fun _ H' => (Z0A (z := 4 * (i : Int)) kr (IntWalk.i64_in _ om)))
  refine hv0 7 S238 241 (vi ((4 * (i : Int)) + 2)) ?_ (he := fun _ H' => (Z0A (z := (4 * (i : Int)) + 2) kr (IntWalk.i64_in _ om)))
  refine hv0 8 S238 242 (vi i) <| hv0 9 S238 243 (vi (4 * (i : Int))) ?_ (he := fun _ H' => (Z0A (z := 4 * (i : Int)) kr (IntWalk.i64_in _ om)))
  refine hv0 10 S238 244 (vi ((4 * (i : Int)) + 3)) ?_ (he := fun _ H' => (Z0A (z := (4 * (i : Int)) + 3) kr (IntWalk.i64_in _ om)))
  refine hv0 11 S238 245 (vi i) <| hv0 12 S238 246 (.pointer (some ⟨b19, 0 + ((i : Int)).toNat * 1, none⟩)) ?_ (he := fun _ H' => (ZT (E := 198) (N := 8) kr kr kn rfl rfl om om))
  let A7 : Value := .int .u32 (HH.getD i 0)
  refine hv0 13 S238 247 A7 ?_ (he := fun _ H' => (zl1 (ZM (H'.at 3 rfl) (show i < 8 by omega) (show 0 + ((i : Int)).toNat * 1 = i by omega))))
  refine hv0 14 S238 248 (.int .u32 ((HH.getD i 0) / 16777216)) ?_ (he := fun _ H' => (Z5b rfl rfl (by decide) (by decide) (by decide)))
  refine hv0 15 S238 249 (.int .u8 (IntKind.u8.wrap ((HH.getD i 0) / 16777216))) <| hv0 16 S238 250 (vi i) <| hv0 17 S238 251 (.pointer (some ⟨b19, 0 + ((i : Int)).toNat * 1, none⟩)) ?_ (he := fun _ H' => (ZT (E := 198) (N := 8) kr kr kn rfl rfl om om))
  refine hv0 18 S238 252 A7 ?_ (he := fun _ H' => (zl1 (ZM (H'.at 3 rfl) (show i < 8 by omega) (show 0 + ((i : Int)).toNat * 1 = i by omega))))
  refine hv0 19 S238 253 (.int .u32 ((HH.getD i 0) / 65536)) ?_ (he := fun _ H' => (Z5b rfl rfl (by decide) (by decide) (by decide)))
  refine hv0 20 S238 254 (.int .u8 (IntKind.u8.wrap ((HH.getD i 0) / 65536))) <| hv0 21 S238 255 (vi i) <| hv0 22 S238 256 (.pointer (some ⟨b19, 0 + ((i : Int)).toNat * 1, none⟩)) ?_ (he := fun _ H' => (ZT (E := 198) (N := 8) kr kr kn rfl rfl om om))
  refine hv0 23 S238 257 A7 ?_ (he := fun _ H' => (zl1 (ZM (H'.at 3 rfl) (show i < 8 by omega) (show 0 + ((i : Int)).toNat * 1 = i by omega))))
  refine hv0 24 S238 258 (.int .u32 ((HH.getD i 0) / 256)) ?_ (he := fun _ H' => (Z5b rfl rfl (by decide) (by decide) (by decide)))
  refine hv0 25 S238 259 (.int .u8 (IntKind.u8.wrap ((HH.getD i 0) / 256))) <| hv0 26 S238 260 (vi i) <| hv0 27 S238 261 (.pointer (some ⟨b19, 0 + ((i : Int)).toNat * 1, none⟩)) ?_ (he := fun _ H' => (ZT (E := 198) (N := 8) kr kr kn rfl rfl om om))
  refine hv0 28 S238 262 A7 ?_ (he := fun _ H' => (zl1 (ZM (H'.at 3 rfl) (show i < 8 by omega) (show 0 + ((i : Int)).toNat * 1 = i by omega))))
  refine hv0 29 S238 263 (.int .u8 (IntKind.u8.wrap (HH.getD i 0))) <| hv0 30 S238 264 (.pointer (some ⟨b224, 0 + (4 * (i : Int)).toNat * 1, none⟩)) ?_ (he := fun _ H' => (ZT (E := 5) (N := 32) kr kr kn rfl rfl om om))
  refine zhy 31 ?_
  refine Z2w .u8 rfl H237 6 rfl rfl rfl kr (show 0 + (4 * (i : Int)).toNat * 1 = (4 * i) by omega) (show (4 * i) < 32 by omega) ?_
  intro w240 H241
  have S242 := H241.pk [0, 1, 2, 3, 4, 5]
  refine kh S242 <| hv0 32 S242 265 (.pointer (some ⟨b224, 0 + ((4 * (i : Int)) + 1).toNat * 1, none⟩)) ?_ (he := fun _ H' => (ZT (E := 5) (N := 32) kr kr kn rfl rfl om om))
  refine zhy 33 ?_
  refine Z2w .u8 rfl H241 6 rfl rfl rfl kr (show 0 + ((4 * (i : Int)) + 1).toNat * 1 = ((4 * i) + 1) by omega) (show ((4 * i) + 1) < 32 by omega) ?_
  intro w244 H245
  have S246 := H245.pk [0, 1, 2, 3, 4, 5]
  refine kh S246 <| hv0 34 S246 266 (.pointer (some ⟨b224, 0 + ((4 * (i : Int)) + 2).toNat * 1, none⟩)) ?_ (he := fun _ H' => (ZT (E := 5) (N := 32) kr kr kn rfl rfl om om))
  refine zhy 35 ?_
  refine Z2w .u8 rfl H245 6 rfl rfl rfl kr (show 0 + ((4 * (i : Int)) + 2).toNat * 1 = ((4 * i) + 2) by omega) (show ((4 * i) + 2) < 32 by omega) ?_
  intro w248 H249
  have S250 := H249.pk [0, 1, 2, 3, 4, 5]
  refine kh S250 <| hv0 36 S250 267 (.pointer (some ⟨b224, 0 + ((4 * (i : Int)) + 3).toNat * 1, none⟩)) ?_ (he := fun _ H' => (ZT (E := 5) (N := 32) kr kr kn rfl rfl om om))
  refine zhy 37 ?_
  refine Z2w .u8 rfl H249 6 rfl rfl rfl kr (show 0 + ((4 * (i : Int)) + 3).toNat * 1 = ((4 * i) + 3) by omega) (show ((4 * i) + 3) < 32 by omega) ?_
  intro w252 H253
  have S254 := H253.pk [0, 1, 2, 3, 4, 5]
  refine kh S254 <| zhf <| Z6 <| ztn <| ZG <| wv 232 (vi i) <| zwi 233 ((i : Int) + 1) <| wv 23 (vi ((i : Int) + 1)) <| ZL <| Za ?_ _ ⟨(i + 1), ((((O.set (4 * i) (IntKind.u8.wrap ((HH.getD i 0) / 16777216))).set ((4 * i) + 1) (IntKind.u8.wrap ((HH.getD i 0) / 65536))).set ((4 * i) + 2) (IntKind.u8.wrap ((HH.getD i 0) / 256))).set ((4 * i) + 3) (IntKind.u8.wrap (HH.getD i 0))), (show ((vi ((i : Int) + 1)) : Value) = _ by first | rfl | go_num | exact congrArg (Value.int .i64) om), om, (by rw [hO]; rfl), H253, rfl⟩ om
  exact zs
 refine zxb <| ztn <| zsl <| wv 268 (.agg ⟨(O.map (Value.int .u8))⟩) ?_ (hr := Z32 rfl kr kr (by decide) (H230.at 6 rfl))
 refine zy <| Z0u .u8 (B := O) rfl H230 1 rfl rfl rfl kr kr (by decide) (by exact Z12 (H230.at 6 rfl)) fun w258 H259 => ?_
 refine kk <| znt <| Zk ?_
 have hAL_ : O.length = 32 := Z12 (H259.at 1 rfl)
 have H260 := Sat.offW H259 1 rfl
 refine Z5v rfl (Z02 (vs := (O.map (Value.int .u8))) rfl kr (by rw [List.length_map, hAL_]; kernel_rfl) (by rw [List.length_map, hAL_]; decide) (H260.at 1 rfl) (List.take_length)) ?_
 have hfin : O = Zd4 s := by unfold Zd4; rw [← hDm, ← hnb, hO, hHH, show i = 8 by omega, show b = nb by omega]
 exact ⟨by rw [hfin, Z7e], H260.upd 0 rfl [] ne⟩
end Go.Proofs.YtenihpghfdcpkaaGreat
