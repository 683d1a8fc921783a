/- WHAT IS PROVED: contracts and plain laws of ShaR. Conditions: stated with each. -/
import Derived.Test.YtgigjkjdmalmaaaGreatPC04
import Derived.Test.YtgigjkjdmalmaaaGreatPC05
import Derived.Test.YtgigjkjdmalmaaaGreatPC09
set_option maxHeartbeats 4000000
set_option maxRecDepth 100000
namespace Go.Proofs.YtgigjkjdmalmaaaGreat
open Go.RowKit
abbrev Z2D : List Value := ([(.int .u32 (0)), (.int .u32 (0)), (.int .u32 (0)), (.int .u32 (0)), (.int .u32 (0)), (.int .u32 (0)), (.int .u32 (0)), (.int .u32 (0)), (.int .u32 (0)), (.int .u32 (0)), (.int .u32 (0)), (.int .u32 (0)), (.int .u32 (0)), (.int .u32 (0)), (.int .u32 (0)), (.int .u32 (0)), (.int .u32 (0)), (.int .u32 (0)), (.int .u32 (0)), (.int .u32 (0)), (.int .u32 (0)), (.int .u32 (0)), (.int .u32 (0)), (.int .u32 (0))] : List Value) ++ ([(.int .u32 (0)), (.int .u32 (0)), (.int .u32 (0)), (.int .u32 (0)), (.int .u32 (0)), (.int .u32 (0)), (.int .u32 (0)), (.int .u32 (0)), (.int .u32 (0)), (.int .u32 (0)), (.int .u32 (0)), (.int .u32 (0)), (.int .u32 (0)), (.int .u32 (0)), (.int .u32 (0)), (.int .u32 (0)), (.int .u32 (0)), (.int .u32 (0)), (.int .u32 (0)), (.int .u32 (0)), (.int .u32 (0)), (.int .u32 (0)), (.int .u32 (0)), (.int .u32 (0))] : List Value) ++ ([(.int .u32 (0)), (.int .u32 (0)), (.int .u32 (0)), (.int .u32 (0)), (.int .u32 (0)), (.int .u32 (0)), (.int .u32 (0)), (.int .u32 (0)), (.int .u32 (0)), (.int .u32 (0)), (.int .u32 (0)), (.int .u32 (0)), (.int .u32 (0)), (.int .u32 (0)), (.int .u32 (0)), (.int .u32 (0))] : List Value)
abbrev Z42 : List Value := ([(.int .u32 (0)), (.int .u32 (0)), (.int .u32 (0)), (.int .u32 (0)), (.int .u32 (0)), (.int .u32 (0)), (.int .u32 (0)), (.int .u32 (0))] : List Value)
abbrev Z0F (p0 : Option Addr) (p1 : List UInt8) (p2 : Nat) : Ck := Ze 5 1 (.slice p0 p1.length p2) p1.length (p1.flatMap Zo)
theorem Z1e (w : World) (x n : Int) (hn : 0 ≤ n ∧ n ≤ 32) :
  Calls Tryz.prog 52 #[(.int .u32 (x)), (.int .u64 (n))] w fun e w' => e = .returned (.int .u32 (ZL x n)) ∧ Upd [] w w' := by
 have H := Sat.start0 w
 refine Zv Tryz.func52 rfl 13 rfl (Nat.le_of_ble_eq_true rfl) ?_
 apply zsl
 refine wv 4 (.int .u32 (0)) ?_
 apply Z1J
 refine wv 5 (.int .u32 (x)) ?_
 refine wv 6 (.int .u64 (n)) ?_
 refine wv 7 (.int .u32 (x / 2 ^ (min n.toNat 32))) ?_ (hr := Z2y rfl rfl (by omega) rfl (Int.le_of_lt (Int.pow_pos (by decide))))
 refine wv 8 (.int .u32 (x)) ?_
 refine wv 9 (.int .u64 (n)) ?_
 refine wv 10 (.int .u64 (32 - n)) ?_ (hr := Z0h (z := 32 - n) (by kernel_rfl) (Z0Z (by omega)))
 refine wv 11 (.int .u32 (Z1d .u32 x (32 - n))) ?_ (hr := Z3Z rfl rfl (by omega))
 refine wv 12 (.int .u32 (bOr .u32 (x / 2 ^ (min n.toNat 32)) (Z1d .u32 x (32 - n)))) ?_
 refine wv 4 (.int .u32 (bOr .u32 (x / 2 ^ (min n.toNat 32)) (Z1d .u32 x (32 - n)))) ?_
 apply znt
 apply ZU
 refine ze1 (.int .u32 (bOr .u32 (x / 2 ^ (min n.toNat 32)) (Z1d .u32 x (32 - n)))) ?_
 exact ⟨rfl, H.upd 0 rfl [] (fun _ h => h.elim)⟩
theorem Z5L (w : World) :
  Calls Tryz.prog 51 #[] w fun e w' => e = .returned (.agg ⟨kR.map (Value.int .u32)⟩) ∧ Upd [] w w' := by
 have H := Sat.start0 w
 refine Zv Tryz.func51 rfl 2 rfl (Nat.le_of_ble_eq_true rfl) ?_
 apply zsl
 refine zwd fun Kq kq => ?_
 refine zda (Z2D) H ?_
 intro b2 w3 (H4 : Sat w [Za w (fun _ => False), Z3 b2 142 (Z2D)] w3)
 have H5 : Sat w [Za w (fun _ => False), ZF .u32 b2 142 64 (List.replicate 64 (0 : Int))] w3 := Sat.toW H4 1 .u32 (List.replicate 64 (0 : Int)) (by kernel_rfl) (by first | rfl | simp)
 refine kq _ _ ?_
 clear kq Kq
 apply Z1J
 refine wv 1 (.agg ⟨(([(.int .u32 (1116352408)), (.int .u32 (1899447441)), (.int .u32 (3049323471)), (.int .u32 (3921009573)), (.int .u32 (961987163)), (.int .u32 (1508970993)), (.int .u32 (2453635748)), (.int .u32 (2870763221)), (.int .u32 (3624381080)), (.int .u32 (310598401)), (.int .u32 (607225278)), (.int .u32 (1426881987)), (.int .u32 (1925078388)), (.int .u32 (2162078206)), (.int .u32 (2614888103)), (.int .u32 (3248222580)), (.int .u32 (3835390401)), (.int .u32 (4022224774)), (.int .u32 (264347078)), (.int .u32 (604807628)), (.int .u32 (770255983)), (.int .u32 (1249150122)), (.int .u32 (1555081692)), (.int .u32 (1996064986))] : List Value) ++ ([(.int .u32 (2554220882)), (.int .u32 (2821834349)), (.int .u32 (2952996808)), (.int .u32 (3210313671)), (.int .u32 (3336571891)), (.int .u32 (3584528711)), (.int .u32 (113926993)), (.int .u32 (338241895)), (.int .u32 (666307205)), (.int .u32 (773529912)), (.int .u32 (1294757372)), (.int .u32 (1396182291)), (.int .u32 (1695183700)), (.int .u32 (1986661051)), (.int .u32 (2177026350)), (.int .u32 (2456956037)), (.int .u32 (2730485921)), (.int .u32 (2820302411)), (.int .u32 (3259730800)), (.int .u32 (3345764771)), (.int .u32 (3516065817)), (.int .u32 (3600352804)), (.int .u32 (4094571909)), (.int .u32 (275423344))] : List Value) ++ ([(.int .u32 (430227734)), (.int .u32 (506948616)), (.int .u32 (659060556)), (.int .u32 (883997877)), (.int .u32 (958139571)), (.int .u32 (1322822218)), (.int .u32 (1537002063)), (.int .u32 (1747873779)), (.int .u32 (1955562222)), (.int .u32 (2024104815)), (.int .u32 (2227730452)), (.int .u32 (2361852424)), (.int .u32 (2428436474)), (.int .u32 (2756734187)), (.int .u32 (3204031479)), (.int .u32 (3329325298))] : List Value))⟩) ?_
 refine zwd fun Kq kq => ?_
 refine Z03 .u32 (B := ([1116352408, 1899447441, 3049323471, 3921009573, 961987163, 1508970993, 2453635748, 2870763221, 3624381080, 310598401, 607225278, 1426881987, 1925078388, 2162078206, 2614888103, 3248222580, 3835390401, 4022224774, 264347078, 604807628, 770255983, 1249150122, 1555081692, 1996064986, 2554220882, 2821834349, 2952996808, 3210313671, 3336571891, 3584528711, 113926993, 338241895, 666307205, 773529912, 1294757372, 1396182291, 1695183700, 1986661051, 2177026350, 2456956037, 2730485921, 2820302411, 3259730800, 3345764771, 3516065817, 3600352804, 4094571909, 275423344, 430227734, 506948616, 659060556, 883997877, 958139571, 1322822218, 1537002063, 1747873779, 1955562222, 2024104815, 2227730452, 2361852424, 2428436474, 2756734187, 3204031479, 3329325298] : List Int)) rfl H5 1 rfl rfl rfl (by kernel_rfl) (by kernel_rfl) (by decide) (by first | rfl | simp) ?_
 intro w7 H8
 refine kq _ _ ?_
 clear kq Kq
 apply znt
 apply ZU
 have hAL_ : ([1116352408, 1899447441, 3049323471, 3921009573, 961987163, 1508970993, 2453635748, 2870763221, 3624381080, 310598401, 607225278, 1426881987, 1925078388, 2162078206, 2614888103, 3248222580, 3835390401, 4022224774, 264347078, 604807628, 770255983, 1249150122, 1555081692, 1996064986, 2554220882, 2821834349, 2952996808, 3210313671, 3336571891, 3584528711, 113926993, 338241895, 666307205, 773529912, 1294757372, 1396182291, 1695183700, 1986661051, 2177026350, 2456956037, 2730485921, 2820302411, 3259730800, 3345764771, 3516065817, 3600352804, 4094571909, 275423344, 430227734, 506948616, 659060556, 883997877, 958139571, 1322822218, 1537002063, 1747873779, 1955562222, 2024104815, 2227730452, 2361852424, 2428436474, 2756734187, 3204031479, 3329325298] : List Int).length = 64 := Z0n (H8.at 1 rfl)
 have H9 := Sat.offW H8 1 rfl
 refine Z0T rfl (Z0a (vs := (([1116352408, 1899447441, 3049323471, 3921009573, 961987163, 1508970993, 2453635748, 2870763221, 3624381080, 310598401, 607225278, 1426881987, 1925078388, 2162078206, 2614888103, 3248222580, 3835390401, 4022224774, 264347078, 604807628, 770255983, 1249150122, 1555081692, 1996064986, 2554220882, 2821834349, 2952996808, 3210313671, 3336571891, 3584528711, 113926993, 338241895, 666307205, 773529912, 1294757372, 1396182291, 1695183700, 1986661051, 2177026350, 2456956037, 2730485921, 2820302411, 3259730800, 3345764771, 3516065817, 3600352804, 4094571909, 275423344, 430227734, 506948616, 659060556, 883997877, 958139571, 1322822218, 1537002063, 1747873779, 1955562222, 2024104815, 2227730452, 2361852424, 2428436474, 2756734187, 3204031479, 3329325298] : List Int).map (Value.int .u32))) rfl (by kernel_rfl) (by rw [List.length_map, hAL_]; kernel_rfl) (by rw [List.length_map, hAL_]; decide) (H9.at 1 rfl) (List.take_length)) ?_
 exact ⟨rfl, H9.upd 0 rfl [] (fun _ h => h.elim)⟩
theorem Z7m (w : World) (sa : Option Addr) (sc : Nat) (s : List UInt8) (hs : ListAt Zo 1 w (.slice sa s.length sc) s) (hl : s.length ≤ 1000000) :
  Calls Tryz.prog 31 #[(.slice sa s.length sc)] w fun e w' => e = .returned (.agg ⟨hc (Z8 s)⟩) ∧ Upd [] w w' := by
 have H := Sat.start0 w
 refine Zv Tryz.func31 rfl 269 rfl (Nat.le_of_ble_eq_true rfl) ?_
 apply zsl
 refine zwd fun Kq kq => ?_
 refine zda (hc Zb) H ?_
 intro b2 w3 (H4 : Sat w [Za w (fun _ => False), Z3 b2 40 (hc Zb)] w3)
 have H5 : Sat w [Za w (fun _ => False), ZF .u8 b2 40 32 (List.replicate 32 (0 : Int))] w3 := Sat.toW H4 1 .u8 (List.replicate 32 (0 : Int)) (by kernel_rfl) (by first | rfl | simp)
 refine kq _ _ ?_
 clear kq Kq
 apply Z1J
 refine zwd fun Kq kq => ?_
 refine zdq 24 (Z5L w3) H5 ?_
 intro w7 H8
 refine kq _ _ ?_
 clear kq Kq
 refine zwd fun Kq kq => ?_
 refine zda (Z2D) H8 ?_
 intro b11 w12 (H13 : Sat w [Za w (fun _ => False), ZF .u8 b2 40 32 (List.replicate 32 (0 : Int)), Z3 b11 142 (Z2D)] w12)
 have H14 : Sat w [Za w (fun _ => False), ZF .u8 b2 40 32 (List.replicate 32 (0 : Int)), ZF .u32 b11 142 64 (List.replicate 64 (0 : Int))] w12 := Sat.toW H13 2 .u32 (List.replicate 64 (0 : Int)) (by kernel_rfl) (by first | rfl | simp)
 refine kq _ _ ?_
 clear kq Kq
 refine zwd fun Kq kq => ?_
 refine Z03 .u32 (B := kR) rfl H14 2 rfl rfl rfl (by kernel_rfl) (by kernel_rfl) (by decide) (by first | rfl | simp) ?_
 intro w16 H17
 refine kq _ _ ?_
 clear kq Kq
 apply Z1J
 refine wv 25 (.agg ⟨([(.int .u32 (1779033703)), (.int .u32 (3144134277)), (.int .u32 (1013904242)), (.int .u32 (2773480762)), (.int .u32 (1359893119)), (.int .u32 (2600822924)), (.int .u32 (528734635)), (.int .u32 (1541459225))] : List Value)⟩) ?_
 refine zwd fun Kq kq => ?_
 refine zda (Z42) H17 ?_
 intro b19 w20 (H21 : Sat w [Za w (fun _ => False), ZF .u8 b2 40 32 (List.replicate 32 (0 : Int)), ZF .u32 b11 142 64 kR, Z3 b19 144 (Z42)] w20)
 have H22 : Sat w [Za w (fun _ => False), ZF .u8 b2 40 32 (List.replicate 32 (0 : Int)), ZF .u32 b11 142 64 kR, ZF .u32 b19 144 8 ([0, 0, 0, 0, 0, 0, 0, 0] : List Int)] w20 := Sat.toW H21 3 .u32 ([0, 0, 0, 0, 0, 0, 0, 0] : List Int) (by kernel_rfl) (by first | rfl | simp)
 refine kq _ _ ?_
 clear kq Kq
 refine zwd fun Kq kq => ?_
 refine Z03 .u32 (B := ([1779033703, 3144134277, 1013904242, 2773480762, 1359893119, 2600822924, 528734635, 1541459225] : List Int)) rfl H22 3 rfl rfl rfl (by kernel_rfl) (by kernel_rfl) (by decide) (by first | rfl | simp) ?_
 intro w24 H25
 refine kq _ _ ?_
 clear kq Kq
 apply Z1J
 refine wv 26 (.slice sa s.length sc) ?_
 refine zwd fun Kq kq => ?_
 refine Z1M (T := 38) (e := 5) (size := 1) (bytes := 1) rfl H25 (by kernel_rfl) ZV Z0s (ListAt.now H25 0 rfl hs) rfl rfl (by omega) (by omega) ?_
 intro v27 w28 H29
 obtain ⟨a30, c31, rfl⟩ := Zg (H29.at 4 rfl)
 refine kq _ _ ?_
 clear kq Kq
 refine zwd fun Kq kq => ?_
 refine Z5y 5 1 1 (.int .u8 (0)) [(0, (.int .u8 (128)))] ([(.int .u8 (128))] : List Value) H29 ?_
 intro b33 w34 H35
 have H36 := H35.ct 5 rfl (Ze 5 1 (.slice (some ⟨b33, 0, none⟩) 1 1) 1 (([128] : List UInt8).flatMap Zo)) (by rw [(show ([.int .u8 128] : List Value) = ([128] : List UInt8).flatMap Zo by kernel_rfl)])
 refine kq _ _ ?_
 clear kq Kq
 refine zwd fun Kq kq => ?_
 refine Z0z (T := 38) (e := 5) (size := 1) (bytes := 1) rfl H36 (by kernel_rfl) 4 5 rfl rfl rfl rfl (Z0m Zo Z0s ([128] : List UInt8)) (by omega) (by omega) ?_
 intro v38 w39 H40
 have H43 := H40.ct 4 rfl (Ze 5 1 v38 ((s ++ ([128] : List UInt8)).length) ((s ++ ([128] : List UInt8)).flatMap Zo)) ja
 obtain ⟨a41, c42, rfl⟩ := Zg (H43.at 4 rfl)
 refine kq _ _ ?_
 clear kq Kq
 refine wv 5 (.slice a41 ((s ++ ([128] : List UInt8)).length) c42) ?_
 apply znt
 apply Zh
 apply ZM
 have hD0 : (s ++ ([128] : List UInt8)) = s ++ [128] ++ List.replicate 0 0 := (List.append_nil _).symm
 refine Z07 [5, 30, 31, 32, 33, 34, 35, 36] (fun F_ W_ m_ => ∃ (j : Nat) (a : Option Addr) (c : Nat) (D : List UInt8), F_ 5 = (.slice a D.length c) ∧ (j ≤ Z7k s.length) ∧ (D = s ++ [128] ++ List.replicate j 0) ∧ (True) ∧ Sat w [Za w (fun _ => False), ZF .u8 b2 40 32 (List.replicate 32 (0 : Int)), ZF .u32 b11 142 64 kR, ZF .u32 b19 144 8 ([1779033703, 3144134277, 1013904242, 2773480762, 1359893119, 2600822924, 528734635, 1541459225] : List Int), (Z0F a D c), Ze 5 1 (.slice (some ⟨b33, 0, none⟩) 1 1) 1 (([128] : List UInt8).flatMap Zo)] W_ ∧ m_ = 64 - j) _ ⟨0, a41, c42, (s ++ ([128] : List UInt8)), (by first | rfl | go_num), (Nat.zero_le _), hD0, trivial, H43, rfl⟩ ?_
 rintro g44 w45 _ ⟨j, a, c, D, v47, hj, hD, ht_, H46, rfl⟩
 refine Zy 5 _ v47 ?_
 have hDl : D.length = s.length + 1 + j := by rw [hD]; simp; omega
 have hj2 : j ≤ (119 - s.length % 64) % 64 := hj
 apply Zh
 apply zsl
 refine wv 30 (.slice a D.length c) ?_
 refine wv 31 (.int .i64 ((D.length : Int))) ?_
 refine wv 32 (.int .i64 ((D.length : Int) % 64)) ?_ (hr := Z78 (by kernel_rfl) (by omega) (by omega))
 refine wv 33 (.bool (!(decide (((D.length : Int) % 64) = 56)))) ?_
 apply znt
 refine (Z00 (!(decide (((D.length : Int) % 64) = 56)))).elim (fun b49 => ?_) (fun b49 => ?_)
 ·have g50 := Z14 b49
  have g51 := of_decide_eq_false g50
  refine Z2v _ b49 ?_
  apply ZW
  apply ztn
  apply ZM
  apply Zs
  refine wv 34 (.slice a D.length c) ?_
  refine zwd fun Kq kq => ?_
  refine Z5y 5 1 1 (.int .u8 (0)) [(0, (.int .u8 (0)))] ([(.int .u8 (0))] : List Value) H46 ?_
  intro b55 w56 H57
  have H58 := H57.ct 6 rfl (Ze 5 1 (.slice (some ⟨b55, 0, none⟩) 1 1) 1 (([0] : List UInt8).flatMap Zo)) (by rw [(show ([.int .u8 0] : List Value) = ([0] : List UInt8).flatMap Zo by kernel_rfl)])
  refine kq _ _ ?_
  clear kq Kq
  refine zwd fun Kq kq => ?_
  refine Z0z (T := 38) (e := 5) (size := 1) (bytes := 1) rfl H58 (by kernel_rfl) 4 6 rfl rfl rfl rfl (Z0m Zo Z0s ([0] : List UInt8)) (by omega) (by omega) ?_
  intro v60 w61 H62
  have H65 := H62.ct 4 rfl (Ze 5 1 v60 ((D ++ ([0] : List UInt8)).length) ((D ++ ([0] : List UInt8)).flatMap Zo)) ja
  obtain ⟨a63, c64, rfl⟩ := Zg (H65.at 4 rfl)
  refine kq _ _ ?_
  clear kq Kq
  refine wv 5 (.slice a63 ((D ++ ([0] : List UInt8)).length) c64) ?_
  apply Zr
  apply ZR
  have H66 := H65.pk [0, 1, 2, 3, 4, 5]
  refine ZS ?_ _ ⟨(j + 1), a63, c64, (D ++ ([0] : List UInt8)), (show ((.slice a63 ((D ++ ([0] : List UInt8)).length) c64) : Value) = _ by first | rfl | go_num), (by unfold Z7k; omega), (by rw [hD]; exact Z5q s j), trivial, H66, rfl⟩ (by omega)
  exact zs
 have g67 := Z09 b49
 have g68 := of_decide_eq_true g67
 refine Z1K _ b49 ?_
 apply zxb
 apply ztn
 apply zsl
 refine wv 37 (.slice sa s.length sc) ?_
 refine wv 38 (.int .i64 ((s.length : Int))) ?_
 refine wv 39 (.int .u64 ((s.length : Int))) ?_ (hr := Z0h (z := (s.length : Int)) (by kernel_rfl) (Z0Z (by omega)))
 refine wv 40 (.int .u64 ((s.length : Int) * 8)) ?_ (hr := Z0h (z := (s.length : Int) * 8) (by kernel_rfl) (Z0Z (by omega)))
 refine wv 6 (.int .u64 ((s.length : Int) * 8)) ?_
 apply znt
 apply Zh
 apply zsl
 refine wv 7 (.int .i64 (7)) ?_
 apply znt
 apply ZM
 obtain ⟨P, hP⟩ : ∃ P, P = D := ⟨_, rfl⟩
 have hPl : P.length % 64 = 56 := by rw [hP]; omega
 have hP2 : P = padP s := by rw [hP, hD]; unfold padP; rw [show j = Z7k s.length by unfold Z7k; omega]
 have hPn : P.length ≤ s.length + 100 := by rw [hP, hDl]; omega
 refine Z07 ([5, 7] ++ List.range' 41 13) (fun F_ W_ m_ => ∃ (q : Nat) (a : Option Addr) (c : Nat) (D : List UInt8), F_ 7 = (.int .i64 ((7 - (q : Int)))) ∧ F_ 5 = (.slice a D.length c) ∧ (q ≤ 8) ∧ (D = P ++ Z70 ((s.length : Int) * 8) q) ∧ Sat w [Za w (fun _ => False), ZF .u8 b2 40 32 (List.replicate 32 (0 : Int)), ZF .u32 b11 142 64 kR, ZF .u32 b19 144 8 ([1779033703, 3144134277, 1013904242, 2773480762, 1359893119, 2600822924, 528734635, 1541459225] : List Int), (Z0F a D c), Ze 5 1 (.slice (some ⟨b33, 0, none⟩) 1 1) 1 (([128] : List UInt8).flatMap Zo)] W_ ∧ m_ = 8 - q) _ ⟨0, a, c, D, (show ((.int .i64 (7)) : Value) = _ by first | rfl | go_num), (by first | rfl | go_num), (Nat.zero_le _), (by rw [hP]; exact (List.append_nil _).symm), H46, rfl⟩ ?_
 rintro g71 w72 _ ⟨q, a, c, D, v74, v75, hq, hD, H73, rfl⟩
 refine Zy 7 _ v74 ?_
 refine Zy 5 _ v75 ?_
 have hDl : D.length = P.length + q := by rw [hD, List.length_append, Z5k]
 apply Zh
 apply zsl
 refine wv 41 (.int .i64 ((7 - (q : Int)))) ?_
 refine wv 42 (.bool (decide ((7 - (q : Int)) ≥ 0))) ?_
 apply znt
 refine (Z00 (decide ((7 - (q : Int)) ≥ 0))).elim (fun b77 => ?_) (fun b77 => ?_)
 ·have g78 := of_decide_eq_true b77
  refine Z2v _ b77 ?_
  apply ZW
  apply ztn
  apply Zh
  apply ZM
  apply Zs
  refine wv 45 (.slice a D.length c) ?_
  refine wv 46 (.int .u64 ((s.length : Int) * 8)) ?_
  refine wv 47 (.int .i64 ((7 - (q : Int)))) ?_
  refine zwi 48 (8 * (7 - (q : Int))) ?_
  refine wv 49 (.int .u64 (8 * (7 - (q : Int)))) ?_ (hr := Z0h (z := 8 * (7 - (q : Int))) (by kernel_rfl) (Z0Z (by omega)))
  refine wv 50 (.int .u64 (((s.length : Int) * 8) / 2 ^ (min (8 * (7 - (q : Int))).toNat 64))) ?_ (hr := Z2y rfl rfl (by omega) rfl (Int.le_of_lt (Int.pow_pos (by decide))))
  refine wv 51 (.int .u8 (IntKind.u8.wrap (((s.length : Int) * 8) / 2 ^ (min (8 * (7 - (q : Int))).toNat 64)))) ?_
  refine zwd fun Kq kq => ?_
  refine Z5y 5 1 1 (.int .u8 (0)) [(0, (.int .u8 (IntKind.u8.wrap (((s.length : Int) * 8) / 2 ^ (min (8 * (7 - (q : Int))).toNat 64)))))] ([(.int .u8 (IntKind.u8.wrap (((s.length : Int) * 8) / 2 ^ (min (8 * (7 - (q : Int))).toNat 64))))] : List Value) H73 ?_
  intro b81 w82 H83
  have H84 := H83.ct 6 rfl (Ze 5 1 (.slice (some ⟨b81, 0, none⟩) 1 1) 1 ([UInt8.ofNat (IntKind.u8.wrap (((s.length : Int) * 8) / 2 ^ (min (8 * (7 - (q : Int))).toNat 64))).toNat].flatMap Zo)) (by rw [Z1W (Z1c _)])
  refine kq _ _ ?_
  clear kq Kq
  refine zwd fun Kq kq => ?_
  refine Z0z (T := 38) (e := 5) (size := 1) (bytes := 1) rfl H84 (by kernel_rfl) 4 6 rfl rfl rfl rfl (Z0m Zo Z0s [UInt8.ofNat (IntKind.u8.wrap (((s.length : Int) * 8) / 2 ^ (min (8 * (7 - (q : Int))).toNat 64))).toNat]) (by omega) (by omega) ?_
  intro v86 w87 H88
  have H91 := H88.ct 4 rfl (Ze 5 1 v86 ((D ++ [UInt8.ofNat (IntKind.u8.wrap (((s.length : Int) * 8) / 2 ^ (min (8 * (7 - (q : Int))).toNat 64))).toNat]).length) ((D ++ [UInt8.ofNat (IntKind.u8.wrap (((s.length : Int) * 8) / 2 ^ (min (8 * (7 - (q : Int))).toNat 64))).toNat]).flatMap Zo)) ja
  obtain ⟨a89, c90, rfl⟩ := Zg (H91.at 4 rfl)
  refine kq _ _ ?_
  clear kq Kq
  refine wv 5 (.slice a89 ((D ++ [UInt8.ofNat (IntKind.u8.wrap (((s.length : Int) * 8) / 2 ^ (min (8 * (7 - (q : Int))).toNat 64))).toNat]).length) c90) ?_
  apply Zr
  apply ZR
  apply ztn
  apply Zs
  refine wv 43 (.int .i64 ((7 - (q : Int)))) ?_
  refine zwi 44 ((7 - (q : Int)) - 1) ?_
  refine wv 7 (.int .i64 ((7 - (q : Int)) - 1)) ?_
  apply Zr
  have H92 := H91.pk [0, 1, 2, 3, 4, 5]
  refine ZS ?_ _ ⟨(q + 1), a89, c90, (D ++ [UInt8.ofNat (IntKind.u8.wrap (((s.length : Int) * 8) / 2 ^ (min (8 * (7 - (q : Int))).toNat 64))).toNat]), (show ((.int .i64 ((7 - (q : Int)) - 1)) : Value) = _ by first | rfl | go_num | exact congrArg (Value.int .i64) (by omega)), (show ((.slice a89 ((D ++ [UInt8.ofNat (IntKind.u8.wrap (((s.length : Int) * 8) / 2 ^ (min (8 * (7 - (q : Int))).toNat 64))).toNat]).length) c90) : Value) = _ by first | rfl | go_num | exact congrArg (Value.int .i64) (by omega)), (by omega), (by rw [hD]; exact (List.append_assoc _ _ _).trans (congrArg (P ++ ·) (Z5l _ q).symm)), H92, rfl⟩ (by omega)
  exact zs
 have g93 := of_decide_eq_false b77
 refine Z1K _ b77 ?_
 apply zxb
 apply ztn
 apply Zh
 apply zsl
 refine wv 8 (.int .i64 (0)) ?_
 apply znt
 apply ZM
 have hDm : D = Z8f s := by unfold Z8f; rw [hD, ← hP2, show q = 8 by omega]
 obtain ⟨nb, hnb⟩ : ∃ nb, nb = D.length / 64 := ⟨_, rfl⟩
 have hml : D.length = 64 * nb := by omega
 refine Z07 (List.range' 8 14 ++ List.range' 54 176) (fun F_ W_ m_ => ∃ (b : Nat) (HH : List Int), F_ 8 = (.int .i64 ((64 * (b : Int)))) ∧ (b ≤ nb) ∧ (HH = Z7S D b) ∧ Sat w [Za w (fun _ => False), ZF .u8 b2 40 32 (List.replicate 32 (0 : Int)), ZF .u32 b11 142 64 kR, ZF .u32 b19 144 8 HH, (Z0F a D c), Ze 5 1 (.slice (some ⟨b33, 0, none⟩) 1 1) 1 (([128] : List UInt8).flatMap Zo)] W_ ∧ m_ = nb - b) _ ⟨0, ([1779033703, 3144134277, 1013904242, 2773480762, 1359893119, 2600822924, 528734635, 1541459225] : List Int), (show ((.int .i64 (0)) : Value) = _ by first | rfl | go_num), (Nat.zero_le _), rfl, H73, rfl⟩ ?_
 rintro g95 w96 _ ⟨b, HH, v98, hb, hHH, H97, rfl⟩
 refine Zy 8 _ v98 ?_
 apply Zh
 apply zsl
 refine wv 54 (.int .i64 ((64 * (b : Int)))) ?_
 refine wv 55 (.slice a D.length c) ?_
 refine wv 56 (.int .i64 ((D.length : Int))) ?_
 refine wv 57 (.bool (decide ((64 * (b : Int)) < (D.length : Int)))) ?_
 apply znt
 refine (Z00 (decide ((64 * (b : Int)) < (D.length : Int)))).elim (fun b100 => ?_) (fun b100 => ?_)
 ·have g101 := of_decide_eq_true b100
  refine Z2v _ b100 ?_
  apply ZW
  apply ztn
  apply Zh
  apply ZM
  apply zsl
  refine zwd fun Kq kq => ?_
  refine zda (Z2D) H97 ?_
  intro b104 w105 (H106 : Sat w [Za w (fun _ => False), ZF .u8 b2 40 32 (List.replicate 32 (0 : Int)), ZF .u32 b11 142 64 kR, ZF .u32 b19 144 8 HH, (Z0F a D c), Ze 5 1 (.slice (some ⟨b33, 0, none⟩) 1 1) 1 (([128] : List UInt8).flatMap Zo), Z3 b104 142 (Z2D)] w105)
  have H107 : Sat w [Za w (fun _ => False), ZF .u8 b2 40 32 (List.replicate 32 (0 : Int)), ZF .u32 b11 142 64 kR, ZF .u32 b19 144 8 HH, (Z0F a D c), Ze 5 1 (.slice (some ⟨b33, 0, none⟩) 1 1) 1 (([128] : List UInt8).flatMap Zo), ZF .u32 b104 142 64 (List.replicate 64 (0 : Int))] w105 := Sat.toW H106 6 .u32 (List.replicate 64 (0 : Int)) (by kernel_rfl) (by first | rfl | simp)
  refine kq _ _ ?_
  clear kq Kq
  apply znt
  apply Zh
  apply zsl
  refine wv 10 (.int .i64 (0)) ?_
  apply znt
  apply ZM
  have hb1 : b < nb := by omega
  refine Z07 ([10, 11] ++ List.range' 60 34) (fun F_ W_ m_ => ∃ (i : Nat) (A : List Int), F_ 10 = (.int .i64 ((i : Int))) ∧ (i ≤ 16) ∧ (A = wLd D b i) ∧ Sat w [Za w (fun _ => False), ZF .u8 b2 40 32 (List.replicate 32 (0 : Int)), ZF .u32 b11 142 64 kR, ZF .u32 b19 144 8 HH, (Z0F a D c), Ze 5 1 (.slice (some ⟨b33, 0, none⟩) 1 1) 1 (([128] : List UInt8).flatMap Zo), ZF .u32 b104 142 64 A] W_ ∧ m_ = 16 - i) _ ⟨0, (List.replicate 64 (0 : Int)), (show ((.int .i64 (0)) : Value) = _ by first | rfl | go_num), (Nat.zero_le _), rfl, H107, rfl⟩ ?_
  rintro g108 w109 _ ⟨i, A, v111, hi, hA, H110, rfl⟩
  refine Zy 10 _ v111 ?_
  apply Zh
  apply zsl
  refine wv 60 (.int .i64 ((i : Int))) ?_
  refine wv 61 (.bool (decide ((i : Int) < 16))) ?_
  apply znt
  refine (Z00 (decide ((i : Int) < 16))).elim (fun b113 => ?_) (fun b113 => ?_)
  ·have g114 := of_decide_eq_true b113
   refine Z2v _ b113 ?_
   apply ZW
   apply ztn
   apply Zh
   apply ZM
   apply zsl
   refine wv 64 (.slice a D.length c) ?_
   refine wv 65 (.int .i64 ((64 * (b : Int)))) ?_
   refine wv 66 (.int .i64 ((i : Int))) ?_
   refine zwi 67 (4 * (i : Int)) ?_
   refine zwi 68 ((64 * (b : Int)) + (4 * (i : Int))) ?_
   refine wv 69 (.slice (if c = ((64 * b) + (4 * i)) then a else a.map (·.add (((64 * b) + (4 * i)) * 1))) (D.length - ((64 * b) + (4 * i))) (c - ((64 * b) + (4 * i)))) ?_ (hr := Z2z (E := 5) (q := ((64 * b) + (4 * i))) (by kernel_rfl) (by kernel_rfl) rfl rfl rfl (by omega))
   refine wv 11 (.slice (if c = ((64 * b) + (4 * i)) then a else a.map (·.add (((64 * b) + (4 * i)) * 1))) (D.length - ((64 * b) + (4 * i))) (c - ((64 * b) + (4 * i)))) ?_
   apply znt
   obtain ⟨g116, o117, c118, e119⟩ := Z1Z (ListAt.dropG (k := ((64 * b) + (4 * i))) (ListAt.row (enc := Zo) (sz := 1) ZV (by decide) (H110.at 4 rfl)) (by omega)) (show 0 < (D.drop ((64 * b) + (4 * i))).length by (simp only [List.length_drop]; omega))
   obtain ⟨g120, o121, c122, e123⟩ := Z1Z (ListAt.dropG (k := ((64 * b) + (4 * i))) (ListAt.row (enc := Zo) (sz := 1) ZV (by decide) (H110.at 4 rfl)) (by omega)) (show 0 < (D.drop ((64 * b) + (4 * i))).length by (simp only [List.length_drop]; omega))
   refine Z0g H110 [Za w (fun _ => False), ZF .u8 b2 40 32 (List.replicate 32 (0 : Int)), ZF .u32 b11 142 64 kR, ZF .u32 b19 144 8 HH, (Z0F a D c), Ze 5 1 (.slice (some ⟨b33, 0, none⟩) 1 1) 1 (([128] : List UInt8).flatMap Zo)] 25 rfl (by kernel_rfl) (fun Hx => (Hx.pk [0, 1, 2, 3, 4, 5])) ?_
   intro w124 H125 S126
   refine hv0 0 S126 70 (.int .i64 ((i : Int))) ?_
   refine hv0 1 S126 71 (.slice (if c = ((64 * b) + (4 * i)) then a else a.map (·.add (((64 * b) + (4 * i)) * 1))) (D.length - ((64 * b) + (4 * i))) (c - ((64 * b) + (4 * i)))) ?_
   obtain ⟨g127, o128, c129, e130⟩ := Z1Z (ListAt.dropG (k := ((64 * b) + (4 * i))) (ListAt.row (enc := Zo) (sz := 1) ZV (by decide) (H125.at 4 rfl)) (by omega)) (show 0 < (D.drop ((64 * b) + (4 * i))).length by (simp only [List.length_drop]; omega))
   refine Zp 2 rfl (by kernel_rfl) (by kernel_rfl) (by kernel_rfl) (fun _ _ _ h => h) S126 (Z2 rfl) (d := 72) (v := (.pointer (some ⟨g127, o128 + ((0 : Int)).toNat * 1, none⟩))) rfl (fun _ H' => (Z0d (E := 5) (by kernel_rfl) (by kernel_rfl) (Nat.le_of_ble_eq_true rfl) rfl e130 rfl (by omega) (by (simp only [List.length_drop]; omega)))) ?_
   refine hv0 3 S126 73 (.int .u8 ((((D.drop ((64 * b) + (4 * i))).getD 0 0).toNat : Int))) ?_ (he := fun _ H' => (Zi rfl (by kernel_rfl) (Z1h (by have q := (ListAt.dropG (k := ((64 * b) + (4 * i))) (ListAt.row (enc := Zo) (sz := 1) ZV (by decide) (H'.at 4 rfl)) (by omega)); rw [e130] at q; exact q) (show 0 < (D.drop ((64 * b) + (4 * i))).length by (simp only [List.length_drop]; omega)) (show o128 + ((0 : Int)).toNat * 1 = o128 + 0 by omega))))
   refine hv0 4 S126 74 (.int .u32 (IntKind.u32.wrap ((((D.drop ((64 * b) + (4 * i))).getD 0 0).toNat : Int)))) ?_
   refine hv0 5 S126 75 (.int .u32 (Z1d .u32 (IntKind.u32.wrap ((((D.drop ((64 * b) + (4 * i))).getD 0 0).toNat : Int))) 24)) ?_ (he := fun _ H' => (Z3Z rfl rfl (by decide)))
   refine hv0 6 S126 76 (.slice (if c = ((64 * b) + (4 * i)) then a else a.map (·.add (((64 * b) + (4 * i)) * 1))) (D.length - ((64 * b) + (4 * i))) (c - ((64 * b) + (4 * i)))) ?_
   refine Zp 7 rfl (by kernel_rfl) (by kernel_rfl) (by kernel_rfl) (fun _ _ _ h => h) S126 (Z2 rfl) (d := 77) (v := (.pointer (some ⟨g127, o128 + ((1 : Int)).toNat * 1, none⟩))) rfl (fun _ H' => (Z0d (E := 5) (by kernel_rfl) (by kernel_rfl) (Nat.le_of_ble_eq_true rfl) rfl e130 rfl (by omega) (by (simp only [List.length_drop]; omega)))) ?_
   refine hv0 8 S126 78 (.int .u8 ((((D.drop ((64 * b) + (4 * i))).getD 1 0).toNat : Int))) ?_ (he := fun _ H' => (Zi rfl (by kernel_rfl) (Z1h (by have q := (ListAt.dropG (k := ((64 * b) + (4 * i))) (ListAt.row (enc := Zo) (sz := 1) ZV (by decide) (H'.at 4 rfl)) (by omega)); rw [e130] at q; exact q) (show 1 < (D.drop ((64 * b) + (4 * i))).length by (simp only [List.length_drop]; omega)) (show o128 + ((1 : Int)).toNat * 1 = o128 + 1 by omega))))
   refine hv0 9 S126 79 (.int .u32 (IntKind.u32.wrap ((((D.drop ((64 * b) + (4 * i))).getD 1 0).toNat : Int)))) ?_
   refine hv0 10 S126 80 (.int .u32 (Z1d .u32 (IntKind.u32.wrap ((((D.drop ((64 * b) + (4 * i))).getD 1 0).toNat : Int))) 16)) ?_ (he := fun _ H' => (Z3Z rfl rfl (by decide)))
   refine hv0 11 S126 81 (.int .u32 (bOr .u32 (Z1d .u32 (IntKind.u32.wrap ((((D.drop ((64 * b) + (4 * i))).getD 0 0).toNat : Int))) 24) (Z1d .u32 (IntKind.u32.wrap ((((D.drop ((64 * b) + (4 * i))).getD 1 0).toNat : Int))) 16))) ?_
   refine hv0 12 S126 82 (.slice (if c = ((64 * b) + (4 * i)) then a else a.map (·.add (((64 * b) + (4 * i)) * 1))) (D.length - ((64 * b) + (4 * i))) (c - ((64 * b) + (4 * i)))) ?_
   refine Zp 13 rfl (by kernel_rfl) (by kernel_rfl) (by kernel_rfl) (fun _ _ _ h => h) S126 (Z2 rfl) (d := 83) (v := (.pointer (some ⟨g127, o128 + ((2 : Int)).toNat * 1, none⟩))) rfl (fun _ H' => (Z0d (E := 5) (by kernel_rfl) (by kernel_rfl) (Nat.le_of_ble_eq_true rfl) rfl e130 rfl (by omega) (by (simp only [List.length_drop]; omega)))) ?_
   refine hv0 14 S126 84 (.int .u8 ((((D.drop ((64 * b) + (4 * i))).getD 2 0).toNat : Int))) ?_ (he := fun _ H' => (Zi rfl (by kernel_rfl) (Z1h (by have q := (ListAt.dropG (k := ((64 * b) + (4 * i))) (ListAt.row (enc := Zo) (sz := 1) ZV (by decide) (H'.at 4 rfl)) (by omega)); rw [e130] at q; exact q) (show 2 < (D.drop ((64 * b) + (4 * i))).length by (simp only [List.length_drop]; omega)) (show o128 + ((2 : Int)).toNat * 1 = o128 + 2 by omega))))
   refine hv0 15 S126 85 (.int .u32 (IntKind.u32.wrap ((((D.drop ((64 * b) + (4 * i))).getD 2 0).toNat : Int)))) ?_
   refine hv0 16 S126 86 (.int .u32 (Z1d .u32 (IntKind.u32.wrap ((((D.drop ((64 * b) + (4 * i))).getD 2 0).toNat : Int))) 8)) ?_ (he := fun _ H' => (Z3Z rfl rfl (by decide)))
   refine hv0 17 S126 87 (.int .u32 (bOr .u32 (bOr .u32 (Z1d .u32 (IntKind.u32.wrap ((((D.drop ((64 * b) + (4 * i))).getD 0 0).toNat : Int))) 24) (Z1d .u32 (IntKind.u32.wrap ((((D.drop ((64 * b) + (4 * i))).getD 1 0).toNat : Int))) 16)) (Z1d .u32 (IntKind.u32.wrap ((((D.drop ((64 * b) + (4 * i))).getD 2 0).toNat : Int))) 8))) ?_
   refine hv0 18 S126 88 (.slice (if c = ((64 * b) + (4 * i)) then a else a.map (·.add (((64 * b) + (4 * i)) * 1))) (D.length - ((64 * b) + (4 * i))) (c - ((64 * b) + (4 * i)))) ?_
   refine Zp 19 rfl (by kernel_rfl) (by kernel_rfl) (by kernel_rfl) (fun _ _ _ h => h) S126 (Z2 rfl) (d := 89) (v := (.pointer (some ⟨g127, o128 + ((3 : Int)).toNat * 1, none⟩))) rfl (fun _ H' => (Z0d (E := 5) (by kernel_rfl) (by kernel_rfl) (Nat.le_of_ble_eq_true rfl) rfl e130 rfl (by omega) (by (simp only [List.length_drop]; omega)))) ?_
   refine hv0 20 S126 90 (.int .u8 ((((D.drop ((64 * b) + (4 * i))).getD 3 0).toNat : Int))) ?_ (he := fun _ H' => (Zi rfl (by kernel_rfl) (Z1h (by have q := (ListAt.dropG (k := ((64 * b) + (4 * i))) (ListAt.row (enc := Zo) (sz := 1) ZV (by decide) (H'.at 4 rfl)) (by omega)); rw [e130] at q; exact q) (show 3 < (D.drop ((64 * b) + (4 * i))).length by (simp only [List.length_drop]; omega)) (show o128 + ((3 : Int)).toNat * 1 = o128 + 3 by omega))))
   refine hv0 21 S126 91 (.int .u32 (IntKind.u32.wrap ((((D.drop ((64 * b) + (4 * i))).getD 3 0).toNat : Int)))) ?_
   refine hv0 22 S126 92 (.int .u32 (bOr .u32 (bOr .u32 (bOr .u32 (Z1d .u32 (IntKind.u32.wrap ((((D.drop ((64 * b) + (4 * i))).getD 0 0).toNat : Int))) 24) (Z1d .u32 (IntKind.u32.wrap ((((D.drop ((64 * b) + (4 * i))).getD 1 0).toNat : Int))) 16)) (Z1d .u32 (IntKind.u32.wrap ((((D.drop ((64 * b) + (4 * i))).getD 2 0).toNat : Int))) 8)) (IntKind.u32.wrap ((((D.drop ((64 * b) + (4 * i))).getD 3 0).toNat : Int))))) ?_
   refine hv0 23 S126 93 (.pointer (some ⟨b104, 0 + ((i : Int)).toNat * 1, none⟩)) ?_ (he := fun _ H' => (ZC (E := 141) (N := 64) (by kernel_rfl) (by kernel_rfl) (Nat.le_of_ble_eq_true rfl) rfl rfl (by omega) (by omega)))
   refine Z0L 24 fun Kq kq => ?_
   refine Z15 .u32 rfl H125 6 rfl rfl rfl (by kernel_rfl) (show 0 + ((i : Int)).toNat * 1 = i by omega) (show i < 64 by omega) ?_
   intro w132 H133
   have S134 := H133.pk [0, 1, 2, 3, 4, 5]
   refine kq _ _ S134 ?_
   clear kq Kq
   refine zhf ?_
   apply ZR
   apply ztn
   apply Zs
   refine wv 62 (.int .i64 ((i : Int))) ?_
   refine zwi 63 ((i : Int) + 1) ?_
   refine wv 10 (.int .i64 ((i : Int) + 1)) ?_
   apply Zr
   refine ZS ?_ _ ⟨(i + 1), (A.set i (bOr .u32 (bOr .u32 (bOr .u32 (Z1d .u32 (IntKind.u32.wrap ((((D.drop ((64 * b) + (4 * i))).getD 0 0).toNat : Int))) 24) (Z1d .u32 (IntKind.u32.wrap ((((D.drop ((64 * b) + (4 * i))).getD 1 0).toNat : Int))) 16)) (Z1d .u32 (IntKind.u32.wrap ((((D.drop ((64 * b) + (4 * i))).getD 2 0).toNat : Int))) 8)) (IntKind.u32.wrap ((((D.drop ((64 * b) + (4 * i))).getD 3 0).toNat : Int))))), (show ((.int .i64 ((i : Int) + 1)) : Value) = _ by first | rfl | go_num | exact congrArg (Value.int .i64) (by omega)), (by omega), (by rw [hA]; rfl), H133, rfl⟩ (by omega)
   exact zs
  have g135 := of_decide_eq_false b113
  refine Z1K _ b113 ?_
  apply zxb
  apply ztn
  apply Zh
  apply zsl
  refine wv 12 (.int .i64 (16)) ?_
  apply znt
  apply ZM
  obtain rfl : i = 16 := by omega
  refine Z07 ([12, 13, 14] ++ List.range' 94 41) (fun F_ W_ m_ => ∃ (j : Nat) (B : List Int), F_ 12 = (.int .i64 (((j : Int) + 16))) ∧ (j ≤ 48) ∧ (B = wEx A j) ∧ Sat w [Za w (fun _ => False), ZF .u8 b2 40 32 (List.replicate 32 (0 : Int)), ZF .u32 b11 142 64 kR, ZF .u32 b19 144 8 HH, (Z0F a D c), Ze 5 1 (.slice (some ⟨b33, 0, none⟩) 1 1) 1 (([128] : List UInt8).flatMap Zo), ZF .u32 b104 142 64 B] W_ ∧ m_ = 48 - j) _ ⟨0, A, (show ((.int .i64 (16)) : Value) = _ by first | rfl | go_num), (Nat.zero_le _), rfl, H110, rfl⟩ ?_
  rintro g137 w138 _ ⟨j, B, v140, hj, hB, H139, rfl⟩
  refine Zy 12 _ v140 ?_
  apply Zh
  apply zsl
  refine wv 94 (.int .i64 (((j : Int) + 16))) ?_
  refine wv 95 (.bool (decide (((j : Int) + 16) < 64))) ?_
  apply znt
  refine (Z00 (decide (((j : Int) + 16) < 64))).elim (fun b142 => ?_) (fun b142 => ?_)
  ·have g143 := of_decide_eq_true b142
   refine Z2v _ b142 ?_
   apply ZW
   apply ztn
   apply Zh
   apply ZM
   apply Zh
   refine zqs H139 ?_
   refine qv 98 (.int .i64 (((j : Int) + 16))) ?_
   refine qv 99 (.int .i64 (((j : Int) + 16) - 15)) ?_ (hr := fun _ H' => (Z0h (z := ((j : Int) + 16) - 15) (by kernel_rfl) (IntWalk.i64_in _ (by omega))))
   refine qv 100 (.pointer (some ⟨b104, 0 + (((j : Int) + 16) - 15).toNat * 1, none⟩)) ?_ (hr := fun _ H' => (ZC (E := 141) (N := 64) (by kernel_rfl) (by kernel_rfl) (Nat.le_of_ble_eq_true rfl) rfl rfl (by omega) (by omega)))
   refine qv 101 (.int .u32 (B.getD ((j + 16) - 15) 0)) ?_ (hr := fun _ H' => (Zi rfl (by kernel_rfl) (Zz (H'.at 6 rfl) (show ((j + 16) - 15) < 64 by omega) (show 0 + (((j : Int) + 16) - 15).toNat * 1 = ((j + 16) - 15) by omega))))
   refine qv 102 (.int .i64 (((j : Int) + 16))) ?_
   refine qv 103 (.int .i64 (((j : Int) + 16) - 2)) ?_ (hr := fun _ H' => (Z0h (z := ((j : Int) + 16) - 2) (by kernel_rfl) (IntWalk.i64_in _ (by omega))))
   refine qv 104 (.pointer (some ⟨b104, 0 + (((j : Int) + 16) - 2).toNat * 1, none⟩)) ?_ (hr := fun _ H' => (ZC (E := 141) (N := 64) (by kernel_rfl) (by kernel_rfl) (Nat.le_of_ble_eq_true rfl) rfl rfl (by omega) (by omega)))
   refine qv 105 (.int .u32 (B.getD ((j + 16) - 2) 0)) ?_ (hr := fun _ H' => (Zi rfl (by kernel_rfl) (Zz (H'.at 6 rfl) (show ((j + 16) - 2) < 64 by omega) (show 0 + (((j : Int) + 16) - 2).toNat * 1 = ((j + 16) - 2) by omega))))
   refine qv 13 (.int .u32 (B.getD ((j + 16) - 15) 0)) ?_
   refine qv 14 (.int .u32 (B.getD ((j + 16) - 2) 0)) ?_
   refine Z22 ?_
   intro w145 H146
   apply ztn
   refine Z12 H146 [Za w (fun _ => False), ZF .u8 b2 40 32 (List.replicate 32 (0 : Int)), ZF .u32 b11 142 64 kR, ZF .u32 b19 144 8 HH, (Z0F a D c), Ze 5 1 (.slice (some ⟨b33, 0, none⟩) 1 1) 1 (([128] : List UInt8).flatMap Zo), ZF .u32 b104 142 64 B] [29] 30 rfl (by kernel_rfl) (fun Hx => (Hx.pk [0, 1, 2, 3, 4, 5, 6])) ?_
   intro w147 H148 S149
   refine zkp 0 S149 106 (.int .i64 (((j : Int) + 16))) ?_
   refine zkp 1 S149 107 (.int .i64 (((j : Int) + 16))) ?_
   refine zkp 2 S149 108 (.int .i64 (((j : Int) + 16) - 16)) ?_ (he := fun _ => (Z0h (z := ((j : Int) + 16) - 16) (by kernel_rfl) (IntWalk.i64_in _ (by omega))))
   refine zkp 3 S149 109 (.pointer (some ⟨b104, 0 + (((j : Int) + 16) - 16).toNat * 1, none⟩)) ?_ (he := fun _ => (ZC (E := 141) (N := 64) (by kernel_rfl) (by kernel_rfl) (Nat.le_of_ble_eq_true rfl) rfl rfl (by omega) (by omega)))
   refine zkv 4 S149 110 (.int .u32 (B.getD ((j + 16) - 16) 0)) ?_ (he := fun _ H' => (Zi rfl (by kernel_rfl) (Zz (H'.at 6 rfl) (show ((j + 16) - 16) < 64 by omega) (show 0 + (((j : Int) + 16) - 16).toNat * 1 = ((j + 16) - 16) by omega))))
   refine zkp 5 S149 111 (.int .u32 (B.getD ((j + 16) - 15) 0)) ?_
   refine zkp 7 S149 113 (.int .u32 (B.getD ((j + 16) - 15) 0)) ?_
   refine zkp 10 S149 116 (.int .u32 (B.getD ((j + 16) - 15) 0)) ?_
   refine zkp 11 S149 117 (.int .u32 ((B.getD ((j + 16) - 15) 0) / 8)) ?_ (he := fun _ => (Z2y rfl rfl (by decide) (by decide) (by decide)))
   refine zkp 14 S149 120 (.int .i64 (((j : Int) + 16))) ?_
   refine zkp 15 S149 121 (.int .i64 (((j : Int) + 16) - 7)) ?_ (he := fun _ => (Z0h (z := ((j : Int) + 16) - 7) (by kernel_rfl) (IntWalk.i64_in _ (by omega))))
   refine zkp 16 S149 122 (.pointer (some ⟨b104, 0 + (((j : Int) + 16) - 7).toNat * 1, none⟩)) ?_ (he := fun _ => (ZC (E := 141) (N := 64) (by kernel_rfl) (by kernel_rfl) (Nat.le_of_ble_eq_true rfl) rfl rfl (by omega) (by omega)))
   refine zkv 17 S149 123 (.int .u32 (B.getD ((j + 16) - 7) 0)) ?_ (he := fun _ H' => (Zi rfl (by kernel_rfl) (Zz (H'.at 6 rfl) (show ((j + 16) - 7) < 64 by omega) (show 0 + (((j : Int) + 16) - 7).toNat * 1 = ((j + 16) - 7) by omega))))
   refine zkp 19 S149 125 (.int .u32 (B.getD ((j + 16) - 2) 0)) ?_
   refine zkp 21 S149 127 (.int .u32 (B.getD ((j + 16) - 2) 0)) ?_
   refine zkp 24 S149 130 (.int .u32 (B.getD ((j + 16) - 2) 0)) ?_
   refine zkp 25 S149 131 (.int .u32 ((B.getD ((j + 16) - 2) 0) / 1024)) ?_ (he := fun _ => (Z2y rfl rfl (by decide) (by decide) (by decide)))
   refine Z7y 6 fun Kq kq => ?_
   refine zdq 112 (Z1e w147 (B.getD ((j + 16) - 15) 0) 7 (by omega)) H148 ?_
   intro w151 H152
   have S154 := H152.pk [0, 1, 2, 3, 4, 5, 6]
   refine kq _ _ S154 ?_
   clear kq Kq
   refine Z7y 8 fun Kq kq => ?_
   refine zdq 114 (Z1e w151 (B.getD ((j + 16) - 15) 0) 18 (by omega)) H152 ?_
   intro w156 H157
   have S159 := H157.pk [0, 1, 2, 3, 4, 5, 6]
   refine kq _ _ S159 ?_
   clear kq Kq
   refine zkp 9 S159 115 (.int .u32 (ZH .u32 (ZL (B.getD ((j + 16) - 15) 0) 7) (ZL (B.getD ((j + 16) - 15) 0) 18))) ?_
   refine zkp 12 S159 118 (.int .u32 (ZH .u32 (ZH .u32 (ZL (B.getD ((j + 16) - 15) 0) 7) (ZL (B.getD ((j + 16) - 15) 0) 18)) ((B.getD ((j + 16) - 15) 0) / 8))) ?_
   refine zkp 13 S159 119 (.int .u32 (IntKind.u32.wrap ((B.getD ((j + 16) - 16) 0) + (ZH .u32 (ZH .u32 (ZL (B.getD ((j + 16) - 15) 0) 7) (ZL (B.getD ((j + 16) - 15) 0) 18)) ((B.getD ((j + 16) - 15) 0) / 8))))) ?_
   refine zkp 18 S159 124 (.int .u32 (IntKind.u32.wrap ((IntKind.u32.wrap ((B.getD ((j + 16) - 16) 0) + (ZH .u32 (ZH .u32 (ZL (B.getD ((j + 16) - 15) 0) 7) (ZL (B.getD ((j + 16) - 15) 0) 18)) ((B.getD ((j + 16) - 15) 0) / 8)))) + (B.getD ((j + 16) - 7) 0)))) ?_
   refine Z7y 20 fun Kq kq => ?_
   refine zdq 126 (Z1e w156 (B.getD ((j + 16) - 2) 0) 17 (by omega)) H157 ?_
   intro w161 H162
   have S164 := H162.pk [0, 1, 2, 3, 4, 5, 6]
   refine kq _ _ S164 ?_
   clear kq Kq
   refine Z7y 22 fun Kq kq => ?_
   refine zdq 128 (Z1e w161 (B.getD ((j + 16) - 2) 0) 19 (by omega)) H162 ?_
   intro w166 H167
   have S169 := H167.pk [0, 1, 2, 3, 4, 5, 6]
   refine kq _ _ S169 ?_
   clear kq Kq
   refine zkp 23 S169 129 (.int .u32 (ZH .u32 (ZL (B.getD ((j + 16) - 2) 0) 17) (ZL (B.getD ((j + 16) - 2) 0) 19))) ?_
   refine zkp 26 S169 132 (.int .u32 (ZH .u32 (ZH .u32 (ZL (B.getD ((j + 16) - 2) 0) 17) (ZL (B.getD ((j + 16) - 2) 0) 19)) ((B.getD ((j + 16) - 2) 0) / 1024))) ?_
   refine zkp 27 S169 133 (.int .u32 (IntKind.u32.wrap ((IntKind.u32.wrap ((IntKind.u32.wrap ((B.getD ((j + 16) - 16) 0) + (ZH .u32 (ZH .u32 (ZL (B.getD ((j + 16) - 15) 0) 7) (ZL (B.getD ((j + 16) - 15) 0) 18)) ((B.getD ((j + 16) - 15) 0) / 8)))) + (B.getD ((j + 16) - 7) 0))) + (ZH .u32 (ZH .u32 (ZL (B.getD ((j + 16) - 2) 0) 17) (ZL (B.getD ((j + 16) - 2) 0) 19)) ((B.getD ((j + 16) - 2) 0) / 1024))))) ?_
   refine zkp 28 S169 134 (.pointer (some ⟨b104, 0 + (((j : Int) + 16)).toNat * 1, none⟩)) ?_ (he := fun _ => (ZC (E := 141) (N := 64) (by kernel_rfl) (by kernel_rfl) (Nat.le_of_ble_eq_true rfl) rfl rfl (by omega) (by omega)))
   refine Z29 29 (Sat w [Za w (fun _ => False), ZF .u8 b2 40 32 (List.replicate 32 (0 : Int)), ZF .u32 b11 142 64 kR, ZF .u32 b19 144 8 HH, (Z0F a D c), Ze 5 1 (.slice (some ⟨b33, 0, none⟩) 1 1) 1 (([128] : List UInt8).flatMap Zo)]) rfl (by kernel_rfl) (Z2 rfl) rfl (fun Kq kq => ?_)
   refine Z15 .u32 rfl H167 6 rfl rfl rfl (by kernel_rfl) (show 0 + (((j : Int) + 16)).toNat * 1 = (j + 16) by omega) (show (j + 16) < 64 by omega) ?_
   intro w171 H172
   have S173 := H172.pk [0, 1, 2, 3, 4, 5]
   refine kq _ _ S173 ?_
   clear kq Kq
   refine zhf ?_
   apply ZR
   apply ztn
   apply Zs
   refine wv 96 (.int .i64 (((j : Int) + 16))) ?_
   refine zwi 97 (((j : Int) + 16) + 1) ?_
   refine wv 12 (.int .i64 (((j : Int) + 16) + 1)) ?_
   apply Zr
   refine ZS ?_ _ ⟨(j + 1), (B.set (j + 16) (IntKind.u32.wrap ((IntKind.u32.wrap ((IntKind.u32.wrap ((B.getD ((j + 16) - 16) 0) + (ZH .u32 (ZH .u32 (ZL (B.getD ((j + 16) - 15) 0) 7) (ZL (B.getD ((j + 16) - 15) 0) 18)) ((B.getD ((j + 16) - 15) 0) / 8)))) + (B.getD ((j + 16) - 7) 0))) + (ZH .u32 (ZH .u32 (ZL (B.getD ((j + 16) - 2) 0) 17) (ZL (B.getD ((j + 16) - 2) 0) 19)) ((B.getD ((j + 16) - 2) 0) / 1024))))), (show ((.int .i64 (((j : Int) + 16) + 1)) : Value) = _ by first | rfl | go_num | exact congrArg (Value.int .i64) (by omega)), (by omega), (by rw [hB]; rfl), H172, rfl⟩ (by omega)
   exact zs
  have g174 := of_decide_eq_false b142
  refine Z1K _ b142 ?_
  apply zxb
  apply ztn
  apply zsl
  refine wv 135 (.agg ⟨(HH.map (Value.int .u32))⟩) ?_ (hr := Z1m rfl (by kernel_rfl) (by kernel_rfl) (by decide) (H139.at 3 rfl))
  refine zwd fun Kq kq => ?_
  refine zda (Z42) H139 ?_
  intro b177 w178 (H179 : Sat w [Za w (fun _ => False), ZF .u8 b2 40 32 (List.replicate 32 (0 : Int)), ZF .u32 b11 142 64 kR, ZF .u32 b19 144 8 HH, (Z0F a D c), Ze 5 1 (.slice (some ⟨b33, 0, none⟩) 1 1) 1 (([128] : List UInt8).flatMap Zo), ZF .u32 b104 142 64 B, Z3 b177 144 (Z42)] w178)
  have H180 : Sat w [Za w (fun _ => False), ZF .u8 b2 40 32 (List.replicate 32 (0 : Int)), ZF .u32 b11 142 64 kR, ZF .u32 b19 144 8 HH, (Z0F a D c), Ze 5 1 (.slice (some ⟨b33, 0, none⟩) 1 1) 1 (([128] : List UInt8).flatMap Zo), ZF .u32 b104 142 64 B, ZF .u32 b177 144 8 ([0, 0, 0, 0, 0, 0, 0, 0] : List Int)] w178 := Sat.toW H179 7 .u32 ([0, 0, 0, 0, 0, 0, 0, 0] : List Int) (by kernel_rfl) (by first | rfl | simp)
  refine kq _ _ ?_
  clear kq Kq
  refine zwd fun Kq kq => ?_
  refine Z03 .u32 (B := HH) rfl H180 7 rfl rfl rfl (by kernel_rfl) (by kernel_rfl) (by decide) (by exact Z0n (H180.at 3 rfl)) ?_
  intro w182 H183
  refine kq _ _ ?_
  clear kq Kq
  apply znt
  apply Zh
  apply zsl
  refine wv 16 (.int .i64 (0)) ?_
  apply znt
  apply ZM
  have hww : B = wOf D b := by rw [hB, hA, show j = 48 by omega]; rfl
  refine Z07 ([16, 17, 18, 19, 20] ++ List.range' 136 82) (fun F_ W_ m_ => ∃ (i : Nat) (V : List Int), F_ 16 = (.int .i64 ((i : Int))) ∧ (i ≤ 64) ∧ (V = vRu B HH i) ∧ Sat w [Za w (fun _ => False), ZF .u8 b2 40 32 (List.replicate 32 (0 : Int)), ZF .u32 b11 142 64 kR, ZF .u32 b19 144 8 HH, (Z0F a D c), Ze 5 1 (.slice (some ⟨b33, 0, none⟩) 1 1) 1 (([128] : List UInt8).flatMap Zo), ZF .u32 b104 142 64 B, ZF .u32 b177 144 8 V] W_ ∧ m_ = 64 - i) _ ⟨0, HH, (show ((.int .i64 (0)) : Value) = _ by first | rfl | go_num), (Nat.zero_le _), rfl, H183, rfl⟩ ?_
  rintro g184 w185 _ ⟨i, V, v187, hi, hV, H186, rfl⟩
  refine Zy 16 _ v187 ?_
  apply Zh
  apply zsl
  refine wv 136 (.int .i64 ((i : Int))) ?_
  refine wv 137 (.bool (decide ((i : Int) < 64))) ?_
  apply znt
  refine (Z00 (decide ((i : Int) < 64))).elim (fun b189 => ?_) (fun b189 => ?_)
  ·have g190 := of_decide_eq_true b189
   refine Z2v _ b189 ?_
   apply ZW
   apply ztn
   apply Zh
   apply ZM
   apply Zh
   refine zqs H186 ?_
   refine qv 140 (pt b177 4) ?_
   refine qv 141 (.int .u32 (V.getD 4 0)) ?_ (hr := fun _ H' => (Zi rfl (by kernel_rfl) (Zz (H'.at 7 rfl) (show 4 < 8 by omega) (show 4 = 4 by omega))))
   refine qv 142 (pt b177 0) ?_
   refine qv 143 (.int .u32 (V.getD 0 0)) ?_ (hr := fun _ H' => (Zi rfl (by kernel_rfl) (Zz (H'.at 7 rfl) (show 0 < 8 by omega) (show 0 = 0 by omega))))
   refine qv 17 (.int .u32 (V.getD 4 0)) ?_
   refine qv 18 (.int .u32 (V.getD 0 0)) ?_
   refine Z22 ?_
   intro w192 H193
   apply ztn
   apply Zh
   refine zqs H193 ?_
   refine qv 144 (pt b177 7) ?_
   refine qv 145 (.int .u32 (V.getD 7 0)) ?_ (hr := fun _ H' => (Zi rfl (by kernel_rfl) (Zz (H'.at 7 rfl) (show 7 < 8 by omega) (show 7 = 7 by omega))))
   refine qv 146 (.int .u32 (V.getD 4 0)) ?_
   refine Z25 (Z2 rfl) (d := 147) (v := (.int .u32 (ZL (V.getD 4 0) 6))) rfl (fun _ _ => by kernel_rfl) (fun w' H' => (Z1e w' (V.getD 4 0) 6 (by omega)).mono fun _ _ h => ⟨h.1, H'.keepU h.2⟩) ?_
   refine qv 148 (.int .u32 (V.getD 4 0)) ?_
   refine Z25 (Z2 rfl) (d := 149) (v := (.int .u32 (ZL (V.getD 4 0) 11))) rfl (fun _ _ => by kernel_rfl) (fun w' H' => (Z1e w' (V.getD 4 0) 11 (by omega)).mono fun _ _ h => ⟨h.1, H'.keepU h.2⟩) ?_
   refine qv 150 (.int .u32 (ZH .u32 (ZL (V.getD 4 0) 6) (ZL (V.getD 4 0) 11))) ?_
   refine qv 151 (.int .u32 (V.getD 4 0)) ?_
   refine Z25 (Z2 rfl) (d := 152) (v := (.int .u32 (ZL (V.getD 4 0) 25))) rfl (fun _ _ => by kernel_rfl) (fun w' H' => (Z1e w' (V.getD 4 0) 25 (by omega)).mono fun _ _ h => ⟨h.1, H'.keepU h.2⟩) ?_
   refine qv 153 (.int .u32 (ZH .u32 (ZH .u32 (ZL (V.getD 4 0) 6) (ZL (V.getD 4 0) 11)) (ZL (V.getD 4 0) 25))) ?_
   refine qv 154 (.int .u32 (IntKind.u32.wrap ((V.getD 7 0) + (ZH .u32 (ZH .u32 (ZL (V.getD 4 0) 6) (ZL (V.getD 4 0) 11)) (ZL (V.getD 4 0) 25))))) ?_
   refine qv 155 (.int .u32 (V.getD 4 0)) ?_
   refine qv 156 (pt b177 5) ?_
   refine qv 157 (.int .u32 (V.getD 5 0)) ?_ (hr := fun _ H' => (Zi rfl (by kernel_rfl) (Zz (H'.at 7 rfl) (show 5 < 8 by omega) (show 5 = 5 by omega))))
   refine qv 158 (.int .u32 (Z0e .u32 (V.getD 4 0) (V.getD 5 0))) ?_
   refine qv 159 (.int .u32 (V.getD 4 0)) ?_
   refine qv 160 (.int .u32 (ZH .u32 4294967295 (V.getD 4 0))) ?_
   refine qv 161 (pt b177 6) ?_
   refine qv 162 (.int .u32 (V.getD 6 0)) ?_ (hr := fun _ H' => (Zi rfl (by kernel_rfl) (Zz (H'.at 7 rfl) (show 6 < 8 by omega) (show 6 = 6 by omega))))
   refine qv 163 (.int .u32 (Z0e .u32 (ZH .u32 4294967295 (V.getD 4 0)) (V.getD 6 0))) ?_
   refine qv 164 (.int .u32 (ZH .u32 (Z0e .u32 (V.getD 4 0) (V.getD 5 0)) (Z0e .u32 (ZH .u32 4294967295 (V.getD 4 0)) (V.getD 6 0)))) ?_
   refine qv 165 (.int .u32 (IntKind.u32.wrap ((IntKind.u32.wrap ((V.getD 7 0) + (ZH .u32 (ZH .u32 (ZL (V.getD 4 0) 6) (ZL (V.getD 4 0) 11)) (ZL (V.getD 4 0) 25)))) + (ZH .u32 (Z0e .u32 (V.getD 4 0) (V.getD 5 0)) (Z0e .u32 (ZH .u32 4294967295 (V.getD 4 0)) (V.getD 6 0)))))) ?_
   refine qv 166 (.int .i64 ((i : Int))) ?_
   refine qv 167 (.pointer (some ⟨b11, 0 + ((i : Int)).toNat * 1, none⟩)) ?_ (hr := fun _ H' => (ZC (E := 141) (N := 64) (by kernel_rfl) (by kernel_rfl) (Nat.le_of_ble_eq_true rfl) rfl rfl (by omega) (by omega)))
   refine qv 168 (.int .u32 (kR.getD i 0)) ?_ (hr := fun _ H' => (Zi rfl (by kernel_rfl) (Zz (H'.at 2 rfl) (show i < 64 by omega) (show 0 + ((i : Int)).toNat * 1 = i by omega))))
   refine qv 169 (.int .u32 (IntKind.u32.wrap ((IntKind.u32.wrap ((IntKind.u32.wrap ((V.getD 7 0) + (ZH .u32 (ZH .u32 (ZL (V.getD 4 0) 6) (ZL (V.getD 4 0) 11)) (ZL (V.getD 4 0) 25)))) + (ZH .u32 (Z0e .u32 (V.getD 4 0) (V.getD 5 0)) (Z0e .u32 (ZH .u32 4294967295 (V.getD 4 0)) (V.getD 6 0))))) + (kR.getD i 0)))) ?_
   refine qv 170 (.int .i64 ((i : Int))) ?_
   refine qv 171 (.pointer (some ⟨b104, 0 + ((i : Int)).toNat * 1, none⟩)) ?_ (hr := fun _ H' => (ZC (E := 141) (N := 64) (by kernel_rfl) (by kernel_rfl) (Nat.le_of_ble_eq_true rfl) rfl rfl (by omega) (by omega)))
   refine qv 172 (.int .u32 (B.getD i 0)) ?_ (hr := fun _ H' => (Zi rfl (by kernel_rfl) (Zz (H'.at 6 rfl) (show i < 64 by omega) (show 0 + ((i : Int)).toNat * 1 = i by omega))))
   refine qv 173 (.int .u32 (IntKind.u32.wrap ((IntKind.u32.wrap ((IntKind.u32.wrap ((IntKind.u32.wrap ((V.getD 7 0) + (ZH .u32 (ZH .u32 (ZL (V.getD 4 0) 6) (ZL (V.getD 4 0) 11)) (ZL (V.getD 4 0) 25)))) + (ZH .u32 (Z0e .u32 (V.getD 4 0) (V.getD 5 0)) (Z0e .u32 (ZH .u32 4294967295 (V.getD 4 0)) (V.getD 6 0))))) + (kR.getD i 0))) + (B.getD i 0)))) ?_
   refine qv 19 (.int .u32 (IntKind.u32.wrap ((IntKind.u32.wrap ((IntKind.u32.wrap ((IntKind.u32.wrap ((V.getD 7 0) + (ZH .u32 (ZH .u32 (ZL (V.getD 4 0) 6) (ZL (V.getD 4 0) 11)) (ZL (V.getD 4 0) 25)))) + (ZH .u32 (Z0e .u32 (V.getD 4 0) (V.getD 5 0)) (Z0e .u32 (ZH .u32 4294967295 (V.getD 4 0)) (V.getD 6 0))))) + (kR.getD i 0))) + (B.getD i 0)))) ?_
   refine Z22 ?_
   intro w194 H195
   apply ztn
   apply Zh
   refine zqs H195 ?_
   refine qv 174 (.int .u32 (V.getD 0 0)) ?_
   refine Z25 (Z2 rfl) (d := 175) (v := (.int .u32 (ZL (V.getD 0 0) 2))) rfl (fun _ _ => by kernel_rfl) (fun w' H' => (Z1e w' (V.getD 0 0) 2 (by omega)).mono fun _ _ h => ⟨h.1, H'.keepU h.2⟩) ?_
   refine qv 176 (.int .u32 (V.getD 0 0)) ?_
   refine Z25 (Z2 rfl) (d := 177) (v := (.int .u32 (ZL (V.getD 0 0) 13))) rfl (fun _ _ => by kernel_rfl) (fun w' H' => (Z1e w' (V.getD 0 0) 13 (by omega)).mono fun _ _ h => ⟨h.1, H'.keepU h.2⟩) ?_
   refine qv 178 (.int .u32 (ZH .u32 (ZL (V.getD 0 0) 2) (ZL (V.getD 0 0) 13))) ?_
   refine qv 179 (.int .u32 (V.getD 0 0)) ?_
   refine Z25 (Z2 rfl) (d := 180) (v := (.int .u32 (ZL (V.getD 0 0) 22))) rfl (fun _ _ => by kernel_rfl) (fun w' H' => (Z1e w' (V.getD 0 0) 22 (by omega)).mono fun _ _ h => ⟨h.1, H'.keepU h.2⟩) ?_
   refine qv 181 (.int .u32 (ZH .u32 (ZH .u32 (ZL (V.getD 0 0) 2) (ZL (V.getD 0 0) 13)) (ZL (V.getD 0 0) 22))) ?_
   refine qv 182 (.int .u32 (V.getD 0 0)) ?_
   refine qv 183 (pt b177 1) ?_
   refine qv 184 (.int .u32 (V.getD 1 0)) ?_ (hr := fun _ H' => (Zi rfl (by kernel_rfl) (Zz (H'.at 7 rfl) (show 1 < 8 by omega) (show 1 = 1 by omega))))
   refine qv 185 (.int .u32 (Z0e .u32 (V.getD 0 0) (V.getD 1 0))) ?_
   refine qv 186 (.int .u32 (V.getD 0 0)) ?_
   refine qv 187 (pt b177 2) ?_
   refine qv 188 (.int .u32 (V.getD 2 0)) ?_ (hr := fun _ H' => (Zi rfl (by kernel_rfl) (Zz (H'.at 7 rfl) (show 2 < 8 by omega) (show 2 = 2 by omega))))
   refine qv 189 (.int .u32 (Z0e .u32 (V.getD 0 0) (V.getD 2 0))) ?_
   refine qv 190 (.int .u32 (ZH .u32 (Z0e .u32 (V.getD 0 0) (V.getD 1 0)) (Z0e .u32 (V.getD 0 0) (V.getD 2 0)))) ?_
   refine qv 191 (pt b177 1) ?_
   refine qv 192 (.int .u32 (V.getD 1 0)) ?_ (hr := fun _ H' => (Zi rfl (by kernel_rfl) (Zz (H'.at 7 rfl) (show 1 < 8 by omega) (show 1 = 1 by omega))))
   refine qv 193 (pt b177 2) ?_
   refine qv 194 (.int .u32 (V.getD 2 0)) ?_ (hr := fun _ H' => (Zi rfl (by kernel_rfl) (Zz (H'.at 7 rfl) (show 2 < 8 by omega) (show 2 = 2 by omega))))
   refine qv 195 (.int .u32 (Z0e .u32 (V.getD 1 0) (V.getD 2 0))) ?_
   refine qv 196 (.int .u32 (ZH .u32 (ZH .u32 (Z0e .u32 (V.getD 0 0) (V.getD 1 0)) (Z0e .u32 (V.getD 0 0) (V.getD 2 0))) (Z0e .u32 (V.getD 1 0) (V.getD 2 0)))) ?_
   refine qv 197 (.int .u32 (IntKind.u32.wrap ((ZH .u32 (ZH .u32 (ZL (V.getD 0 0) 2) (ZL (V.getD 0 0) 13)) (ZL (V.getD 0 0) 22)) + (ZH .u32 (ZH .u32 (Z0e .u32 (V.getD 0 0) (V.getD 1 0)) (Z0e .u32 (V.getD 0 0) (V.getD 2 0))) (Z0e .u32 (V.getD 1 0) (V.getD 2 0)))))) ?_
   refine qv 20 (.int .u32 (IntKind.u32.wrap ((ZH .u32 (ZH .u32 (ZL (V.getD 0 0) 2) (ZL (V.getD 0 0) 13)) (ZL (V.getD 0 0) 22)) + (ZH .u32 (ZH .u32 (Z0e .u32 (V.getD 0 0) (V.getD 1 0)) (Z0e .u32 (V.getD 0 0) (V.getD 2 0))) (Z0e .u32 (V.getD 1 0) (V.getD 2 0)))))) ?_
   refine Z22 ?_
   intro w196 H197
   apply ztn
   apply Zs
   refine wv 198 (.int .u32 (IntKind.u32.wrap ((IntKind.u32.wrap ((IntKind.u32.wrap ((IntKind.u32.wrap ((V.getD 7 0) + (ZH .u32 (ZH .u32 (ZL (V.getD 4 0) 6) (ZL (V.getD 4 0) 11)) (ZL (V.getD 4 0) 25)))) + (ZH .u32 (Z0e .u32 (V.getD 4 0) (V.getD 5 0)) (Z0e .u32 (ZH .u32 4294967295 (V.getD 4 0)) (V.getD 6 0))))) + (kR.getD i 0))) + (B.getD i 0)))) ?_
   refine wv 199 (.int .u32 (IntKind.u32.wrap ((ZH .u32 (ZH .u32 (ZL (V.getD 0 0) 2) (ZL (V.getD 0 0) 13)) (ZL (V.getD 0 0) 22)) + (ZH .u32 (ZH .u32 (Z0e .u32 (V.getD 0 0) (V.getD 1 0)) (Z0e .u32 (V.getD 0 0) (V.getD 2 0))) (Z0e .u32 (V.getD 1 0) (V.getD 2 0)))))) ?_
   refine wv 200 (.int .u32 (IntKind.u32.wrap ((IntKind.u32.wrap ((IntKind.u32.wrap ((IntKind.u32.wrap ((IntKind.u32.wrap ((V.getD 7 0) + (ZH .u32 (ZH .u32 (ZL (V.getD 4 0) 6) (ZL (V.getD 4 0) 11)) (ZL (V.getD 4 0) 25)))) + (ZH .u32 (Z0e .u32 (V.getD 4 0) (V.getD 5 0)) (Z0e .u32 (ZH .u32 4294967295 (V.getD 4 0)) (V.getD 6 0))))) + (kR.getD i 0))) + (B.getD i 0))) + (IntKind.u32.wrap ((ZH .u32 (ZH .u32 (ZL (V.getD 0 0) 2) (ZL (V.getD 0 0) 13)) (ZL (V.getD 0 0) 22)) + (ZH .u32 (ZH .u32 (Z0e .u32 (V.getD 0 0) (V.getD 1 0)) (Z0e .u32 (V.getD 0 0) (V.getD 2 0))) (Z0e .u32 (V.getD 1 0) (V.getD 2 0)))))))) ?_
   refine wv 201 (pt b177 0) ?_
   refine zw1 202 (.int .u32 (V.getD 0 0)) (Zz (H197.at 7 rfl) (show 0 < 8 by omega) (show 0 = 0 by omega)) ?_
   refine wv 203 (pt b177 1) ?_
   refine zw1 204 (.int .u32 (V.getD 1 0)) (Zz (H197.at 7 rfl) (show 1 < 8 by omega) (show 1 = 1 by omega)) ?_
   refine wv 205 (pt b177 2) ?_
   refine zw1 206 (.int .u32 (V.getD 2 0)) (Zz (H197.at 7 rfl) (show 2 < 8 by omega) (show 2 = 2 by omega)) ?_
   refine wv 207 (pt b177 3) ?_
   refine zw1 208 (.int .u32 (V.getD 3 0)) (Zz (H197.at 7 rfl) (show 3 < 8 by omega) (show 3 = 3 by omega)) ?_
   refine wv 209 (.int .u32 (IntKind.u32.wrap ((IntKind.u32.wrap ((IntKind.u32.wrap ((IntKind.u32.wrap ((V.getD 7 0) + (ZH .u32 (ZH .u32 (ZL (V.getD 4 0) 6) (ZL (V.getD 4 0) 11)) (ZL (V.getD 4 0) 25)))) + (ZH .u32 (Z0e .u32 (V.getD 4 0) (V.getD 5 0)) (Z0e .u32 (ZH .u32 4294967295 (V.getD 4 0)) (V.getD 6 0))))) + (kR.getD i 0))) + (B.getD i 0)))) ?_
   refine wv 210 (.int .u32 (IntKind.u32.wrap ((V.getD 3 0) + (IntKind.u32.wrap ((IntKind.u32.wrap ((IntKind.u32.wrap ((IntKind.u32.wrap ((V.getD 7 0) + (ZH .u32 (ZH .u32 (ZL (V.getD 4 0) 6) (ZL (V.getD 4 0) 11)) (ZL (V.getD 4 0) 25)))) + (ZH .u32 (Z0e .u32 (V.getD 4 0) (V.getD 5 0)) (Z0e .u32 (ZH .u32 4294967295 (V.getD 4 0)) (V.getD 6 0))))) + (kR.getD i 0))) + (B.getD i 0)))))) ?_
   refine wv 211 (pt b177 4) ?_
   refine zw1 212 (.int .u32 (V.getD 4 0)) (Zz (H197.at 7 rfl) (show 4 < 8 by omega) (show 4 = 4 by omega)) ?_
   refine wv 213 (pt b177 5) ?_
   refine zw1 214 (.int .u32 (V.getD 5 0)) (Zz (H197.at 7 rfl) (show 5 < 8 by omega) (show 5 = 5 by omega)) ?_
   refine wv 215 (pt b177 6) ?_
   refine zw1 216 (.int .u32 (V.getD 6 0)) (Zz (H197.at 7 rfl) (show 6 < 8 by omega) (show 6 = 6 by omega)) ?_
   refine wv 217 (.agg ⟨([(.int .u32 (IntKind.u32.wrap ((IntKind.u32.wrap ((IntKind.u32.wrap ((IntKind.u32.wrap ((IntKind.u32.wrap ((V.getD 7 0) + (ZH .u32 (ZH .u32 (ZL (V.getD 4 0) 6) (ZL (V.getD 4 0) 11)) (ZL (V.getD 4 0) 25)))) + (ZH .u32 (Z0e .u32 (V.getD 4 0) (V.getD 5 0)) (Z0e .u32 (ZH .u32 4294967295 (V.getD 4 0)) (V.getD 6 0))))) + (kR.getD i 0))) + (B.getD i 0))) + (IntKind.u32.wrap ((ZH .u32 (ZH .u32 (ZL (V.getD 0 0) 2) (ZL (V.getD 0 0) 13)) (ZL (V.getD 0 0) 22)) + (ZH .u32 (ZH .u32 (Z0e .u32 (V.getD 0 0) (V.getD 1 0)) (Z0e .u32 (V.getD 0 0) (V.getD 2 0))) (Z0e .u32 (V.getD 1 0) (V.getD 2 0)))))))), (.int .u32 (V.getD 0 0)), (.int .u32 (V.getD 1 0)), (.int .u32 (V.getD 2 0)), (.int .u32 (IntKind.u32.wrap ((V.getD 3 0) + (IntKind.u32.wrap ((IntKind.u32.wrap ((IntKind.u32.wrap ((IntKind.u32.wrap ((V.getD 7 0) + (ZH .u32 (ZH .u32 (ZL (V.getD 4 0) 6) (ZL (V.getD 4 0) 11)) (ZL (V.getD 4 0) 25)))) + (ZH .u32 (Z0e .u32 (V.getD 4 0) (V.getD 5 0)) (Z0e .u32 (ZH .u32 4294967295 (V.getD 4 0)) (V.getD 6 0))))) + (kR.getD i 0))) + (B.getD i 0)))))), (.int .u32 (V.getD 4 0)), (.int .u32 (V.getD 5 0)), (.int .u32 (V.getD 6 0))] : List Value)⟩) ?_
   refine zwd fun Kq kq => ?_
   refine Z03 .u32 (B := ([IntKind.u32.wrap ((IntKind.u32.wrap ((IntKind.u32.wrap ((IntKind.u32.wrap ((IntKind.u32.wrap ((V.getD 7 0) + (ZH .u32 (ZH .u32 (ZL (V.getD 4 0) 6) (ZL (V.getD 4 0) 11)) (ZL (V.getD 4 0) 25)))) + (ZH .u32 (Z0e .u32 (V.getD 4 0) (V.getD 5 0)) (Z0e .u32 (ZH .u32 4294967295 (V.getD 4 0)) (V.getD 6 0))))) + (kR.getD i 0))) + (B.getD i 0))) + (IntKind.u32.wrap ((ZH .u32 (ZH .u32 (ZL (V.getD 0 0) 2) (ZL (V.getD 0 0) 13)) (ZL (V.getD 0 0) 22)) + (ZH .u32 (ZH .u32 (Z0e .u32 (V.getD 0 0) (V.getD 1 0)) (Z0e .u32 (V.getD 0 0) (V.getD 2 0))) (Z0e .u32 (V.getD 1 0) (V.getD 2 0)))))), V.getD 0 0, V.getD 1 0, V.getD 2 0, IntKind.u32.wrap ((V.getD 3 0) + (IntKind.u32.wrap ((IntKind.u32.wrap ((IntKind.u32.wrap ((IntKind.u32.wrap ((V.getD 7 0) + (ZH .u32 (ZH .u32 (ZL (V.getD 4 0) 6) (ZL (V.getD 4 0) 11)) (ZL (V.getD 4 0) 25)))) + (ZH .u32 (Z0e .u32 (V.getD 4 0) (V.getD 5 0)) (Z0e .u32 (ZH .u32 4294967295 (V.getD 4 0)) (V.getD 6 0))))) + (kR.getD i 0))) + (B.getD i 0)))), V.getD 4 0, V.getD 5 0, V.getD 6 0] : List Int)) rfl H197 7 rfl rfl rfl (by kernel_rfl) (by kernel_rfl) (by decide) (by first | rfl | simp) ?_
   intro w199 H200
   refine kq _ _ ?_
   clear kq Kq
   apply Zr
   apply ZR
   apply ztn
   apply Zs
   refine wv 138 (.int .i64 ((i : Int))) ?_
   refine zwi 139 ((i : Int) + 1) ?_
   refine wv 16 (.int .i64 ((i : Int) + 1)) ?_
   apply Zr
   refine ZS ?_ _ ⟨(i + 1), ([IntKind.u32.wrap ((IntKind.u32.wrap ((IntKind.u32.wrap ((IntKind.u32.wrap ((IntKind.u32.wrap ((V.getD 7 0) + (ZH .u32 (ZH .u32 (ZL (V.getD 4 0) 6) (ZL (V.getD 4 0) 11)) (ZL (V.getD 4 0) 25)))) + (ZH .u32 (Z0e .u32 (V.getD 4 0) (V.getD 5 0)) (Z0e .u32 (ZH .u32 4294967295 (V.getD 4 0)) (V.getD 6 0))))) + (kR.getD i 0))) + (B.getD i 0))) + (IntKind.u32.wrap ((ZH .u32 (ZH .u32 (ZL (V.getD 0 0) 2) (ZL (V.getD 0 0) 13)) (ZL (V.getD 0 0) 22)) + (ZH .u32 (ZH .u32 (Z0e .u32 (V.getD 0 0) (V.getD 1 0)) (Z0e .u32 (V.getD 0 0) (V.getD 2 0))) (Z0e .u32 (V.getD 1 0) (V.getD 2 0)))))), V.getD 0 0, V.getD 1 0, V.getD 2 0, IntKind.u32.wrap ((V.getD 3 0) + (IntKind.u32.wrap ((IntKind.u32.wrap ((IntKind.u32.wrap ((IntKind.u32.wrap ((V.getD 7 0) + (ZH .u32 (ZH .u32 (ZL (V.getD 4 0) 6) (ZL (V.getD 4 0) 11)) (ZL (V.getD 4 0) 25)))) + (ZH .u32 (Z0e .u32 (V.getD 4 0) (V.getD 5 0)) (Z0e .u32 (ZH .u32 4294967295 (V.getD 4 0)) (V.getD 6 0))))) + (kR.getD i 0))) + (B.getD i 0)))), V.getD 4 0, V.getD 5 0, V.getD 6 0] : List Int), (show ((.int .i64 ((i : Int) + 1)) : Value) = _ by first | rfl | go_num | exact congrArg (Value.int .i64) (by omega)), (by omega), (by rw [hV]; rfl), H200, rfl⟩ (by omega)
   exact zs
  have g201 := of_decide_eq_false b189
  refine Z1K _ b189 ?_
  apply zxb
  apply ztn
  apply zsl
  refine wv 218 (.int .i64 (0)) ?_
  apply znt
  apply ZM
  have hvv : V = vRu B HH 64 := by rw [hV, show i = 64 by omega]
  refine Z07 ([21] ++ List.range' 218 12) (fun F_ W_ m_ => ∃ (i : Nat) (X : List Int), F_ 218 = (.int .i64 ((i : Int))) ∧ (i ≤ 8) ∧ (X = hAd V HH i) ∧ Sat w [Za w (fun _ => False), ZF .u8 b2 40 32 (List.replicate 32 (0 : Int)), ZF .u32 b11 142 64 kR, ZF .u32 b19 144 8 X, (Z0F a D c), Ze 5 1 (.slice (some ⟨b33, 0, none⟩) 1 1) 1 (([128] : List UInt8).flatMap Zo), ZF .u32 b104 142 64 B, ZF .u32 b177 144 8 V] W_ ∧ m_ = 8 - i) _ ⟨0, HH, (show ((.int .i64 (0)) : Value) = _ by first | rfl | go_num), (Nat.zero_le _), rfl, H186, rfl⟩ ?_
  rintro g203 w204 _ ⟨i, X, v206, hi, hX, H205, rfl⟩
  refine Zy 218 _ v206 ?_
  apply zsl
  refine wv 219 (.bool (decide ((i : Int) < 8))) ?_
  apply znt
  apply Zh
  refine (Z00 (decide ((i : Int) < 8))).elim (fun b208 => ?_) (fun b208 => ?_)
  ·have g209 := of_decide_eq_true b208
   refine Z2v _ b208 ?_
   apply ZW
   apply ztn
   apply Zh
   apply ZM
   apply zsl
   refine wv 220 (.int .i64 ((i : Int))) ?_
   refine wv 21 (.int .i64 ((i : Int))) ?_
   apply znt
   refine Z12 H205 [Za w (fun _ => False), ZF .u8 b2 40 32 (List.replicate 32 (0 : Int)), ZF .u32 b11 142 64 kR, ZF .u32 b19 144 8 X, (Z0F a D c), Ze 5 1 (.slice (some ⟨b33, 0, none⟩) 1 1) 1 (([128] : List UInt8).flatMap Zo), ZF .u32 b104 142 64 B, ZF .u32 b177 144 8 V] [8] 9 rfl (by kernel_rfl) (fun Hx => (Hx.pk [0, 1, 2, 3, 4, 5, 6, 7])) ?_
   intro w211 H212 S213
   refine zkp 0 S213 221 (.int .i64 ((i : Int))) ?_
   refine zkp 1 S213 222 (.pointer (some ⟨b19, 0 + ((i : Int)).toNat * 1, none⟩)) ?_ (he := fun _ => (ZC (E := 141) (N := 8) (by kernel_rfl) (by kernel_rfl) (Nat.le_of_ble_eq_true rfl) rfl rfl (by omega) (by omega)))
   refine zkv 2 S213 223 (.int .u32 (X.getD i 0)) ?_ (he := fun _ H' => (Zi rfl (by kernel_rfl) (Zz (H'.at 3 rfl) (show i < 8 by omega) (show 0 + ((i : Int)).toNat * 1 = i by omega))))
   refine zkp 3 S213 224 (.int .i64 ((i : Int))) ?_
   refine zkp 4 S213 225 (.pointer (some ⟨b177, 0 + ((i : Int)).toNat * 1, none⟩)) ?_ (he := fun _ => (ZC (E := 141) (N := 8) (by kernel_rfl) (by kernel_rfl) (Nat.le_of_ble_eq_true rfl) rfl rfl (by omega) (by omega)))
   refine zkv 5 S213 226 (.int .u32 (V.getD i 0)) ?_ (he := fun _ H' => (Zi rfl (by kernel_rfl) (Zz (H'.at 7 rfl) (show i < 8 by omega) (show 0 + ((i : Int)).toNat * 1 = i by omega))))
   refine zkp 6 S213 227 (.int .u32 (IntKind.u32.wrap ((X.getD i 0) + (V.getD i 0)))) ?_
   refine zkp 7 S213 228 (.pointer (some ⟨b19, 0 + ((i : Int)).toNat * 1, none⟩)) ?_ (he := fun _ => (ZC (E := 141) (N := 8) (by kernel_rfl) (by kernel_rfl) (Nat.le_of_ble_eq_true rfl) rfl rfl (by omega) (by omega)))
   refine Z29 8 (Sat w [Za w (fun _ => False), ZF .u8 b2 40 32 (List.replicate 32 (0 : Int)), ZF .u32 b11 142 64 kR, (Z0F a D c), Ze 5 1 (.slice (some ⟨b33, 0, none⟩) 1 1) 1 (([128] : List UInt8).flatMap Zo), ZF .u32 b104 142 64 B, ZF .u32 b177 144 8 V]) rfl (by kernel_rfl) (Z2 rfl) rfl (fun Kq kq => ?_)
   refine Z15 .u32 rfl H212 3 rfl rfl rfl (by kernel_rfl) (show 0 + ((i : Int)).toNat * 1 = i by omega) (show i < 8 by omega) ?_
   intro w215 H216
   have S217 := H216.pk [0, 1, 2, 4, 5, 6, 7]
   refine kq _ _ S217 ?_
   clear kq Kq
   refine zhf ?_
   apply ZR
   apply ztn
   apply Zs
   refine zwi 229 ((i : Int) + 1) ?_
   refine wv 218 (.int .i64 ((i : Int) + 1)) ?_
   apply Zr
   refine ZS ?_ _ ⟨(i + 1), (X.set i (IntKind.u32.wrap ((X.getD i 0) + (V.getD i 0)))), (show ((.int .i64 ((i : Int) + 1)) : Value) = _ by first | rfl | go_num | exact congrArg (Value.int .i64) (by omega)), (by omega), (by rw [hX]; rfl), H216, rfl⟩ (by omega)
   exact zs
  have g218 := of_decide_eq_false b208
  refine Z1K _ b208 ?_
  apply zxb
  apply ZR
  apply ztn
  have hadd : X = hAd V HH 8 := by rw [hX, show i = 8 by omega]
  apply Zs
  refine wv 58 (.int .i64 ((64 * (b : Int)))) ?_
  refine zwi 59 ((64 * (b : Int)) + 64) ?_
  refine wv 8 (.int .i64 ((64 * (b : Int)) + 64)) ?_
  apply Zr
  have H220 := H205.pk [0, 1, 2, 3, 4, 5]
  refine ZS ?_ _ ⟨(b + 1), X, (show ((.int .i64 ((64 * (b : Int)) + 64)) : Value) = _ by first | rfl | go_num | exact congrArg (Value.int .i64) (by omega)), (by omega), (by rw [hadd, hvv, hww, hHH]; rfl), H220, rfl⟩ (by omega)
  exact zs
 have g221 := of_decide_eq_false b100
 refine Z1K _ b100 ?_
 apply zxb
 apply ztn
 apply zsl
 refine zwd fun Kq kq => ?_
 refine zda (hc Zb) H97 ?_
 intro b224 w225 (H226 : Sat w [Za w (fun _ => False), ZF .u8 b2 40 32 (List.replicate 32 (0 : Int)), ZF .u32 b11 142 64 kR, ZF .u32 b19 144 8 HH, (Z0F a D c), Ze 5 1 (.slice (some ⟨b33, 0, none⟩) 1 1) 1 (([128] : List UInt8).flatMap Zo), Z3 b224 40 (hc Zb)] w225)
 have H227 : Sat w [Za w (fun _ => False), ZF .u8 b2 40 32 (List.replicate 32 (0 : Int)), ZF .u32 b11 142 64 kR, ZF .u32 b19 144 8 HH, (Z0F a D c), Ze 5 1 (.slice (some ⟨b33, 0, none⟩) 1 1) 1 (([128] : List UInt8).flatMap Zo), ZF .u8 b224 40 32 (List.replicate 32 (0 : Int))] w225 := Sat.toW H226 6 .u8 (List.replicate 32 (0 : Int)) (by kernel_rfl) (by exact Z0n (H226.at 1 rfl))
 refine kq _ _ ?_
 clear kq Kq
 apply znt
 apply Zh
 apply zsl
 refine wv 23 (.int .i64 (0)) ?_
 apply znt
 apply ZM
 refine Z07 ([23] ++ List.range' 230 38) (fun F_ W_ m_ => ∃ (i : Nat) (O : List Int), F_ 23 = (.int .i64 ((i : Int))) ∧ (i ≤ 8) ∧ (O = oOf HH i) ∧ Sat w [Za w (fun _ => False), ZF .u8 b2 40 32 (List.replicate 32 (0 : Int)), ZF .u32 b11 142 64 kR, ZF .u32 b19 144 8 HH, (Z0F a D c), Ze 5 1 (.slice (some ⟨b33, 0, none⟩) 1 1) 1 (([128] : List UInt8).flatMap Zo), ZF .u8 b224 40 32 O] W_ ∧ m_ = 8 - i) _ ⟨0, (List.replicate 32 (0 : Int)), (show ((.int .i64 (0)) : Value) = _ by first | rfl | go_num), (Nat.zero_le _), rfl, H227, rfl⟩ ?_
 rintro g228 w229 _ ⟨i, O, v231, hi, hO, H230, rfl⟩
 refine Zy 23 _ v231 ?_
 apply Zh
 apply zsl
 refine wv 230 (.int .i64 ((i : Int))) ?_
 refine wv 231 (.bool (decide ((i : Int) < 8))) ?_
 apply znt
 refine (Z00 (decide ((i : Int) < 8))).elim (fun b233 => ?_) (fun b233 => ?_)
 ·have g234 := of_decide_eq_true b233
  refine Z2v _ b233 ?_
  apply ZW
  apply ztn
  apply Zh
  apply ZM
  refine Z0g H230 [Za w (fun _ => False), ZF .u8 b2 40 32 (List.replicate 32 (0 : Int)), ZF .u32 b11 142 64 kR, ZF .u32 b19 144 8 HH, (Z0F a D c), Ze 5 1 (.slice (some ⟨b33, 0, none⟩) 1 1) 1 (([128] : List UInt8).flatMap Zo)] 38 rfl (by kernel_rfl) (fun Hx => (Hx.pk [0, 1, 2, 3, 4, 5])) ?_
  intro w236 H237 S238
  refine hv0 0 S238 234 (.int .i64 ((i : Int))) ?_
  refine hv0 1 S238 235 (.int .i64 (4 * (i : Int))) ?_ (he := fun _ H' => (Z0h (z := 4 * (i : Int)) (by kernel_rfl) (IntWalk.i64_in _ (by omega))))
  refine hv0 2 S238 236 (.int .i64 ((i : Int))) ?_
  refine hv0 3 S238 237 (.int .i64 (4 * (i : Int))) ?_ (he := fun _ H' => (Z0h (z := 4 * (i : Int)) (by kernel_rfl) (IntWalk.i64_in _ (by omega))))
  refine hv0 4 S238 238 (.int .i64 ((4 * (i : Int)) + 1)) ?_ (he := fun _ H' => (Z0h (z := (4 * (i : Int)) + 1) (by kernel_rfl) (IntWalk.i64_in _ (by omega))))
  refine hv0 5 S238 239 (.int .i64 ((i : Int))) ?_
  refine hv0 6 S238 240 (.int .i64 (4 * (i : Int))) ?_ (he := fun _ H' => (Z0h (z := 4 * (i : Int)) (by kernel_rfl) (IntWalk.i64_in _ (by omega))))
  refine hv0 7 S238 241 (.int .i64 ((4 * (i : Int)) + 2)) ?_ (he := fun _ H' => (Z0h (z := (4 * (i : Int)) + 2) (by kernel_rfl) (IntWalk.i64_in _ (by omega))))
  refine hv0 8 S238 242 (.int .i64 ((i : Int))) ?_
  refine hv0 9 S238 243 (.int .i64 (4 * (i : Int))) ?_ (he := fun _ H' => (Z0h (z := 4 * (i : Int)) (by kernel_rfl) (IntWalk.i64_in _ (by omega))))
  refine hv0 10 S238 244 (.int .i64 ((4 * (i : Int)) + 3)) ?_ (he := fun _ H' => (Z0h (z := (4 * (i : Int)) + 3) (by kernel_rfl) (IntWalk.i64_in _ (by omega))))
  refine hv0 11 S238 245 (.int .i64 ((i : Int))) ?_
  refine hv0 12 S238 246 (.pointer (some ⟨b19, 0 + ((i : Int)).toNat * 1, none⟩)) ?_ (he := fun _ H' => (ZC (E := 141) (N := 8) (by kernel_rfl) (by kernel_rfl) (Nat.le_of_ble_eq_true rfl) rfl rfl (by omega) (by omega)))
  refine hv0 13 S238 247 (.int .u32 (HH.getD i 0)) ?_ (he := fun _ H' => (Zi rfl (by kernel_rfl) (Zz (H'.at 3 rfl) (show i < 8 by omega) (show 0 + ((i : Int)).toNat * 1 = i by omega))))
  refine hv0 14 S238 248 (.int .u32 ((HH.getD i 0) / 16777216)) ?_ (he := fun _ H' => (Z2y rfl rfl (by decide) (by decide) (by decide)))
  refine hv0 15 S238 249 (.int .u8 (IntKind.u8.wrap ((HH.getD i 0) / 16777216))) ?_
  refine hv0 16 S238 250 (.int .i64 ((i : Int))) ?_
  refine hv0 17 S238 251 (.pointer (some ⟨b19, 0 + ((i : Int)).toNat * 1, none⟩)) ?_ (he := fun _ H' => (ZC (E := 141) (N := 8) (by kernel_rfl) (by kernel_rfl) (Nat.le_of_ble_eq_true rfl) rfl rfl (by omega) (by omega)))
  refine hv0 18 S238 252 (.int .u32 (HH.getD i 0)) ?_ (he := fun _ H' => (Zi rfl (by kernel_rfl) (Zz (H'.at 3 rfl) (show i < 8 by omega) (show 0 + ((i : Int)).toNat * 1 = i by omega))))
  refine hv0 19 S238 253 (.int .u32 ((HH.getD i 0) / 65536)) ?_ (he := fun _ H' => (Z2y rfl rfl (by decide) (by decide) (by decide)))
  refine hv0 20 S238 254 (.int .u8 (IntKind.u8.wrap ((HH.getD i 0) / 65536))) ?_
  refine hv0 21 S238 255 (.int .i64 ((i : Int))) ?_
  refine hv0 22 S238 256 (.pointer (some ⟨b19, 0 + ((i : Int)).toNat * 1, none⟩)) ?_ (he := fun _ H' => (ZC (E := 141) (N := 8) (by kernel_rfl) (by kernel_rfl) (Nat.le_of_ble_eq_true rfl) rfl rfl (by omega) (by omega)))
  refine hv0 23 S238 257 (.int .u32 (HH.getD i 0)) ?_ (he := fun _ H' => (Zi rfl (by kernel_rfl) (Zz (H'.at 3 rfl) (show i < 8 by omega) (show 0 + ((i : Int)).toNat * 1 = i by omega))))
  refine hv0 24 S238 258 (.int .u32 ((HH.getD i 0) / 256)) ?_ (he := fun _ H' => (Z2y rfl rfl (by decide) (by decide) (by decide)))
  refine hv0 25 S238 259 (.int .u8 (IntKind.u8.wrap ((HH.getD i 0) / 256))) ?_
  refine hv0 26 S238 260 (.int .i64 ((i : Int))) ?_
  refine hv0 27 S238 261 (.pointer (some ⟨b19, 0 + ((i : Int)).toNat * 1, none⟩)) ?_ (he := fun _ H' => (ZC (E := 141) (N := 8) (by kernel_rfl) (by kernel_rfl) (Nat.le_of_ble_eq_true rfl) rfl rfl (by omega) (by omega)))
  refine hv0 28 S238 262 (.int .u32 (HH.getD i 0)) ?_ (he := fun _ H' => (Zi rfl (by kernel_rfl) (Zz (H'.at 3 rfl) (show i < 8 by omega) (show 0 + ((i : Int)).toNat * 1 = i by omega))))
  refine hv0 29 S238 263 (.int .u8 (IntKind.u8.wrap (HH.getD i 0))) ?_
  refine hv0 30 S238 264 (.pointer (some ⟨b224, 0 + (4 * (i : Int)).toNat * 1, none⟩)) ?_ (he := fun _ H' => (ZC (E := 5) (N := 32) (by kernel_rfl) (by kernel_rfl) (Nat.le_of_ble_eq_true rfl) rfl rfl (by omega) (by omega)))
  refine Z0L 31 fun Kq kq => ?_
  refine Z15 .u8 rfl H237 6 rfl rfl rfl (by kernel_rfl) (show 0 + (4 * (i : Int)).toNat * 1 = (4 * i) by omega) (show (4 * i) < 32 by omega) ?_
  intro w240 H241
  have S242 := H241.pk [0, 1, 2, 3, 4, 5]
  refine kq _ _ S242 ?_
  clear kq Kq
  refine hv0 32 S242 265 (.pointer (some ⟨b224, 0 + ((4 * (i : Int)) + 1).toNat * 1, none⟩)) ?_ (he := fun _ H' => (ZC (E := 5) (N := 32) (by kernel_rfl) (by kernel_rfl) (Nat.le_of_ble_eq_true rfl) rfl rfl (by omega) (by omega)))
  refine Z0L 33 fun Kq kq => ?_
  refine Z15 .u8 rfl H241 6 rfl rfl rfl (by kernel_rfl) (show 0 + ((4 * (i : Int)) + 1).toNat * 1 = ((4 * i) + 1) by omega) (show ((4 * i) + 1) < 32 by omega) ?_
  intro w244 H245
  have S246 := H245.pk [0, 1, 2, 3, 4, 5]
  refine kq _ _ S246 ?_
  clear kq Kq
  refine hv0 34 S246 266 (.pointer (some ⟨b224, 0 + ((4 * (i : Int)) + 2).toNat * 1, none⟩)) ?_ (he := fun _ H' => (ZC (E := 5) (N := 32) (by kernel_rfl) (by kernel_rfl) (Nat.le_of_ble_eq_true rfl) rfl rfl (by omega) (by omega)))
  refine Z0L 35 fun Kq kq => ?_
  refine Z15 .u8 rfl H245 6 rfl rfl rfl (by kernel_rfl) (show 0 + ((4 * (i : Int)) + 2).toNat * 1 = ((4 * i) + 2) by omega) (show ((4 * i) + 2) < 32 by omega) ?_
  intro w248 H249
  have S250 := H249.pk [0, 1, 2, 3, 4, 5]
  refine kq _ _ S250 ?_
  clear kq Kq
  refine hv0 36 S250 267 (.pointer (some ⟨b224, 0 + ((4 * (i : Int)) + 3).toNat * 1, none⟩)) ?_ (he := fun _ H' => (ZC (E := 5) (N := 32) (by kernel_rfl) (by kernel_rfl) (Nat.le_of_ble_eq_true rfl) rfl rfl (by omega) (by omega)))
  refine Z0L 37 fun Kq kq => ?_
  refine Z15 .u8 rfl H249 6 rfl rfl rfl (by kernel_rfl) (show 0 + ((4 * (i : Int)) + 3).toNat * 1 = ((4 * i) + 3) by omega) (show ((4 * i) + 3) < 32 by omega) ?_
  intro w252 H253
  have S254 := H253.pk [0, 1, 2, 3, 4, 5]
  refine kq _ _ S254 ?_
  clear kq Kq
  refine zhf ?_
  apply ZR
  apply ztn
  apply Zs
  refine wv 232 (.int .i64 ((i : Int))) ?_
  refine zwi 233 ((i : Int) + 1) ?_
  refine wv 23 (.int .i64 ((i : Int) + 1)) ?_
  apply Zr
  refine ZS ?_ _ ⟨(i + 1), ((((O.set (4 * i) (IntKind.u8.wrap ((HH.getD i 0) / 16777216))).set ((4 * i) + 1) (IntKind.u8.wrap ((HH.getD i 0) / 65536))).set ((4 * i) + 2) (IntKind.u8.wrap ((HH.getD i 0) / 256))).set ((4 * i) + 3) (IntKind.u8.wrap (HH.getD i 0))), (show ((.int .i64 ((i : Int) + 1)) : Value) = _ by first | rfl | go_num | exact congrArg (Value.int .i64) (by omega)), (by omega), (by rw [hO]; rfl), H253, rfl⟩ (by omega)
  exact zs
 have g255 := of_decide_eq_false b233
 refine Z1K _ b233 ?_
 apply zxb
 apply ztn
 apply zsl
 refine wv 268 (.agg ⟨(O.map (Value.int .u8))⟩) ?_ (hr := Z1m rfl (by kernel_rfl) (by kernel_rfl) (by decide) (H230.at 6 rfl))
 refine zwd fun Kq kq => ?_
 refine Z03 .u8 (B := O) rfl H230 1 rfl rfl rfl (by kernel_rfl) (by kernel_rfl) (by decide) (by exact Z0n (H230.at 6 rfl)) ?_
 intro w258 H259
 refine kq _ _ ?_
 clear kq Kq
 apply znt
 apply ZU
 have hAL_ : O.length = 32 := Z0n (H259.at 1 rfl)
 have H260 := Sat.offW H259 1 rfl
 refine Z0T rfl (Z0a (vs := (O.map (Value.int .u8))) rfl (by kernel_rfl) (by rw [List.length_map, hAL_]; kernel_rfl) (by rw [List.length_map, hAL_]; decide) (H260.at 1 rfl) (List.take_length)) ?_
 have hfin : O = Z7u s := by unfold Z7u; rw [← hDm, ← hnb, hO, hHH, show i = 8 by omega, show b = nb by omega]
 exact ⟨by rw [hfin, Z3O], H260.upd 0 rfl [] (fun _ h => h.elim)⟩
end Go.Proofs.YtgigjkjdmalmaaaGreat
