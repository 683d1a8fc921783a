/- WHAT IS PROVED: contracts and plain laws of ShaR. Conditions: stated with each. -/
import Derived.Test.YtoaifondpohniaaGreatPS05
import Derived.Test.YtoaifondpohniaaGreatPS09
set_option maxHeartbeats 4000000
set_option maxRecDepth 100000
namespace Go.Proofs.YtoaifondpohniaaGreat
open Go.RowKit
theorem Z1h (w : World) (x n : Int) (hn : 0 ≤ n ∧ n ≤ 32) :
  Calls Tryz.prog 124 #[(.int .u32 (x)), (.int .u64 (n))] w fun e w' => e = .returned (.int .u32 (Z0o x n)) ∧ Upd [] w w' := by
 have H := Sat.start0 w
 refine ZE Tryz.func124 rfl 13 rfl (Nat.le_of_ble_eq_true rfl) ?_
 refine Zc ?_
 refine Zp ?_
 refine Z2 (Z1 rfl) (d := 4) (v := (.int .u32 (0))) rfl (by kernel_rfl) ?_
 refine Zm ?_
 refine Z4 ?_
 refine Zc ?_
 refine Zp ?_
 refine Z2 (Z1 rfl) (d := 5) (v := (.int .u32 (x))) rfl (by kernel_rfl) ?_
 refine Z2 (Z1 rfl) (d := 6) (v := (.int .u64 (n))) rfl (by kernel_rfl) ?_
 refine Z2 (Z1 rfl) (d := 7) (v := (.int .u32 (x / 2 ^ (min n.toNat 32)))) rfl (Z5d rfl rfl (by omega) rfl (Int.le_of_lt (Int.pow_pos (by decide)))) ?_
 refine Z2 (Z1 rfl) (d := 8) (v := (.int .u32 (x))) rfl (by kernel_rfl) ?_
 refine Z2 (Z1 rfl) (d := 9) (v := (.int .u64 (n))) rfl (by kernel_rfl) ?_
 refine Z2 (Z1 rfl) (d := 10) (v := (.int .u64 (32 - n))) rfl (Z04 (z := 32 - n) (by kernel_rfl) (Z11 (by omega))) ?_
 refine Z2 (Z1 rfl) (d := 11) (v := (.int .u32 (Z32 .u32 x (32 - n)))) rfl (Z7X rfl rfl (by omega)) ?_
 refine Z2 (Z1 rfl) (d := 12) (v := (.int .u32 (bOr .u32 (x / 2 ^ (min n.toNat 32)) (Z32 .u32 x (32 - n))))) rfl (by kernel_rfl) ?_
 refine Z2 (Z1 rfl) (d := 4) (v := (.int .u32 (bOr .u32 (x / 2 ^ (min n.toNat 32)) (Z32 .u32 x (32 - n))))) rfl (by kernel_rfl) ?_
 refine Zm ?_
 refine Z4 ?_
 refine ZY ?_
 refine Z0O rfl (ZF (v := (.int .u32 (bOr .u32 (x / 2 ^ (min n.toNat 32)) (Z32 .u32 x (32 - n))))) rfl) ?_
 exact ⟨rfl, H.upd 0 rfl [] (fun _ h => h.elim)⟩
theorem Z6v (w : World) :
  Calls Tryz.prog 123 #[] w fun e w' => e = .returned (.agg ⟨kR.map (Value.int .u32)⟩) ∧ Upd [] w w' := by
 have H := Sat.start0 w
 refine ZE Tryz.func123 rfl 2 rfl (Nat.le_of_ble_eq_true rfl) ?_
 refine Zc ?_
 refine Zp ?_
 refine ZA (Z1 rfl) (fun K1 hK1 => ?_)
 refine Z0e (zs := (([(.int .u32 (0)), (.int .u32 (0)), (.int .u32 (0)), (.int .u32 (0)), (.int .u32 (0)), (.int .u32 (0)), (.int .u32 (0)), (.int .u32 (0)), (.int .u32 (0)), (.int .u32 (0)), (.int .u32 (0)), (.int .u32 (0)), (.int .u32 (0)), (.int .u32 (0)), (.int .u32 (0)), (.int .u32 (0)), (.int .u32 (0)), (.int .u32 (0)), (.int .u32 (0)), (.int .u32 (0)), (.int .u32 (0)), (.int .u32 (0)), (.int .u32 (0)), (.int .u32 (0))] : List Value) ++ ([(.int .u32 (0)), (.int .u32 (0)), (.int .u32 (0)), (.int .u32 (0)), (.int .u32 (0)), (.int .u32 (0)), (.int .u32 (0)), (.int .u32 (0)), (.int .u32 (0)), (.int .u32 (0)), (.int .u32 (0)), (.int .u32 (0)), (.int .u32 (0)), (.int .u32 (0)), (.int .u32 (0)), (.int .u32 (0)), (.int .u32 (0)), (.int .u32 (0)), (.int .u32 (0)), (.int .u32 (0)), (.int .u32 (0)), (.int .u32 (0)), (.int .u32 (0)), (.int .u32 (0))] : List Value) ++ ([(.int .u32 (0)), (.int .u32 (0)), (.int .u32 (0)), (.int .u32 (0)), (.int .u32 (0)), (.int .u32 (0)), (.int .u32 (0)), (.int .u32 (0)), (.int .u32 (0)), (.int .u32 (0)), (.int .u32 (0)), (.int .u32 (0)), (.int .u32 (0)), (.int .u32 (0)), (.int .u32 (0)), (.int .u32 (0))] : List Value))) (z := (.agg ⟨(([(.int .u32 (0)), (.int .u32 (0)), (.int .u32 (0)), (.int .u32 (0)), (.int .u32 (0)), (.int .u32 (0)), (.int .u32 (0)), (.int .u32 (0)), (.int .u32 (0)), (.int .u32 (0)), (.int .u32 (0)), (.int .u32 (0)), (.int .u32 (0)), (.int .u32 (0)), (.int .u32 (0)), (.int .u32 (0)), (.int .u32 (0)), (.int .u32 (0)), (.int .u32 (0)), (.int .u32 (0)), (.int .u32 (0)), (.int .u32 (0)), (.int .u32 (0)), (.int .u32 (0))] : List Value) ++ ([(.int .u32 (0)), (.int .u32 (0)), (.int .u32 (0)), (.int .u32 (0)), (.int .u32 (0)), (.int .u32 (0)), (.int .u32 (0)), (.int .u32 (0)), (.int .u32 (0)), (.int .u32 (0)), (.int .u32 (0)), (.int .u32 (0)), (.int .u32 (0)), (.int .u32 (0)), (.int .u32 (0)), (.int .u32 (0)), (.int .u32 (0)), (.int .u32 (0)), (.int .u32 (0)), (.int .u32 (0)), (.int .u32 (0)), (.int .u32 (0)), (.int .u32 (0)), (.int .u32 (0))] : List Value) ++ ([(.int .u32 (0)), (.int .u32 (0)), (.int .u32 (0)), (.int .u32 (0)), (.int .u32 (0)), (.int .u32 (0)), (.int .u32 (0)), (.int .u32 (0)), (.int .u32 (0)), (.int .u32 (0)), (.int .u32 (0)), (.int .u32 (0)), (.int .u32 (0)), (.int .u32 (0)), (.int .u32 (0)), (.int .u32 (0))] : List Value))⟩)) rfl H (by kernel_rfl) (by kernel_rfl) ?_
 intro b2 w3 (H4 : Sat w [Z6 w (fun _ => False), Z3 b2 187 (([(.int .u32 (0)), (.int .u32 (0)), (.int .u32 (0)), (.int .u32 (0)), (.int .u32 (0)), (.int .u32 (0)), (.int .u32 (0)), (.int .u32 (0)), (.int .u32 (0)), (.int .u32 (0)), (.int .u32 (0)), (.int .u32 (0)), (.int .u32 (0)), (.int .u32 (0)), (.int .u32 (0)), (.int .u32 (0)), (.int .u32 (0)), (.int .u32 (0)), (.int .u32 (0)), (.int .u32 (0)), (.int .u32 (0)), (.int .u32 (0)), (.int .u32 (0)), (.int .u32 (0))] : List Value) ++ ([(.int .u32 (0)), (.int .u32 (0)), (.int .u32 (0)), (.int .u32 (0)), (.int .u32 (0)), (.int .u32 (0)), (.int .u32 (0)), (.int .u32 (0)), (.int .u32 (0)), (.int .u32 (0)), (.int .u32 (0)), (.int .u32 (0)), (.int .u32 (0)), (.int .u32 (0)), (.int .u32 (0)), (.int .u32 (0)), (.int .u32 (0)), (.int .u32 (0)), (.int .u32 (0)), (.int .u32 (0)), (.int .u32 (0)), (.int .u32 (0)), (.int .u32 (0)), (.int .u32 (0))] : List Value) ++ ([(.int .u32 (0)), (.int .u32 (0)), (.int .u32 (0)), (.int .u32 (0)), (.int .u32 (0)), (.int .u32 (0)), (.int .u32 (0)), (.int .u32 (0)), (.int .u32 (0)), (.int .u32 (0)), (.int .u32 (0)), (.int .u32 (0)), (.int .u32 (0)), (.int .u32 (0)), (.int .u32 (0)), (.int .u32 (0))] : List Value))] w3)
 have H5 : Sat w [Z6 w (fun _ => False), Z00 .u32 b2 187 64 (List.replicate 64 (0 : Int))] w3 := Sat.toW H4 1 .u32 (List.replicate 64 (0 : Int)) (by kernel_rfl) (by first | rfl | simp)
 refine hK1 _ _ ?_
 clear hK1 K1
 refine Zm ?_
 refine Z4 ?_
 refine Zc ?_
 refine Zp ?_
 refine Z2 (Z1 rfl) (d := 1) (v := (.agg ⟨(([(.int .u32 (1116352408)), (.int .u32 (1899447441)), (.int .u32 (3049323471)), (.int .u32 (3921009573)), (.int .u32 (961987163)), (.int .u32 (1508970993)), (.int .u32 (2453635748)), (.int .u32 (2870763221)), (.int .u32 (3624381080)), (.int .u32 (310598401)), (.int .u32 (607225278)), (.int .u32 (1426881987)), (.int .u32 (1925078388)), (.int .u32 (2162078206)), (.int .u32 (2614888103)), (.int .u32 (3248222580)), (.int .u32 (3835390401)), (.int .u32 (4022224774)), (.int .u32 (264347078)), (.int .u32 (604807628)), (.int .u32 (770255983)), (.int .u32 (1249150122)), (.int .u32 (1555081692)), (.int .u32 (1996064986))] : List Value) ++ ([(.int .u32 (2554220882)), (.int .u32 (2821834349)), (.int .u32 (2952996808)), (.int .u32 (3210313671)), (.int .u32 (3336571891)), (.int .u32 (3584528711)), (.int .u32 (113926993)), (.int .u32 (338241895)), (.int .u32 (666307205)), (.int .u32 (773529912)), (.int .u32 (1294757372)), (.int .u32 (1396182291)), (.int .u32 (1695183700)), (.int .u32 (1986661051)), (.int .u32 (2177026350)), (.int .u32 (2456956037)), (.int .u32 (2730485921)), (.int .u32 (2820302411)), (.int .u32 (3259730800)), (.int .u32 (3345764771)), (.int .u32 (3516065817)), (.int .u32 (3600352804)), (.int .u32 (4094571909)), (.int .u32 (275423344))] : List Value) ++ ([(.int .u32 (430227734)), (.int .u32 (506948616)), (.int .u32 (659060556)), (.int .u32 (883997877)), (.int .u32 (958139571)), (.int .u32 (1322822218)), (.int .u32 (1537002063)), (.int .u32 (1747873779)), (.int .u32 (1955562222)), (.int .u32 (2024104815)), (.int .u32 (2227730452)), (.int .u32 (2361852424)), (.int .u32 (2428436474)), (.int .u32 (2756734187)), (.int .u32 (3204031479)), (.int .u32 (3329325298))] : List Value))⟩)) rfl (by kernel_rfl) ?_
 refine ZA (Z1 rfl) (fun K6 hK6 => ?_)
 refine Z1M .u32 (B := ([1116352408, 1899447441, 3049323471, 3921009573, 961987163, 1508970993, 2453635748, 2870763221, 3624381080, 310598401, 607225278, 1426881987, 1925078388, 2162078206, 2614888103, 3248222580, 3835390401, 4022224774, 264347078, 604807628, 770255983, 1249150122, 1555081692, 1996064986, 2554220882, 2821834349, 2952996808, 3210313671, 3336571891, 3584528711, 113926993, 338241895, 666307205, 773529912, 1294757372, 1396182291, 1695183700, 1986661051, 2177026350, 2456956037, 2730485921, 2820302411, 3259730800, 3345764771, 3516065817, 3600352804, 4094571909, 275423344, 430227734, 506948616, 659060556, 883997877, 958139571, 1322822218, 1537002063, 1747873779, 1955562222, 2024104815, 2227730452, 2361852424, 2428436474, 2756734187, 3204031479, 3329325298] : List Int)) rfl H5 1 rfl rfl rfl (by kernel_rfl) (by kernel_rfl) (by decide) (by first | rfl | simp) ?_
 intro w7 (H8 : Sat w [Z6 w (fun _ => False), Z00 .u32 b2 187 64 ([1116352408, 1899447441, 3049323471, 3921009573, 961987163, 1508970993, 2453635748, 2870763221, 3624381080, 310598401, 607225278, 1426881987, 1925078388, 2162078206, 2614888103, 3248222580, 3835390401, 4022224774, 264347078, 604807628, 770255983, 1249150122, 1555081692, 1996064986, 2554220882, 2821834349, 2952996808, 3210313671, 3336571891, 3584528711, 113926993, 338241895, 666307205, 773529912, 1294757372, 1396182291, 1695183700, 1986661051, 2177026350, 2456956037, 2730485921, 2820302411, 3259730800, 3345764771, 3516065817, 3600352804, 4094571909, 275423344, 430227734, 506948616, 659060556, 883997877, 958139571, 1322822218, 1537002063, 1747873779, 1955562222, 2024104815, 2227730452, 2361852424, 2428436474, 2756734187, 3204031479, 3329325298] : List Int)] w7)
 refine hK6 _ _ ?_
 clear hK6 K6
 refine Zm ?_
 refine Z4 ?_
 refine ZY ?_
 have hAL_ : ([1116352408, 1899447441, 3049323471, 3921009573, 961987163, 1508970993, 2453635748, 2870763221, 3624381080, 310598401, 607225278, 1426881987, 1925078388, 2162078206, 2614888103, 3248222580, 3835390401, 4022224774, 264347078, 604807628, 770255983, 1249150122, 1555081692, 1996064986, 2554220882, 2821834349, 2952996808, 3210313671, 3336571891, 3584528711, 113926993, 338241895, 666307205, 773529912, 1294757372, 1396182291, 1695183700, 1986661051, 2177026350, 2456956037, 2730485921, 2820302411, 3259730800, 3345764771, 3516065817, 3600352804, 4094571909, 275423344, 430227734, 506948616, 659060556, 883997877, 958139571, 1322822218, 1537002063, 1747873779, 1955562222, 2024104815, 2227730452, 2361852424, 2428436474, 2756734187, 3204031479, 3329325298] : List Int).length = 64 := Z2C (H8.at 1 rfl)
 have H9 : Sat w [Z6 w (fun _ => False), Z3 b2 187 (([1116352408, 1899447441, 3049323471, 3921009573, 961987163, 1508970993, 2453635748, 2870763221, 3624381080, 310598401, 607225278, 1426881987, 1925078388, 2162078206, 2614888103, 3248222580, 3835390401, 4022224774, 264347078, 604807628, 770255983, 1249150122, 1555081692, 1996064986, 2554220882, 2821834349, 2952996808, 3210313671, 3336571891, 3584528711, 113926993, 338241895, 666307205, 773529912, 1294757372, 1396182291, 1695183700, 1986661051, 2177026350, 2456956037, 2730485921, 2820302411, 3259730800, 3345764771, 3516065817, 3600352804, 4094571909, 275423344, 430227734, 506948616, 659060556, 883997877, 958139571, 1322822218, 1537002063, 1747873779, 1955562222, 2024104815, 2227730452, 2361852424, 2428436474, 2756734187, 3204031479, 3329325298] : List Int).map (Value.int .u32))] w7 := Sat.offW H8 1 rfl
 refine Z0O rfl (Z0i (vs := (([1116352408, 1899447441, 3049323471, 3921009573, 961987163, 1508970993, 2453635748, 2870763221, 3624381080, 310598401, 607225278, 1426881987, 1925078388, 2162078206, 2614888103, 3248222580, 3835390401, 4022224774, 264347078, 604807628, 770255983, 1249150122, 1555081692, 1996064986, 2554220882, 2821834349, 2952996808, 3210313671, 3336571891, 3584528711, 113926993, 338241895, 666307205, 773529912, 1294757372, 1396182291, 1695183700, 1986661051, 2177026350, 2456956037, 2730485921, 2820302411, 3259730800, 3345764771, 3516065817, 3600352804, 4094571909, 275423344, 430227734, 506948616, 659060556, 883997877, 958139571, 1322822218, 1537002063, 1747873779, 1955562222, 2024104815, 2227730452, 2361852424, 2428436474, 2756734187, 3204031479, 3329325298] : List Int).map (Value.int .u32))) rfl (by kernel_rfl) (by rw [List.length_map, hAL_]; kernel_rfl) (by rw [List.length_map, hAL_]; decide) (H9.at 1 rfl) (List.take_length)) ?_
 exact ⟨rfl, H9.upd 0 rfl [] (fun _ h => h.elim)⟩
theorem Z7V (w : World) (sa : Option Addr) (sc : Nat) (s : List UInt8) (hs : ListAt Zr 1 w (.slice sa s.length sc) s) (hl : s.length ≤ 1000000) :
  Calls Tryz.prog 103 #[(.slice sa s.length sc)] w fun e w' => e = .returned (.agg ⟨hc (Z0f s)⟩) ∧ Upd [] w w' := by
 have H := Sat.start0 w
 refine ZE Tryz.func103 rfl 269 rfl (Nat.le_of_ble_eq_true rfl) ?_
 refine Zc ?_
 refine Zp ?_
 refine ZA (Z1 rfl) (fun K1 hK1 => ?_)
 refine Z0e (zs := (hc Zo)) (z := (.agg ⟨(hc Zo)⟩)) rfl H (by kernel_rfl) (by kernel_rfl) ?_
 intro b2 w3 (H4 : Sat w [Z6 w (fun _ => False), Z3 b2 26 (hc Zo)] w3)
 have H5 : Sat w [Z6 w (fun _ => False), Z00 .u8 b2 26 32 (List.replicate 32 (0 : Int))] w3 := Sat.toW H4 1 .u8 (List.replicate 32 (0 : Int)) (by kernel_rfl) (by first | rfl | simp)
 refine hK1 _ _ ?_
 clear hK1 K1
 refine Zm ?_
 refine Z4 ?_
 refine Zc ?_
 refine Zp ?_
 refine ZA (Z1 rfl) (fun K6 hK6 => ?_)
 refine Zv (d := 24) rfl (by kernel_rfl) (Z6v w3) ?_
 rintro _ w7 ⟨rfl, u9⟩
 have H8 := H5.keepU u9
 refine ⟨_, rfl, ?_⟩
 refine hK6 _ _ ?_
 clear hK6 K6
 refine ZA (Z1 rfl) (fun K10 hK10 => ?_)
 refine Z0e (zs := (([(.int .u32 (0)), (.int .u32 (0)), (.int .u32 (0)), (.int .u32 (0)), (.int .u32 (0)), (.int .u32 (0)), (.int .u32 (0)), (.int .u32 (0)), (.int .u32 (0)), (.int .u32 (0)), (.int .u32 (0)), (.int .u32 (0)), (.int .u32 (0)), (.int .u32 (0)), (.int .u32 (0)), (.int .u32 (0)), (.int .u32 (0)), (.int .u32 (0)), (.int .u32 (0)), (.int .u32 (0)), (.int .u32 (0)), (.int .u32 (0)), (.int .u32 (0)), (.int .u32 (0))] : List Value) ++ ([(.int .u32 (0)), (.int .u32 (0)), (.int .u32 (0)), (.int .u32 (0)), (.int .u32 (0)), (.int .u32 (0)), (.int .u32 (0)), (.int .u32 (0)), (.int .u32 (0)), (.int .u32 (0)), (.int .u32 (0)), (.int .u32 (0)), (.int .u32 (0)), (.int .u32 (0)), (.int .u32 (0)), (.int .u32 (0)), (.int .u32 (0)), (.int .u32 (0)), (.int .u32 (0)), (.int .u32 (0)), (.int .u32 (0)), (.int .u32 (0)), (.int .u32 (0)), (.int .u32 (0))] : List Value) ++ ([(.int .u32 (0)), (.int .u32 (0)), (.int .u32 (0)), (.int .u32 (0)), (.int .u32 (0)), (.int .u32 (0)), (.int .u32 (0)), (.int .u32 (0)), (.int .u32 (0)), (.int .u32 (0)), (.int .u32 (0)), (.int .u32 (0)), (.int .u32 (0)), (.int .u32 (0)), (.int .u32 (0)), (.int .u32 (0))] : List Value))) (z := (.agg ⟨(([(.int .u32 (0)), (.int .u32 (0)), (.int .u32 (0)), (.int .u32 (0)), (.int .u32 (0)), (.int .u32 (0)), (.int .u32 (0)), (.int .u32 (0)), (.int .u32 (0)), (.int .u32 (0)), (.int .u32 (0)), (.int .u32 (0)), (.int .u32 (0)), (.int .u32 (0)), (.int .u32 (0)), (.int .u32 (0)), (.int .u32 (0)), (.int .u32 (0)), (.int .u32 (0)), (.int .u32 (0)), (.int .u32 (0)), (.int .u32 (0)), (.int .u32 (0)), (.int .u32 (0))] : List Value) ++ ([(.int .u32 (0)), (.int .u32 (0)), (.int .u32 (0)), (.int .u32 (0)), (.int .u32 (0)), (.int .u32 (0)), (.int .u32 (0)), (.int .u32 (0)), (.int .u32 (0)), (.int .u32 (0)), (.int .u32 (0)), (.int .u32 (0)), (.int .u32 (0)), (.int .u32 (0)), (.int .u32 (0)), (.int .u32 (0)), (.int .u32 (0)), (.int .u32 (0)), (.int .u32 (0)), (.int .u32 (0)), (.int .u32 (0)), (.int .u32 (0)), (.int .u32 (0)), (.int .u32 (0))] : List Value) ++ ([(.int .u32 (0)), (.int .u32 (0)), (.int .u32 (0)), (.int .u32 (0)), (.int .u32 (0)), (.int .u32 (0)), (.int .u32 (0)), (.int .u32 (0)), (.int .u32 (0)), (.int .u32 (0)), (.int .u32 (0)), (.int .u32 (0)), (.int .u32 (0)), (.int .u32 (0)), (.int .u32 (0)), (.int .u32 (0))] : List Value))⟩)) rfl H8 (by kernel_rfl) (by kernel_rfl) ?_
 intro b11 w12 (H13 : Sat w [Z6 w (fun _ => False), Z00 .u8 b2 26 32 (List.replicate 32 (0 : Int)), Z3 b11 187 (([(.int .u32 (0)), (.int .u32 (0)), (.int .u32 (0)), (.int .u32 (0)), (.int .u32 (0)), (.int .u32 (0)), (.int .u32 (0)), (.int .u32 (0)), (.int .u32 (0)), (.int .u32 (0)), (.int .u32 (0)), (.int .u32 (0)), (.int .u32 (0)), (.int .u32 (0)), (.int .u32 (0)), (.int .u32 (0)), (.int .u32 (0)), (.int .u32 (0)), (.int .u32 (0)), (.int .u32 (0)), (.int .u32 (0)), (.int .u32 (0)), (.int .u32 (0)), (.int .u32 (0))] : List Value) ++ ([(.int .u32 (0)), (.int .u32 (0)), (.int .u32 (0)), (.int .u32 (0)), (.int .u32 (0)), (.int .u32 (0)), (.int .u32 (0)), (.int .u32 (0)), (.int .u32 (0)), (.int .u32 (0)), (.int .u32 (0)), (.int .u32 (0)), (.int .u32 (0)), (.int .u32 (0)), (.int .u32 (0)), (.int .u32 (0)), (.int .u32 (0)), (.int .u32 (0)), (.int .u32 (0)), (.int .u32 (0)), (.int .u32 (0)), (.int .u32 (0)), (.int .u32 (0)), (.int .u32 (0))] : List Value) ++ ([(.int .u32 (0)), (.int .u32 (0)), (.int .u32 (0)), (.int .u32 (0)), (.int .u32 (0)), (.int .u32 (0)), (.int .u32 (0)), (.int .u32 (0)), (.int .u32 (0)), (.int .u32 (0)), (.int .u32 (0)), (.int .u32 (0)), (.int .u32 (0)), (.int .u32 (0)), (.int .u32 (0)), (.int .u32 (0))] : List Value))] w12)
 have H14 : Sat w [Z6 w (fun _ => False), Z00 .u8 b2 26 32 (List.replicate 32 (0 : Int)), Z00 .u32 b11 187 64 (List.replicate 64 (0 : Int))] w12 := Sat.toW H13 2 .u32 (List.replicate 64 (0 : Int)) (by kernel_rfl) (by first | rfl | simp)
 refine hK10 _ _ ?_
 clear hK10 K10
 refine ZA (Z1 rfl) (fun K15 hK15 => ?_)
 refine Z1M .u32 (B := kR) rfl H14 2 rfl rfl rfl (by kernel_rfl) (by kernel_rfl) (by decide) (by first | rfl | simp) ?_
 intro w16 (H17 : Sat w [Z6 w (fun _ => False), Z00 .u8 b2 26 32 (List.replicate 32 (0 : Int)), Z00 .u32 b11 187 64 kR] w16)
 refine hK15 _ _ ?_
 clear hK15 K15
 refine Zm ?_
 refine Z4 ?_
 refine Zc ?_
 refine Zp ?_
 refine Z2 (Z1 rfl) (d := 25) (v := (.agg ⟨([(.int .u32 (1779033703)), (.int .u32 (3144134277)), (.int .u32 (1013904242)), (.int .u32 (2773480762)), (.int .u32 (1359893119)), (.int .u32 (2600822924)), (.int .u32 (528734635)), (.int .u32 (1541459225))] : List Value)⟩)) rfl (by kernel_rfl) ?_
 refine ZA (Z1 rfl) (fun K18 hK18 => ?_)
 refine Z0e (zs := ([(.int .u32 (0)), (.int .u32 (0)), (.int .u32 (0)), (.int .u32 (0)), (.int .u32 (0)), (.int .u32 (0)), (.int .u32 (0)), (.int .u32 (0))] : List Value)) (z := (.agg ⟨([(.int .u32 (0)), (.int .u32 (0)), (.int .u32 (0)), (.int .u32 (0)), (.int .u32 (0)), (.int .u32 (0)), (.int .u32 (0)), (.int .u32 (0))] : List Value)⟩)) rfl H17 (by kernel_rfl) (by kernel_rfl) ?_
 intro b19 w20 (H21 : Sat w [Z6 w (fun _ => False), Z00 .u8 b2 26 32 (List.replicate 32 (0 : Int)), Z00 .u32 b11 187 64 kR, Z3 b19 189 ([(.int .u32 (0)), (.int .u32 (0)), (.int .u32 (0)), (.int .u32 (0)), (.int .u32 (0)), (.int .u32 (0)), (.int .u32 (0)), (.int .u32 (0))] : List Value)] w20)
 have H22 : Sat w [Z6 w (fun _ => False), Z00 .u8 b2 26 32 (List.replicate 32 (0 : Int)), Z00 .u32 b11 187 64 kR, Z00 .u32 b19 189 8 ([0, 0, 0, 0, 0, 0, 0, 0] : List Int)] w20 := Sat.toW H21 3 .u32 ([0, 0, 0, 0, 0, 0, 0, 0] : List Int) (by kernel_rfl) (by first | rfl | simp)
 refine hK18 _ _ ?_
 clear hK18 K18
 refine ZA (Z1 rfl) (fun K23 hK23 => ?_)
 refine Z1M .u32 (B := ([1779033703, 3144134277, 1013904242, 2773480762, 1359893119, 2600822924, 528734635, 1541459225] : List Int)) rfl H22 3 rfl rfl rfl (by kernel_rfl) (by kernel_rfl) (by decide) (by first | rfl | simp) ?_
 intro w24 (H25 : Sat w [Z6 w (fun _ => False), Z00 .u8 b2 26 32 (List.replicate 32 (0 : Int)), Z00 .u32 b11 187 64 kR, Z00 .u32 b19 189 8 ([1779033703, 3144134277, 1013904242, 2773480762, 1359893119, 2600822924, 528734635, 1541459225] : List Int)] w24)
 refine hK23 _ _ ?_
 clear hK23 K23
 refine Zm ?_
 refine Z4 ?_
 refine Zc ?_
 refine Zp ?_
 refine Z2 (Z1 rfl) (d := 26) (v := (.slice sa s.length sc)) rfl (by kernel_rfl) ?_
 refine ZA (Z1 rfl) (fun K26 hK26 => ?_)
 refine Z51 (T := 62) (e := 5) (size := 1) (bytes := 1) rfl H25 (by kernel_rfl) Z05 Z10 (ListAt.now H25 0 rfl hs) rfl rfl (by omega) (by omega) ?_
 intro v27 w28 (H29 : Sat w [Z6 w (fun _ => False), Z00 .u8 b2 26 32 (List.replicate 32 (0 : Int)), Z00 .u32 b11 187 64 kR, Z00 .u32 b19 189 8 ([1779033703, 3144134277, 1013904242, 2773480762, 1359893119, 2600822924, 528734635, 1541459225] : List Int), Zb 5 1 v27 s.length (s.flatMap Zr)] w28)
 obtain ⟨a30, c31, rfl⟩ := Zl (H29.at 4 rfl)
 refine hK26 _ _ ?_
 clear hK26 K26
 refine ZA (Z1 rfl) (fun K32 hK32 => ?_)
 refine ZX (e := 5) (size := 1) (bytes := 1) (z := (.int .u8 (0))) (pvs := [(0, (.int .u8 (128)))]) (vs := ([(.int .u8 (128))] : List Value)) rfl H29 (by kernel_rfl) (by kernel_rfl) (by kernel_rfl) (by kernel_rfl) (by kernel_rfl) rfl rfl ?_
 intro b33 w34 (H35 : Sat w [Z6 w (fun _ => False), Z00 .u8 b2 26 32 (List.replicate 32 (0 : Int)), Z00 .u32 b11 187 64 kR, Z00 .u32 b19 189 8 ([1779033703, 3144134277, 1013904242, 2773480762, 1359893119, 2600822924, 528734635, 1541459225] : List Int), Zb 5 1 (.slice a30 s.length c31) s.length (s.flatMap Zr), Zb 5 1 (.slice (some ⟨b33, 0, none⟩) 1 1) 1 ([(.int .u8 (128))] : List Value)] w34)
 have H36 : Sat w [Z6 w (fun _ => False), Z00 .u8 b2 26 32 (List.replicate 32 (0 : Int)), Z00 .u32 b11 187 64 kR, Z00 .u32 b19 189 8 ([1779033703, 3144134277, 1013904242, 2773480762, 1359893119, 2600822924, 528734635, 1541459225] : List Int), Zb 5 1 (.slice a30 s.length c31) s.length (s.flatMap Zr), Zb 5 1 (.slice (some ⟨b33, 0, none⟩) 1 1) 1 (([128] : List UInt8).flatMap Zr)] w34 := H35.cast (by rw [(show ([.int .u8 128] : List Value) = ([128] : List UInt8).flatMap Zr by kernel_rfl)])
 refine hK32 _ _ ?_
 clear hK32 K32
 refine ZA (Z1 rfl) (fun K37 hK37 => ?_)
 refine Z0Z (T := 62) (e := 5) (size := 1) (bytes := 1) rfl H36 (by kernel_rfl) 4 5 rfl rfl rfl rfl (Z0Q Zr Z10 ([128] : List UInt8)) (by omega) (by omega) ?_
 intro v38 w39 (H40 : Sat w [Z6 w (fun _ => False), Z00 .u8 b2 26 32 (List.replicate 32 (0 : Int)), Z00 .u32 b11 187 64 kR, Z00 .u32 b19 189 8 ([1779033703, 3144134277, 1013904242, 2773480762, 1359893119, 2600822924, 528734635, 1541459225] : List Int), Zb 5 1 v38 (s.length + 1) ((s.flatMap Zr) ++ (([128] : List UInt8).flatMap Zr)), Zb 5 1 (.slice (some ⟨b33, 0, none⟩) 1 1) 1 (([128] : List UInt8).flatMap Zr)] w39)
 have H43 : Sat w [Z6 w (fun _ => False), Z00 .u8 b2 26 32 (List.replicate 32 (0 : Int)), Z00 .u32 b11 187 64 kR, Z00 .u32 b19 189 8 ([1779033703, 3144134277, 1013904242, 2773480762, 1359893119, 2600822924, 528734635, 1541459225] : List Int), Zb 5 1 v38 ((s ++ ([128] : List UInt8)).length) ((s ++ ([128] : List UInt8)).flatMap Zr), Zb 5 1 (.slice (some ⟨b33, 0, none⟩) 1 1) 1 (([128] : List UInt8).flatMap Zr)] w39 := H40.cast (by simp only [List.length_append, List.flatMap_append] <;> rfl)
 obtain ⟨a41, c42, rfl⟩ := Zl (H43.at 4 rfl)
 refine hK37 _ _ ?_
 clear hK37 K37
 refine Z2 (Z1 rfl) (d := 5) (v := (.slice a41 ((s ++ ([128] : List UInt8)).length) c42)) rfl (by kernel_rfl) ?_
 refine Zm ?_
 refine Z4 ?_
 refine Zc ?_
 refine ZR ?_
 have hD0 : (s ++ ([128] : List UInt8)) = s ++ [128] ++ List.replicate 0 0 := (List.append_nil _).symm
 refine Z0m [5, 30, 31, 32, 33, 34, 35, 36] (fun F_ W_ m_ => ∃ (j : Nat) (a : Option Addr) (c : Nat) (D : List UInt8), F_ 5 = (.slice a D.length c) ∧ (j ≤ padN s.length) ∧ (D = s ++ [128] ++ List.replicate j 0) ∧ (True) ∧ Sat w [Z6 w (fun _ => False), Z00 .u8 b2 26 32 (List.replicate 32 (0 : Int)), Z00 .u32 b11 187 64 kR, Z00 .u32 b19 189 8 ([1779033703, 3144134277, 1013904242, 2773480762, 1359893119, 2600822924, 528734635, 1541459225] : List Int), Zb 5 1 (.slice a D.length c) D.length (D.flatMap Zr), Zb 5 1 (.slice (some ⟨b33, 0, none⟩) 1 1) 1 (([128] : List UInt8).flatMap Zr)] W_ ∧ m_ = 64 - j) _ ⟨0, a41, c42, (s ++ ([128] : List UInt8)), (by first | rfl | go_num), (Nat.zero_le _), hD0, trivial, H43, rfl⟩ ?_
 rintro g44 w45 _ ⟨j, a, c, D, v47, hj, hD, ht_, H46, rfl⟩
 refine Zs 5 _ v47 ?_
 have hDl : D.length = s.length + 1 + j := by rw [hD]; simp; omega
 have hj2 : j ≤ (119 - s.length % 64) % 64 := hj
 refine Zc ?_
 refine Zc ?_
 refine Zp ?_
 refine Z2 (Z1 rfl) (d := 30) (v := (.slice a D.length c)) rfl (by kernel_rfl) ?_
 refine Z2 (Z1 rfl) (d := 31) (v := (.int .i64 ((D.length : Int)))) rfl (by kernel_rfl) ?_
 refine Z2 (Z1 rfl) (d := 32) (v := (.int .i64 ((D.length : Int) % 64))) rfl (Z5B (by kernel_rfl) (by omega) (by omega)) ?_
 refine Z2 (Z1 rfl) (d := 33) (v := (.bool (!(decide (((D.length : Int) % 64) = 56))))) rfl (by kernel_rfl) ?_
 refine Zm ?_
 refine Z4 ?_
 refine (ZS (!(decide (((D.length : Int) % 64) = 56)))).elim (fun b49 => ?_) (fun b49 => ?_)
 ·have g50 := ZW b49
  have g51 := of_decide_eq_false g50
  refine Zs 33 (.bool true) (congrArg Value.bool b49) ?_
  have g52 := ZW b49
  have g53 := of_decide_eq_false g52
  refine Z0h rfl ?_
  refine Z0b ?_
  refine Z4 ?_
  refine ZR ?_
  refine Zp ?_
  refine Z2 (Z1 rfl) (d := 34) (v := (.slice a D.length c)) rfl (by kernel_rfl) ?_
  refine ZA (Z1 rfl) (fun K54 hK54 => ?_)
  refine ZX (e := 5) (size := 1) (bytes := 1) (z := (.int .u8 (0))) (pvs := [(0, (.int .u8 (0)))]) (vs := ([(.int .u8 (0))] : List Value)) rfl H46 (by kernel_rfl) (by kernel_rfl) (by kernel_rfl) (by kernel_rfl) (by kernel_rfl) rfl rfl ?_
  intro b55 w56 (H57 : Sat w [Z6 w (fun _ => False), Z00 .u8 b2 26 32 (List.replicate 32 (0 : Int)), Z00 .u32 b11 187 64 kR, Z00 .u32 b19 189 8 ([1779033703, 3144134277, 1013904242, 2773480762, 1359893119, 2600822924, 528734635, 1541459225] : List Int), Zb 5 1 (.slice a D.length c) D.length (D.flatMap Zr), Zb 5 1 (.slice (some ⟨b33, 0, none⟩) 1 1) 1 (([128] : List UInt8).flatMap Zr), Zb 5 1 (.slice (some ⟨b55, 0, none⟩) 1 1) 1 ([(.int .u8 (0))] : List Value)] w56)
  have H58 : Sat w [Z6 w (fun _ => False), Z00 .u8 b2 26 32 (List.replicate 32 (0 : Int)), Z00 .u32 b11 187 64 kR, Z00 .u32 b19 189 8 ([1779033703, 3144134277, 1013904242, 2773480762, 1359893119, 2600822924, 528734635, 1541459225] : List Int), Zb 5 1 (.slice a D.length c) D.length (D.flatMap Zr), Zb 5 1 (.slice (some ⟨b33, 0, none⟩) 1 1) 1 (([128] : List UInt8).flatMap Zr), Zb 5 1 (.slice (some ⟨b55, 0, none⟩) 1 1) 1 (([0] : List UInt8).flatMap Zr)] w56 := H57.cast (by rw [(show ([.int .u8 0] : List Value) = ([0] : List UInt8).flatMap Zr by kernel_rfl)])
  refine hK54 _ _ ?_
  clear hK54 K54
  refine ZA (Z1 rfl) (fun K59 hK59 => ?_)
  refine Z0Z (T := 62) (e := 5) (size := 1) (bytes := 1) rfl H58 (by kernel_rfl) 4 6 rfl rfl rfl rfl (Z0Q Zr Z10 ([0] : List UInt8)) (by omega) (by omega) ?_
  intro v60 w61 (H62 : Sat w [Z6 w (fun _ => False), Z00 .u8 b2 26 32 (List.replicate 32 (0 : Int)), Z00 .u32 b11 187 64 kR, Z00 .u32 b19 189 8 ([1779033703, 3144134277, 1013904242, 2773480762, 1359893119, 2600822924, 528734635, 1541459225] : List Int), Zb 5 1 v60 (D.length + 1) ((D.flatMap Zr) ++ (([0] : List UInt8).flatMap Zr)), Zb 5 1 (.slice (some ⟨b33, 0, none⟩) 1 1) 1 (([128] : List UInt8).flatMap Zr), Zb 5 1 (.slice (some ⟨b55, 0, none⟩) 1 1) 1 (([0] : List UInt8).flatMap Zr)] w61)
  have H65 : Sat w [Z6 w (fun _ => False), Z00 .u8 b2 26 32 (List.replicate 32 (0 : Int)), Z00 .u32 b11 187 64 kR, Z00 .u32 b19 189 8 ([1779033703, 3144134277, 1013904242, 2773480762, 1359893119, 2600822924, 528734635, 1541459225] : List Int), Zb 5 1 v60 ((D ++ ([0] : List UInt8)).length) ((D ++ ([0] : List UInt8)).flatMap Zr), Zb 5 1 (.slice (some ⟨b33, 0, none⟩) 1 1) 1 (([128] : List UInt8).flatMap Zr), Zb 5 1 (.slice (some ⟨b55, 0, none⟩) 1 1) 1 (([0] : List UInt8).flatMap Zr)] w61 := H62.cast (by simp only [List.length_append, List.flatMap_append] <;> rfl)
  obtain ⟨a63, c64, rfl⟩ := Zl (H65.at 4 rfl)
  refine hK59 _ _ ?_
  clear hK59 K59
  refine Z2 (Z1 rfl) (d := 5) (v := (.slice a63 ((D ++ ([0] : List UInt8)).length) c64)) rfl (by kernel_rfl) ?_
  refine Zm ?_
  refine ZL ?_
  have H66 : Sat w [Z6 w (fun _ => False), Z00 .u8 b2 26 32 (List.replicate 32 (0 : Int)), Z00 .u32 b11 187 64 kR, Z00 .u32 b19 189 8 ([1779033703, 3144134277, 1013904242, 2773480762, 1359893119, 2600822924, 528734635, 1541459225] : List Int), Zb 5 1 (.slice a63 ((D ++ ([0] : List UInt8)).length) c64) ((D ++ ([0] : List UInt8)).length) ((D ++ ([0] : List UInt8)).flatMap Zr), Zb 5 1 (.slice (some ⟨b33, 0, none⟩) 1 1) 1 (([128] : List UInt8).flatMap Zr)] w61 := H65.pick [0, 1, 2, 3, 4, 5] (by decide)
  refine ZM ?_ _ ⟨(j + 1), a63, c64, (D ++ ([0] : List UInt8)), (show ((.slice a63 ((D ++ ([0] : List UInt8)).length) c64) : Value) = _ by first | rfl | go_num), (by unfold padN; omega), (by rw [hD]; exact Z82 s j), trivial, H66, rfl⟩ (by omega)
  exact (Z0 rfl (Z0 rfl (Z0 rfl (Z0 rfl (Z0 rfl (Z0 rfl (Z0 rfl (Z0 rfl (Z0 rfl (Z0 rfl (Z06)))))))))))
 ·have g67 := ZG b49
  have g68 := of_decide_eq_true g67
  refine Zs 33 (.bool false) (congrArg Value.bool b49) ?_
  have g69 := ZG b49
  have g70 := of_decide_eq_true g69
  refine Z09 rfl ?_
  refine Z0M ?_
  refine Z0a ?_
  refine Z0c ?_
  refine Z0B ?_
  refine Z4 ?_
  refine Zc ?_
  refine Zp ?_
  refine Z2 (Z1 rfl) (d := 37) (v := (.slice sa s.length sc)) rfl (by kernel_rfl) ?_
  refine Z2 (Z1 rfl) (d := 38) (v := (.int .i64 ((s.length : Int)))) rfl (by kernel_rfl) ?_
  refine Z2 (Z1 rfl) (d := 39) (v := (.int .u64 ((s.length : Int)))) rfl (Z04 (z := (s.length : Int)) (by kernel_rfl) (Z11 (by omega))) ?_
  refine Z2 (Z1 rfl) (d := 40) (v := (.int .u64 ((s.length : Int) * 8))) rfl (Z04 (z := (s.length : Int) * 8) (by kernel_rfl) (Z11 (by omega))) ?_
  refine Z2 (Z1 rfl) (d := 6) (v := (.int .u64 ((s.length : Int) * 8))) rfl (by kernel_rfl) ?_
  refine Zm ?_
  refine Z4 ?_
  refine Zc ?_
  refine Zc ?_
  refine Zp ?_
  refine Z2 (Z1 rfl) (d := 7) (v := (.int .i64 (7))) rfl (by kernel_rfl) ?_
  refine Zm ?_
  refine Z4 ?_
  refine ZR ?_
  obtain ⟨P, hP⟩ : ∃ P, P = D := ⟨_, rfl⟩
  have hPl : P.length % 64 = 56 := by rw [hP]; omega
  have hP2 : P = padP s := by rw [hP, hD]; unfold padP; rw [show j = padN s.length by unfold padN; omega]
  have hPn : P.length ≤ s.length + 100 := by rw [hP, hDl]; omega
  refine Z0m [5, 7, 41, 42, 43, 44, 45, 46, 47, 48, 49, 50, 51, 52, 53] (fun F_ W_ m_ => ∃ (q : Nat) (a : Option Addr) (c : Nat) (D : List UInt8), F_ 7 = (.int .i64 ((7 - (q : Int)))) ∧ F_ 5 = (.slice a D.length c) ∧ (q ≤ 8) ∧ (D = P ++ Z8J ((s.length : Int) * 8) q) ∧ Sat w [Z6 w (fun _ => False), Z00 .u8 b2 26 32 (List.replicate 32 (0 : Int)), Z00 .u32 b11 187 64 kR, Z00 .u32 b19 189 8 ([1779033703, 3144134277, 1013904242, 2773480762, 1359893119, 2600822924, 528734635, 1541459225] : List Int), Zb 5 1 (.slice a D.length c) D.length (D.flatMap Zr), Zb 5 1 (.slice (some ⟨b33, 0, none⟩) 1 1) 1 (([128] : List UInt8).flatMap Zr)] W_ ∧ m_ = 8 - q) _ ⟨0, a, c, D, (show ((.int .i64 (7)) : Value) = _ by first | rfl | go_num), (by first | rfl | go_num), (Nat.zero_le _), (by rw [hP]; exact (List.append_nil _).symm), H46, rfl⟩ ?_
  rintro g71 w72 _ ⟨q, a, c, D, v74, v75, hq, hD, H73, rfl⟩
  refine Zs 7 _ v74 ?_
  refine Zs 5 _ v75 ?_
  have hDl : D.length = P.length + q := by rw [hD, List.length_append, Z7W]
  refine Zc ?_
  refine Zc ?_
  refine Zp ?_
  refine Z2 (Z1 rfl) (d := 41) (v := (.int .i64 ((7 - (q : Int))))) rfl (by kernel_rfl) ?_
  refine Z2 (Z1 rfl) (d := 42) (v := (.bool (decide ((7 - (q : Int)) ≥ 0)))) rfl (by kernel_rfl) ?_
  refine Zm ?_
  refine Z4 ?_
  refine (ZS (decide ((7 - (q : Int)) ≥ 0))).elim (fun b77 => ?_) (fun b77 => ?_)
  ·have g78 := of_decide_eq_true b77
   refine Zs 42 (.bool true) (congrArg Value.bool b77) ?_
   have g79 := of_decide_eq_true b77
   refine Z0h rfl ?_
   refine Z0b ?_
   refine Z4 ?_
   refine Zc ?_
   refine ZR ?_
   refine Zp ?_
   refine Z2 (Z1 rfl) (d := 45) (v := (.slice a D.length c)) rfl (by kernel_rfl) ?_
   refine Z2 (Z1 rfl) (d := 46) (v := (.int .u64 ((s.length : Int) * 8))) rfl (by kernel_rfl) ?_
   refine Z2 (Z1 rfl) (d := 47) (v := (.int .i64 ((7 - (q : Int))))) rfl (by kernel_rfl) ?_
   refine Z2 (Z1 rfl) (d := 48) (v := (.int .i64 (8 * (7 - (q : Int))))) rfl (Z04 (z := 8 * (7 - (q : Int))) (by kernel_rfl) (IntWalk.i64_in _ (by omega))) ?_
   refine Z2 (Z1 rfl) (d := 49) (v := (.int .u64 (8 * (7 - (q : Int))))) rfl (Z04 (z := 8 * (7 - (q : Int))) (by kernel_rfl) (Z11 (by omega))) ?_
   refine Z2 (Z1 rfl) (d := 50) (v := (.int .u64 (((s.length : Int) * 8) / 2 ^ (min (8 * (7 - (q : Int))).toNat 64)))) rfl (Z5d rfl rfl (by omega) rfl (Int.le_of_lt (Int.pow_pos (by decide)))) ?_
   refine Z2 (Z1 rfl) (d := 51) (v := (.int .u8 (IntKind.u8.wrap (((s.length : Int) * 8) / 2 ^ (min (8 * (7 - (q : Int))).toNat 64))))) rfl (by kernel_rfl) ?_
   refine ZA (Z1 rfl) (fun K80 hK80 => ?_)
   refine ZX (e := 5) (size := 1) (bytes := 1) (z := (.int .u8 (0))) (pvs := [(0, (.int .u8 (IntKind.u8.wrap (((s.length : Int) * 8) / 2 ^ (min (8 * (7 - (q : Int))).toNat 64)))))]) (vs := ([(.int .u8 (IntKind.u8.wrap (((s.length : Int) * 8) / 2 ^ (min (8 * (7 - (q : Int))).toNat 64))))] : List Value)) rfl H73 (by kernel_rfl) (by kernel_rfl) (by kernel_rfl) (by kernel_rfl) (by kernel_rfl) rfl rfl ?_
   intro b81 w82 (H83 : Sat w [Z6 w (fun _ => False), Z00 .u8 b2 26 32 (List.replicate 32 (0 : Int)), Z00 .u32 b11 187 64 kR, Z00 .u32 b19 189 8 ([1779033703, 3144134277, 1013904242, 2773480762, 1359893119, 2600822924, 528734635, 1541459225] : List Int), Zb 5 1 (.slice a D.length c) D.length (D.flatMap Zr), Zb 5 1 (.slice (some ⟨b33, 0, none⟩) 1 1) 1 (([128] : List UInt8).flatMap Zr), Zb 5 1 (.slice (some ⟨b81, 0, none⟩) 1 1) 1 ([(.int .u8 (IntKind.u8.wrap (((s.length : Int) * 8) / 2 ^ (min (8 * (7 - (q : Int))).toNat 64))))] : List Value)] w82)
   have H84 : Sat w [Z6 w (fun _ => False), Z00 .u8 b2 26 32 (List.replicate 32 (0 : Int)), Z00 .u32 b11 187 64 kR, Z00 .u32 b19 189 8 ([1779033703, 3144134277, 1013904242, 2773480762, 1359893119, 2600822924, 528734635, 1541459225] : List Int), Zb 5 1 (.slice a D.length c) D.length (D.flatMap Zr), Zb 5 1 (.slice (some ⟨b33, 0, none⟩) 1 1) 1 (([128] : List UInt8).flatMap Zr), Zb 5 1 (.slice (some ⟨b81, 0, none⟩) 1 1) 1 ([UInt8.ofNat (IntKind.u8.wrap (((s.length : Int) * 8) / 2 ^ (min (8 * (7 - (q : Int))).toNat 64))).toNat].flatMap Zr)] w82 := H83.cast (by rw [Z2G (Z1C _)])
   refine hK80 _ _ ?_
   clear hK80 K80
   refine ZA (Z1 rfl) (fun K85 hK85 => ?_)
   refine Z0Z (T := 62) (e := 5) (size := 1) (bytes := 1) rfl H84 (by kernel_rfl) 4 6 rfl rfl rfl rfl (Z0Q Zr Z10 [UInt8.ofNat (IntKind.u8.wrap (((s.length : Int) * 8) / 2 ^ (min (8 * (7 - (q : Int))).toNat 64))).toNat]) (by omega) (by omega) ?_
   intro v86 w87 (H88 : Sat w [Z6 w (fun _ => False), Z00 .u8 b2 26 32 (List.replicate 32 (0 : Int)), Z00 .u32 b11 187 64 kR, Z00 .u32 b19 189 8 ([1779033703, 3144134277, 1013904242, 2773480762, 1359893119, 2600822924, 528734635, 1541459225] : List Int), Zb 5 1 v86 (D.length + 1) ((D.flatMap Zr) ++ ([UInt8.ofNat (IntKind.u8.wrap (((s.length : Int) * 8) / 2 ^ (min (8 * (7 - (q : Int))).toNat 64))).toNat].flatMap Zr)), Zb 5 1 (.slice (some ⟨b33, 0, none⟩) 1 1) 1 (([128] : List UInt8).flatMap Zr), Zb 5 1 (.slice (some ⟨b81, 0, none⟩) 1 1) 1 ([UInt8.ofNat (IntKind.u8.wrap (((s.length : Int) * 8) / 2 ^ (min (8 * (7 - (q : Int))).toNat 64))).toNat].flatMap Zr)] w87)
   have H91 : Sat w [Z6 w (fun _ => False), Z00 .u8 b2 26 32 (List.replicate 32 (0 : Int)), Z00 .u32 b11 187 64 kR, Z00 .u32 b19 189 8 ([1779033703, 3144134277, 1013904242, 2773480762, 1359893119, 2600822924, 528734635, 1541459225] : List Int), Zb 5 1 v86 ((D ++ [UInt8.ofNat (IntKind.u8.wrap (((s.length : Int) * 8) / 2 ^ (min (8 * (7 - (q : Int))).toNat 64))).toNat]).length) ((D ++ [UInt8.ofNat (IntKind.u8.wrap (((s.length : Int) * 8) / 2 ^ (min (8 * (7 - (q : Int))).toNat 64))).toNat]).flatMap Zr), Zb 5 1 (.slice (some ⟨b33, 0, none⟩) 1 1) 1 (([128] : List UInt8).flatMap Zr), Zb 5 1 (.slice (some ⟨b81, 0, none⟩) 1 1) 1 ([UInt8.ofNat (IntKind.u8.wrap (((s.length : Int) * 8) / 2 ^ (min (8 * (7 - (q : Int))).toNat 64))).toNat].flatMap Zr)] w87 := H88.cast (by simp only [List.length_append, List.flatMap_append] <;> rfl)
   obtain ⟨a89, c90, rfl⟩ := Zl (H91.at 4 rfl)
   refine hK85 _ _ ?_
   clear hK85 K85
   refine Z2 (Z1 rfl) (d := 5) (v := (.slice a89 ((D ++ [UInt8.ofNat (IntKind.u8.wrap (((s.length : Int) * 8) / 2 ^ (min (8 * (7 - (q : Int))).toNat 64))).toNat]).length) c90)) rfl (by kernel_rfl) ?_
   refine Zm ?_
   refine ZL ?_
   refine Z4 ?_
   refine Zp ?_
   refine Z2 (Z1 rfl) (d := 43) (v := (.int .i64 ((7 - (q : Int))))) rfl (by kernel_rfl) ?_
   refine Z2 (Z1 rfl) (d := 44) (v := (.int .i64 ((7 - (q : Int)) - 1))) rfl (Z04 (z := (7 - (q : Int)) - 1) (by kernel_rfl) (IntWalk.i64_in _ (by omega))) ?_
   refine Z2 (Z1 rfl) (d := 7) (v := (.int .i64 ((7 - (q : Int)) - 1))) rfl (by kernel_rfl) ?_
   refine Zm ?_
   have H92 : Sat w [Z6 w (fun _ => False), Z00 .u8 b2 26 32 (List.replicate 32 (0 : Int)), Z00 .u32 b11 187 64 kR, Z00 .u32 b19 189 8 ([1779033703, 3144134277, 1013904242, 2773480762, 1359893119, 2600822924, 528734635, 1541459225] : List Int), Zb 5 1 (.slice a89 ((D ++ [UInt8.ofNat (IntKind.u8.wrap (((s.length : Int) * 8) / 2 ^ (min (8 * (7 - (q : Int))).toNat 64))).toNat]).length) c90) ((D ++ [UInt8.ofNat (IntKind.u8.wrap (((s.length : Int) * 8) / 2 ^ (min (8 * (7 - (q : Int))).toNat 64))).toNat]).length) ((D ++ [UInt8.ofNat (IntKind.u8.wrap (((s.length : Int) * 8) / 2 ^ (min (8 * (7 - (q : Int))).toNat 64))).toNat]).flatMap Zr), Zb 5 1 (.slice (some ⟨b33, 0, none⟩) 1 1) 1 (([128] : List UInt8).flatMap Zr)] w87 := H91.pick [0, 1, 2, 3, 4, 5] (by decide)
   refine ZM ?_ _ ⟨(q + 1), a89, c90, (D ++ [UInt8.ofNat (IntKind.u8.wrap (((s.length : Int) * 8) / 2 ^ (min (8 * (7 - (q : Int))).toNat 64))).toNat]), (show ((.int .i64 ((7 - (q : Int)) - 1)) : Value) = _ by first | rfl | go_num | exact congrArg (Value.int .i64) (by omega)), (show ((.slice a89 ((D ++ [UInt8.ofNat (IntKind.u8.wrap (((s.length : Int) * 8) / 2 ^ (min (8 * (7 - (q : Int))).toNat 64))).toNat]).length) c90) : Value) = _ by first | rfl | go_num | exact congrArg (Value.int .i64) (by omega)), (by omega), (by rw [hD]; exact (List.append_assoc _ _ _).trans (congrArg (P ++ ·) (Z80 _ q).symm)), H92, rfl⟩ (by omega)
   exact (Z0 rfl (Z0 rfl (Z0 rfl (Z0 rfl (Z0 rfl (Z0 rfl (Z0 rfl (Z0 rfl (Z0 rfl (Z0 rfl (Z0 rfl (Z0 rfl (Z0 rfl (Z0 rfl (Z0 rfl (Z0 rfl (Z0 rfl (Z0 rfl (Z06)))))))))))))))))))
  ·have g93 := of_decide_eq_false b77
   refine Zs 42 (.bool false) (congrArg Value.bool b77) ?_
   have g94 := of_decide_eq_false b77
   refine Z09 rfl ?_
   refine Z0M ?_
   refine Z0a ?_
   refine Z0c ?_
   refine Z0B ?_
   refine Z4 ?_
   refine Zc ?_
   refine Zc ?_
   refine Zp ?_
   refine Z2 (Z1 rfl) (d := 8) (v := (.int .i64 (0))) rfl (by kernel_rfl) ?_
   refine Zm ?_
   refine Z4 ?_
   refine ZR ?_
   have hDm : D = padR s := by unfold padR; rw [hD, ← hP2, show q = 8 by omega]
   obtain ⟨nb, hnb⟩ : ∃ nb, nb = D.length / 64 := ⟨_, rfl⟩
   have hml : D.length = 64 * nb := by omega
   refine Z0m [8, 9, 10, 11, 12, 13, 14, 15, 16, 17, 18, 19, 20, 21, 54, 55, 56, 57, 58, 59, 60, 61, 62, 63, 64, 65, 66, 67, 68, 69, 70, 71, 72, 73, 74, 75, 76, 77, 78, 79, 80, 81, 82, 83, 84, 85, 86, 87, 88, 89, 90, 91, 92, 93, 94, 95, 96, 97, 98, 99, 100, 101, 102, 103, 104, 105, 106, 107, 108, 109, 110, 111, 112, 113, 114, 115, 116, 117, 118, 119, 120, 121, 122, 123, 124, 125, 126, 127, 128, 129, 130, 131, 132, 133, 134, 135, 136, 137, 138, 139, 140, 141, 142, 143, 144, 145, 146, 147, 148, 149, 150, 151, 152, 153, 154, 155, 156, 157, 158, 159, 160, 161, 162, 163, 164, 165, 166, 167, 168, 169, 170, 171, 172, 173, 174, 175, 176, 177, 178, 179, 180, 181, 182, 183, 184, 185, 186, 187, 188, 189, 190, 191, 192, 193, 194, 195, 196, 197, 198, 199, 200, 201, 202, 203, 204, 205, 206, 207, 208, 209, 210, 211, 212, 213, 214, 215, 216, 217, 218, 219, 220, 221, 222, 223, 224, 225, 226, 227, 228, 229] (fun F_ W_ m_ => ∃ (b : Nat) (HH : List Int), F_ 8 = (.int .i64 ((64 * (b : Int)))) ∧ (b ≤ nb) ∧ (HH = hAll D b) ∧ Sat w [Z6 w (fun _ => False), Z00 .u8 b2 26 32 (List.replicate 32 (0 : Int)), Z00 .u32 b11 187 64 kR, Z00 .u32 b19 189 8 HH, Zb 5 1 (.slice a D.length c) D.length (D.flatMap Zr), Zb 5 1 (.slice (some ⟨b33, 0, none⟩) 1 1) 1 (([128] : List UInt8).flatMap Zr)] W_ ∧ m_ = nb - b) _ ⟨0, ([1779033703, 3144134277, 1013904242, 2773480762, 1359893119, 2600822924, 528734635, 1541459225] : List Int), (show ((.int .i64 (0)) : Value) = _ by first | rfl | go_num), (Nat.zero_le _), rfl, H73, rfl⟩ ?_
   rintro g95 w96 _ ⟨b, HH, v98, hb, hHH, H97, rfl⟩
   refine Zs 8 _ v98 ?_
   refine Zc ?_
   refine Zc ?_
   refine Zp ?_
   refine Z2 (Z1 rfl) (d := 54) (v := (.int .i64 ((64 * (b : Int))))) rfl (by kernel_rfl) ?_
   refine Z2 (Z1 rfl) (d := 55) (v := (.slice a D.length c)) rfl (by kernel_rfl) ?_
   refine Z2 (Z1 rfl) (d := 56) (v := (.int .i64 ((D.length : Int)))) rfl (by kernel_rfl) ?_
   refine Z2 (Z1 rfl) (d := 57) (v := (.bool (decide ((64 * (b : Int)) < (D.length : Int))))) rfl (by kernel_rfl) ?_
   refine Zm ?_
   refine Z4 ?_
   refine (ZS (decide ((64 * (b : Int)) < (D.length : Int)))).elim (fun b100 => ?_) (fun b100 => ?_)
   ·have g101 := of_decide_eq_true b100
    refine Zs 57 (.bool true) (congrArg Value.bool b100) ?_
    have g102 := of_decide_eq_true b100
    refine Z0h rfl ?_
    refine Z0b ?_
    refine Z4 ?_
    refine Zc ?_
    refine ZR ?_
    refine Zc ?_
    refine Zp ?_
    refine ZA (Z1 rfl) (fun K103 hK103 => ?_)
    refine Z0e (zs := (([(.int .u32 (0)), (.int .u32 (0)), (.int .u32 (0)), (.int .u32 (0)), (.int .u32 (0)), (.int .u32 (0)), (.int .u32 (0)), (.int .u32 (0)), (.int .u32 (0)), (.int .u32 (0)), (.int .u32 (0)), (.int .u32 (0)), (.int .u32 (0)), (.int .u32 (0)), (.int .u32 (0)), (.int .u32 (0)), (.int .u32 (0)), (.int .u32 (0)), (.int .u32 (0)), (.int .u32 (0)), (.int .u32 (0)), (.int .u32 (0)), (.int .u32 (0)), (.int .u32 (0))] : List Value) ++ ([(.int .u32 (0)), (.int .u32 (0)), (.int .u32 (0)), (.int .u32 (0)), (.int .u32 (0)), (.int .u32 (0)), (.int .u32 (0)), (.int .u32 (0)), (.int .u32 (0)), (.int .u32 (0)), (.int .u32 (0)), (.int .u32 (0)), (.int .u32 (0)), (.int .u32 (0)), (.int .u32 (0)), (.int .u32 (0)), (.int .u32 (0)), (.int .u32 (0)), (.int .u32 (0)), (.int .u32 (0)), (.int .u32 (0)), (.int .u32 (0)), (.int .u32 (0)), (.int .u32 (0))] : List Value) ++ ([(.int .u32 (0)), (.int .u32 (0)), (.int .u32 (0)), (.int .u32 (0)), (.int .u32 (0)), (.int .u32 (0)), (.int .u32 (0)), (.int .u32 (0)), (.int .u32 (0)), (.int .u32 (0)), (.int .u32 (0)), (.int .u32 (0)), (.int .u32 (0)), (.int .u32 (0)), (.int .u32 (0)), (.int .u32 (0))] : List Value))) (z := (.agg ⟨(([(.int .u32 (0)), (.int .u32 (0)), (.int .u32 (0)), (.int .u32 (0)), (.int .u32 (0)), (.int .u32 (0)), (.int .u32 (0)), (.int .u32 (0)), (.int .u32 (0)), (.int .u32 (0)), (.int .u32 (0)), (.int .u32 (0)), (.int .u32 (0)), (.int .u32 (0)), (.int .u32 (0)), (.int .u32 (0)), (.int .u32 (0)), (.int .u32 (0)), (.int .u32 (0)), (.int .u32 (0)), (.int .u32 (0)), (.int .u32 (0)), (.int .u32 (0)), (.int .u32 (0))] : List Value) ++ ([(.int .u32 (0)), (.int .u32 (0)), (.int .u32 (0)), (.int .u32 (0)), (.int .u32 (0)), (.int .u32 (0)), (.int .u32 (0)), (.int .u32 (0)), (.int .u32 (0)), (.int .u32 (0)), (.int .u32 (0)), (.int .u32 (0)), (.int .u32 (0)), (.int .u32 (0)), (.int .u32 (0)), (.int .u32 (0)), (.int .u32 (0)), (.int .u32 (0)), (.int .u32 (0)), (.int .u32 (0)), (.int .u32 (0)), (.int .u32 (0)), (.int .u32 (0)), (.int .u32 (0))] : List Value) ++ ([(.int .u32 (0)), (.int .u32 (0)), (.int .u32 (0)), (.int .u32 (0)), (.int .u32 (0)), (.int .u32 (0)), (.int .u32 (0)), (.int .u32 (0)), (.int .u32 (0)), (.int .u32 (0)), (.int .u32 (0)), (.int .u32 (0)), (.int .u32 (0)), (.int .u32 (0)), (.int .u32 (0)), (.int .u32 (0))] : List Value))⟩)) rfl H97 (by kernel_rfl) (by kernel_rfl) ?_
    intro b104 w105 (H106 : Sat w [Z6 w (fun _ => False), Z00 .u8 b2 26 32 (List.replicate 32 (0 : Int)), Z00 .u32 b11 187 64 kR, Z00 .u32 b19 189 8 HH, Zb 5 1 (.slice a D.length c) D.length (D.flatMap Zr), Zb 5 1 (.slice (some ⟨b33, 0, none⟩) 1 1) 1 (([128] : List UInt8).flatMap Zr), Z3 b104 187 (([(.int .u32 (0)), (.int .u32 (0)), (.int .u32 (0)), (.int .u32 (0)), (.int .u32 (0)), (.int .u32 (0)), (.int .u32 (0)), (.int .u32 (0)), (.int .u32 (0)), (.int .u32 (0)), (.int .u32 (0)), (.int .u32 (0)), (.int .u32 (0)), (.int .u32 (0)), (.int .u32 (0)), (.int .u32 (0)), (.int .u32 (0)), (.int .u32 (0)), (.int .u32 (0)), (.int .u32 (0)), (.int .u32 (0)), (.int .u32 (0)), (.int .u32 (0)), (.int .u32 (0))] : List Value) ++ ([(.int .u32 (0)), (.int .u32 (0)), (.int .u32 (0)), (.int .u32 (0)), (.int .u32 (0)), (.int .u32 (0)), (.int .u32 (0)), (.int .u32 (0)), (.int .u32 (0)), (.int .u32 (0)), (.int .u32 (0)), (.int .u32 (0)), (.int .u32 (0)), (.int .u32 (0)), (.int .u32 (0)), (.int .u32 (0)), (.int .u32 (0)), (.int .u32 (0)), (.int .u32 (0)), (.int .u32 (0)), (.int .u32 (0)), (.int .u32 (0)), (.int .u32 (0)), (.int .u32 (0))] : List Value) ++ ([(.int .u32 (0)), (.int .u32 (0)), (.int .u32 (0)), (.int .u32 (0)), (.int .u32 (0)), (.int .u32 (0)), (.int .u32 (0)), (.int .u32 (0)), (.int .u32 (0)), (.int .u32 (0)), (.int .u32 (0)), (.int .u32 (0)), (.int .u32 (0)), (.int .u32 (0)), (.int .u32 (0)), (.int .u32 (0))] : List Value))] w105)
    have H107 : Sat w [Z6 w (fun _ => False), Z00 .u8 b2 26 32 (List.replicate 32 (0 : Int)), Z00 .u32 b11 187 64 kR, Z00 .u32 b19 189 8 HH, Zb 5 1 (.slice a D.length c) D.length (D.flatMap Zr), Zb 5 1 (.slice (some ⟨b33, 0, none⟩) 1 1) 1 (([128] : List UInt8).flatMap Zr), Z00 .u32 b104 187 64 (List.replicate 64 (0 : Int))] w105 := Sat.toW H106 6 .u32 (List.replicate 64 (0 : Int)) (by kernel_rfl) (by first | rfl | simp)
    refine hK103 _ _ ?_
    clear hK103 K103
    refine Zm ?_
    refine Z4 ?_
    refine Zc ?_
    refine Zc ?_
    refine Zp ?_
    refine Z2 (Z1 rfl) (d := 10) (v := (.int .i64 (0))) rfl (by kernel_rfl) ?_
    refine Zm ?_
    refine Z4 ?_
    refine ZR ?_
    have hb1 : b < nb := by omega
    refine Z0m [10, 11, 60, 61, 62, 63, 64, 65, 66, 67, 68, 69, 70, 71, 72, 73, 74, 75, 76, 77, 78, 79, 80, 81, 82, 83, 84, 85, 86, 87, 88, 89, 90, 91, 92, 93] (fun F_ W_ m_ => ∃ (i : Nat) (A : List Int), F_ 10 = (.int .i64 ((i : Int))) ∧ (i ≤ 16) ∧ (A = wLd D b i) ∧ Sat w [Z6 w (fun _ => False), Z00 .u8 b2 26 32 (List.replicate 32 (0 : Int)), Z00 .u32 b11 187 64 kR, Z00 .u32 b19 189 8 HH, Zb 5 1 (.slice a D.length c) D.length (D.flatMap Zr), Zb 5 1 (.slice (some ⟨b33, 0, none⟩) 1 1) 1 (([128] : List UInt8).flatMap Zr), Z00 .u32 b104 187 64 A] W_ ∧ m_ = 16 - i) _ ⟨0, (List.replicate 64 (0 : Int)), (show ((.int .i64 (0)) : Value) = _ by first | rfl | go_num), (Nat.zero_le _), rfl, H107, rfl⟩ ?_
    rintro g108 w109 _ ⟨i, A, v111, hi, hA, H110, rfl⟩
    refine Zs 10 _ v111 ?_
    refine Zc ?_
    refine Zc ?_
    refine Zp ?_
    refine Z2 (Z1 rfl) (d := 60) (v := (.int .i64 ((i : Int)))) rfl (by kernel_rfl) ?_
    refine Z2 (Z1 rfl) (d := 61) (v := (.bool (decide ((i : Int) < 16)))) rfl (by kernel_rfl) ?_
    refine Zm ?_
    refine Z4 ?_
    refine (ZS (decide ((i : Int) < 16))).elim (fun b113 => ?_) (fun b113 => ?_)
    ·have g114 := of_decide_eq_true b113
     refine Zs 61 (.bool true) (congrArg Value.bool b113) ?_
     have g115 := of_decide_eq_true b113
     refine Z0h rfl ?_
     refine Z0b ?_
     refine Z4 ?_
     refine Zc ?_
     refine ZR ?_
     refine Zc ?_
     refine Zp ?_
     refine Z2 (Z1 rfl) (d := 64) (v := (.slice a D.length c)) rfl (by kernel_rfl) ?_
     refine Z2 (Z1 rfl) (d := 65) (v := (.int .i64 ((64 * (b : Int))))) rfl (by kernel_rfl) ?_
     refine Z2 (Z1 rfl) (d := 66) (v := (.int .i64 ((i : Int)))) rfl (by kernel_rfl) ?_
     refine Z2 (Z1 rfl) (d := 67) (v := (.int .i64 (4 * (i : Int)))) rfl (Z04 (z := 4 * (i : Int)) (by kernel_rfl) (IntWalk.i64_in _ (by omega))) ?_
     refine Z2 (Z1 rfl) (d := 68) (v := (.int .i64 ((64 * (b : Int)) + (4 * (i : Int))))) rfl (Z04 (z := (64 * (b : Int)) + (4 * (i : Int))) (by kernel_rfl) (IntWalk.i64_in _ (by omega))) ?_
     refine Z2 (Z1 rfl) (d := 69) (v := (.slice (if c = ((64 * b) + (4 * i)) then a else a.map (·.add (((64 * b) + (4 * i)) * 1))) (D.length - ((64 * b) + (4 * i))) (c - ((64 * b) + (4 * i))))) rfl (Z6u (E := 5) (q := ((64 * b) + (4 * i))) (by kernel_rfl) (by kernel_rfl) rfl rfl rfl (by omega)) ?_
     refine Z2 (Z1 rfl) (d := 11) (v := (.slice (if c = ((64 * b) + (4 * i)) then a else a.map (·.add (((64 * b) + (4 * i)) * 1))) (D.length - ((64 * b) + (4 * i))) (c - ((64 * b) + (4 * i))))) rfl (by kernel_rfl) ?_
     refine Zm ?_
     refine Z4 ?_
     obtain ⟨g116, o117, c118, e119⟩ := Z30 (ListAt.dropG (k := ((64 * b) + (4 * i))) (ListAt.row (enc := Zr) (sz := 1) Z05 (by decide) (H110.at 4 rfl)) (by omega)) (show 0 < (D.drop ((64 * b) + (4 * i))).length by (simp only [List.length_drop]; omega))
     obtain ⟨g120, o121, c122, e123⟩ := Z30 (ListAt.dropG (k := ((64 * b) + (4 * i))) (ListAt.row (enc := Zr) (sz := 1) Z05 (by decide) (H110.at 4 rfl)) (by omega)) (show 0 < (D.drop ((64 * b) + (4 * i))).length by (simp only [List.length_drop]; omega))
     refine Z0k H110 [Z6 w (fun _ => False), Z00 .u8 b2 26 32 (List.replicate 32 (0 : Int)), Z00 .u32 b11 187 64 kR, Z00 .u32 b19 189 8 HH, Zb 5 1 (.slice a D.length c) D.length (D.flatMap Zr), Zb 5 1 (.slice (some ⟨b33, 0, none⟩) 1 1) 1 (([128] : List UInt8).flatMap Zr)] 25 rfl (by kernel_rfl) (fun Hx => (Hx.pick [0, 1, 2, 3, 4, 5] (by decide))) ?_
     intro w124 H125 S126
     refine Ze 0 rfl (by kernel_rfl) (by kernel_rfl) (by kernel_rfl) (fun _ _ _ h => h) S126 (Z1 rfl) (d := 70) (v := (.int .i64 ((i : Int)))) rfl (fun _ H' => (by kernel_rfl)) ?_
     refine Ze 1 rfl (by kernel_rfl) (by kernel_rfl) (by kernel_rfl) (fun _ _ _ h => h) S126 (Z1 rfl) (d := 71) (v := (.slice (if c = ((64 * b) + (4 * i)) then a else a.map (·.add (((64 * b) + (4 * i)) * 1))) (D.length - ((64 * b) + (4 * i))) (c - ((64 * b) + (4 * i))))) rfl (fun _ H' => (by kernel_rfl)) ?_
     obtain ⟨g127, o128, c129, e130⟩ := Z30 (ListAt.dropG (k := ((64 * b) + (4 * i))) (ListAt.row (enc := Zr) (sz := 1) Z05 (by decide) (H125.at 4 rfl)) (by omega)) (show 0 < (D.drop ((64 * b) + (4 * i))).length by (simp only [List.length_drop]; omega))
     refine Ze 2 rfl (by kernel_rfl) (by kernel_rfl) (by kernel_rfl) (fun _ _ _ h => h) S126 (Z1 rfl) (d := 72) (v := (.pointer (some ⟨g127, o128 + ((0 : Int)).toNat * 1, none⟩))) rfl (fun _ H' => (ZZ (E := 5) (by kernel_rfl) (by kernel_rfl) (Nat.le_of_ble_eq_true rfl) rfl e130 rfl (by omega) (by (simp only [List.length_drop]; omega)))) ?_
     refine Ze 3 rfl (by kernel_rfl) (by kernel_rfl) (by kernel_rfl) (fun _ _ _ h => h) S126 (Z1 rfl) (d := 73) (v := (.int .u8 ((((D.drop ((64 * b) + (4 * i))).getD 0 0).toNat : Int)))) rfl (fun _ H' => (Zi rfl (by kernel_rfl) (Z2V (by have q := (ListAt.dropG (k := ((64 * b) + (4 * i))) (ListAt.row (enc := Zr) (sz := 1) Z05 (by decide) (H'.at 4 rfl)) (by omega)); rw [e130] at q; exact q) (show 0 < (D.drop ((64 * b) + (4 * i))).length by (simp only [List.length_drop]; omega)) (show o128 + ((0 : Int)).toNat * 1 = o128 + 0 by omega)))) ?_
     refine Ze 4 rfl (by kernel_rfl) (by kernel_rfl) (by kernel_rfl) (fun _ _ _ h => h) S126 (Z1 rfl) (d := 74) (v := (.int .u32 (IntKind.u32.wrap ((((D.drop ((64 * b) + (4 * i))).getD 0 0).toNat : Int))))) rfl (fun _ H' => (by kernel_rfl)) ?_
     refine Ze 5 rfl (by kernel_rfl) (by kernel_rfl) (by kernel_rfl) (fun _ _ _ h => h) S126 (Z1 rfl) (d := 75) (v := (.int .u32 (Z32 .u32 (IntKind.u32.wrap ((((D.drop ((64 * b) + (4 * i))).getD 0 0).toNat : Int))) 24))) rfl (fun _ H' => (Z7X rfl rfl (by decide))) ?_
     refine Ze 6 rfl (by kernel_rfl) (by kernel_rfl) (by kernel_rfl) (fun _ _ _ h => h) S126 (Z1 rfl) (d := 76) (v := (.slice (if c = ((64 * b) + (4 * i)) then a else a.map (·.add (((64 * b) + (4 * i)) * 1))) (D.length - ((64 * b) + (4 * i))) (c - ((64 * b) + (4 * i))))) rfl (fun _ H' => (by kernel_rfl)) ?_
     refine Ze 7 rfl (by kernel_rfl) (by kernel_rfl) (by kernel_rfl) (fun _ _ _ h => h) S126 (Z1 rfl) (d := 77) (v := (.pointer (some ⟨g127, o128 + ((1 : Int)).toNat * 1, none⟩))) rfl (fun _ H' => (ZZ (E := 5) (by kernel_rfl) (by kernel_rfl) (Nat.le_of_ble_eq_true rfl) rfl e130 rfl (by omega) (by (simp only [List.length_drop]; omega)))) ?_
     refine Ze 8 rfl (by kernel_rfl) (by kernel_rfl) (by kernel_rfl) (fun _ _ _ h => h) S126 (Z1 rfl) (d := 78) (v := (.int .u8 ((((D.drop ((64 * b) + (4 * i))).getD 1 0).toNat : Int)))) rfl (fun _ H' => (Zi rfl (by kernel_rfl) (Z2V (by have q := (ListAt.dropG (k := ((64 * b) + (4 * i))) (ListAt.row (enc := Zr) (sz := 1) Z05 (by decide) (H'.at 4 rfl)) (by omega)); rw [e130] at q; exact q) (show 1 < (D.drop ((64 * b) + (4 * i))).length by (simp only [List.length_drop]; omega)) (show o128 + ((1 : Int)).toNat * 1 = o128 + 1 by omega)))) ?_
     refine Ze 9 rfl (by kernel_rfl) (by kernel_rfl) (by kernel_rfl) (fun _ _ _ h => h) S126 (Z1 rfl) (d := 79) (v := (.int .u32 (IntKind.u32.wrap ((((D.drop ((64 * b) + (4 * i))).getD 1 0).toNat : Int))))) rfl (fun _ H' => (by kernel_rfl)) ?_
     refine Ze 10 rfl (by kernel_rfl) (by kernel_rfl) (by kernel_rfl) (fun _ _ _ h => h) S126 (Z1 rfl) (d := 80) (v := (.int .u32 (Z32 .u32 (IntKind.u32.wrap ((((D.drop ((64 * b) + (4 * i))).getD 1 0).toNat : Int))) 16))) rfl (fun _ H' => (Z7X rfl rfl (by decide))) ?_
     refine Ze 11 rfl (by kernel_rfl) (by kernel_rfl) (by kernel_rfl) (fun _ _ _ h => h) S126 (Z1 rfl) (d := 81) (v := (.int .u32 (bOr .u32 (Z32 .u32 (IntKind.u32.wrap ((((D.drop ((64 * b) + (4 * i))).getD 0 0).toNat : Int))) 24) (Z32 .u32 (IntKind.u32.wrap ((((D.drop ((64 * b) + (4 * i))).getD 1 0).toNat : Int))) 16)))) rfl (fun _ H' => (by kernel_rfl)) ?_
     refine Ze 12 rfl (by kernel_rfl) (by kernel_rfl) (by kernel_rfl) (fun _ _ _ h => h) S126 (Z1 rfl) (d := 82) (v := (.slice (if c = ((64 * b) + (4 * i)) then a else a.map (·.add (((64 * b) + (4 * i)) * 1))) (D.length - ((64 * b) + (4 * i))) (c - ((64 * b) + (4 * i))))) rfl (fun _ H' => (by kernel_rfl)) ?_
     refine Ze 13 rfl (by kernel_rfl) (by kernel_rfl) (by kernel_rfl) (fun _ _ _ h => h) S126 (Z1 rfl) (d := 83) (v := (.pointer (some ⟨g127, o128 + ((2 : Int)).toNat * 1, none⟩))) rfl (fun _ H' => (ZZ (E := 5) (by kernel_rfl) (by kernel_rfl) (Nat.le_of_ble_eq_true rfl) rfl e130 rfl (by omega) (by (simp only [List.length_drop]; omega)))) ?_
     refine Ze 14 rfl (by kernel_rfl) (by kernel_rfl) (by kernel_rfl) (fun _ _ _ h => h) S126 (Z1 rfl) (d := 84) (v := (.int .u8 ((((D.drop ((64 * b) + (4 * i))).getD 2 0).toNat : Int)))) rfl (fun _ H' => (Zi rfl (by kernel_rfl) (Z2V (by have q := (ListAt.dropG (k := ((64 * b) + (4 * i))) (ListAt.row (enc := Zr) (sz := 1) Z05 (by decide) (H'.at 4 rfl)) (by omega)); rw [e130] at q; exact q) (show 2 < (D.drop ((64 * b) + (4 * i))).length by (simp only [List.length_drop]; omega)) (show o128 + ((2 : Int)).toNat * 1 = o128 + 2 by omega)))) ?_
     refine Ze 15 rfl (by kernel_rfl) (by kernel_rfl) (by kernel_rfl) (fun _ _ _ h => h) S126 (Z1 rfl) (d := 85) (v := (.int .u32 (IntKind.u32.wrap ((((D.drop ((64 * b) + (4 * i))).getD 2 0).toNat : Int))))) rfl (fun _ H' => (by kernel_rfl)) ?_
     refine Ze 16 rfl (by kernel_rfl) (by kernel_rfl) (by kernel_rfl) (fun _ _ _ h => h) S126 (Z1 rfl) (d := 86) (v := (.int .u32 (Z32 .u32 (IntKind.u32.wrap ((((D.drop ((64 * b) + (4 * i))).getD 2 0).toNat : Int))) 8))) rfl (fun _ H' => (Z7X rfl rfl (by decide))) ?_
     refine Ze 17 rfl (by kernel_rfl) (by kernel_rfl) (by kernel_rfl) (fun _ _ _ h => h) S126 (Z1 rfl) (d := 87) (v := (.int .u32 (bOr .u32 (bOr .u32 (Z32 .u32 (IntKind.u32.wrap ((((D.drop ((64 * b) + (4 * i))).getD 0 0).toNat : Int))) 24) (Z32 .u32 (IntKind.u32.wrap ((((D.drop ((64 * b) + (4 * i))).getD 1 0).toNat : Int))) 16)) (Z32 .u32 (IntKind.u32.wrap ((((D.drop ((64 * b) + (4 * i))).getD 2 0).toNat : Int))) 8)))) rfl (fun _ H' => (by kernel_rfl)) ?_
     refine Ze 18 rfl (by kernel_rfl) (by kernel_rfl) (by kernel_rfl) (fun _ _ _ h => h) S126 (Z1 rfl) (d := 88) (v := (.slice (if c = ((64 * b) + (4 * i)) then a else a.map (·.add (((64 * b) + (4 * i)) * 1))) (D.length - ((64 * b) + (4 * i))) (c - ((64 * b) + (4 * i))))) rfl (fun _ H' => (by kernel_rfl)) ?_
     refine Ze 19 rfl (by kernel_rfl) (by kernel_rfl) (by kernel_rfl) (fun _ _ _ h => h) S126 (Z1 rfl) (d := 89) (v := (.pointer (some ⟨g127, o128 + ((3 : Int)).toNat * 1, none⟩))) rfl (fun _ H' => (ZZ (E := 5) (by kernel_rfl) (by kernel_rfl) (Nat.le_of_ble_eq_true rfl) rfl e130 rfl (by omega) (by (simp only [List.length_drop]; omega)))) ?_
     refine Ze 20 rfl (by kernel_rfl) (by kernel_rfl) (by kernel_rfl) (fun _ _ _ h => h) S126 (Z1 rfl) (d := 90) (v := (.int .u8 ((((D.drop ((64 * b) + (4 * i))).getD 3 0).toNat : Int)))) rfl (fun _ H' => (Zi rfl (by kernel_rfl) (Z2V (by have q := (ListAt.dropG (k := ((64 * b) + (4 * i))) (ListAt.row (enc := Zr) (sz := 1) Z05 (by decide) (H'.at 4 rfl)) (by omega)); rw [e130] at q; exact q) (show 3 < (D.drop ((64 * b) + (4 * i))).length by (simp only [List.length_drop]; omega)) (show o128 + ((3 : Int)).toNat * 1 = o128 + 3 by omega)))) ?_
     refine Ze 21 rfl (by kernel_rfl) (by kernel_rfl) (by kernel_rfl) (fun _ _ _ h => h) S126 (Z1 rfl) (d := 91) (v := (.int .u32 (IntKind.u32.wrap ((((D.drop ((64 * b) + (4 * i))).getD 3 0).toNat : Int))))) rfl (fun _ H' => (by kernel_rfl)) ?_
     refine Ze 22 rfl (by kernel_rfl) (by kernel_rfl) (by kernel_rfl) (fun _ _ _ h => h) S126 (Z1 rfl) (d := 92) (v := (.int .u32 (bOr .u32 (bOr .u32 (bOr .u32 (Z32 .u32 (IntKind.u32.wrap ((((D.drop ((64 * b) + (4 * i))).getD 0 0).toNat : Int))) 24) (Z32 .u32 (IntKind.u32.wrap ((((D.drop ((64 * b) + (4 * i))).getD 1 0).toNat : Int))) 16)) (Z32 .u32 (IntKind.u32.wrap ((((D.drop ((64 * b) + (4 * i))).getD 2 0).toNat : Int))) 8)) (IntKind.u32.wrap ((((D.drop ((64 * b) + (4 * i))).getD 3 0).toNat : Int)))))) rfl (fun _ H' => (by kernel_rfl)) ?_
     refine Ze 23 rfl (by kernel_rfl) (by kernel_rfl) (by kernel_rfl) (fun _ _ _ h => h) S126 (Z1 rfl) (d := 93) (v := (.pointer (some ⟨b104, 0 + ((i : Int)).toNat * 1, none⟩))) rfl (fun _ H' => (Z03 (E := 186) (N := 64) (by kernel_rfl) (by kernel_rfl) (Nat.le_of_ble_eq_true rfl) rfl rfl (by omega) (by omega))) ?_
     refine Z0r 24 rfl (by kernel_rfl) (Z1 rfl) (fun K131 hK131 => ?_)
     refine Z1X .u32 rfl H125 6 rfl rfl rfl (by kernel_rfl) (show 0 + ((i : Int)).toNat * 1 = i by omega) (show i < 64 by omega) ?_
     intro w132 (H133 : Sat w [Z6 w (fun _ => False), Z00 .u8 b2 26 32 (List.replicate 32 (0 : Int)), Z00 .u32 b11 187 64 kR, Z00 .u32 b19 189 8 HH, Zb 5 1 (.slice a D.length c) D.length (D.flatMap Zr), Zb 5 1 (.slice (some ⟨b33, 0, none⟩) 1 1) 1 (([128] : List UInt8).flatMap Zr), Z00 .u32 b104 187 64 (A.set i (bOr .u32 (bOr .u32 (bOr .u32 (Z32 .u32 (IntKind.u32.wrap ((((D.drop ((64 * b) + (4 * i))).getD 0 0).toNat : Int))) 24) (Z32 .u32 (IntKind.u32.wrap ((((D.drop ((64 * b) + (4 * i))).getD 1 0).toNat : Int))) 16)) (Z32 .u32 (IntKind.u32.wrap ((((D.drop ((64 * b) + (4 * i))).getD 2 0).toNat : Int))) 8)) (IntKind.u32.wrap ((((D.drop ((64 * b) + (4 * i))).getD 3 0).toNat : Int)))))] w132)
     have S134 := H133.pick [0, 1, 2, 3, 4, 5] (by decide)
     refine hK131 _ _ S134 ?_
     clear hK131 K131
     refine Z0C (by kernel_rfl) ?_
     refine ZL ?_
     refine Z4 ?_
     refine Zp ?_
     refine Z2 (Z1 rfl) (d := 62) (v := (.int .i64 ((i : Int)))) rfl (by kernel_rfl) ?_
     refine Z2 (Z1 rfl) (d := 63) (v := (.int .i64 ((i : Int) + 1))) rfl (Z04 (z := (i : Int) + 1) (by kernel_rfl) (IntWalk.i64_in _ (by omega))) ?_
     refine Z2 (Z1 rfl) (d := 10) (v := (.int .i64 ((i : Int) + 1))) rfl (by kernel_rfl) ?_
     refine Zm ?_
     refine ZM ?_ _ ⟨(i + 1), (A.set i (bOr .u32 (bOr .u32 (bOr .u32 (Z32 .u32 (IntKind.u32.wrap ((((D.drop ((64 * b) + (4 * i))).getD 0 0).toNat : Int))) 24) (Z32 .u32 (IntKind.u32.wrap ((((D.drop ((64 * b) + (4 * i))).getD 1 0).toNat : Int))) 16)) (Z32 .u32 (IntKind.u32.wrap ((((D.drop ((64 * b) + (4 * i))).getD 2 0).toNat : Int))) 8)) (IntKind.u32.wrap ((((D.drop ((64 * b) + (4 * i))).getD 3 0).toNat : Int))))), (show ((.int .i64 ((i : Int) + 1)) : Value) = _ by first | rfl | go_num | exact congrArg (Value.int .i64) (by omega)), (by omega), (by rw [hA]; rfl), H133, rfl⟩ (by omega)
     exact (Z0 rfl (Z0 rfl (Z0 rfl (Z0 rfl (Z0 rfl (Z0 rfl (Z0 rfl (Z0 rfl (Z0 rfl (Z0 rfl (Z0 rfl (Z0 rfl (Z0 rfl (Z0 rfl (Z0 rfl (Z0 rfl (Z0 rfl (Z0 rfl (Z0 rfl (Z0 rfl (Z0 rfl (Z0 rfl (Z0 rfl (Z0 rfl (Z0 rfl (Z0 rfl (Z0 rfl (Z0 rfl (Z0 rfl (Z0 rfl (Z0 rfl (Z0 rfl (Z0 rfl (Z0 rfl (Z0 rfl (Z0 rfl (Z0 rfl (Z0 rfl (Z06)))))))))))))))))))))))))))))))))))))))
    ·have g135 := of_decide_eq_false b113
     refine Zs 61 (.bool false) (congrArg Value.bool b113) ?_
     have g136 := of_decide_eq_false b113
     refine Z09 rfl ?_
     refine Z0M ?_
     refine Z0a ?_
     refine Z0c ?_
     refine Z0B ?_
     refine Z4 ?_
     refine Zc ?_
     refine Zc ?_
     refine Zp ?_
     refine Z2 (Z1 rfl) (d := 12) (v := (.int .i64 (16))) rfl (by kernel_rfl) ?_
     refine Zm ?_
     refine Z4 ?_
     refine ZR ?_
     obtain rfl : i = 16 := by omega
     refine Z0m [12, 13, 14, 94, 95, 96, 97, 98, 99, 100, 101, 102, 103, 104, 105, 106, 107, 108, 109, 110, 111, 112, 113, 114, 115, 116, 117, 118, 119, 120, 121, 122, 123, 124, 125, 126, 127, 128, 129, 130, 131, 132, 133, 134] (fun F_ W_ m_ => ∃ (j : Nat) (B : List Int), F_ 12 = (.int .i64 (((j : Int) + 16))) ∧ (j ≤ 48) ∧ (B = wEx A j) ∧ Sat w [Z6 w (fun _ => False), Z00 .u8 b2 26 32 (List.replicate 32 (0 : Int)), Z00 .u32 b11 187 64 kR, Z00 .u32 b19 189 8 HH, Zb 5 1 (.slice a D.length c) D.length (D.flatMap Zr), Zb 5 1 (.slice (some ⟨b33, 0, none⟩) 1 1) 1 (([128] : List UInt8).flatMap Zr), Z00 .u32 b104 187 64 B] W_ ∧ m_ = 48 - j) _ ⟨0, A, (show ((.int .i64 (16)) : Value) = _ by first | rfl | go_num), (Nat.zero_le _), rfl, H110, rfl⟩ ?_
     rintro g137 w138 _ ⟨j, B, v140, hj, hB, H139, rfl⟩
     refine Zs 12 _ v140 ?_
     refine Zc ?_
     refine Zc ?_
     refine Zp ?_
     refine Z2 (Z1 rfl) (d := 94) (v := (.int .i64 (((j : Int) + 16)))) rfl (by kernel_rfl) ?_
     refine Z2 (Z1 rfl) (d := 95) (v := (.bool (decide (((j : Int) + 16) < 64)))) rfl (by kernel_rfl) ?_
     refine Zm ?_
     refine Z4 ?_
     refine (ZS (decide (((j : Int) + 16) < 64))).elim (fun b142 => ?_) (fun b142 => ?_)
     ·have g143 := of_decide_eq_true b142
      refine Zs 95 (.bool true) (congrArg Value.bool b142) ?_
      have g144 := of_decide_eq_true b142
      refine Z0h rfl ?_
      refine Z0b ?_
      refine Z4 ?_
      refine Zc ?_
      refine ZR ?_
      refine Zc ?_
      refine Z1d H139 (by kernel_rfl) (by kernel_rfl) ?_
      refine Zz (Z1 rfl) (d := 98) (v := (.int .i64 (((j : Int) + 16)))) rfl (fun _ H' => (by kernel_rfl)) ?_
      refine Zz (Z1 rfl) (d := 99) (v := (.int .i64 (((j : Int) + 16) - 15))) rfl (fun _ H' => (Z04 (z := ((j : Int) + 16) - 15) (by kernel_rfl) (IntWalk.i64_in _ (by omega)))) ?_
      refine Zz (Z1 rfl) (d := 100) (v := (.pointer (some ⟨b104, 0 + (((j : Int) + 16) - 15).toNat * 1, none⟩))) rfl (fun _ H' => (Z03 (E := 186) (N := 64) (by kernel_rfl) (by kernel_rfl) (Nat.le_of_ble_eq_true rfl) rfl rfl (by omega) (by omega))) ?_
      refine Zz (Z1 rfl) (d := 101) (v := (.int .u32 (B.getD ((j + 16) - 15) 0))) rfl (fun _ H' => (Zi rfl (by kernel_rfl) (Z08 (H'.at 6 rfl) (show ((j + 16) - 15) < 64 by omega) (show 0 + (((j : Int) + 16) - 15).toNat * 1 = ((j + 16) - 15) by omega)))) ?_
      refine Zz (Z1 rfl) (d := 102) (v := (.int .i64 (((j : Int) + 16)))) rfl (fun _ H' => (by kernel_rfl)) ?_
      refine Zz (Z1 rfl) (d := 103) (v := (.int .i64 (((j : Int) + 16) - 2))) rfl (fun _ H' => (Z04 (z := ((j : Int) + 16) - 2) (by kernel_rfl) (IntWalk.i64_in _ (by omega)))) ?_
      refine Zz (Z1 rfl) (d := 104) (v := (.pointer (some ⟨b104, 0 + (((j : Int) + 16) - 2).toNat * 1, none⟩))) rfl (fun _ H' => (Z03 (E := 186) (N := 64) (by kernel_rfl) (by kernel_rfl) (Nat.le_of_ble_eq_true rfl) rfl rfl (by omega) (by omega))) ?_
      refine Zz (Z1 rfl) (d := 105) (v := (.int .u32 (B.getD ((j + 16) - 2) 0))) rfl (fun _ H' => (Zi rfl (by kernel_rfl) (Z08 (H'.at 6 rfl) (show ((j + 16) - 2) < 64 by omega) (show 0 + (((j : Int) + 16) - 2).toNat * 1 = ((j + 16) - 2) by omega)))) ?_
      refine Zz (Z1 rfl) (d := 13) (v := (.int .u32 (B.getD ((j + 16) - 15) 0))) rfl (fun _ H' => (by kernel_rfl)) ?_
      refine Zz (Z1 rfl) (d := 14) (v := (.int .u32 (B.getD ((j + 16) - 2) 0))) rfl (fun _ H' => (by kernel_rfl)) ?_
      refine Z1U ?_
      intro w145 H146
      refine Z4 ?_
      refine Z1f H146 [Z6 w (fun _ => False), Z00 .u8 b2 26 32 (List.replicate 32 (0 : Int)), Z00 .u32 b11 187 64 kR, Z00 .u32 b19 189 8 HH, Zb 5 1 (.slice a D.length c) D.length (D.flatMap Zr), Zb 5 1 (.slice (some ⟨b33, 0, none⟩) 1 1) 1 (([128] : List UInt8).flatMap Zr), Z00 .u32 b104 187 64 B] [29] 30 rfl (by kernel_rfl) (fun Hx => (Hx.pick [0, 1, 2, 3, 4, 5, 6] (by decide))) ?_
      intro w147 H148 S149
      refine ZP 0 rfl (by kernel_rfl) (by kernel_rfl) (by kernel_rfl) (fun _ _ _ h => h) S149 (Z1 rfl) rfl (d := 106) (v := (.int .i64 (((j : Int) + 16)))) rfl (fun _ => (by kernel_rfl)) ?_
      refine ZP 1 rfl (by kernel_rfl) (by kernel_rfl) (by kernel_rfl) (fun _ _ _ h => h) S149 (Z1 rfl) rfl (d := 107) (v := (.int .i64 (((j : Int) + 16)))) rfl (fun _ => (by kernel_rfl)) ?_
      refine ZP 2 rfl (by kernel_rfl) (by kernel_rfl) (by kernel_rfl) (fun _ _ _ h => h) S149 (Z1 rfl) rfl (d := 108) (v := (.int .i64 (((j : Int) + 16) - 16))) rfl (fun _ => (Z04 (z := ((j : Int) + 16) - 16) (by kernel_rfl) (IntWalk.i64_in _ (by omega)))) ?_
      refine ZP 3 rfl (by kernel_rfl) (by kernel_rfl) (by kernel_rfl) (fun _ _ _ h => h) S149 (Z1 rfl) rfl (d := 109) (v := (.pointer (some ⟨b104, 0 + (((j : Int) + 16) - 16).toNat * 1, none⟩))) rfl (fun _ => (Z03 (E := 186) (N := 64) (by kernel_rfl) (by kernel_rfl) (Nat.le_of_ble_eq_true rfl) rfl rfl (by omega) (by omega))) ?_
      refine Z1Y 4 rfl (by kernel_rfl) (by kernel_rfl) (by kernel_rfl) (fun _ _ _ h => h) S149 (Z1 rfl) rfl (by kernel_rfl) (d := 110) (v := (.int .u32 (B.getD ((j + 16) - 16) 0))) rfl (fun _ H' => (Zi rfl (by kernel_rfl) (Z08 (H'.at 6 rfl) (show ((j + 16) - 16) < 64 by omega) (show 0 + (((j : Int) + 16) - 16).toNat * 1 = ((j + 16) - 16) by omega)))) ?_
      refine ZP 5 rfl (by kernel_rfl) (by kernel_rfl) (by kernel_rfl) (fun _ _ _ h => h) S149 (Z1 rfl) rfl (d := 111) (v := (.int .u32 (B.getD ((j + 16) - 15) 0))) rfl (fun _ => (by kernel_rfl)) ?_
      refine ZP 7 rfl (by kernel_rfl) (by kernel_rfl) (by kernel_rfl) (fun _ _ _ h => h) S149 (Z1 rfl) rfl (d := 113) (v := (.int .u32 (B.getD ((j + 16) - 15) 0))) rfl (fun _ => (by kernel_rfl)) ?_
      refine ZP 10 rfl (by kernel_rfl) (by kernel_rfl) (by kernel_rfl) (fun _ _ _ h => h) S149 (Z1 rfl) rfl (d := 116) (v := (.int .u32 (B.getD ((j + 16) - 15) 0))) rfl (fun _ => (by kernel_rfl)) ?_
      refine ZP 11 rfl (by kernel_rfl) (by kernel_rfl) (by kernel_rfl) (fun _ _ _ h => h) S149 (Z1 rfl) rfl (d := 117) (v := (.int .u32 ((B.getD ((j + 16) - 15) 0) / 8))) rfl (fun _ => (Z5d rfl rfl (by decide) (by decide) (by decide))) ?_
      refine ZP 14 rfl (by kernel_rfl) (by kernel_rfl) (by kernel_rfl) (fun _ _ _ h => h) S149 (Z1 rfl) rfl (d := 120) (v := (.int .i64 (((j : Int) + 16)))) rfl (fun _ => (by kernel_rfl)) ?_
      refine ZP 15 rfl (by kernel_rfl) (by kernel_rfl) (by kernel_rfl) (fun _ _ _ h => h) S149 (Z1 rfl) rfl (d := 121) (v := (.int .i64 (((j : Int) + 16) - 7))) rfl (fun _ => (Z04 (z := ((j : Int) + 16) - 7) (by kernel_rfl) (IntWalk.i64_in _ (by omega)))) ?_
      refine ZP 16 rfl (by kernel_rfl) (by kernel_rfl) (by kernel_rfl) (fun _ _ _ h => h) S149 (Z1 rfl) rfl (d := 122) (v := (.pointer (some ⟨b104, 0 + (((j : Int) + 16) - 7).toNat * 1, none⟩))) rfl (fun _ => (Z03 (E := 186) (N := 64) (by kernel_rfl) (by kernel_rfl) (Nat.le_of_ble_eq_true rfl) rfl rfl (by omega) (by omega))) ?_
      refine Z1Y 17 rfl (by kernel_rfl) (by kernel_rfl) (by kernel_rfl) (fun _ _ _ h => h) S149 (Z1 rfl) rfl (by kernel_rfl) (d := 123) (v := (.int .u32 (B.getD ((j + 16) - 7) 0))) rfl (fun _ H' => (Zi rfl (by kernel_rfl) (Z08 (H'.at 6 rfl) (show ((j + 16) - 7) < 64 by omega) (show 0 + (((j : Int) + 16) - 7).toNat * 1 = ((j + 16) - 7) by omega)))) ?_
      refine ZP 19 rfl (by kernel_rfl) (by kernel_rfl) (by kernel_rfl) (fun _ _ _ h => h) S149 (Z1 rfl) rfl (d := 125) (v := (.int .u32 (B.getD ((j + 16) - 2) 0))) rfl (fun _ => (by kernel_rfl)) ?_
      refine ZP 21 rfl (by kernel_rfl) (by kernel_rfl) (by kernel_rfl) (fun _ _ _ h => h) S149 (Z1 rfl) rfl (d := 127) (v := (.int .u32 (B.getD ((j + 16) - 2) 0))) rfl (fun _ => (by kernel_rfl)) ?_
      refine ZP 24 rfl (by kernel_rfl) (by kernel_rfl) (by kernel_rfl) (fun _ _ _ h => h) S149 (Z1 rfl) rfl (d := 130) (v := (.int .u32 (B.getD ((j + 16) - 2) 0))) rfl (fun _ => (by kernel_rfl)) ?_
      refine ZP 25 rfl (by kernel_rfl) (by kernel_rfl) (by kernel_rfl) (fun _ _ _ h => h) S149 (Z1 rfl) rfl (d := 131) (v := (.int .u32 ((B.getD ((j + 16) - 2) 0) / 1024))) rfl (fun _ => (Z5d rfl rfl (by decide) (by decide) (by decide))) ?_
      refine Z5l 6 rfl (by kernel_rfl) (Z1 rfl) rfl (fun K150 hK150 => ?_)
      refine Zv (d := 112) rfl (by kernel_rfl) (Z1h w147 (B.getD ((j + 16) - 15) 0) 7 (by omega)) ?_
      rintro _ w151 ⟨rfl, u153⟩
      have H152 := H148.keepU u153
      refine ⟨_, rfl, ?_⟩
      have S154 := H152.pick [0, 1, 2, 3, 4, 5, 6] (by decide)
      refine hK150 _ _ S154 ?_
      clear hK150 K150
      refine Z5l 8 rfl (by kernel_rfl) (Z1 rfl) rfl (fun K155 hK155 => ?_)
      refine Zv (d := 114) rfl (by kernel_rfl) (Z1h w151 (B.getD ((j + 16) - 15) 0) 18 (by omega)) ?_
      rintro _ w156 ⟨rfl, u158⟩
      have H157 := H152.keepU u158
      refine ⟨_, rfl, ?_⟩
      have S159 := H157.pick [0, 1, 2, 3, 4, 5, 6] (by decide)
      refine hK155 _ _ S159 ?_
      clear hK155 K155
      refine ZP 9 rfl (by kernel_rfl) (by kernel_rfl) (by kernel_rfl) (fun _ _ _ h => h) S159 (Z1 rfl) rfl (d := 115) (v := (.int .u32 (Z0j .u32 (Z0o (B.getD ((j + 16) - 15) 0) 7) (Z0o (B.getD ((j + 16) - 15) 0) 18)))) rfl (fun _ => (by kernel_rfl)) ?_
      refine ZP 12 rfl (by kernel_rfl) (by kernel_rfl) (by kernel_rfl) (fun _ _ _ h => h) S159 (Z1 rfl) rfl (d := 118) (v := (.int .u32 (Z0j .u32 (Z0j .u32 (Z0o (B.getD ((j + 16) - 15) 0) 7) (Z0o (B.getD ((j + 16) - 15) 0) 18)) ((B.getD ((j + 16) - 15) 0) / 8)))) rfl (fun _ => (by kernel_rfl)) ?_
      refine ZP 13 rfl (by kernel_rfl) (by kernel_rfl) (by kernel_rfl) (fun _ _ _ h => h) S159 (Z1 rfl) rfl (d := 119) (v := (.int .u32 (IntKind.u32.wrap ((B.getD ((j + 16) - 16) 0) + (Z0j .u32 (Z0j .u32 (Z0o (B.getD ((j + 16) - 15) 0) 7) (Z0o (B.getD ((j + 16) - 15) 0) 18)) ((B.getD ((j + 16) - 15) 0) / 8)))))) rfl (fun _ => (by kernel_rfl)) ?_
      refine ZP 18 rfl (by kernel_rfl) (by kernel_rfl) (by kernel_rfl) (fun _ _ _ h => h) S159 (Z1 rfl) rfl (d := 124) (v := (.int .u32 (IntKind.u32.wrap ((IntKind.u32.wrap ((B.getD ((j + 16) - 16) 0) + (Z0j .u32 (Z0j .u32 (Z0o (B.getD ((j + 16) - 15) 0) 7) (Z0o (B.getD ((j + 16) - 15) 0) 18)) ((B.getD ((j + 16) - 15) 0) / 8)))) + (B.getD ((j + 16) - 7) 0))))) rfl (fun _ => (by kernel_rfl)) ?_
      refine Z5l 20 rfl (by kernel_rfl) (Z1 rfl) rfl (fun K160 hK160 => ?_)
      refine Zv (d := 126) rfl (by kernel_rfl) (Z1h w156 (B.getD ((j + 16) - 2) 0) 17 (by omega)) ?_
      rintro _ w161 ⟨rfl, u163⟩
      have H162 := H157.keepU u163
      refine ⟨_, rfl, ?_⟩
      have S164 := H162.pick [0, 1, 2, 3, 4, 5, 6] (by decide)
      refine hK160 _ _ S164 ?_
      clear hK160 K160
      refine Z5l 22 rfl (by kernel_rfl) (Z1 rfl) rfl (fun K165 hK165 => ?_)
      refine Zv (d := 128) rfl (by kernel_rfl) (Z1h w161 (B.getD ((j + 16) - 2) 0) 19 (by omega)) ?_
      rintro _ w166 ⟨rfl, u168⟩
      have H167 := H162.keepU u168
      refine ⟨_, rfl, ?_⟩
      have S169 := H167.pick [0, 1, 2, 3, 4, 5, 6] (by decide)
      refine hK165 _ _ S169 ?_
      clear hK165 K165
      refine ZP 23 rfl (by kernel_rfl) (by kernel_rfl) (by kernel_rfl) (fun _ _ _ h => h) S169 (Z1 rfl) rfl (d := 129) (v := (.int .u32 (Z0j .u32 (Z0o (B.getD ((j + 16) - 2) 0) 17) (Z0o (B.getD ((j + 16) - 2) 0) 19)))) rfl (fun _ => (by kernel_rfl)) ?_
      refine ZP 26 rfl (by kernel_rfl) (by kernel_rfl) (by kernel_rfl) (fun _ _ _ h => h) S169 (Z1 rfl) rfl (d := 132) (v := (.int .u32 (Z0j .u32 (Z0j .u32 (Z0o (B.getD ((j + 16) - 2) 0) 17) (Z0o (B.getD ((j + 16) - 2) 0) 19)) ((B.getD ((j + 16) - 2) 0) / 1024)))) rfl (fun _ => (by kernel_rfl)) ?_
      refine ZP 27 rfl (by kernel_rfl) (by kernel_rfl) (by kernel_rfl) (fun _ _ _ h => h) S169 (Z1 rfl) rfl (d := 133) (v := (.int .u32 (IntKind.u32.wrap ((IntKind.u32.wrap ((IntKind.u32.wrap ((B.getD ((j + 16) - 16) 0) + (Z0j .u32 (Z0j .u32 (Z0o (B.getD ((j + 16) - 15) 0) 7) (Z0o (B.getD ((j + 16) - 15) 0) 18)) ((B.getD ((j + 16) - 15) 0) / 8)))) + (B.getD ((j + 16) - 7) 0))) + (Z0j .u32 (Z0j .u32 (Z0o (B.getD ((j + 16) - 2) 0) 17) (Z0o (B.getD ((j + 16) - 2) 0) 19)) ((B.getD ((j + 16) - 2) 0) / 1024)))))) rfl (fun _ => (by kernel_rfl)) ?_
      refine ZP 28 rfl (by kernel_rfl) (by kernel_rfl) (by kernel_rfl) (fun _ _ _ h => h) S169 (Z1 rfl) rfl (d := 134) (v := (.pointer (some ⟨b104, 0 + (((j : Int) + 16)).toNat * 1, none⟩))) rfl (fun _ => (Z03 (E := 186) (N := 64) (by kernel_rfl) (by kernel_rfl) (Nat.le_of_ble_eq_true rfl) rfl rfl (by omega) (by omega))) ?_
      refine Z3b 29 (Sat w [Z6 w (fun _ => False), Z00 .u8 b2 26 32 (List.replicate 32 (0 : Int)), Z00 .u32 b11 187 64 kR, Z00 .u32 b19 189 8 HH, Zb 5 1 (.slice a D.length c) D.length (D.flatMap Zr), Zb 5 1 (.slice (some ⟨b33, 0, none⟩) 1 1) 1 (([128] : List UInt8).flatMap Zr)]) rfl (by kernel_rfl) (Z1 rfl) rfl (fun K170 hK170 => ?_)
      refine Z1X .u32 rfl H167 6 rfl rfl rfl (by kernel_rfl) (show 0 + (((j : Int) + 16)).toNat * 1 = (j + 16) by omega) (show (j + 16) < 64 by omega) ?_
      intro w171 (H172 : Sat w [Z6 w (fun _ => False), Z00 .u8 b2 26 32 (List.replicate 32 (0 : Int)), Z00 .u32 b11 187 64 kR, Z00 .u32 b19 189 8 HH, Zb 5 1 (.slice a D.length c) D.length (D.flatMap Zr), Zb 5 1 (.slice (some ⟨b33, 0, none⟩) 1 1) 1 (([128] : List UInt8).flatMap Zr), Z00 .u32 b104 187 64 (B.set (j + 16) (IntKind.u32.wrap ((IntKind.u32.wrap ((IntKind.u32.wrap ((B.getD ((j + 16) - 16) 0) + (Z0j .u32 (Z0j .u32 (Z0o (B.getD ((j + 16) - 15) 0) 7) (Z0o (B.getD ((j + 16) - 15) 0) 18)) ((B.getD ((j + 16) - 15) 0) / 8)))) + (B.getD ((j + 16) - 7) 0))) + (Z0j .u32 (Z0j .u32 (Z0o (B.getD ((j + 16) - 2) 0) 17) (Z0o (B.getD ((j + 16) - 2) 0) 19)) ((B.getD ((j + 16) - 2) 0) / 1024)))))] w171)
      have S173 := H172.pick [0, 1, 2, 3, 4, 5] (by decide)
      refine hK170 _ _ S173 ?_
      clear hK170 K170
      refine Z0C (by kernel_rfl) ?_
      refine ZL ?_
      refine Z4 ?_
      refine Zp ?_
      refine Z2 (Z1 rfl) (d := 96) (v := (.int .i64 (((j : Int) + 16)))) rfl (by kernel_rfl) ?_
      refine Z2 (Z1 rfl) (d := 97) (v := (.int .i64 (((j : Int) + 16) + 1))) rfl (Z04 (z := ((j : Int) + 16) + 1) (by kernel_rfl) (IntWalk.i64_in _ (by omega))) ?_
      refine Z2 (Z1 rfl) (d := 12) (v := (.int .i64 (((j : Int) + 16) + 1))) rfl (by kernel_rfl) ?_
      refine Zm ?_
      refine ZM ?_ _ ⟨(j + 1), (B.set (j + 16) (IntKind.u32.wrap ((IntKind.u32.wrap ((IntKind.u32.wrap ((B.getD ((j + 16) - 16) 0) + (Z0j .u32 (Z0j .u32 (Z0o (B.getD ((j + 16) - 15) 0) 7) (Z0o (B.getD ((j + 16) - 15) 0) 18)) ((B.getD ((j + 16) - 15) 0) / 8)))) + (B.getD ((j + 16) - 7) 0))) + (Z0j .u32 (Z0j .u32 (Z0o (B.getD ((j + 16) - 2) 0) 17) (Z0o (B.getD ((j + 16) - 2) 0) 19)) ((B.getD ((j + 16) - 2) 0) / 1024))))), (show ((.int .i64 (((j : Int) + 16) + 1)) : Value) = _ by first | rfl | go_num | exact congrArg (Value.int .i64) (by omega)), (by omega), (by rw [hB]; rfl), H172, rfl⟩ (by omega)
      exact (Z0 rfl (Z0 rfl (Z0 rfl (Z0 rfl (Z0 rfl (Z0 rfl (Z0 rfl (Z0 rfl (Z0 rfl (Z0 rfl (Z0 rfl (Z0 rfl (Z0 rfl (Z0 rfl (Z0 rfl (Z0 rfl (Z0 rfl (Z0 rfl (Z0 rfl (Z0 rfl (Z0 rfl (Z0 rfl (Z0 rfl (Z0 rfl (Z0 rfl (Z0 rfl (Z0 rfl (Z0 rfl (Z0 rfl (Z0 rfl (Z0 rfl (Z0 rfl (Z0 rfl (Z0 rfl (Z0 rfl (Z0 rfl (Z0 rfl (Z0 rfl (Z0 rfl (Z0 rfl (Z0 rfl (Z0 rfl (Z0 rfl (Z0 rfl (Z0 rfl (Z0 rfl (Z06)))))))))))))))))))))))))))))))))))))))))))))))
     ·have g174 := of_decide_eq_false b142
      refine Zs 95 (.bool false) (congrArg Value.bool b142) ?_
      have g175 := of_decide_eq_false b142
      refine Z09 rfl ?_
      refine Z0M ?_
      refine Z0a ?_
      refine Z0c ?_
      refine Z0B ?_
      refine Z4 ?_
      refine Zc ?_
      refine Zp ?_
      refine Z2 (Z1 rfl) (d := 135) (v := (.agg ⟨(HH.map (Value.int .u32))⟩)) rfl (Z5T rfl (by kernel_rfl) (by kernel_rfl) (by decide) (H139.at 3 rfl)) ?_
      refine ZA (Z1 rfl) (fun K176 hK176 => ?_)
      refine Z0e (zs := ([(.int .u32 (0)), (.int .u32 (0)), (.int .u32 (0)), (.int .u32 (0)), (.int .u32 (0)), (.int .u32 (0)), (.int .u32 (0)), (.int .u32 (0))] : List Value)) (z := (.agg ⟨([(.int .u32 (0)), (.int .u32 (0)), (.int .u32 (0)), (.int .u32 (0)), (.int .u32 (0)), (.int .u32 (0)), (.int .u32 (0)), (.int .u32 (0))] : List Value)⟩)) rfl H139 (by kernel_rfl) (by kernel_rfl) ?_
      intro b177 w178 (H179 : Sat w [Z6 w (fun _ => False), Z00 .u8 b2 26 32 (List.replicate 32 (0 : Int)), Z00 .u32 b11 187 64 kR, Z00 .u32 b19 189 8 HH, Zb 5 1 (.slice a D.length c) D.length (D.flatMap Zr), Zb 5 1 (.slice (some ⟨b33, 0, none⟩) 1 1) 1 (([128] : List UInt8).flatMap Zr), Z00 .u32 b104 187 64 B, Z3 b177 189 ([(.int .u32 (0)), (.int .u32 (0)), (.int .u32 (0)), (.int .u32 (0)), (.int .u32 (0)), (.int .u32 (0)), (.int .u32 (0)), (.int .u32 (0))] : List Value)] w178)
      have H180 : Sat w [Z6 w (fun _ => False), Z00 .u8 b2 26 32 (List.replicate 32 (0 : Int)), Z00 .u32 b11 187 64 kR, Z00 .u32 b19 189 8 HH, Zb 5 1 (.slice a D.length c) D.length (D.flatMap Zr), Zb 5 1 (.slice (some ⟨b33, 0, none⟩) 1 1) 1 (([128] : List UInt8).flatMap Zr), Z00 .u32 b104 187 64 B, Z00 .u32 b177 189 8 ([0, 0, 0, 0, 0, 0, 0, 0] : List Int)] w178 := Sat.toW H179 7 .u32 ([0, 0, 0, 0, 0, 0, 0, 0] : List Int) (by kernel_rfl) (by first | rfl | simp)
      refine hK176 _ _ ?_
      clear hK176 K176
      refine ZA (Z1 rfl) (fun K181 hK181 => ?_)
      refine Z1M .u32 (B := HH) rfl H180 7 rfl rfl rfl (by kernel_rfl) (by kernel_rfl) (by decide) (by exact Z2C (H180.at 3 rfl)) ?_
      intro w182 (H183 : Sat w [Z6 w (fun _ => False), Z00 .u8 b2 26 32 (List.replicate 32 (0 : Int)), Z00 .u32 b11 187 64 kR, Z00 .u32 b19 189 8 HH, Zb 5 1 (.slice a D.length c) D.length (D.flatMap Zr), Zb 5 1 (.slice (some ⟨b33, 0, none⟩) 1 1) 1 (([128] : List UInt8).flatMap Zr), Z00 .u32 b104 187 64 B, Z00 .u32 b177 189 8 HH] w182)
      refine hK181 _ _ ?_
      clear hK181 K181
      refine Zm ?_
      refine Z4 ?_
      refine Zc ?_
      refine Zc ?_
      refine Zp ?_
      refine Z2 (Z1 rfl) (d := 16) (v := (.int .i64 (0))) rfl (by kernel_rfl) ?_
      refine Zm ?_
      refine Z4 ?_
      refine ZR ?_
      have hww : B = wOf D b := by rw [hB, hA, show j = 48 by omega]; rfl
      refine Z0m [16, 17, 18, 19, 20, 136, 137, 138, 139, 140, 141, 142, 143, 144, 145, 146, 147, 148, 149, 150, 151, 152, 153, 154, 155, 156, 157, 158, 159, 160, 161, 162, 163, 164, 165, 166, 167, 168, 169, 170, 171, 172, 173, 174, 175, 176, 177, 178, 179, 180, 181, 182, 183, 184, 185, 186, 187, 188, 189, 190, 191, 192, 193, 194, 195, 196, 197, 198, 199, 200, 201, 202, 203, 204, 205, 206, 207, 208, 209, 210, 211, 212, 213, 214, 215, 216, 217] (fun F_ W_ m_ => ∃ (i : Nat) (V : List Int), F_ 16 = (.int .i64 ((i : Int))) ∧ (i ≤ 64) ∧ (V = vRu B HH i) ∧ Sat w [Z6 w (fun _ => False), Z00 .u8 b2 26 32 (List.replicate 32 (0 : Int)), Z00 .u32 b11 187 64 kR, Z00 .u32 b19 189 8 HH, Zb 5 1 (.slice a D.length c) D.length (D.flatMap Zr), Zb 5 1 (.slice (some ⟨b33, 0, none⟩) 1 1) 1 (([128] : List UInt8).flatMap Zr), Z00 .u32 b104 187 64 B, Z00 .u32 b177 189 8 V] W_ ∧ m_ = 64 - i) _ ⟨0, HH, (show ((.int .i64 (0)) : Value) = _ by first | rfl | go_num), (Nat.zero_le _), rfl, H183, rfl⟩ ?_
      rintro g184 w185 _ ⟨i, V, v187, hi, hV, H186, rfl⟩
      refine Zs 16 _ v187 ?_
      refine Zc ?_
      refine Zc ?_
      refine Zp ?_
      refine Z2 (Z1 rfl) (d := 136) (v := (.int .i64 ((i : Int)))) rfl (by kernel_rfl) ?_
      refine Z2 (Z1 rfl) (d := 137) (v := (.bool (decide ((i : Int) < 64)))) rfl (by kernel_rfl) ?_
      refine Zm ?_
      refine Z4 ?_
      refine (ZS (decide ((i : Int) < 64))).elim (fun b189 => ?_) (fun b189 => ?_)
      ·have g190 := of_decide_eq_true b189
       refine Zs 137 (.bool true) (congrArg Value.bool b189) ?_
       have g191 := of_decide_eq_true b189
       refine Z0h rfl ?_
       refine Z0b ?_
       refine Z4 ?_
       refine Zc ?_
       refine ZR ?_
       refine Zc ?_
       refine Z1d H186 (by kernel_rfl) (by kernel_rfl) ?_
       refine Zz (Z1 rfl) (d := 140) (v := (.pointer (some ⟨b177, 4, none⟩))) rfl (fun _ H' => (by kernel_rfl)) ?_
       refine Zz (Z1 rfl) (d := 141) (v := (.int .u32 (V.getD 4 0))) rfl (fun _ H' => (Zi rfl (by kernel_rfl) (Z08 (H'.at 7 rfl) (show 4 < 8 by omega) (show 4 = 4 by omega)))) ?_
       refine Zz (Z1 rfl) (d := 142) (v := (.pointer (some ⟨b177, 0, none⟩))) rfl (fun _ H' => (by kernel_rfl)) ?_
       refine Zz (Z1 rfl) (d := 143) (v := (.int .u32 (V.getD 0 0))) rfl (fun _ H' => (Zi rfl (by kernel_rfl) (Z08 (H'.at 7 rfl) (show 0 < 8 by omega) (show 0 = 0 by omega)))) ?_
       refine Zz (Z1 rfl) (d := 17) (v := (.int .u32 (V.getD 4 0))) rfl (fun _ H' => (by kernel_rfl)) ?_
       refine Zz (Z1 rfl) (d := 18) (v := (.int .u32 (V.getD 0 0))) rfl (fun _ H' => (by kernel_rfl)) ?_
       refine Z1U ?_
       intro w192 H193
       refine Z4 ?_
       refine Zc ?_
       refine Z1d H193 (by kernel_rfl) (by kernel_rfl) ?_
       refine Zz (Z1 rfl) (d := 144) (v := (.pointer (some ⟨b177, 7, none⟩))) rfl (fun _ H' => (by kernel_rfl)) ?_
       refine Zz (Z1 rfl) (d := 145) (v := (.int .u32 (V.getD 7 0))) rfl (fun _ H' => (Zi rfl (by kernel_rfl) (Z08 (H'.at 7 rfl) (show 7 < 8 by omega) (show 7 = 7 by omega)))) ?_
       refine Zz (Z1 rfl) (d := 146) (v := (.int .u32 (V.getD 4 0))) rfl (fun _ H' => (by kernel_rfl)) ?_
       refine Z1H (Z1 rfl) (d := 147) (v := (.int .u32 (Z0o (V.getD 4 0) 6))) rfl (fun _ _ => by kernel_rfl) (fun w' H' => (Z1h w' (V.getD 4 0) 6 (by omega)).mono fun _ _ h => ⟨h.1, H'.keepU h.2⟩) ?_
       refine Zz (Z1 rfl) (d := 148) (v := (.int .u32 (V.getD 4 0))) rfl (fun _ H' => (by kernel_rfl)) ?_
       refine Z1H (Z1 rfl) (d := 149) (v := (.int .u32 (Z0o (V.getD 4 0) 11))) rfl (fun _ _ => by kernel_rfl) (fun w' H' => (Z1h w' (V.getD 4 0) 11 (by omega)).mono fun _ _ h => ⟨h.1, H'.keepU h.2⟩) ?_
       refine Zz (Z1 rfl) (d := 150) (v := (.int .u32 (Z0j .u32 (Z0o (V.getD 4 0) 6) (Z0o (V.getD 4 0) 11)))) rfl (fun _ H' => (by kernel_rfl)) ?_
       refine Zz (Z1 rfl) (d := 151) (v := (.int .u32 (V.getD 4 0))) rfl (fun _ H' => (by kernel_rfl)) ?_
       refine Z1H (Z1 rfl) (d := 152) (v := (.int .u32 (Z0o (V.getD 4 0) 25))) rfl (fun _ _ => by kernel_rfl) (fun w' H' => (Z1h w' (V.getD 4 0) 25 (by omega)).mono fun _ _ h => ⟨h.1, H'.keepU h.2⟩) ?_
       refine Zz (Z1 rfl) (d := 153) (v := (.int .u32 (Z0j .u32 (Z0j .u32 (Z0o (V.getD 4 0) 6) (Z0o (V.getD 4 0) 11)) (Z0o (V.getD 4 0) 25)))) rfl (fun _ H' => (by kernel_rfl)) ?_
       refine Zz (Z1 rfl) (d := 154) (v := (.int .u32 (IntKind.u32.wrap ((V.getD 7 0) + (Z0j .u32 (Z0j .u32 (Z0o (V.getD 4 0) 6) (Z0o (V.getD 4 0) 11)) (Z0o (V.getD 4 0) 25)))))) rfl (fun _ H' => (by kernel_rfl)) ?_
       refine Zz (Z1 rfl) (d := 155) (v := (.int .u32 (V.getD 4 0))) rfl (fun _ H' => (by kernel_rfl)) ?_
       refine Zz (Z1 rfl) (d := 156) (v := (.pointer (some ⟨b177, 5, none⟩))) rfl (fun _ H' => (by kernel_rfl)) ?_
       refine Zz (Z1 rfl) (d := 157) (v := (.int .u32 (V.getD 5 0))) rfl (fun _ H' => (Zi rfl (by kernel_rfl) (Z08 (H'.at 7 rfl) (show 5 < 8 by omega) (show 5 = 5 by omega)))) ?_
       refine Zz (Z1 rfl) (d := 158) (v := (.int .u32 (Z0S .u32 (V.getD 4 0) (V.getD 5 0)))) rfl (fun _ H' => (by kernel_rfl)) ?_
       refine Zz (Z1 rfl) (d := 159) (v := (.int .u32 (V.getD 4 0))) rfl (fun _ H' => (by kernel_rfl)) ?_
       refine Zz (Z1 rfl) (d := 160) (v := (.int .u32 (Z0j .u32 4294967295 (V.getD 4 0)))) rfl (fun _ H' => (by kernel_rfl)) ?_
       refine Zz (Z1 rfl) (d := 161) (v := (.pointer (some ⟨b177, 6, none⟩))) rfl (fun _ H' => (by kernel_rfl)) ?_
       refine Zz (Z1 rfl) (d := 162) (v := (.int .u32 (V.getD 6 0))) rfl (fun _ H' => (Zi rfl (by kernel_rfl) (Z08 (H'.at 7 rfl) (show 6 < 8 by omega) (show 6 = 6 by omega)))) ?_
       refine Zz (Z1 rfl) (d := 163) (v := (.int .u32 (Z0S .u32 (Z0j .u32 4294967295 (V.getD 4 0)) (V.getD 6 0)))) rfl (fun _ H' => (by kernel_rfl)) ?_
       refine Zz (Z1 rfl) (d := 164) (v := (.int .u32 (Z0j .u32 (Z0S .u32 (V.getD 4 0) (V.getD 5 0)) (Z0S .u32 (Z0j .u32 4294967295 (V.getD 4 0)) (V.getD 6 0))))) rfl (fun _ H' => (by kernel_rfl)) ?_
       refine Zz (Z1 rfl) (d := 165) (v := (.int .u32 (IntKind.u32.wrap ((IntKind.u32.wrap ((V.getD 7 0) + (Z0j .u32 (Z0j .u32 (Z0o (V.getD 4 0) 6) (Z0o (V.getD 4 0) 11)) (Z0o (V.getD 4 0) 25)))) + (Z0j .u32 (Z0S .u32 (V.getD 4 0) (V.getD 5 0)) (Z0S .u32 (Z0j .u32 4294967295 (V.getD 4 0)) (V.getD 6 0))))))) rfl (fun _ H' => (by kernel_rfl)) ?_
       refine Zz (Z1 rfl) (d := 166) (v := (.int .i64 ((i : Int)))) rfl (fun _ H' => (by kernel_rfl)) ?_
       refine Zz (Z1 rfl) (d := 167) (v := (.pointer (some ⟨b11, 0 + ((i : Int)).toNat * 1, none⟩))) rfl (fun _ H' => (Z03 (E := 186) (N := 64) (by kernel_rfl) (by kernel_rfl) (Nat.le_of_ble_eq_true rfl) rfl rfl (by omega) (by omega))) ?_
       refine Zz (Z1 rfl) (d := 168) (v := (.int .u32 (kR.getD i 0))) rfl (fun _ H' => (Zi rfl (by kernel_rfl) (Z08 (H'.at 2 rfl) (show i < 64 by omega) (show 0 + ((i : Int)).toNat * 1 = i by omega)))) ?_
       refine Zz (Z1 rfl) (d := 169) (v := (.int .u32 (IntKind.u32.wrap ((IntKind.u32.wrap ((IntKind.u32.wrap ((V.getD 7 0) + (Z0j .u32 (Z0j .u32 (Z0o (V.getD 4 0) 6) (Z0o (V.getD 4 0) 11)) (Z0o (V.getD 4 0) 25)))) + (Z0j .u32 (Z0S .u32 (V.getD 4 0) (V.getD 5 0)) (Z0S .u32 (Z0j .u32 4294967295 (V.getD 4 0)) (V.getD 6 0))))) + (kR.getD i 0))))) rfl (fun _ H' => (by kernel_rfl)) ?_
       refine Zz (Z1 rfl) (d := 170) (v := (.int .i64 ((i : Int)))) rfl (fun _ H' => (by kernel_rfl)) ?_
       refine Zz (Z1 rfl) (d := 171) (v := (.pointer (some ⟨b104, 0 + ((i : Int)).toNat * 1, none⟩))) rfl (fun _ H' => (Z03 (E := 186) (N := 64) (by kernel_rfl) (by kernel_rfl) (Nat.le_of_ble_eq_true rfl) rfl rfl (by omega) (by omega))) ?_
       refine Zz (Z1 rfl) (d := 172) (v := (.int .u32 (B.getD i 0))) rfl (fun _ H' => (Zi rfl (by kernel_rfl) (Z08 (H'.at 6 rfl) (show i < 64 by omega) (show 0 + ((i : Int)).toNat * 1 = i by omega)))) ?_
       refine Zz (Z1 rfl) (d := 173) (v := (.int .u32 (IntKind.u32.wrap ((IntKind.u32.wrap ((IntKind.u32.wrap ((IntKind.u32.wrap ((V.getD 7 0) + (Z0j .u32 (Z0j .u32 (Z0o (V.getD 4 0) 6) (Z0o (V.getD 4 0) 11)) (Z0o (V.getD 4 0) 25)))) + (Z0j .u32 (Z0S .u32 (V.getD 4 0) (V.getD 5 0)) (Z0S .u32 (Z0j .u32 4294967295 (V.getD 4 0)) (V.getD 6 0))))) + (kR.getD i 0))) + (B.getD i 0))))) rfl (fun _ H' => (by kernel_rfl)) ?_
       refine Zz (Z1 rfl) (d := 19) (v := (.int .u32 (IntKind.u32.wrap ((IntKind.u32.wrap ((IntKind.u32.wrap ((IntKind.u32.wrap ((V.getD 7 0) + (Z0j .u32 (Z0j .u32 (Z0o (V.getD 4 0) 6) (Z0o (V.getD 4 0) 11)) (Z0o (V.getD 4 0) 25)))) + (Z0j .u32 (Z0S .u32 (V.getD 4 0) (V.getD 5 0)) (Z0S .u32 (Z0j .u32 4294967295 (V.getD 4 0)) (V.getD 6 0))))) + (kR.getD i 0))) + (B.getD i 0))))) rfl (fun _ H' => (by kernel_rfl)) ?_
       refine Z1U ?_
       intro w194 H195
       refine Z4 ?_
       refine Zc ?_
       refine Z1d H195 (by kernel_rfl) (by kernel_rfl) ?_
       refine Zz (Z1 rfl) (d := 174) (v := (.int .u32 (V.getD 0 0))) rfl (fun _ H' => (by kernel_rfl)) ?_
       refine Z1H (Z1 rfl) (d := 175) (v := (.int .u32 (Z0o (V.getD 0 0) 2))) rfl (fun _ _ => by kernel_rfl) (fun w' H' => (Z1h w' (V.getD 0 0) 2 (by omega)).mono fun _ _ h => ⟨h.1, H'.keepU h.2⟩) ?_
       refine Zz (Z1 rfl) (d := 176) (v := (.int .u32 (V.getD 0 0))) rfl (fun _ H' => (by kernel_rfl)) ?_
       refine Z1H (Z1 rfl) (d := 177) (v := (.int .u32 (Z0o (V.getD 0 0) 13))) rfl (fun _ _ => by kernel_rfl) (fun w' H' => (Z1h w' (V.getD 0 0) 13 (by omega)).mono fun _ _ h => ⟨h.1, H'.keepU h.2⟩) ?_
       refine Zz (Z1 rfl) (d := 178) (v := (.int .u32 (Z0j .u32 (Z0o (V.getD 0 0) 2) (Z0o (V.getD 0 0) 13)))) rfl (fun _ H' => (by kernel_rfl)) ?_
       refine Zz (Z1 rfl) (d := 179) (v := (.int .u32 (V.getD 0 0))) rfl (fun _ H' => (by kernel_rfl)) ?_
       refine Z1H (Z1 rfl) (d := 180) (v := (.int .u32 (Z0o (V.getD 0 0) 22))) rfl (fun _ _ => by kernel_rfl) (fun w' H' => (Z1h w' (V.getD 0 0) 22 (by omega)).mono fun _ _ h => ⟨h.1, H'.keepU h.2⟩) ?_
       refine Zz (Z1 rfl) (d := 181) (v := (.int .u32 (Z0j .u32 (Z0j .u32 (Z0o (V.getD 0 0) 2) (Z0o (V.getD 0 0) 13)) (Z0o (V.getD 0 0) 22)))) rfl (fun _ H' => (by kernel_rfl)) ?_
       refine Zz (Z1 rfl) (d := 182) (v := (.int .u32 (V.getD 0 0))) rfl (fun _ H' => (by kernel_rfl)) ?_
       refine Zz (Z1 rfl) (d := 183) (v := (.pointer (some ⟨b177, 1, none⟩))) rfl (fun _ H' => (by kernel_rfl)) ?_
       refine Zz (Z1 rfl) (d := 184) (v := (.int .u32 (V.getD 1 0))) rfl (fun _ H' => (Zi rfl (by kernel_rfl) (Z08 (H'.at 7 rfl) (show 1 < 8 by omega) (show 1 = 1 by omega)))) ?_
       refine Zz (Z1 rfl) (d := 185) (v := (.int .u32 (Z0S .u32 (V.getD 0 0) (V.getD 1 0)))) rfl (fun _ H' => (by kernel_rfl)) ?_
       refine Zz (Z1 rfl) (d := 186) (v := (.int .u32 (V.getD 0 0))) rfl (fun _ H' => (by kernel_rfl)) ?_
       refine Zz (Z1 rfl) (d := 187) (v := (.pointer (some ⟨b177, 2, none⟩))) rfl (fun _ H' => (by kernel_rfl)) ?_
       refine Zz (Z1 rfl) (d := 188) (v := (.int .u32 (V.getD 2 0))) rfl (fun _ H' => (Zi rfl (by kernel_rfl) (Z08 (H'.at 7 rfl) (show 2 < 8 by omega) (show 2 = 2 by omega)))) ?_
       refine Zz (Z1 rfl) (d := 189) (v := (.int .u32 (Z0S .u32 (V.getD 0 0) (V.getD 2 0)))) rfl (fun _ H' => (by kernel_rfl)) ?_
       refine Zz (Z1 rfl) (d := 190) (v := (.int .u32 (Z0j .u32 (Z0S .u32 (V.getD 0 0) (V.getD 1 0)) (Z0S .u32 (V.getD 0 0) (V.getD 2 0))))) rfl (fun _ H' => (by kernel_rfl)) ?_
       refine Zz (Z1 rfl) (d := 191) (v := (.pointer (some ⟨b177, 1, none⟩))) rfl (fun _ H' => (by kernel_rfl)) ?_
       refine Zz (Z1 rfl) (d := 192) (v := (.int .u32 (V.getD 1 0))) rfl (fun _ H' => (Zi rfl (by kernel_rfl) (Z08 (H'.at 7 rfl) (show 1 < 8 by omega) (show 1 = 1 by omega)))) ?_
       refine Zz (Z1 rfl) (d := 193) (v := (.pointer (some ⟨b177, 2, none⟩))) rfl (fun _ H' => (by kernel_rfl)) ?_
       refine Zz (Z1 rfl) (d := 194) (v := (.int .u32 (V.getD 2 0))) rfl (fun _ H' => (Zi rfl (by kernel_rfl) (Z08 (H'.at 7 rfl) (show 2 < 8 by omega) (show 2 = 2 by omega)))) ?_
       refine Zz (Z1 rfl) (d := 195) (v := (.int .u32 (Z0S .u32 (V.getD 1 0) (V.getD 2 0)))) rfl (fun _ H' => (by kernel_rfl)) ?_
       refine Zz (Z1 rfl) (d := 196) (v := (.int .u32 (Z0j .u32 (Z0j .u32 (Z0S .u32 (V.getD 0 0) (V.getD 1 0)) (Z0S .u32 (V.getD 0 0) (V.getD 2 0))) (Z0S .u32 (V.getD 1 0) (V.getD 2 0))))) rfl (fun _ H' => (by kernel_rfl)) ?_
       refine Zz (Z1 rfl) (d := 197) (v := (.int .u32 (IntKind.u32.wrap ((Z0j .u32 (Z0j .u32 (Z0o (V.getD 0 0) 2) (Z0o (V.getD 0 0) 13)) (Z0o (V.getD 0 0) 22)) + (Z0j .u32 (Z0j .u32 (Z0S .u32 (V.getD 0 0) (V.getD 1 0)) (Z0S .u32 (V.getD 0 0) (V.getD 2 0))) (Z0S .u32 (V.getD 1 0) (V.getD 2 0))))))) rfl (fun _ H' => (by kernel_rfl)) ?_
       refine Zz (Z1 rfl) (d := 20) (v := (.int .u32 (IntKind.u32.wrap ((Z0j .u32 (Z0j .u32 (Z0o (V.getD 0 0) 2) (Z0o (V.getD 0 0) 13)) (Z0o (V.getD 0 0) 22)) + (Z0j .u32 (Z0j .u32 (Z0S .u32 (V.getD 0 0) (V.getD 1 0)) (Z0S .u32 (V.getD 0 0) (V.getD 2 0))) (Z0S .u32 (V.getD 1 0) (V.getD 2 0))))))) rfl (fun _ H' => (by kernel_rfl)) ?_
       refine Z1U ?_
       intro w196 H197
       refine Z4 ?_
       refine Zp ?_
       refine Z2 (Z1 rfl) (d := 198) (v := (.int .u32 (IntKind.u32.wrap ((IntKind.u32.wrap ((IntKind.u32.wrap ((IntKind.u32.wrap ((V.getD 7 0) + (Z0j .u32 (Z0j .u32 (Z0o (V.getD 4 0) 6) (Z0o (V.getD 4 0) 11)) (Z0o (V.getD 4 0) 25)))) + (Z0j .u32 (Z0S .u32 (V.getD 4 0) (V.getD 5 0)) (Z0S .u32 (Z0j .u32 4294967295 (V.getD 4 0)) (V.getD 6 0))))) + (kR.getD i 0))) + (B.getD i 0))))) rfl (by kernel_rfl) ?_
       refine Z2 (Z1 rfl) (d := 199) (v := (.int .u32 (IntKind.u32.wrap ((Z0j .u32 (Z0j .u32 (Z0o (V.getD 0 0) 2) (Z0o (V.getD 0 0) 13)) (Z0o (V.getD 0 0) 22)) + (Z0j .u32 (Z0j .u32 (Z0S .u32 (V.getD 0 0) (V.getD 1 0)) (Z0S .u32 (V.getD 0 0) (V.getD 2 0))) (Z0S .u32 (V.getD 1 0) (V.getD 2 0))))))) rfl (by kernel_rfl) ?_
       refine Z2 (Z1 rfl) (d := 200) (v := (.int .u32 (IntKind.u32.wrap ((IntKind.u32.wrap ((IntKind.u32.wrap ((IntKind.u32.wrap ((IntKind.u32.wrap ((V.getD 7 0) + (Z0j .u32 (Z0j .u32 (Z0o (V.getD 4 0) 6) (Z0o (V.getD 4 0) 11)) (Z0o (V.getD 4 0) 25)))) + (Z0j .u32 (Z0S .u32 (V.getD 4 0) (V.getD 5 0)) (Z0S .u32 (Z0j .u32 4294967295 (V.getD 4 0)) (V.getD 6 0))))) + (kR.getD i 0))) + (B.getD i 0))) + (IntKind.u32.wrap ((Z0j .u32 (Z0j .u32 (Z0o (V.getD 0 0) 2) (Z0o (V.getD 0 0) 13)) (Z0o (V.getD 0 0) 22)) + (Z0j .u32 (Z0j .u32 (Z0S .u32 (V.getD 0 0) (V.getD 1 0)) (Z0S .u32 (V.getD 0 0) (V.getD 2 0))) (Z0S .u32 (V.getD 1 0) (V.getD 2 0))))))))) rfl (by kernel_rfl) ?_
       refine Z2 (Z1 rfl) (d := 201) (v := (.pointer (some ⟨b177, 0, none⟩))) rfl (by kernel_rfl) ?_
       refine Z2 (Z1 rfl) (d := 202) (v := (.int .u32 (V.getD 0 0))) rfl (Zi rfl (by kernel_rfl) (Z08 (H197.at 7 rfl) (show 0 < 8 by omega) (show 0 = 0 by omega))) ?_
       refine Z2 (Z1 rfl) (d := 203) (v := (.pointer (some ⟨b177, 1, none⟩))) rfl (by kernel_rfl) ?_
       refine Z2 (Z1 rfl) (d := 204) (v := (.int .u32 (V.getD 1 0))) rfl (Zi rfl (by kernel_rfl) (Z08 (H197.at 7 rfl) (show 1 < 8 by omega) (show 1 = 1 by omega))) ?_
       refine Z2 (Z1 rfl) (d := 205) (v := (.pointer (some ⟨b177, 2, none⟩))) rfl (by kernel_rfl) ?_
       refine Z2 (Z1 rfl) (d := 206) (v := (.int .u32 (V.getD 2 0))) rfl (Zi rfl (by kernel_rfl) (Z08 (H197.at 7 rfl) (show 2 < 8 by omega) (show 2 = 2 by omega))) ?_
       refine Z2 (Z1 rfl) (d := 207) (v := (.pointer (some ⟨b177, 3, none⟩))) rfl (by kernel_rfl) ?_
       refine Z2 (Z1 rfl) (d := 208) (v := (.int .u32 (V.getD 3 0))) rfl (Zi rfl (by kernel_rfl) (Z08 (H197.at 7 rfl) (show 3 < 8 by omega) (show 3 = 3 by omega))) ?_
       refine Z2 (Z1 rfl) (d := 209) (v := (.int .u32 (IntKind.u32.wrap ((IntKind.u32.wrap ((IntKind.u32.wrap ((IntKind.u32.wrap ((V.getD 7 0) + (Z0j .u32 (Z0j .u32 (Z0o (V.getD 4 0) 6) (Z0o (V.getD 4 0) 11)) (Z0o (V.getD 4 0) 25)))) + (Z0j .u32 (Z0S .u32 (V.getD 4 0) (V.getD 5 0)) (Z0S .u32 (Z0j .u32 4294967295 (V.getD 4 0)) (V.getD 6 0))))) + (kR.getD i 0))) + (B.getD i 0))))) rfl (by kernel_rfl) ?_
       refine Z2 (Z1 rfl) (d := 210) (v := (.int .u32 (IntKind.u32.wrap ((V.getD 3 0) + (IntKind.u32.wrap ((IntKind.u32.wrap ((IntKind.u32.wrap ((IntKind.u32.wrap ((V.getD 7 0) + (Z0j .u32 (Z0j .u32 (Z0o (V.getD 4 0) 6) (Z0o (V.getD 4 0) 11)) (Z0o (V.getD 4 0) 25)))) + (Z0j .u32 (Z0S .u32 (V.getD 4 0) (V.getD 5 0)) (Z0S .u32 (Z0j .u32 4294967295 (V.getD 4 0)) (V.getD 6 0))))) + (kR.getD i 0))) + (B.getD i 0))))))) rfl (by kernel_rfl) ?_
       refine Z2 (Z1 rfl) (d := 211) (v := (.pointer (some ⟨b177, 4, none⟩))) rfl (by kernel_rfl) ?_
       refine Z2 (Z1 rfl) (d := 212) (v := (.int .u32 (V.getD 4 0))) rfl (Zi rfl (by kernel_rfl) (Z08 (H197.at 7 rfl) (show 4 < 8 by omega) (show 4 = 4 by omega))) ?_
       refine Z2 (Z1 rfl) (d := 213) (v := (.pointer (some ⟨b177, 5, none⟩))) rfl (by kernel_rfl) ?_
       refine Z2 (Z1 rfl) (d := 214) (v := (.int .u32 (V.getD 5 0))) rfl (Zi rfl (by kernel_rfl) (Z08 (H197.at 7 rfl) (show 5 < 8 by omega) (show 5 = 5 by omega))) ?_
       refine Z2 (Z1 rfl) (d := 215) (v := (.pointer (some ⟨b177, 6, none⟩))) rfl (by kernel_rfl) ?_
       refine Z2 (Z1 rfl) (d := 216) (v := (.int .u32 (V.getD 6 0))) rfl (Zi rfl (by kernel_rfl) (Z08 (H197.at 7 rfl) (show 6 < 8 by omega) (show 6 = 6 by omega))) ?_
       refine Z2 (Z1 rfl) (d := 217) (v := (.agg ⟨([(.int .u32 (IntKind.u32.wrap ((IntKind.u32.wrap ((IntKind.u32.wrap ((IntKind.u32.wrap ((IntKind.u32.wrap ((V.getD 7 0) + (Z0j .u32 (Z0j .u32 (Z0o (V.getD 4 0) 6) (Z0o (V.getD 4 0) 11)) (Z0o (V.getD 4 0) 25)))) + (Z0j .u32 (Z0S .u32 (V.getD 4 0) (V.getD 5 0)) (Z0S .u32 (Z0j .u32 4294967295 (V.getD 4 0)) (V.getD 6 0))))) + (kR.getD i 0))) + (B.getD i 0))) + (IntKind.u32.wrap ((Z0j .u32 (Z0j .u32 (Z0o (V.getD 0 0) 2) (Z0o (V.getD 0 0) 13)) (Z0o (V.getD 0 0) 22)) + (Z0j .u32 (Z0j .u32 (Z0S .u32 (V.getD 0 0) (V.getD 1 0)) (Z0S .u32 (V.getD 0 0) (V.getD 2 0))) (Z0S .u32 (V.getD 1 0) (V.getD 2 0)))))))), (.int .u32 (V.getD 0 0)), (.int .u32 (V.getD 1 0)), (.int .u32 (V.getD 2 0)), (.int .u32 (IntKind.u32.wrap ((V.getD 3 0) + (IntKind.u32.wrap ((IntKind.u32.wrap ((IntKind.u32.wrap ((IntKind.u32.wrap ((V.getD 7 0) + (Z0j .u32 (Z0j .u32 (Z0o (V.getD 4 0) 6) (Z0o (V.getD 4 0) 11)) (Z0o (V.getD 4 0) 25)))) + (Z0j .u32 (Z0S .u32 (V.getD 4 0) (V.getD 5 0)) (Z0S .u32 (Z0j .u32 4294967295 (V.getD 4 0)) (V.getD 6 0))))) + (kR.getD i 0))) + (B.getD i 0)))))), (.int .u32 (V.getD 4 0)), (.int .u32 (V.getD 5 0)), (.int .u32 (V.getD 6 0))] : List Value)⟩)) rfl (by kernel_rfl) ?_
       refine ZA (Z1 rfl) (fun K198 hK198 => ?_)
       refine Z1M .u32 (B := ([IntKind.u32.wrap ((IntKind.u32.wrap ((IntKind.u32.wrap ((IntKind.u32.wrap ((IntKind.u32.wrap ((V.getD 7 0) + (Z0j .u32 (Z0j .u32 (Z0o (V.getD 4 0) 6) (Z0o (V.getD 4 0) 11)) (Z0o (V.getD 4 0) 25)))) + (Z0j .u32 (Z0S .u32 (V.getD 4 0) (V.getD 5 0)) (Z0S .u32 (Z0j .u32 4294967295 (V.getD 4 0)) (V.getD 6 0))))) + (kR.getD i 0))) + (B.getD i 0))) + (IntKind.u32.wrap ((Z0j .u32 (Z0j .u32 (Z0o (V.getD 0 0) 2) (Z0o (V.getD 0 0) 13)) (Z0o (V.getD 0 0) 22)) + (Z0j .u32 (Z0j .u32 (Z0S .u32 (V.getD 0 0) (V.getD 1 0)) (Z0S .u32 (V.getD 0 0) (V.getD 2 0))) (Z0S .u32 (V.getD 1 0) (V.getD 2 0)))))), V.getD 0 0, V.getD 1 0, V.getD 2 0, IntKind.u32.wrap ((V.getD 3 0) + (IntKind.u32.wrap ((IntKind.u32.wrap ((IntKind.u32.wrap ((IntKind.u32.wrap ((V.getD 7 0) + (Z0j .u32 (Z0j .u32 (Z0o (V.getD 4 0) 6) (Z0o (V.getD 4 0) 11)) (Z0o (V.getD 4 0) 25)))) + (Z0j .u32 (Z0S .u32 (V.getD 4 0) (V.getD 5 0)) (Z0S .u32 (Z0j .u32 4294967295 (V.getD 4 0)) (V.getD 6 0))))) + (kR.getD i 0))) + (B.getD i 0)))), V.getD 4 0, V.getD 5 0, V.getD 6 0] : List Int)) rfl H197 7 rfl rfl rfl (by kernel_rfl) (by kernel_rfl) (by decide) (by first | rfl | simp) ?_
       intro w199 (H200 : Sat w [Z6 w (fun _ => False), Z00 .u8 b2 26 32 (List.replicate 32 (0 : Int)), Z00 .u32 b11 187 64 kR, Z00 .u32 b19 189 8 HH, Zb 5 1 (.slice a D.length c) D.length (D.flatMap Zr), Zb 5 1 (.slice (some ⟨b33, 0, none⟩) 1 1) 1 (([128] : List UInt8).flatMap Zr), Z00 .u32 b104 187 64 B, Z00 .u32 b177 189 8 ([IntKind.u32.wrap ((IntKind.u32.wrap ((IntKind.u32.wrap ((IntKind.u32.wrap ((IntKind.u32.wrap ((V.getD 7 0) + (Z0j .u32 (Z0j .u32 (Z0o (V.getD 4 0) 6) (Z0o (V.getD 4 0) 11)) (Z0o (V.getD 4 0) 25)))) + (Z0j .u32 (Z0S .u32 (V.getD 4 0) (V.getD 5 0)) (Z0S .u32 (Z0j .u32 4294967295 (V.getD 4 0)) (V.getD 6 0))))) + (kR.getD i 0))) + (B.getD i 0))) + (IntKind.u32.wrap ((Z0j .u32 (Z0j .u32 (Z0o (V.getD 0 0) 2) (Z0o (V.getD 0 0) 13)) (Z0o (V.getD 0 0) 22)) + (Z0j .u32 (Z0j .u32 (Z0S .u32 (V.getD 0 0) (V.getD 1 0)) (Z0S .u32 (V.getD 0 0) (V.getD 2 0))) (Z0S .u32 (V.getD 1 0) (V.getD 2 0)))))), V.getD 0 0, V.getD 1 0, V.getD 2 0, IntKind.u32.wrap ((V.getD 3 0) + (IntKind.u32.wrap ((IntKind.u32.wrap ((IntKind.u32.wrap ((IntKind.u32.wrap ((V.getD 7 0) + (Z0j .u32 (Z0j .u32 (Z0o (V.getD 4 0) 6) (Z0o (V.getD 4 0) 11)) (Z0o (V.getD 4 0) 25)))) + (Z0j .u32 (Z0S .u32 (V.getD 4 0) (V.getD 5 0)) (Z0S .u32 (Z0j .u32 4294967295 (V.getD 4 0)) (V.getD 6 0))))) + (kR.getD i 0))) + (B.getD i 0)))), V.getD 4 0, V.getD 5 0, V.getD 6 0] : List Int)] w199)
       refine hK198 _ _ ?_
       clear hK198 K198
       refine Zm ?_
       refine ZL ?_
       refine Z4 ?_
       refine Zp ?_
       refine Z2 (Z1 rfl) (d := 138) (v := (.int .i64 ((i : Int)))) rfl (by kernel_rfl) ?_
       refine Z2 (Z1 rfl) (d := 139) (v := (.int .i64 ((i : Int) + 1))) rfl (Z04 (z := (i : Int) + 1) (by kernel_rfl) (IntWalk.i64_in _ (by omega))) ?_
       refine Z2 (Z1 rfl) (d := 16) (v := (.int .i64 ((i : Int) + 1))) rfl (by kernel_rfl) ?_
       refine Zm ?_
       refine ZM ?_ _ ⟨(i + 1), ([IntKind.u32.wrap ((IntKind.u32.wrap ((IntKind.u32.wrap ((IntKind.u32.wrap ((IntKind.u32.wrap ((V.getD 7 0) + (Z0j .u32 (Z0j .u32 (Z0o (V.getD 4 0) 6) (Z0o (V.getD 4 0) 11)) (Z0o (V.getD 4 0) 25)))) + (Z0j .u32 (Z0S .u32 (V.getD 4 0) (V.getD 5 0)) (Z0S .u32 (Z0j .u32 4294967295 (V.getD 4 0)) (V.getD 6 0))))) + (kR.getD i 0))) + (B.getD i 0))) + (IntKind.u32.wrap ((Z0j .u32 (Z0j .u32 (Z0o (V.getD 0 0) 2) (Z0o (V.getD 0 0) 13)) (Z0o (V.getD 0 0) 22)) + (Z0j .u32 (Z0j .u32 (Z0S .u32 (V.getD 0 0) (V.getD 1 0)) (Z0S .u32 (V.getD 0 0) (V.getD 2 0))) (Z0S .u32 (V.getD 1 0) (V.getD 2 0)))))), V.getD 0 0, V.getD 1 0, V.getD 2 0, IntKind.u32.wrap ((V.getD 3 0) + (IntKind.u32.wrap ((IntKind.u32.wrap ((IntKind.u32.wrap ((IntKind.u32.wrap ((V.getD 7 0) + (Z0j .u32 (Z0j .u32 (Z0o (V.getD 4 0) 6) (Z0o (V.getD 4 0) 11)) (Z0o (V.getD 4 0) 25)))) + (Z0j .u32 (Z0S .u32 (V.getD 4 0) (V.getD 5 0)) (Z0S .u32 (Z0j .u32 4294967295 (V.getD 4 0)) (V.getD 6 0))))) + (kR.getD i 0))) + (B.getD i 0)))), V.getD 4 0, V.getD 5 0, V.getD 6 0] : List Int), (show ((.int .i64 ((i : Int) + 1)) : Value) = _ by first | rfl | go_num | exact congrArg (Value.int .i64) (by omega)), (by omega), (by rw [hV]; rfl), H200, rfl⟩ (by omega)
       exact (Z0 rfl (Z0 rfl (Z0 rfl (Z0 rfl (Z0 rfl (Z0 rfl (Z0 rfl (Z0 rfl (Z0 rfl (Z0 rfl (Z0 rfl (Z0 rfl (Z0 rfl (Z0 rfl (Z0 rfl (Z0 rfl (Z0 rfl (Z0 rfl (Z0 rfl (Z0 rfl (Z0 rfl (Z0 rfl (Z0 rfl (Z0 rfl (Z0 rfl (Z0 rfl (Z0 rfl (Z0 rfl (Z0 rfl (Z0 rfl (Z0 rfl (Z0 rfl (Z0 rfl (Z0 rfl (Z0 rfl (Z0 rfl (Z0 rfl (Z0 rfl (Z0 rfl (Z0 rfl (Z0 rfl (Z0 rfl (Z0 rfl (Z0 rfl (Z0 rfl (Z0 rfl (Z0 rfl (Z0 rfl (Z0 rfl (Z0 rfl (Z0 rfl (Z0 rfl (Z0 rfl (Z0 rfl (Z0 rfl (Z0 rfl (Z0 rfl (Z0 rfl (Z0 rfl (Z0 rfl (Z0 rfl (Z0 rfl (Z0 rfl (Z0 rfl (Z0 rfl (Z0 rfl (Z0 rfl (Z0 rfl (Z0 rfl (Z0 rfl (Z0 rfl (Z0 rfl (Z0 rfl (Z0 rfl (Z0 rfl (Z0 rfl (Z0 rfl (Z0 rfl (Z0 rfl (Z0 rfl (Z0 rfl (Z0 rfl (Z0 rfl (Z0 rfl (Z0 rfl (Z0 rfl (Z0 rfl (Z0 rfl (Z0 rfl (Z06))))))))))))))))))))))))))))))))))))))))))))))))))))))))))))))))))))))))))))))))))))))))))
      ·have g201 := of_decide_eq_false b189
       refine Zs 137 (.bool false) (congrArg Value.bool b189) ?_
       have g202 := of_decide_eq_false b189
       refine Z09 rfl ?_
       refine Z0M ?_
       refine Z0a ?_
       refine Z0c ?_
       refine Z0B ?_
       refine Z4 ?_
       refine Zc ?_
       refine Zp ?_
       refine Z2 (Z1 rfl) (d := 218) (v := (.int .i64 (0))) rfl (by kernel_rfl) ?_
       refine Zm ?_
       refine Z4 ?_
       refine ZR ?_
       have hvv : V = vRu B HH 64 := by rw [hV, show i = 64 by omega]
       refine Z0m [21, 218, 219, 220, 221, 222, 223, 224, 225, 226, 227, 228, 229] (fun F_ W_ m_ => ∃ (i : Nat) (X : List Int), F_ 218 = (.int .i64 ((i : Int))) ∧ (i ≤ 8) ∧ (X = hAd V HH i) ∧ Sat w [Z6 w (fun _ => False), Z00 .u8 b2 26 32 (List.replicate 32 (0 : Int)), Z00 .u32 b11 187 64 kR, Z00 .u32 b19 189 8 X, Zb 5 1 (.slice a D.length c) D.length (D.flatMap Zr), Zb 5 1 (.slice (some ⟨b33, 0, none⟩) 1 1) 1 (([128] : List UInt8).flatMap Zr), Z00 .u32 b104 187 64 B, Z00 .u32 b177 189 8 V] W_ ∧ m_ = 8 - i) _ ⟨0, HH, (show ((.int .i64 (0)) : Value) = _ by first | rfl | go_num), (Nat.zero_le _), rfl, H186, rfl⟩ ?_
       rintro g203 w204 _ ⟨i, X, v206, hi, hX, H205, rfl⟩
       refine Zs 218 _ v206 ?_
       refine Zc ?_
       refine Zp ?_
       refine Z2 (Z1 rfl) (d := 219) (v := (.bool (decide ((i : Int) < 8)))) rfl (by kernel_rfl) ?_
       refine Zm ?_
       refine Z4 ?_
       refine Zc ?_
       refine (ZS (decide ((i : Int) < 8))).elim (fun b208 => ?_) (fun b208 => ?_)
       ·have g209 := of_decide_eq_true b208
        refine Zs 219 (.bool true) (congrArg Value.bool b208) ?_
        have g210 := of_decide_eq_true b208
        refine Z0h rfl ?_
        refine Z0b ?_
        refine Z4 ?_
        refine Zc ?_
        refine ZR ?_
        refine Zc ?_
        refine Zp ?_
        refine Z2 (Z1 rfl) (d := 220) (v := (.int .i64 ((i : Int)))) rfl (by kernel_rfl) ?_
        refine Z2 (Z1 rfl) (d := 21) (v := (.int .i64 ((i : Int)))) rfl (by kernel_rfl) ?_
        refine Zm ?_
        refine Z4 ?_
        refine Z1f H205 [Z6 w (fun _ => False), Z00 .u8 b2 26 32 (List.replicate 32 (0 : Int)), Z00 .u32 b11 187 64 kR, Z00 .u32 b19 189 8 X, Zb 5 1 (.slice a D.length c) D.length (D.flatMap Zr), Zb 5 1 (.slice (some ⟨b33, 0, none⟩) 1 1) 1 (([128] : List UInt8).flatMap Zr), Z00 .u32 b104 187 64 B, Z00 .u32 b177 189 8 V] [8] 9 rfl (by kernel_rfl) (fun Hx => (Hx.pick [0, 1, 2, 3, 4, 5, 6, 7] (by decide))) ?_
        intro w211 H212 S213
        refine ZP 0 rfl (by kernel_rfl) (by kernel_rfl) (by kernel_rfl) (fun _ _ _ h => h) S213 (Z1 rfl) rfl (d := 221) (v := (.int .i64 ((i : Int)))) rfl (fun _ => (by kernel_rfl)) ?_
        refine ZP 1 rfl (by kernel_rfl) (by kernel_rfl) (by kernel_rfl) (fun _ _ _ h => h) S213 (Z1 rfl) rfl (d := 222) (v := (.pointer (some ⟨b19, 0 + ((i : Int)).toNat * 1, none⟩))) rfl (fun _ => (Z03 (E := 186) (N := 8) (by kernel_rfl) (by kernel_rfl) (Nat.le_of_ble_eq_true rfl) rfl rfl (by omega) (by omega))) ?_
        refine Z1Y 2 rfl (by kernel_rfl) (by kernel_rfl) (by kernel_rfl) (fun _ _ _ h => h) S213 (Z1 rfl) rfl (by kernel_rfl) (d := 223) (v := (.int .u32 (X.getD i 0))) rfl (fun _ H' => (Zi rfl (by kernel_rfl) (Z08 (H'.at 3 rfl) (show i < 8 by omega) (show 0 + ((i : Int)).toNat * 1 = i by omega)))) ?_
        refine ZP 3 rfl (by kernel_rfl) (by kernel_rfl) (by kernel_rfl) (fun _ _ _ h => h) S213 (Z1 rfl) rfl (d := 224) (v := (.int .i64 ((i : Int)))) rfl (fun _ => (by kernel_rfl)) ?_
        refine ZP 4 rfl (by kernel_rfl) (by kernel_rfl) (by kernel_rfl) (fun _ _ _ h => h) S213 (Z1 rfl) rfl (d := 225) (v := (.pointer (some ⟨b177, 0 + ((i : Int)).toNat * 1, none⟩))) rfl (fun _ => (Z03 (E := 186) (N := 8) (by kernel_rfl) (by kernel_rfl) (Nat.le_of_ble_eq_true rfl) rfl rfl (by omega) (by omega))) ?_
        refine Z1Y 5 rfl (by kernel_rfl) (by kernel_rfl) (by kernel_rfl) (fun _ _ _ h => h) S213 (Z1 rfl) rfl (by kernel_rfl) (d := 226) (v := (.int .u32 (V.getD i 0))) rfl (fun _ H' => (Zi rfl (by kernel_rfl) (Z08 (H'.at 7 rfl) (show i < 8 by omega) (show 0 + ((i : Int)).toNat * 1 = i by omega)))) ?_
        refine ZP 6 rfl (by kernel_rfl) (by kernel_rfl) (by kernel_rfl) (fun _ _ _ h => h) S213 (Z1 rfl) rfl (d := 227) (v := (.int .u32 (IntKind.u32.wrap ((X.getD i 0) + (V.getD i 0))))) rfl (fun _ => (by kernel_rfl)) ?_
        refine ZP 7 rfl (by kernel_rfl) (by kernel_rfl) (by kernel_rfl) (fun _ _ _ h => h) S213 (Z1 rfl) rfl (d := 228) (v := (.pointer (some ⟨b19, 0 + ((i : Int)).toNat * 1, none⟩))) rfl (fun _ => (Z03 (E := 186) (N := 8) (by kernel_rfl) (by kernel_rfl) (Nat.le_of_ble_eq_true rfl) rfl rfl (by omega) (by omega))) ?_
        refine Z3b 8 (Sat w [Z6 w (fun _ => False), Z00 .u8 b2 26 32 (List.replicate 32 (0 : Int)), Z00 .u32 b11 187 64 kR, Zb 5 1 (.slice a D.length c) D.length (D.flatMap Zr), Zb 5 1 (.slice (some ⟨b33, 0, none⟩) 1 1) 1 (([128] : List UInt8).flatMap Zr), Z00 .u32 b104 187 64 B, Z00 .u32 b177 189 8 V]) rfl (by kernel_rfl) (Z1 rfl) rfl (fun K214 hK214 => ?_)
        refine Z1X .u32 rfl H212 3 rfl rfl rfl (by kernel_rfl) (show 0 + ((i : Int)).toNat * 1 = i by omega) (show i < 8 by omega) ?_
        intro w215 (H216 : Sat w [Z6 w (fun _ => False), Z00 .u8 b2 26 32 (List.replicate 32 (0 : Int)), Z00 .u32 b11 187 64 kR, Z00 .u32 b19 189 8 (X.set i (IntKind.u32.wrap ((X.getD i 0) + (V.getD i 0)))), Zb 5 1 (.slice a D.length c) D.length (D.flatMap Zr), Zb 5 1 (.slice (some ⟨b33, 0, none⟩) 1 1) 1 (([128] : List UInt8).flatMap Zr), Z00 .u32 b104 187 64 B, Z00 .u32 b177 189 8 V] w215)
        have S217 := H216.pick [0, 1, 2, 4, 5, 6, 7] (by decide)
        refine hK214 _ _ S217 ?_
        clear hK214 K214
        refine Z0C (by kernel_rfl) ?_
        refine ZL ?_
        refine Z4 ?_
        refine Zp ?_
        refine Z2 (Z1 rfl) (d := 229) (v := (.int .i64 ((i : Int) + 1))) rfl (Z04 (z := (i : Int) + 1) (by kernel_rfl) (IntWalk.i64_in _ (by omega))) ?_
        refine Z2 (Z1 rfl) (d := 218) (v := (.int .i64 ((i : Int) + 1))) rfl (by kernel_rfl) ?_
        refine Zm ?_
        refine ZM ?_ _ ⟨(i + 1), (X.set i (IntKind.u32.wrap ((X.getD i 0) + (V.getD i 0)))), (show ((.int .i64 ((i : Int) + 1)) : Value) = _ by first | rfl | go_num | exact congrArg (Value.int .i64) (by omega)), (by omega), (by rw [hX]; rfl), H216, rfl⟩ (by omega)
        exact (Z0 rfl (Z0 rfl (Z0 rfl (Z0 rfl (Z0 rfl (Z0 rfl (Z0 rfl (Z0 rfl (Z0 rfl (Z0 rfl (Z0 rfl (Z0 rfl (Z0 rfl (Z0 rfl (Z0 rfl (Z06))))))))))))))))
       ·have g218 := of_decide_eq_false b208
        refine Zs 219 (.bool false) (congrArg Value.bool b208) ?_
        have g219 := of_decide_eq_false b208
        refine Z09 rfl ?_
        refine Z0M ?_
        refine Z0a ?_
        refine Z0c ?_
        refine Z0B ?_
        refine ZL ?_
        refine Z4 ?_
        have hadd : X = hAd V HH 8 := by rw [hX, show i = 8 by omega]
        refine Zp ?_
        refine Z2 (Z1 rfl) (d := 58) (v := (.int .i64 ((64 * (b : Int))))) rfl (by kernel_rfl) ?_
        refine Z2 (Z1 rfl) (d := 59) (v := (.int .i64 ((64 * (b : Int)) + 64))) rfl (Z04 (z := (64 * (b : Int)) + 64) (by kernel_rfl) (IntWalk.i64_in _ (by omega))) ?_
        refine Z2 (Z1 rfl) (d := 8) (v := (.int .i64 ((64 * (b : Int)) + 64))) rfl (by kernel_rfl) ?_
        refine Zm ?_
        have H220 : Sat w [Z6 w (fun _ => False), Z00 .u8 b2 26 32 (List.replicate 32 (0 : Int)), Z00 .u32 b11 187 64 kR, Z00 .u32 b19 189 8 X, Zb 5 1 (.slice a D.length c) D.length (D.flatMap Zr), Zb 5 1 (.slice (some ⟨b33, 0, none⟩) 1 1) 1 (([128] : List UInt8).flatMap Zr)] w204 := H205.pick [0, 1, 2, 3, 4, 5] (by decide)
        refine ZM ?_ _ ⟨(b + 1), X, (show ((.int .i64 ((64 * (b : Int)) + 64)) : Value) = _ by first | rfl | go_num | exact congrArg (Value.int .i64) (by omega)), (by omega), (by rw [hadd, hvv, hww, hHH]; rfl), H220, rfl⟩ (by omega)
        exact (Z0 rfl (Z0 rfl (Z0 rfl (Z0 rfl (Z0 rfl (Z0 rfl (Z17 rfl (Z0 rfl (Z0 rfl (Z0 rfl (Z0 rfl (Z0 rfl (Z17 rfl (Z0 rfl (Z0 rfl (Z0 rfl (Z0 rfl (Z0 rfl (Z0 rfl (Z0 rfl (Z17 rfl (Z0 rfl (Z0 rfl (Z0 rfl (Z0 rfl (Z0 rfl (Z17 rfl (Z0 rfl (Z0 rfl (Z0 rfl (Z0 rfl (Z0 rfl (Z0 rfl (Z0 rfl (Z0 rfl (Z06))))))))))))))))))))))))))))))))))))
   ·have g221 := of_decide_eq_false b100
    refine Zs 57 (.bool false) (congrArg Value.bool b100) ?_
    have g222 := of_decide_eq_false b100
    refine Z09 rfl ?_
    refine Z0M ?_
    refine Z0a ?_
    refine Z0c ?_
    refine Z0B ?_
    refine Z4 ?_
    refine Zc ?_
    refine Zp ?_
    refine ZA (Z1 rfl) (fun K223 hK223 => ?_)
    refine Z0e (zs := (hc Zo)) (z := (.agg ⟨(hc Zo)⟩)) rfl H97 (by kernel_rfl) (by kernel_rfl) ?_
    intro b224 w225 (H226 : Sat w [Z6 w (fun _ => False), Z00 .u8 b2 26 32 (List.replicate 32 (0 : Int)), Z00 .u32 b11 187 64 kR, Z00 .u32 b19 189 8 HH, Zb 5 1 (.slice a D.length c) D.length (D.flatMap Zr), Zb 5 1 (.slice (some ⟨b33, 0, none⟩) 1 1) 1 (([128] : List UInt8).flatMap Zr), Z3 b224 26 (hc Zo)] w225)
    have H227 : Sat w [Z6 w (fun _ => False), Z00 .u8 b2 26 32 (List.replicate 32 (0 : Int)), Z00 .u32 b11 187 64 kR, Z00 .u32 b19 189 8 HH, Zb 5 1 (.slice a D.length c) D.length (D.flatMap Zr), Zb 5 1 (.slice (some ⟨b33, 0, none⟩) 1 1) 1 (([128] : List UInt8).flatMap Zr), Z00 .u8 b224 26 32 (List.replicate 32 (0 : Int))] w225 := Sat.toW H226 6 .u8 (List.replicate 32 (0 : Int)) (by kernel_rfl) (by exact Z2C (H226.at 1 rfl))
    refine hK223 _ _ ?_
    clear hK223 K223
    refine Zm ?_
    refine Z4 ?_
    refine Zc ?_
    refine Zc ?_
    refine Zp ?_
    refine Z2 (Z1 rfl) (d := 23) (v := (.int .i64 (0))) rfl (by kernel_rfl) ?_
    refine Zm ?_
    refine Z4 ?_
    refine ZR ?_
    refine Z0m [23, 230, 231, 232, 233, 234, 235, 236, 237, 238, 239, 240, 241, 242, 243, 244, 245, 246, 247, 248, 249, 250, 251, 252, 253, 254, 255, 256, 257, 258, 259, 260, 261, 262, 263, 264, 265, 266, 267] (fun F_ W_ m_ => ∃ (i : Nat) (O : List Int), F_ 23 = (.int .i64 ((i : Int))) ∧ (i ≤ 8) ∧ (O = oOf HH i) ∧ Sat w [Z6 w (fun _ => False), Z00 .u8 b2 26 32 (List.replicate 32 (0 : Int)), Z00 .u32 b11 187 64 kR, Z00 .u32 b19 189 8 HH, Zb 5 1 (.slice a D.length c) D.length (D.flatMap Zr), Zb 5 1 (.slice (some ⟨b33, 0, none⟩) 1 1) 1 (([128] : List UInt8).flatMap Zr), Z00 .u8 b224 26 32 O] W_ ∧ m_ = 8 - i) _ ⟨0, (List.replicate 32 (0 : Int)), (show ((.int .i64 (0)) : Value) = _ by first | rfl | go_num), (Nat.zero_le _), rfl, H227, rfl⟩ ?_
    rintro g228 w229 _ ⟨i, O, v231, hi, hO, H230, rfl⟩
    refine Zs 23 _ v231 ?_
    refine Zc ?_
    refine Zc ?_
    refine Zp ?_
    refine Z2 (Z1 rfl) (d := 230) (v := (.int .i64 ((i : Int)))) rfl (by kernel_rfl) ?_
    refine Z2 (Z1 rfl) (d := 231) (v := (.bool (decide ((i : Int) < 8)))) rfl (by kernel_rfl) ?_
    refine Zm ?_
    refine Z4 ?_
    refine (ZS (decide ((i : Int) < 8))).elim (fun b233 => ?_) (fun b233 => ?_)
    ·have g234 := of_decide_eq_true b233
     refine Zs 231 (.bool true) (congrArg Value.bool b233) ?_
     have g235 := of_decide_eq_true b233
     refine Z0h rfl ?_
     refine Z0b ?_
     refine Z4 ?_
     refine Zc ?_
     refine ZR ?_
     refine Z0k H230 [Z6 w (fun _ => False), Z00 .u8 b2 26 32 (List.replicate 32 (0 : Int)), Z00 .u32 b11 187 64 kR, Z00 .u32 b19 189 8 HH, Zb 5 1 (.slice a D.length c) D.length (D.flatMap Zr), Zb 5 1 (.slice (some ⟨b33, 0, none⟩) 1 1) 1 (([128] : List UInt8).flatMap Zr)] 38 rfl (by kernel_rfl) (fun Hx => (Hx.pick [0, 1, 2, 3, 4, 5] (by decide))) ?_
     intro w236 H237 S238
     refine Ze 0 rfl (by kernel_rfl) (by kernel_rfl) (by kernel_rfl) (fun _ _ _ h => h) S238 (Z1 rfl) (d := 234) (v := (.int .i64 ((i : Int)))) rfl (fun _ H' => (by kernel_rfl)) ?_
     refine Ze 1 rfl (by kernel_rfl) (by kernel_rfl) (by kernel_rfl) (fun _ _ _ h => h) S238 (Z1 rfl) (d := 235) (v := (.int .i64 (4 * (i : Int)))) rfl (fun _ H' => (Z04 (z := 4 * (i : Int)) (by kernel_rfl) (IntWalk.i64_in _ (by omega)))) ?_
     refine Ze 2 rfl (by kernel_rfl) (by kernel_rfl) (by kernel_rfl) (fun _ _ _ h => h) S238 (Z1 rfl) (d := 236) (v := (.int .i64 ((i : Int)))) rfl (fun _ H' => (by kernel_rfl)) ?_
     refine Ze 3 rfl (by kernel_rfl) (by kernel_rfl) (by kernel_rfl) (fun _ _ _ h => h) S238 (Z1 rfl) (d := 237) (v := (.int .i64 (4 * (i : Int)))) rfl (fun _ H' => (Z04 (z := 4 * (i : Int)) (by kernel_rfl) (IntWalk.i64_in _ (by omega)))) ?_
     refine Ze 4 rfl (by kernel_rfl) (by kernel_rfl) (by kernel_rfl) (fun _ _ _ h => h) S238 (Z1 rfl) (d := 238) (v := (.int .i64 ((4 * (i : Int)) + 1))) rfl (fun _ H' => (Z04 (z := (4 * (i : Int)) + 1) (by kernel_rfl) (IntWalk.i64_in _ (by omega)))) ?_
     refine Ze 5 rfl (by kernel_rfl) (by kernel_rfl) (by kernel_rfl) (fun _ _ _ h => h) S238 (Z1 rfl) (d := 239) (v := (.int .i64 ((i : Int)))) rfl (fun _ H' => (by kernel_rfl)) ?_
     refine Ze 6 rfl (by kernel_rfl) (by kernel_rfl) (by kernel_rfl) (fun _ _ _ h => h) S238 (Z1 rfl) (d := 240) (v := (.int .i64 (4 * (i : Int)))) rfl (fun _ H' => (Z04 (z := 4 * (i : Int)) (by kernel_rfl) (IntWalk.i64_in _ (by omega)))) ?_
     refine Ze 7 rfl (by kernel_rfl) (by kernel_rfl) (by kernel_rfl) (fun _ _ _ h => h) S238 (Z1 rfl) (d := 241) (v := (.int .i64 ((4 * (i : Int)) + 2))) rfl (fun _ H' => (Z04 (z := (4 * (i : Int)) + 2) (by kernel_rfl) (IntWalk.i64_in _ (by omega)))) ?_
     refine Ze 8 rfl (by kernel_rfl) (by kernel_rfl) (by kernel_rfl) (fun _ _ _ h => h) S238 (Z1 rfl) (d := 242) (v := (.int .i64 ((i : Int)))) rfl (fun _ H' => (by kernel_rfl)) ?_
     refine Ze 9 rfl (by kernel_rfl) (by kernel_rfl) (by kernel_rfl) (fun _ _ _ h => h) S238 (Z1 rfl) (d := 243) (v := (.int .i64 (4 * (i : Int)))) rfl (fun _ H' => (Z04 (z := 4 * (i : Int)) (by kernel_rfl) (IntWalk.i64_in _ (by omega)))) ?_
     refine Ze 10 rfl (by kernel_rfl) (by kernel_rfl) (by kernel_rfl) (fun _ _ _ h => h) S238 (Z1 rfl) (d := 244) (v := (.int .i64 ((4 * (i : Int)) + 3))) rfl (fun _ H' => (Z04 (z := (4 * (i : Int)) + 3) (by kernel_rfl) (IntWalk.i64_in _ (by omega)))) ?_
     refine Ze 11 rfl (by kernel_rfl) (by kernel_rfl) (by kernel_rfl) (fun _ _ _ h => h) S238 (Z1 rfl) (d := 245) (v := (.int .i64 ((i : Int)))) rfl (fun _ H' => (by kernel_rfl)) ?_
     refine Ze 12 rfl (by kernel_rfl) (by kernel_rfl) (by kernel_rfl) (fun _ _ _ h => h) S238 (Z1 rfl) (d := 246) (v := (.pointer (some ⟨b19, 0 + ((i : Int)).toNat * 1, none⟩))) rfl (fun _ H' => (Z03 (E := 186) (N := 8) (by kernel_rfl) (by kernel_rfl) (Nat.le_of_ble_eq_true rfl) rfl rfl (by omega) (by omega))) ?_
     refine Ze 13 rfl (by kernel_rfl) (by kernel_rfl) (by kernel_rfl) (fun _ _ _ h => h) S238 (Z1 rfl) (d := 247) (v := (.int .u32 (HH.getD i 0))) rfl (fun _ H' => (Zi rfl (by kernel_rfl) (Z08 (H'.at 3 rfl) (show i < 8 by omega) (show 0 + ((i : Int)).toNat * 1 = i by omega)))) ?_
     refine Ze 14 rfl (by kernel_rfl) (by kernel_rfl) (by kernel_rfl) (fun _ _ _ h => h) S238 (Z1 rfl) (d := 248) (v := (.int .u32 ((HH.getD i 0) / 16777216))) rfl (fun _ H' => (Z5d rfl rfl (by decide) (by decide) (by decide))) ?_
     refine Ze 15 rfl (by kernel_rfl) (by kernel_rfl) (by kernel_rfl) (fun _ _ _ h => h) S238 (Z1 rfl) (d := 249) (v := (.int .u8 (IntKind.u8.wrap ((HH.getD i 0) / 16777216)))) rfl (fun _ H' => (by kernel_rfl)) ?_
     refine Ze 16 rfl (by kernel_rfl) (by kernel_rfl) (by kernel_rfl) (fun _ _ _ h => h) S238 (Z1 rfl) (d := 250) (v := (.int .i64 ((i : Int)))) rfl (fun _ H' => (by kernel_rfl)) ?_
     refine Ze 17 rfl (by kernel_rfl) (by kernel_rfl) (by kernel_rfl) (fun _ _ _ h => h) S238 (Z1 rfl) (d := 251) (v := (.pointer (some ⟨b19, 0 + ((i : Int)).toNat * 1, none⟩))) rfl (fun _ H' => (Z03 (E := 186) (N := 8) (by kernel_rfl) (by kernel_rfl) (Nat.le_of_ble_eq_true rfl) rfl rfl (by omega) (by omega))) ?_
     refine Ze 18 rfl (by kernel_rfl) (by kernel_rfl) (by kernel_rfl) (fun _ _ _ h => h) S238 (Z1 rfl) (d := 252) (v := (.int .u32 (HH.getD i 0))) rfl (fun _ H' => (Zi rfl (by kernel_rfl) (Z08 (H'.at 3 rfl) (show i < 8 by omega) (show 0 + ((i : Int)).toNat * 1 = i by omega)))) ?_
     refine Ze 19 rfl (by kernel_rfl) (by kernel_rfl) (by kernel_rfl) (fun _ _ _ h => h) S238 (Z1 rfl) (d := 253) (v := (.int .u32 ((HH.getD i 0) / 65536))) rfl (fun _ H' => (Z5d rfl rfl (by decide) (by decide) (by decide))) ?_
     refine Ze 20 rfl (by kernel_rfl) (by kernel_rfl) (by kernel_rfl) (fun _ _ _ h => h) S238 (Z1 rfl) (d := 254) (v := (.int .u8 (IntKind.u8.wrap ((HH.getD i 0) / 65536)))) rfl (fun _ H' => (by kernel_rfl)) ?_
     refine Ze 21 rfl (by kernel_rfl) (by kernel_rfl) (by kernel_rfl) (fun _ _ _ h => h) S238 (Z1 rfl) (d := 255) (v := (.int .i64 ((i : Int)))) rfl (fun _ H' => (by kernel_rfl)) ?_
     refine Ze 22 rfl (by kernel_rfl) (by kernel_rfl) (by kernel_rfl) (fun _ _ _ h => h) S238 (Z1 rfl) (d := 256) (v := (.pointer (some ⟨b19, 0 + ((i : Int)).toNat * 1, none⟩))) rfl (fun _ H' => (Z03 (E := 186) (N := 8) (by kernel_rfl) (by kernel_rfl) (Nat.le_of_ble_eq_true rfl) rfl rfl (by omega) (by omega))) ?_
     refine Ze 23 rfl (by kernel_rfl) (by kernel_rfl) (by kernel_rfl) (fun _ _ _ h => h) S238 (Z1 rfl) (d := 257) (v := (.int .u32 (HH.getD i 0))) rfl (fun _ H' => (Zi rfl (by kernel_rfl) (Z08 (H'.at 3 rfl) (show i < 8 by omega) (show 0 + ((i : Int)).toNat * 1 = i by omega)))) ?_
     refine Ze 24 rfl (by kernel_rfl) (by kernel_rfl) (by kernel_rfl) (fun _ _ _ h => h) S238 (Z1 rfl) (d := 258) (v := (.int .u32 ((HH.getD i 0) / 256))) rfl (fun _ H' => (Z5d rfl rfl (by decide) (by decide) (by decide))) ?_
     refine Ze 25 rfl (by kernel_rfl) (by kernel_rfl) (by kernel_rfl) (fun _ _ _ h => h) S238 (Z1 rfl) (d := 259) (v := (.int .u8 (IntKind.u8.wrap ((HH.getD i 0) / 256)))) rfl (fun _ H' => (by kernel_rfl)) ?_
     refine Ze 26 rfl (by kernel_rfl) (by kernel_rfl) (by kernel_rfl) (fun _ _ _ h => h) S238 (Z1 rfl) (d := 260) (v := (.int .i64 ((i : Int)))) rfl (fun _ H' => (by kernel_rfl)) ?_
     refine Ze 27 rfl (by kernel_rfl) (by kernel_rfl) (by kernel_rfl) (fun _ _ _ h => h) S238 (Z1 rfl) (d := 261) (v := (.pointer (some ⟨b19, 0 + ((i : Int)).toNat * 1, none⟩))) rfl (fun _ H' => (Z03 (E := 186) (N := 8) (by kernel_rfl) (by kernel_rfl) (Nat.le_of_ble_eq_true rfl) rfl rfl (by omega) (by omega))) ?_
     refine Ze 28 rfl (by kernel_rfl) (by kernel_rfl) (by kernel_rfl) (fun _ _ _ h => h) S238 (Z1 rfl) (d := 262) (v := (.int .u32 (HH.getD i 0))) rfl (fun _ H' => (Zi rfl (by kernel_rfl) (Z08 (H'.at 3 rfl) (show i < 8 by omega) (show 0 + ((i : Int)).toNat * 1 = i by omega)))) ?_
     refine Ze 29 rfl (by kernel_rfl) (by kernel_rfl) (by kernel_rfl) (fun _ _ _ h => h) S238 (Z1 rfl) (d := 263) (v := (.int .u8 (IntKind.u8.wrap (HH.getD i 0)))) rfl (fun _ H' => (by kernel_rfl)) ?_
     refine Ze 30 rfl (by kernel_rfl) (by kernel_rfl) (by kernel_rfl) (fun _ _ _ h => h) S238 (Z1 rfl) (d := 264) (v := (.pointer (some ⟨b224, 0 + (4 * (i : Int)).toNat * 1, none⟩))) rfl (fun _ H' => (Z03 (E := 5) (N := 32) (by kernel_rfl) (by kernel_rfl) (Nat.le_of_ble_eq_true rfl) rfl rfl (by omega) (by omega))) ?_
     refine Z0r 31 rfl (by kernel_rfl) (Z1 rfl) (fun K239 hK239 => ?_)
     refine Z1X .u8 rfl H237 6 rfl rfl rfl (by kernel_rfl) (show 0 + (4 * (i : Int)).toNat * 1 = (4 * i) by omega) (show (4 * i) < 32 by omega) ?_
     intro w240 (H241 : Sat w [Z6 w (fun _ => False), Z00 .u8 b2 26 32 (List.replicate 32 (0 : Int)), Z00 .u32 b11 187 64 kR, Z00 .u32 b19 189 8 HH, Zb 5 1 (.slice a D.length c) D.length (D.flatMap Zr), Zb 5 1 (.slice (some ⟨b33, 0, none⟩) 1 1) 1 (([128] : List UInt8).flatMap Zr), Z00 .u8 b224 26 32 (O.set (4 * i) (IntKind.u8.wrap ((HH.getD i 0) / 16777216)))] w240)
     have S242 := H241.pick [0, 1, 2, 3, 4, 5] (by decide)
     refine hK239 _ _ S242 ?_
     clear hK239 K239
     refine Ze 32 rfl (by kernel_rfl) (by kernel_rfl) (by kernel_rfl) (fun _ _ _ h => h) S242 (Z1 rfl) (d := 265) (v := (.pointer (some ⟨b224, 0 + ((4 * (i : Int)) + 1).toNat * 1, none⟩))) rfl (fun _ H' => (Z03 (E := 5) (N := 32) (by kernel_rfl) (by kernel_rfl) (Nat.le_of_ble_eq_true rfl) rfl rfl (by omega) (by omega))) ?_
     refine Z0r 33 rfl (by kernel_rfl) (Z1 rfl) (fun K243 hK243 => ?_)
     refine Z1X .u8 rfl H241 6 rfl rfl rfl (by kernel_rfl) (show 0 + ((4 * (i : Int)) + 1).toNat * 1 = ((4 * i) + 1) by omega) (show ((4 * i) + 1) < 32 by omega) ?_
     intro w244 (H245 : Sat w [Z6 w (fun _ => False), Z00 .u8 b2 26 32 (List.replicate 32 (0 : Int)), Z00 .u32 b11 187 64 kR, Z00 .u32 b19 189 8 HH, Zb 5 1 (.slice a D.length c) D.length (D.flatMap Zr), Zb 5 1 (.slice (some ⟨b33, 0, none⟩) 1 1) 1 (([128] : List UInt8).flatMap Zr), Z00 .u8 b224 26 32 ((O.set (4 * i) (IntKind.u8.wrap ((HH.getD i 0) / 16777216))).set ((4 * i) + 1) (IntKind.u8.wrap ((HH.getD i 0) / 65536)))] w244)
     have S246 := H245.pick [0, 1, 2, 3, 4, 5] (by decide)
     refine hK243 _ _ S246 ?_
     clear hK243 K243
     refine Ze 34 rfl (by kernel_rfl) (by kernel_rfl) (by kernel_rfl) (fun _ _ _ h => h) S246 (Z1 rfl) (d := 266) (v := (.pointer (some ⟨b224, 0 + ((4 * (i : Int)) + 2).toNat * 1, none⟩))) rfl (fun _ H' => (Z03 (E := 5) (N := 32) (by kernel_rfl) (by kernel_rfl) (Nat.le_of_ble_eq_true rfl) rfl rfl (by omega) (by omega))) ?_
     refine Z0r 35 rfl (by kernel_rfl) (Z1 rfl) (fun K247 hK247 => ?_)
     refine Z1X .u8 rfl H245 6 rfl rfl rfl (by kernel_rfl) (show 0 + ((4 * (i : Int)) + 2).toNat * 1 = ((4 * i) + 2) by omega) (show ((4 * i) + 2) < 32 by omega) ?_
     intro w248 (H249 : Sat w [Z6 w (fun _ => False), Z00 .u8 b2 26 32 (List.replicate 32 (0 : Int)), Z00 .u32 b11 187 64 kR, Z00 .u32 b19 189 8 HH, Zb 5 1 (.slice a D.length c) D.length (D.flatMap Zr), Zb 5 1 (.slice (some ⟨b33, 0, none⟩) 1 1) 1 (([128] : List UInt8).flatMap Zr), Z00 .u8 b224 26 32 (((O.set (4 * i) (IntKind.u8.wrap ((HH.getD i 0) / 16777216))).set ((4 * i) + 1) (IntKind.u8.wrap ((HH.getD i 0) / 65536))).set ((4 * i) + 2) (IntKind.u8.wrap ((HH.getD i 0) / 256)))] w248)
     have S250 := H249.pick [0, 1, 2, 3, 4, 5] (by decide)
     refine hK247 _ _ S250 ?_
     clear hK247 K247
     refine Ze 36 rfl (by kernel_rfl) (by kernel_rfl) (by kernel_rfl) (fun _ _ _ h => h) S250 (Z1 rfl) (d := 267) (v := (.pointer (some ⟨b224, 0 + ((4 * (i : Int)) + 3).toNat * 1, none⟩))) rfl (fun _ H' => (Z03 (E := 5) (N := 32) (by kernel_rfl) (by kernel_rfl) (Nat.le_of_ble_eq_true rfl) rfl rfl (by omega) (by omega))) ?_
     refine Z0r 37 rfl (by kernel_rfl) (Z1 rfl) (fun K251 hK251 => ?_)
     refine Z1X .u8 rfl H249 6 rfl rfl rfl (by kernel_rfl) (show 0 + ((4 * (i : Int)) + 3).toNat * 1 = ((4 * i) + 3) by omega) (show ((4 * i) + 3) < 32 by omega) ?_
     intro w252 (H253 : Sat w [Z6 w (fun _ => False), Z00 .u8 b2 26 32 (List.replicate 32 (0 : Int)), Z00 .u32 b11 187 64 kR, Z00 .u32 b19 189 8 HH, Zb 5 1 (.slice a D.length c) D.length (D.flatMap Zr), Zb 5 1 (.slice (some ⟨b33, 0, none⟩) 1 1) 1 (([128] : List UInt8).flatMap Zr), Z00 .u8 b224 26 32 ((((O.set (4 * i) (IntKind.u8.wrap ((HH.getD i 0) / 16777216))).set ((4 * i) + 1) (IntKind.u8.wrap ((HH.getD i 0) / 65536))).set ((4 * i) + 2) (IntKind.u8.wrap ((HH.getD i 0) / 256))).set ((4 * i) + 3) (IntKind.u8.wrap (HH.getD i 0)))] w252)
     have S254 := H253.pick [0, 1, 2, 3, 4, 5] (by decide)
     refine hK251 _ _ S254 ?_
     clear hK251 K251
     refine Z0C (by kernel_rfl) ?_
     refine ZL ?_
     refine Z4 ?_
     refine Zp ?_
     refine Z2 (Z1 rfl) (d := 232) (v := (.int .i64 ((i : Int)))) rfl (by kernel_rfl) ?_
     refine Z2 (Z1 rfl) (d := 233) (v := (.int .i64 ((i : Int) + 1))) rfl (Z04 (z := (i : Int) + 1) (by kernel_rfl) (IntWalk.i64_in _ (by omega))) ?_
     refine Z2 (Z1 rfl) (d := 23) (v := (.int .i64 ((i : Int) + 1))) rfl (by kernel_rfl) ?_
     refine Zm ?_
     refine ZM ?_ _ ⟨(i + 1), ((((O.set (4 * i) (IntKind.u8.wrap ((HH.getD i 0) / 16777216))).set ((4 * i) + 1) (IntKind.u8.wrap ((HH.getD i 0) / 65536))).set ((4 * i) + 2) (IntKind.u8.wrap ((HH.getD i 0) / 256))).set ((4 * i) + 3) (IntKind.u8.wrap (HH.getD i 0))), (show ((.int .i64 ((i : Int) + 1)) : Value) = _ by first | rfl | go_num | exact congrArg (Value.int .i64) (by omega)), (by omega), (by rw [hO]; rfl), H253, rfl⟩ (by omega)
     exact (Z0 rfl (Z0 rfl (Z0 rfl (Z0 rfl (Z0 rfl (Z0 rfl (Z0 rfl (Z0 rfl (Z0 rfl (Z0 rfl (Z0 rfl (Z0 rfl (Z0 rfl (Z0 rfl (Z0 rfl (Z0 rfl (Z0 rfl (Z0 rfl (Z0 rfl (Z0 rfl (Z0 rfl (Z0 rfl (Z0 rfl (Z0 rfl (Z0 rfl (Z0 rfl (Z0 rfl (Z0 rfl (Z0 rfl (Z0 rfl (Z0 rfl (Z0 rfl (Z0 rfl (Z0 rfl (Z0 rfl (Z0 rfl (Z0 rfl (Z0 rfl (Z0 rfl (Z0 rfl (Z0 rfl (Z06))))))))))))))))))))))))))))))))))))))))))
    ·have g255 := of_decide_eq_false b233
     refine Zs 231 (.bool false) (congrArg Value.bool b233) ?_
     have g256 := of_decide_eq_false b233
     refine Z09 rfl ?_
     refine Z0M ?_
     refine Z0a ?_
     refine Z0c ?_
     refine Z0B ?_
     refine Z4 ?_
     refine Zc ?_
     refine Zp ?_
     refine Z2 (Z1 rfl) (d := 268) (v := (.agg ⟨(O.map (Value.int .u8))⟩)) rfl (Z5T rfl (by kernel_rfl) (by kernel_rfl) (by decide) (H230.at 6 rfl)) ?_
     refine ZA (Z1 rfl) (fun K257 hK257 => ?_)
     refine Z1M .u8 (B := O) rfl H230 1 rfl rfl rfl (by kernel_rfl) (by kernel_rfl) (by decide) (by exact Z2C (H230.at 6 rfl)) ?_
     intro w258 (H259 : Sat w [Z6 w (fun _ => False), Z00 .u8 b2 26 32 O, Z00 .u32 b11 187 64 kR, Z00 .u32 b19 189 8 HH, Zb 5 1 (.slice a D.length c) D.length (D.flatMap Zr), Zb 5 1 (.slice (some ⟨b33, 0, none⟩) 1 1) 1 (([128] : List UInt8).flatMap Zr), Z00 .u8 b224 26 32 O] w258)
     refine hK257 _ _ ?_
     clear hK257 K257
     refine Zm ?_
     refine Z4 ?_
     refine ZY ?_
     have hAL_ : O.length = 32 := Z2C (H259.at 1 rfl)
     have H260 : Sat w [Z6 w (fun _ => False), Z3 b2 26 (O.map (Value.int .u8)), Z00 .u32 b11 187 64 kR, Z00 .u32 b19 189 8 HH, Zb 5 1 (.slice a D.length c) D.length (D.flatMap Zr), Zb 5 1 (.slice (some ⟨b33, 0, none⟩) 1 1) 1 (([128] : List UInt8).flatMap Zr), Z00 .u8 b224 26 32 O] w258 := Sat.offW H259 1 rfl
     refine Z0O rfl (Z0i (vs := (O.map (Value.int .u8))) rfl (by kernel_rfl) (by rw [List.length_map, hAL_]; kernel_rfl) (by rw [List.length_map, hAL_]; decide) (H260.at 1 rfl) (List.take_length)) ?_
     have hfin : O = Z8p s := by unfold Z8p; rw [← hDm, ← hnb, hO, hHH, show i = 8 by omega, show b = nb by omega]
     exact ⟨by rw [hfin, Z6x], H260.upd 0 rfl [] (fun _ h => h.elim)⟩
end Go.Proofs.YtoaifondpohniaaGreat
