/- WHAT IS PROVED: contracts and plain laws of ShaP. Conditions: stated with each. -/
import Derived.Test.YtenihpghfdcpkaaGreatPV02
import Derived.Test.YtenihpghfdcpkaaGreatPV05
import Derived.Test.YtenihpghfdcpkaaGreatPV06
import Derived.Test.YtenihpghfdcpkaaGreatPV26
set_option maxHeartbeats 4000000
set_option maxRecDepth 100000
namespace Go.Proofs.YtenihpghfdcpkaaGreat
open Go.RowKit
abbrev Z1P : List Value := ([(.int .u32 (0)), (.int .u32 (0)), (.int .u32 (0)), (.int .u32 (0)), (.int .u32 (0)), (.int .u32 (0)), (.int .u32 (0)), (.int .u32 (0)), (.int .u32 (0)), (.int .u32 (0)), (.int .u32 (0)), (.int .u32 (0)), (.int .u32 (0)), (.int .u32 (0)), (.int .u32 (0)), (.int .u32 (0)), (.int .u32 (0)), (.int .u32 (0)), (.int .u32 (0)), (.int .u32 (0)), (.int .u32 (0)), (.int .u32 (0)), (.int .u32 (0)), (.int .u32 (0))] : LV) ++ ([(.int .u32 (0)), (.int .u32 (0)), (.int .u32 (0)), (.int .u32 (0)), (.int .u32 (0)), (.int .u32 (0)), (.int .u32 (0)), (.int .u32 (0)), (.int .u32 (0)), (.int .u32 (0)), (.int .u32 (0)), (.int .u32 (0)), (.int .u32 (0)), (.int .u32 (0)), (.int .u32 (0)), (.int .u32 (0)), (.int .u32 (0)), (.int .u32 (0)), (.int .u32 (0)), (.int .u32 (0)), (.int .u32 (0)), (.int .u32 (0)), (.int .u32 (0)), (.int .u32 (0))] : LV) ++ ([(.int .u32 (0)), (.int .u32 (0)), (.int .u32 (0)), (.int .u32 (0)), (.int .u32 (0)), (.int .u32 (0)), (.int .u32 (0)), (.int .u32 (0)), (.int .u32 (0)), (.int .u32 (0)), (.int .u32 (0)), (.int .u32 (0)), (.int .u32 (0)), (.int .u32 (0)), (.int .u32 (0)), (.int .u32 (0))] : LV)
abbrev Z2u : List Value := ([(.int .u32 (0)), (.int .u32 (0)), (.int .u32 (0)), (.int .u32 (0)), (.int .u32 (0)), (.int .u32 (0)), (.int .u32 (0)), (.int .u32 (0))] : LV)
abbrev Z5F (p0 : Option Addr) (p1 : List UInt8) (p2 : Nat) : Ck := Zo 5 1 (.slice p0 p1.length p2) p1.length (p1.flatMap Zx)
theorem ZdO (w : World) (sa : Option Addr) (sc : Nat) (s : List UInt8) (hs : ListAt Zx 1 w (.slice sa s.length sc) s) (hl : 4 ≤ s.length) :
  Calls Tryz.prog 230 #[(.slice sa s.length sc)] w fun e w' => e = .returned (.int .u32 (Zbl s)) ∧ Upd [] w w' := by
 have H := Sat.start0 w
 refine Zg Tryz.func230 rfl 25 rfl kn ?_
 refine zsl <| wv 2 (.int .u32 (0)) <| znt <| Z9 <| zqs H ?_
 let A0 : Value := .slice sa s.length sc
 refine qv 3 A0 ?_
 obtain ⟨g1, o2, c3, e4⟩ := Z4G (ListAt.now H 0 rfl hs) (show 0 < s.length by omega)
 refine qv 4 (.pointer (some ⟨g1, o2 + ((0 : Int)).toNat * 1, none⟩)) ?_ (hr := fun _ H' => (Z8 (E := 5) kr kr kn rfl e4 rfl om om))
 refine qv 5 (.int .u8 (((s.getD 0 0).toNat : Int))) ?_ (hr := fun _ H' => (zl1 (Z2U (by have q := (ListAt.now H' 0 rfl hs); rw [e4] at q; exact q) (show 0 < s.length by omega) (show o2 + ((0 : Int)).toNat * 1 = o2 + 0 by omega))))
 refine qv 6 (.int .u32 (IntKind.u32.wrap (((s.getD 0 0).toNat : Int)))) <| qv 7 (.int .u32 (Z2A .u32 (IntKind.u32.wrap (((s.getD 0 0).toNat : Int))) 24)) ?_ (hr := fun _ H' => (Z7a rfl rfl (by decide)))
 refine qv 8 A0 <| qv 9 (.pointer (some ⟨g1, o2 + ((1 : Int)).toNat * 1, none⟩)) ?_ (hr := fun _ H' => (Z8 (E := 5) kr kr kn rfl e4 rfl om om))
 refine qv 10 (.int .u8 (((s.getD 1 0).toNat : Int))) ?_ (hr := fun _ H' => (zl1 (Z2U (by have q := (ListAt.now H' 0 rfl hs); rw [e4] at q; exact q) (show 1 < s.length by omega) (show o2 + ((1 : Int)).toNat * 1 = o2 + 1 by omega))))
 refine qv 11 (.int .u32 (IntKind.u32.wrap (((s.getD 1 0).toNat : Int)))) <| qv 12 (.int .u32 (Z2A .u32 (IntKind.u32.wrap (((s.getD 1 0).toNat : Int))) 16)) ?_ (hr := fun _ H' => (Z7a rfl rfl (by decide)))
 refine qv 13 (.int .u32 (bOr .u32 (Z2A .u32 (IntKind.u32.wrap (((s.getD 0 0).toNat : Int))) 24) (Z2A .u32 (IntKind.u32.wrap (((s.getD 1 0).toNat : Int))) 16))) <| qv 14 A0 <| qv 15 (.pointer (some ⟨g1, o2 + ((2 : Int)).toNat * 1, none⟩)) ?_ (hr := fun _ H' => (Z8 (E := 5) kr kr kn rfl e4 rfl om om))
 refine qv 16 (.int .u8 (((s.getD 2 0).toNat : Int))) ?_ (hr := fun _ H' => (zl1 (Z2U (by have q := (ListAt.now H' 0 rfl hs); rw [e4] at q; exact q) (show 2 < s.length by omega) (show o2 + ((2 : Int)).toNat * 1 = o2 + 2 by omega))))
 refine qv 17 (.int .u32 (IntKind.u32.wrap (((s.getD 2 0).toNat : Int)))) <| qv 18 (.int .u32 (Z2A .u32 (IntKind.u32.wrap (((s.getD 2 0).toNat : Int))) 8)) ?_ (hr := fun _ H' => (Z7a rfl rfl (by decide)))
 refine qv 19 (.int .u32 (bOr .u32 (bOr .u32 (Z2A .u32 (IntKind.u32.wrap (((s.getD 0 0).toNat : Int))) 24) (Z2A .u32 (IntKind.u32.wrap (((s.getD 1 0).toNat : Int))) 16)) (Z2A .u32 (IntKind.u32.wrap (((s.getD 2 0).toNat : Int))) 8))) <| qv 20 A0 <| qv 21 (.pointer (some ⟨g1, o2 + ((3 : Int)).toNat * 1, none⟩)) ?_ (hr := fun _ H' => (Z8 (E := 5) kr kr kn rfl e4 rfl om om))
 refine qv 22 (.int .u8 (((s.getD 3 0).toNat : Int))) ?_ (hr := fun _ H' => (zl1 (Z2U (by have q := (ListAt.now H' 0 rfl hs); rw [e4] at q; exact q) (show 3 < s.length by omega) (show o2 + ((3 : Int)).toNat * 1 = o2 + 3 by omega))))
 refine qv 23 (.int .u32 (IntKind.u32.wrap (((s.getD 3 0).toNat : Int)))) <| qv 24 (.int .u32 (bOr .u32 (bOr .u32 (bOr .u32 (Z2A .u32 (IntKind.u32.wrap (((s.getD 0 0).toNat : Int))) 24) (Z2A .u32 (IntKind.u32.wrap (((s.getD 1 0).toNat : Int))) 16)) (Z2A .u32 (IntKind.u32.wrap (((s.getD 2 0).toNat : Int))) 8)) (IntKind.u32.wrap (((s.getD 3 0).toNat : Int))))) <| qv 2 (.int .u32 (bOr .u32 (bOr .u32 (bOr .u32 (Z2A .u32 (IntKind.u32.wrap (((s.getD 0 0).toNat : Int))) 24) (Z2A .u32 (IntKind.u32.wrap (((s.getD 1 0).toNat : Int))) 16)) (Z2A .u32 (IntKind.u32.wrap (((s.getD 2 0).toNat : Int))) 8)) (IntKind.u32.wrap (((s.getD 3 0).toNat : Int))))) <| Z01 fun w5 H6 => ?_
 refine ztn <| Zk <| ze1 (.int .u32 (bOr .u32 (bOr .u32 (bOr .u32 (Z2A .u32 (IntKind.u32.wrap (((s.getD 0 0).toNat : Int))) 24) (Z2A .u32 (IntKind.u32.wrap (((s.getD 1 0).toNat : Int))) 16)) (Z2A .u32 (IntKind.u32.wrap (((s.getD 2 0).toNat : Int))) 8)) (IntKind.u32.wrap (((s.getD 3 0).toNat : Int))))) ?_
 exact ⟨rfl, H6.upd 0 rfl [] ne⟩
theorem ZeW (w : World) (v : Value) (s : List UInt8) (hs : ListAt Zx 1 w v s) (hl : 4 ≤ s.length) : Calls Tryz.prog 230 #[v] w fun e w' => e = .returned (.int .u32 (Zbl s)) ∧ Upd [] w w' := by
 obtain ⟨a, c, rfl⟩ := SliceOf.len hs
 exact ZdO w a c s hs hl
theorem Z3y (w : World) (x k n : Int) (hk : Z0P .u64 (IntKind.u64.wrap k) 31 = 32 - n) (hn : 1 ≤ n ∧ n ≤ 31) :
  Calls Tryz.prog 216 #[(.int .u32 (x)), i6 k] w fun e w' => e = .returned (.int .u32 (Z0b x n)) ∧ Upd [] w w' := by
 have H := Sat.start0 w
 refine Zg Tryz.func216 rfl 17 rfl kn ?_
 refine zsl <| wv 4 (.int .u32 (0)) <| Z1a <| wv 6 (vi k) <| wv 7 (vu (IntKind.u64.wrap (k))) <| wv 8 (vu (Z0P .u64 (IntKind.u64.wrap (k)) 31)) <| wv 5 (vu (Z0P .u64 (IntKind.u64.wrap (k)) 31)) <| znt <| Z9 <| Zn 5 (vu (32 - n)) (show ((vu (Z0P .u64 (IntKind.u64.wrap (k)) 31)) : Value) = _ by rw [hk]) ?_
 refine ZG <| wv 9 (.int .u32 (x)) <| wv 10 (vu (32 - n)) <| wv 11 (.int .u32 (Z2A .u32 x (32 - n))) ?_ (hr := Z7a rfl rfl om)
 refine wv 12 (.int .u32 (x)) <| wv 13 (vu (32 - n)) <| wv 14 (vu (32 - (32 - n))) ?_ (hr := Z0A (z := 32 - (32 - n)) kr (Z1h om))
 refine wv 15 (.int .u32 (x / 2 ^ (min (32 - (32 - n)).toNat 32))) ?_ (hr := Z5b rfl rfl om rfl (Int.le_of_lt (Int.pow_pos (by decide))))
 refine wv 16 (.int .u32 (bOr .u32 (Z2A .u32 x (32 - n)) (x / 2 ^ (min (32 - (32 - n)).toNat 32)))) <| wv 4 (.int .u32 (bOr .u32 (Z2A .u32 x (32 - n)) (x / 2 ^ (min (32 - (32 - n)).toNat 32)))) <| znt <| Zk <| ze1 (.int .u32 (bOr .u32 (Z2A .u32 x (32 - n)) (x / 2 ^ (min (32 - (32 - n)).toNat 32)))) ?_
 exact ⟨by rw [Zdo x n (32 - n) rfl], H.upd 0 rfl [] ne⟩
theorem Z9v (w : World) :
  Calls Tryz.prog 196 #[] w fun e w' => e = .returned (.agg ⟨kR.map (Value.int .u32)⟩) ∧ Upd [] w w' := by
 have H := Sat.start0 w
 refine Zg Tryz.func196 rfl 2 rfl kn ?_
 refine zsl <| zy <| zda (Z1P) H ?_
 intro b2 w3 (H4 : Sat w [zR w, Z0 b2 199 (Z1P)] w3)
 have H5 : Sat w [zR w, ZV .u32 b2 199 64 (List.replicate 64 (0 : Int))] w3 := Sat.toW H4 1 .u32 (List.replicate 64 (0 : Int)) kr (by first | rfl | simp)
 refine kk <| Z1a <| wv 1 (.agg ⟨(([(.int .u32 (1116352408)), (.int .u32 (1899447441)), (.int .u32 (3049323471)), (.int .u32 (3921009573)), (.int .u32 (961987163)), (.int .u32 (1508970993)), (.int .u32 (2453635748)), (.int .u32 (2870763221)), (.int .u32 (3624381080)), (.int .u32 (310598401)), (.int .u32 (607225278)), (.int .u32 (1426881987)), (.int .u32 (1925078388)), (.int .u32 (2162078206)), (.int .u32 (2614888103)), (.int .u32 (3248222580)), (.int .u32 (3835390401)), (.int .u32 (4022224774)), (.int .u32 (264347078)), (.int .u32 (604807628)), (.int .u32 (770255983)), (.int .u32 (1249150122)), (.int .u32 (1555081692)), (.int .u32 (1996064986))] : LV) ++ ([(.int .u32 (2554220882)), (.int .u32 (2821834349)), (.int .u32 (2952996808)), (.int .u32 (3210313671)), (.int .u32 (3336571891)), (.int .u32 (3584528711)), (.int .u32 (113926993)), (.int .u32 (338241895)), (.int .u32 (666307205)), (.int .u32 (773529912)), (.int .u32 (1294757372)), (.int .u32 (1396182291)), (.int .u32 (1695183700)), (.int .u32 (1986661051)), (.int .u32 (2177026350)), (.int .u32 (2456956037)), (.int .u32 (2730485921)), (.int .u32 (2820302411)), (.int .u32 (3259730800)), (.int .u32 (3345764771)), (.int .u32 (3516065817)), (.int .u32 (3600352804)), (.int .u32 (4094571909)), (.int .u32 (275423344))] : LV) ++ ([(.int .u32 (430227734)), (.int .u32 (506948616)), (.int .u32 (659060556)), (.int .u32 (883997877)), (.int .u32 (958139571)), (.int .u32 (1322822218)), (.int .u32 (1537002063)), (.int .u32 (1747873779)), (.int .u32 (1955562222)), (.int .u32 (2024104815)), (.int .u32 (2227730452)), (.int .u32 (2361852424)), (.int .u32 (2428436474)), (.int .u32 (2756734187)), (.int .u32 (3204031479)), (.int .u32 (3329325298))] : LV))⟩) <| zy <| Z0u .u32 (B := ([1116352408, 1899447441, 3049323471, 3921009573, 961987163, 1508970993, 2453635748, 2870763221, 3624381080, 310598401, 607225278, 1426881987, 1925078388, 2162078206, 2614888103, 3248222580, 3835390401, 4022224774, 264347078, 604807628, 770255983, 1249150122, 1555081692, 1996064986, 2554220882, 2821834349, 2952996808, 3210313671, 3336571891, 3584528711, 113926993, 338241895, 666307205, 773529912, 1294757372, 1396182291, 1695183700, 1986661051, 2177026350, 2456956037, 2730485921, 2820302411, 3259730800, 3345764771, 3516065817, 3600352804, 4094571909, 275423344, 430227734, 506948616, 659060556, 883997877, 958139571, 1322822218, 1537002063, 1747873779, 1955562222, 2024104815, 2227730452, 2361852424, 2428436474, 2756734187, 3204031479, 3329325298] : List Int)) rfl H5 1 rfl rfl rfl kr kr (by decide) (by first | rfl | simp) fun w7 H8 => ?_
 refine kk <| znt <| Zk ?_
 have hAL_ : ([1116352408, 1899447441, 3049323471, 3921009573, 961987163, 1508970993, 2453635748, 2870763221, 3624381080, 310598401, 607225278, 1426881987, 1925078388, 2162078206, 2614888103, 3248222580, 3835390401, 4022224774, 264347078, 604807628, 770255983, 1249150122, 1555081692, 1996064986, 2554220882, 2821834349, 2952996808, 3210313671, 3336571891, 3584528711, 113926993, 338241895, 666307205, 773529912, 1294757372, 1396182291, 1695183700, 1986661051, 2177026350, 2456956037, 2730485921, 2820302411, 3259730800, 3345764771, 3516065817, 3600352804, 4094571909, 275423344, 430227734, 506948616, 659060556, 883997877, 958139571, 1322822218, 1537002063, 1747873779, 1955562222, 2024104815, 2227730452, 2361852424, 2428436474, 2756734187, 3204031479, 3329325298] : List Int).length = 64 := Z12 (H8.at 1 rfl)
 have H9 : Sat w [zR w, Z0 b2 199 (([1116352408, 1899447441, 3049323471, 3921009573, 961987163, 1508970993, 2453635748, 2870763221, 3624381080, 310598401, 607225278, 1426881987, 1925078388, 2162078206, 2614888103, 3248222580, 3835390401, 4022224774, 264347078, 604807628, 770255983, 1249150122, 1555081692, 1996064986, 2554220882, 2821834349, 2952996808, 3210313671, 3336571891, 3584528711, 113926993, 338241895, 666307205, 773529912, 1294757372, 1396182291, 1695183700, 1986661051, 2177026350, 2456956037, 2730485921, 2820302411, 3259730800, 3345764771, 3516065817, 3600352804, 4094571909, 275423344, 430227734, 506948616, 659060556, 883997877, 958139571, 1322822218, 1537002063, 1747873779, 1955562222, 2024104815, 2227730452, 2361852424, 2428436474, 2756734187, 3204031479, 3329325298] : List Int).map (Value.int .u32))] w7 := Sat.offW H8 1 rfl
 refine Z5v rfl (Z02 (vs := (([1116352408, 1899447441, 3049323471, 3921009573, 961987163, 1508970993, 2453635748, 2870763221, 3624381080, 310598401, 607225278, 1426881987, 1925078388, 2162078206, 2614888103, 3248222580, 3835390401, 4022224774, 264347078, 604807628, 770255983, 1249150122, 1555081692, 1996064986, 2554220882, 2821834349, 2952996808, 3210313671, 3336571891, 3584528711, 113926993, 338241895, 666307205, 773529912, 1294757372, 1396182291, 1695183700, 1986661051, 2177026350, 2456956037, 2730485921, 2820302411, 3259730800, 3345764771, 3516065817, 3600352804, 4094571909, 275423344, 430227734, 506948616, 659060556, 883997877, 958139571, 1322822218, 1537002063, 1747873779, 1955562222, 2024104815, 2227730452, 2361852424, 2428436474, 2756734187, 3204031479, 3329325298] : List Int).map (Value.int .u32))) rfl kr (by rw [List.length_map, hAL_]; kernel_rfl) (by rw [List.length_map, hAL_]; decide) (H9.at 1 rfl) (List.take_length)) ?_
 exact ⟨rfl, H9.upd 0 rfl [] ne⟩
theorem ZaW (w : World) (sa : Option Addr) (sc : Nat) (s : List UInt8) (hs : ListAt Zx 1 w (.slice sa s.length sc) s) (hl : 64 ≤ s.length) :
  Calls Tryz.prog 215 #[(.slice sa s.length sc)] w fun e w' => e = .returned (.agg ⟨(wOq s).map (Value.int .u32)⟩) ∧ Upd [] w w' := by
 have H := Sat.start0 w
 refine Zg Tryz.func215 rfl 65 rfl kn ?_
 refine zsl <| zy <| zda (Z1P) H ?_
 intro b2 w3 (H4 : Sat w [zR w, Z0 b2 199 (Z1P)] w3)
 have H5 : Sat w [zR w, ZV .u32 b2 199 64 (List.replicate 64 (0 : Int))] w3 := Sat.toW H4 1 .u32 (List.replicate 64 (0 : Int)) kr (by first | rfl | simp)
 refine kk <| Z1a <| zy <| zda (Z1P) H5 ?_
 intro b7 w8 (H9 : Sat w [zR w, ZV .u32 b2 199 64 (List.replicate 64 (0 : Int)), Z0 b7 199 (Z1P)] w8)
 have H10 : Sat w [zR w, ZV .u32 b2 199 64 (List.replicate 64 (0 : Int)), ZV .u32 b7 199 64 (List.replicate 64 (0 : Int))] w8 := Sat.toW H9 2 .u32 (List.replicate 64 (0 : Int)) kr (by exact Z12 (H9.at 1 rfl))
 refine kk <| znt <| Z9 <| zsl <| wv 10 (vi 0) <| znt <| Zh <| ZB ([4] ++ List.range' 10 11) (fun F_ W_ m_ => ∃ (i : Nat) (A : List Int), F_ 10 = (vi i) ∧ (i ≤ 16) ∧ (A = wLq s i) ∧ Sat w [zR w, ZV .u32 b2 199 64 (List.replicate 64 (0 : Int)), ZV .u32 b7 199 64 A] W_ ∧ m_ = 16 - i) _ ⟨0, (List.replicate 64 (0 : Int)), (show ((vi 0) : Value) = _ by first | rfl | go_num), (Nat.zero_le _), rfl, H10, rfl⟩ ?_
 rintro g11 w12 _ ⟨i, A, v14, hi, hA, H13, rfl⟩
 refine Zn 10 _ v14 ?_
 refine zsl <| wv 11 (.bool (decide ((i : Int) < 16))) <| znt <| Z9 ?_
 refine zid (fun b16 g17 => ?_) fun b16 g26 => ?_
 ·refine Zp <| ztn <| Z9 <| Zh <| zsl <| wv 12 (vi i) <| wv 4 (vi i) <| znt <| ZG <| wv 13 (vi i) ?_
  let A4 : Value := .slice (if sc = (4 * i) then sa else sa.map (·.add ((4 * i) * 1))) (s.length - (4 * i)) (sc - (4 * i))
  refine wv 14 (.slice sa s.length sc) <| wv 15 (vi i) <| zwi 16 (4 * (i : Int)) <| wv 17 A4 ?_ (hr := Z35 (E := 5) (q := (4 * i)) kr kr rfl rfl rfl om)
  refine zy <| zdq 18 (ZeW w12 A4 (s.drop (4 * i)) (ListAt.dropG (k := (4 * i)) (ListAt.now H13 0 rfl hs) om) (by simp only [List.length_drop]; omega)) H13 fun w20 H21 => ?_
  refine kk <| wv 19 (.pointer (some ⟨b7, 0 + ((i : Int)).toNat * 1, none⟩)) ?_ (hr := ZT (E := 198) (N := 64) kr kr kn rfl rfl om om)
  refine zy <| Z2w .u32 rfl H21 2 rfl rfl rfl kr (show 0 + ((i : Int)).toNat * 1 = i by omega) (show i < 64 by omega) fun w24 H25 => ?_
  refine kk <| ZL <| Z6 <| ztn <| ZG <| zwi 20 ((i : Int) + 1) <| wv 10 (vi ((i : Int) + 1)) <| ZL <| Za ?_ _ ⟨(i + 1), (A.set i (Zbl (s.drop (4 * i)))), (show ((vi ((i : Int) + 1)) : Value) = _ by first | rfl | go_num | exact congrArg (Value.int .i64) om), om, (by rw [hA]; rfl), H25, rfl⟩ om
  exact zs
 refine zxb <| ztn <| Z9 <| zsl <| wv 5 (vi 16) <| znt <| Zh ?_
 obtain rfl : i = 16 := by omega
 refine ZB ([5, 6, 7, 8, 9] ++ List.range' 21 43) (fun F_ W_ m_ => ∃ (j : Nat) (B : List Int), F_ 5 = (vi ((j : Int) + 16)) ∧ (j ≤ 48) ∧ (B = wEx A j) ∧ Sat w [zR w, ZV .u32 b2 199 64 (List.replicate 64 (0 : Int)), ZV .u32 b7 199 64 B] W_ ∧ m_ = 48 - j) _ ⟨0, A, (show ((vi 16) : Value) = _ by first | rfl | go_num), (Nat.zero_le _), rfl, H13, rfl⟩ ?_
 rintro g28 w29 _ ⟨j, B, v31, hj, hB, H30, rfl⟩
 refine Zn 5 _ v31 ?_
 refine Z9 <| zsl <| wv 21 (vi ((j : Int) + 16)) <| wv 22 (.bool (decide (((j : Int) + 16) < 64))) <| znt ?_
 refine zid (fun b33 g34 => ?_) fun b33 g61 => ?_
 ·refine Zp <| ztn <| Z9 <| Zh <| Z9 <| zqs H30 ?_
  refine qv 25 (vi ((j : Int) + 16)) <| qv 26 (vi (((j : Int) + 16) - 15)) ?_ (hr := fun _ H' => (Z0A (z := ((j : Int) + 16) - 15) kr (IntWalk.i64_in _ om)))
  refine qv 27 (.pointer (some ⟨b7, 0 + (((j : Int) + 16) - 15).toNat * 1, none⟩)) ?_ (hr := fun _ H' => (ZT (E := 198) (N := 64) kr kr kn rfl rfl om om))
  let A2 : Value := .int .u32 (B.getD ((j + 16) - 15) 0)
  refine qv 28 A2 ?_ (hr := fun _ H' => (zl1 (ZM (H'.at 2 rfl) (show ((j + 16) - 15) < 64 by omega) (show 0 + (((j : Int) + 16) - 15).toNat * 1 = ((j + 16) - 15) by omega))))
  refine qv 29 (vi ((j : Int) + 16)) <| qv 30 (vi (((j : Int) + 16) - 2)) ?_ (hr := fun _ H' => (Z0A (z := ((j : Int) + 16) - 2) kr (IntWalk.i64_in _ om)))
  refine qv 31 (.pointer (some ⟨b7, 0 + (((j : Int) + 16) - 2).toNat * 1, none⟩)) ?_ (hr := fun _ H' => (ZT (E := 198) (N := 64) kr kr kn rfl rfl om om))
  let A3 : Value := .int .u32 (B.getD ((j + 16) - 2) 0)
  refine qv 32 A3 ?_ (hr := fun _ H' => (zl1 (ZM (H'.at 2 rfl) (show ((j + 16) - 2) < 64 by omega) (show 0 + (((j : Int) + 16) - 2).toNat * 1 = ((j + 16) - 2) by omega))))
  refine qv 6 A2 <| qv 7 A3 <| Z01 fun w36 H37 => ?_
  refine ztn <| zsl <| wv 33 A2 <| zy <| zdq 34 (Z3y w36 (B.getD ((j + 16) - 15) 0) (-7) 7 (by decide) (by decide)) H37 fun w39 H40 => ?_
  refine kk <| wv 35 A2 <| zy <| zdq 36 (Z3y w39 (B.getD ((j + 16) - 15) 0) (-18) 18 (by decide) (by decide)) H40 fun w43 H44 => ?_
  refine kk <| wv 37 (.int .u32 (Z03 .u32 (Z0b (B.getD ((j + 16) - 15) 0) 7) (Z0b (B.getD ((j + 16) - 15) 0) 18))) <| wv 38 A2 <| wv 39 (.int .u32 ((B.getD ((j + 16) - 15) 0) / 8)) ?_ (hr := Z5b rfl rfl (by decide) (by decide) (by decide))
  let A1 : Value := .int .u32 (Z03 .u32 (Z03 .u32 (Z0b (B.getD ((j + 16) - 15) 0) 7) (Z0b (B.getD ((j + 16) - 15) 0) 18)) ((B.getD ((j + 16) - 15) 0) / 8))
  refine wv 40 A1 <| wv 8 A1 <| Z1a <| wv 41 A3 <| zy <| Z10 (d := 42) rfl kr (Z3y w43 (B.getD ((j + 16) - 2) 0) (-17) 17 (by decide) (by decide)) ?_
  rintro _ w47 ⟨rfl, u49⟩
  have H48 := H44.keepU u49
  refine ⟨_, rfl, ?_⟩
  refine kk <| wv 43 A3 <| zy <| zdq 44 (Z3y w47 (B.getD ((j + 16) - 2) 0) (-19) 19 (by decide) (by decide)) H48 fun w51 H52 => ?_
  refine kk <| wv 45 (.int .u32 (Z03 .u32 (Z0b (B.getD ((j + 16) - 2) 0) 17) (Z0b (B.getD ((j + 16) - 2) 0) 19))) <| wv 46 A3 <| wv 47 (.int .u32 ((B.getD ((j + 16) - 2) 0) / 1024)) ?_ (hr := Z5b rfl rfl (by decide) (by decide) (by decide))
  let A0 : Value := .int .u32 (Z03 .u32 (Z03 .u32 (Z0b (B.getD ((j + 16) - 2) 0) 17) (Z0b (B.getD ((j + 16) - 2) 0) 19)) ((B.getD ((j + 16) - 2) 0) / 1024))
  refine wv 48 A0 <| wv 9 A0 <| znt <| Z0Z H52 [zR w, ZV .u32 b2 199 64 (List.replicate 64 (0 : Int)), ZV .u32 b7 199 64 B] [15] 16 rfl kr (fun Hx => (Hx.pk [0, 1, 2])) fun w54 H55 S56 => ?_
  refine zkp 0 S56 49 (vi ((j : Int) + 16)) <| zkp 1 S56 50 (vi ((j : Int) + 16)) <| zkp 2 S56 51 (vi (((j : Int) + 16) - 16)) ?_ (he := fun _ => (Z0A (z := ((j : Int) + 16) - 16) kr (IntWalk.i64_in _ om)))
  refine zkp 3 S56 52 (.pointer (some ⟨b7, 0 + (((j : Int) + 16) - 16).toNat * 1, none⟩)) ?_ (he := fun _ => (ZT (E := 198) (N := 64) kr kr kn rfl rfl om om))
  refine zkv 4 S56 53 (.int .u32 (B.getD ((j + 16) - 16) 0)) ?_ (he := fun _ H' => (zl1 (ZM (H'.at 2 rfl) (show ((j + 16) - 16) < 64 by omega) (show 0 + (((j : Int) + 16) - 16).toNat * 1 = ((j + 16) - 16) by omega))))
  refine zkp 5 S56 54 A1 <| zkp 6 S56 55 (.int .u32 (IntKind.u32.wrap ((B.getD ((j + 16) - 16) 0) + (Z03 .u32 (Z03 .u32 (Z0b (B.getD ((j + 16) - 15) 0) 7) (Z0b (B.getD ((j + 16) - 15) 0) 18)) ((B.getD ((j + 16) - 15) 0) / 8))))) <| zkp 7 S56 56 (vi ((j : Int) + 16)) <| zkp 8 S56 57 (vi (((j : Int) + 16) - 7)) ?_ (he := fun _ => (Z0A (z := ((j : Int) + 16) - 7) kr (IntWalk.i64_in _ om)))
  refine zkp 9 S56 58 (.pointer (some ⟨b7, 0 + (((j : Int) + 16) - 7).toNat * 1, none⟩)) ?_ (he := fun _ => (ZT (E := 198) (N := 64) kr kr kn rfl rfl om om))
  refine zkv 10 S56 59 (.int .u32 (B.getD ((j + 16) - 7) 0)) ?_ (he := fun _ H' => (zl1 (ZM (H'.at 2 rfl) (show ((j + 16) - 7) < 64 by omega) (show 0 + (((j : Int) + 16) - 7).toNat * 1 = ((j + 16) - 7) by omega))))
  refine zkp 11 S56 60 (.int .u32 (IntKind.u32.wrap ((IntKind.u32.wrap ((B.getD ((j + 16) - 16) 0) + (Z03 .u32 (Z03 .u32 (Z0b (B.getD ((j + 16) - 15) 0) 7) (Z0b (B.getD ((j + 16) - 15) 0) 18)) ((B.getD ((j + 16) - 15) 0) / 8)))) + (B.getD ((j + 16) - 7) 0)))) <| zkp 12 S56 61 A0 <| zkp 13 S56 62 (.int .u32 (IntKind.u32.wrap ((IntKind.u32.wrap ((IntKind.u32.wrap ((B.getD ((j + 16) - 16) 0) + (Z03 .u32 (Z03 .u32 (Z0b (B.getD ((j + 16) - 15) 0) 7) (Z0b (B.getD ((j + 16) - 15) 0) 18)) ((B.getD ((j + 16) - 15) 0) / 8)))) + (B.getD ((j + 16) - 7) 0))) + (Z03 .u32 (Z03 .u32 (Z0b (B.getD ((j + 16) - 2) 0) 17) (Z0b (B.getD ((j + 16) - 2) 0) 19)) ((B.getD ((j + 16) - 2) 0) / 1024))))) <| zkp 14 S56 63 (.pointer (some ⟨b7, 0 + (((j : Int) + 16)).toNat * 1, none⟩)) ?_ (he := fun _ => (ZT (E := 198) (N := 64) kr kr kn rfl rfl om om))
  refine Z2B 15 (Sat w [zR w, ZV .u32 b2 199 64 (List.replicate 64 (0 : Int))]) rfl kr (Zc rfl) rfl (fun Kq kq => ?_)
  refine Z2w .u32 rfl H55 2 rfl rfl rfl kr (show 0 + (((j : Int) + 16)).toNat * 1 = (j + 16) by omega) (show (j + 16) < 64 by omega) ?_
  intro w58 H59
  have S60 := H59.pk [0, 1]
  refine kq _ _ S60 <| zhf <| Z6 <| ztn <| ZG <| wv 23 (vi ((j : Int) + 16)) <| zwi 24 (((j : Int) + 16) + 1) <| wv 5 (vi (((j : Int) + 16) + 1)) <| ZL <| Za ?_ _ ⟨(j + 1), (B.set (j + 16) (IntKind.u32.wrap ((IntKind.u32.wrap ((IntKind.u32.wrap ((B.getD ((j + 16) - 16) 0) + (Z03 .u32 (Z03 .u32 (Z0b (B.getD ((j + 16) - 15) 0) 7) (Z0b (B.getD ((j + 16) - 15) 0) 18)) ((B.getD ((j + 16) - 15) 0) / 8)))) + (B.getD ((j + 16) - 7) 0))) + (Z03 .u32 (Z03 .u32 (Z0b (B.getD ((j + 16) - 2) 0) 17) (Z0b (B.getD ((j + 16) - 2) 0) 19)) ((B.getD ((j + 16) - 2) 0) / 1024))))), (show ((vi (((j : Int) + 16) + 1)) : Value) = _ by first | rfl | go_num | exact congrArg (Value.int .i64) om), om, (by rw [hB]; rfl), H59, rfl⟩ om
  exact zs
 refine zxb <| ztn <| zsl <| wv 64 (.agg ⟨(B.map (Value.int .u32))⟩) ?_ (hr := Z32 rfl kr kr (by decide) (H30.at 2 rfl))
 refine zy <| Z0u .u32 (B := B) rfl H30 1 rfl rfl rfl kr kr (by decide) (by exact Z12 (H30.at 2 rfl)) fun w64 H65 => ?_
 refine kk <| znt <| Zk ?_
 have hAL_ : B.length = 64 := Z12 (H65.at 1 rfl)
 have H66 : Sat w [zR w, Z0 b2 199 (B.map (Value.int .u32)), ZV .u32 b7 199 64 B] w64 := Sat.offW H65 1 rfl
 refine Z5v rfl (Z02 (vs := (B.map (Value.int .u32))) rfl kr (by rw [List.length_map, hAL_]; kernel_rfl) (by rw [List.length_map, hAL_]; decide) (H66.at 1 rfl) (List.take_length)) ?_
 have hww : B = wOq s := by rw [hB, hA, show j = 48 by omega]; rfl
 exact ⟨by rw [hww], H66.upd 0 rfl [] ne⟩
theorem Z4l (w : World) (v : Value) (s : List UInt8) (hs : ListAt Zx 1 w v s) (hl : 64 ≤ s.length) : Calls Tryz.prog 215 #[v] w fun e w' => e = .returned (.agg ⟨(wOq s).map (Value.int .u32)⟩) ∧ Upd [] w w' := by
 obtain ⟨a, c, rfl⟩ := SliceOf.len hs
 exact ZaW w a c s hs hl
theorem Zep (A : List Int) (j : Nat) : (wEx A j).length = A.length := by
 induction j with
 | zero => rfl
 | succ j ih => simp [wEx, exS, ih]
theorem Zem (s : List UInt8) (i : Nat) : (wLq s i).length = 64 := by
 induction i with
 | zero => rfl
 | succ i ih => simp [wLq, ih]
theorem Z5A (s : List UInt8) : (wOq s).length = 64 := (Zep _ _).trans (Zem s 16)
theorem Zes (w : World) (sa : Option Addr) (sc : Nat) (s : List UInt8) (hs : ListAt Zx 1 w (.slice sa s.length sc) s) (hl : 64 ≤ s.length) (HH : List Int) (hH : HH.length = 8) :
  Calls Tryz.prog 197 #[(.agg ⟨(HH.map (Value.int .u32))⟩), (.agg ⟨(kR.map (Value.int .u32))⟩), (.slice sa s.length sc)] w fun e w' => e = .returned (.agg ⟨(ZcF HH s).map (Value.int .u32)⟩) ∧ Upd [] w w' := by
 have H := Sat.start0 w
 refine Zg Tryz.func197 rfl 118 rfl kn ?_
 refine zsl <| zy <| zdb (HH.map (Value.int .u32)) H ?_
 intro b2 w3 (H4 : Sat w [zR w, Z0 b2 201 (HH.map (Value.int .u32))] w3)
 have H5 : Sat w [zR w, ZV .u32 b2 201 8 HH] w3 := Sat.toW H4 1 .u32 HH kr (by exact hH)
 refine kk <| zy <| zdb (kR.map (Value.int .u32)) H5 ?_
 intro b7 w8 (H9 : Sat w [zR w, ZV .u32 b2 201 8 HH, Z0 b7 199 (kR.map (Value.int .u32))] w8)
 have H10 : Sat w [zR w, ZV .u32 b2 201 8 HH, ZV .u32 b7 199 64 kR] w8 := Sat.toW H9 2 .u32 kR kr (by first | rfl | simp)
 refine kk <| zy <| zda (Z2u) H10 ?_
 intro b12 w13 (H14 : Sat w [zR w, ZV .u32 b2 201 8 HH, ZV .u32 b7 199 64 kR, Z0 b12 201 (Z2u)] w13)
 let A0 := ([0, 0, 0, 0, 0, 0, 0, 0] : List Int)
 have H15 : Sat w [zR w, ZV .u32 b2 201 8 HH, ZV .u32 b7 199 64 kR, ZV .u32 b12 201 8 A0] w13 := Sat.toW H14 3 .u32 A0 kr (by first | rfl | simp)
 refine kk <| znt ?_
 refine Z1J [7, 8, 17, 18, 19] (fun G_ W_ => ∃ (bq7 bq8 : Nat), G_ 7 = (pt bq7 0) ∧ G_ 8 = (pt bq8 0) ∧ Sat w [zR w, ZV .u32 b2 201 8 HH, ZV .u32 b7 199 64 kR, ZV .u32 b12 201 8 A0, ZV .u32 bq7 199 64 (wOq s), ZV .u32 bq8 201 8 HH] W_) ?_ ?_
 ·refine Z0a H15 [zR w, ZV .u32 b2 201 8 HH, ZV .u32 b7 199 64 kR, ZV .u32 b12 201 8 A0] 7 rfl kr (fun Hx => (Hx.pk [0, 1, 2, 3])) ?_
  intro w17 H18 S19
  refine hv0 0 S19 17 (.slice sa s.length sc) <| hv0 2 S19 19 (.agg ⟨(HH.map (Value.int .u32))⟩) ?_ (he := fun _ H' => (Z32 rfl kr kr (by decide) (H'.at 1 rfl)))
  refine h_do3 1 3 4 rfl rfl rfl kr (Zc rfl) (Zc rfl) (Zc rfl) (fun Kq kq => ?_) (fun Kq kq => ?_) (fun Kq kq => ?_)
  ·refine zdq 18 (Z4l w17 (.slice sa s.length sc) s (ListAt.now H18 0 rfl hs) hl) H18 ?_
   intro w21 H22
   have S24 := H22.pk [0, 1, 2, 3]
   refine kq _ _ S24 ?_
   refine Z5X 3 4 rfl rfl kr (Zc rfl) (Zc rfl) (fun Kq kq => ?_) (fun Kq kq => ?_)
   ·refine zda (Z1P) H22 ?_
    intro b26 w27 (H28 : Sat w [zR w, ZV .u32 b2 201 8 HH, ZV .u32 b7 199 64 kR, ZV .u32 b12 201 8 A0, Z0 b26 199 (Z1P)] w27)
    have H29 : Sat w [zR w, ZV .u32 b2 201 8 HH, ZV .u32 b7 199 64 kR, ZV .u32 b12 201 8 A0, ZV .u32 b26 199 64 (List.replicate 64 (0 : Int))] w27 := Sat.toW H28 4 .u32 (List.replicate 64 (0 : Int)) kr (by first | rfl | simp)
    have S30 := H29.pk [0, 1, 2, 3]
    refine kq _ _ S30 <| zhy 4 ?_
    refine zda (Z2u) H29 ?_
    intro b32 w33 (H34 : Sat w [zR w, ZV .u32 b2 201 8 HH, ZV .u32 b7 199 64 kR, ZV .u32 b12 201 8 A0, ZV .u32 b26 199 64 (List.replicate 64 (0 : Int)), Z0 b32 201 (Z2u)] w33)
    have H35 : Sat w [zR w, ZV .u32 b2 201 8 HH, ZV .u32 b7 199 64 kR, ZV .u32 b12 201 8 A0, ZV .u32 b26 199 64 (List.replicate 64 (0 : Int)), ZV .u32 b32 201 8 A0] w33 := Sat.toW H34 5 .u32 A0 kr (by exact Z12 (H34.at 3 rfl))
    have S36 := H35.pk [0, 1, 2, 3]
    refine kh S36 <| zhy 5 ?_
    refine Z0u .u32 (B := (wOq s)) rfl H35 4 rfl rfl rfl kr kr (by decide) (by exact Z5A s) ?_
    intro w38 H39
    have S40 := H39.pk [0, 1, 2, 3]
    refine kh S40 <| zhy 6 ?_
    refine Z0u .u32 (B := HH) rfl H39 5 rfl rfl rfl kr kr (by decide) (by exact hH) ?_
    intro w42 H43
    have S44 := H43.pk [0, 1, 2, 3]
    refine kh S44 <| zhf <| ZH ?_ ⟨b26, b32, rfl, rfl, (H43.pk [0, 1, 2, 3, 4, 5])⟩
    exact zs
   refine zda (Z2u) H22 ?_
   intro b45 w46 (H47 : Sat w [zR w, ZV .u32 b2 201 8 HH, ZV .u32 b7 199 64 kR, ZV .u32 b12 201 8 A0, Z0 b45 201 (Z2u)] w46)
   have H48 : Sat w [zR w, ZV .u32 b2 201 8 HH, ZV .u32 b7 199 64 kR, ZV .u32 b12 201 8 A0, ZV .u32 b45 201 8 A0] w46 := Sat.toW H47 4 .u32 A0 kr (by exact Z12 (H47.at 3 rfl))
   have S49 := H48.pk [0, 1, 2, 3]
   refine kq _ _ S49 <| zhy 3 ?_
   refine zda (Z1P) H48 ?_
   intro b51 w52 (H53 : Sat w [zR w, ZV .u32 b2 201 8 HH, ZV .u32 b7 199 64 kR, ZV .u32 b12 201 8 A0, ZV .u32 b45 201 8 A0, Z0 b51 199 (Z1P)] w52)
   have H54 : Sat w [zR w, ZV .u32 b2 201 8 HH, ZV .u32 b7 199 64 kR, ZV .u32 b12 201 8 A0, ZV .u32 b45 201 8 A0, ZV .u32 b51 199 64 (List.replicate 64 (0 : Int))] w52 := Sat.toW H53 5 .u32 (List.replicate 64 (0 : Int)) kr (by first | rfl | simp)
   have S55 := H54.pk [0, 1, 2, 3]
   refine kh S55 <| zhy 5 ?_
   refine Z0u .u32 (B := (wOq s)) rfl H54 5 rfl rfl rfl kr kr (by decide) (by exact Z5A s) ?_
   intro w57 H58
   have S59 := H58.pk [0, 1, 2, 3]
   refine kh S59 <| zhd0 6 fun Kq kq => ?_
   refine Z0u .u32 (B := HH) rfl H58 4 rfl rfl rfl kr kr (by decide) (by exact hH) ?_
   intro w61 H62
   have S63 := H62.pk [0, 1, 2, 3]
   refine kq _ _ S63 <| zhf <| ZH ?_ ⟨b51, b45, rfl, rfl, (H62.pk [0, 1, 2, 3, 5, 4])⟩
   exact zs
  ·refine zda (Z1P) H18 ?_
   intro b64 w65 (H66 : Sat w [zR w, ZV .u32 b2 201 8 HH, ZV .u32 b7 199 64 kR, ZV .u32 b12 201 8 A0, Z0 b64 199 (Z1P)] w65)
   have H67 : Sat w [zR w, ZV .u32 b2 201 8 HH, ZV .u32 b7 199 64 kR, ZV .u32 b12 201 8 A0, ZV .u32 b64 199 64 (List.replicate 64 (0 : Int))] w65 := Sat.toW H66 4 .u32 (List.replicate 64 (0 : Int)) kr (by first | rfl | simp)
   have S68 := H67.pk [0, 1, 2, 3]
   refine kq _ _ S68 ?_
   refine Z5X 1 4 rfl rfl kr (Zc rfl) (Zc rfl) (fun Kq kq => ?_) (fun Kq kq => ?_)
   ·refine zdq 18 (Z4l w65 (.slice sa s.length sc) s (ListAt.now H67 0 rfl hs) hl) H67 ?_
    intro w70 H71
    have S73 := H71.pk [0, 1, 2, 3]
    refine kq _ _ S73 <| zhy 4 ?_
    refine zda (Z2u) H71 ?_
    intro b75 w76 (H77 : Sat w [zR w, ZV .u32 b2 201 8 HH, ZV .u32 b7 199 64 kR, ZV .u32 b12 201 8 A0, ZV .u32 b64 199 64 (List.replicate 64 (0 : Int)), Z0 b75 201 (Z2u)] w76)
    have H78 : Sat w [zR w, ZV .u32 b2 201 8 HH, ZV .u32 b7 199 64 kR, ZV .u32 b12 201 8 A0, ZV .u32 b64 199 64 (List.replicate 64 (0 : Int)), ZV .u32 b75 201 8 A0] w76 := Sat.toW H77 5 .u32 A0 kr (by exact Z12 (H77.at 3 rfl))
    have S79 := H78.pk [0, 1, 2, 3]
    refine kh S79 <| zhy 5 ?_
    refine Z0u .u32 (B := (wOq s)) rfl H78 4 rfl rfl rfl kr kr (by decide) (by exact Z5A s) ?_
    intro w81 H82
    have S83 := H82.pk [0, 1, 2, 3]
    refine kh S83 <| zhy 6 ?_
    refine Z0u .u32 (B := HH) rfl H82 5 rfl rfl rfl kr kr (by decide) (by exact hH) ?_
    intro w85 H86
    have S87 := H86.pk [0, 1, 2, 3]
    refine kh S87 <| zhf <| ZH ?_ ⟨b64, b75, rfl, rfl, (H86.pk [0, 1, 2, 3, 4, 5])⟩
    exact zs
   refine zda (Z2u) H67 ?_
   intro b88 w89 (H90 : Sat w [zR w, ZV .u32 b2 201 8 HH, ZV .u32 b7 199 64 kR, ZV .u32 b12 201 8 A0, ZV .u32 b64 199 64 (List.replicate 64 (0 : Int)), Z0 b88 201 (Z2u)] w89)
   have H91 : Sat w [zR w, ZV .u32 b2 201 8 HH, ZV .u32 b7 199 64 kR, ZV .u32 b12 201 8 A0, ZV .u32 b64 199 64 (List.replicate 64 (0 : Int)), ZV .u32 b88 201 8 A0] w89 := Sat.toW H90 5 .u32 A0 kr (by exact Z12 (H90.at 3 rfl))
   have S92 := H91.pk [0, 1, 2, 3]
   refine kq _ _ S92 <| zhy 1 ?_
   refine Z10 (d := 18) rfl kr (Z4l w89 (.slice sa s.length sc) s (ListAt.now H91 0 rfl hs) hl) ?_
   rintro _ w94 ⟨rfl, u96⟩
   have H95 := H91.keepU u96
   refine ⟨_, rfl, ?_⟩
   have S97 := H95.pk [0, 1, 2, 3]
   refine kh S97 <| zhy 5 ?_
   refine Z0u .u32 (B := (wOq s)) rfl H95 4 rfl rfl rfl kr kr (by decide) (by exact Z5A s) ?_
   intro w99 H100
   have S101 := H100.pk [0, 1, 2, 3]
   refine kh S101 <| zhy 6 ?_
   refine Z0u .u32 (B := HH) rfl H100 5 rfl rfl rfl kr kr (by decide) (by exact hH) ?_
   intro w103 H104
   have S105 := H104.pk [0, 1, 2, 3]
   refine kh S105 <| zhf <| ZH ?_ ⟨b64, b88, rfl, rfl, (H104.pk [0, 1, 2, 3, 4, 5])⟩
   exact zs
  refine zda (Z2u) H18 ?_
  intro b106 w107 (H108 : Sat w [zR w, ZV .u32 b2 201 8 HH, ZV .u32 b7 199 64 kR, ZV .u32 b12 201 8 A0, Z0 b106 201 (Z2u)] w107)
  have H109 : Sat w [zR w, ZV .u32 b2 201 8 HH, ZV .u32 b7 199 64 kR, ZV .u32 b12 201 8 A0, ZV .u32 b106 201 8 A0] w107 := Sat.toW H108 4 .u32 A0 kr (by exact Z12 (H108.at 3 rfl))
  have S110 := H109.pk [0, 1, 2, 3]
  refine kq _ _ S110 ?_
  refine Z5X 1 3 rfl rfl kr (Zc rfl) (Zc rfl) (fun Kq kq => ?_) (fun Kq kq => ?_)
  ·refine zdq 18 (Z4l w107 (.slice sa s.length sc) s (ListAt.now H109 0 rfl hs) hl) H109 ?_
   intro w112 H113
   have S115 := H113.pk [0, 1, 2, 3]
   refine kq _ _ S115 <| zhy 3 ?_
   refine zda (Z1P) H113 ?_
   intro b117 w118 (H119 : Sat w [zR w, ZV .u32 b2 201 8 HH, ZV .u32 b7 199 64 kR, ZV .u32 b12 201 8 A0, ZV .u32 b106 201 8 A0, Z0 b117 199 (Z1P)] w118)
   have H120 : Sat w [zR w, ZV .u32 b2 201 8 HH, ZV .u32 b7 199 64 kR, ZV .u32 b12 201 8 A0, ZV .u32 b106 201 8 A0, ZV .u32 b117 199 64 (List.replicate 64 (0 : Int))] w118 := Sat.toW H119 5 .u32 (List.replicate 64 (0 : Int)) kr (by first | rfl | simp)
   have S121 := H120.pk [0, 1, 2, 3]
   refine kh S121 <| zhy 5 ?_
   refine Z0u .u32 (B := (wOq s)) rfl H120 5 rfl rfl rfl kr kr (by decide) (by exact Z5A s) ?_
   intro w123 H124
   have S125 := H124.pk [0, 1, 2, 3]
   refine kh S125 <| zhy 6 ?_
   refine Z0u .u32 (B := HH) rfl H124 4 rfl rfl rfl kr kr (by decide) (by exact hH) ?_
   intro w127 H128
   have S129 := H128.pk [0, 1, 2, 3]
   refine kh S129 <| zhf <| ZH ?_ ⟨b117, b106, rfl, rfl, (H128.pk [0, 1, 2, 3, 5, 4])⟩
   exact zs
  refine zda (Z1P) H109 ?_
  intro b130 w131 (H132 : Sat w [zR w, ZV .u32 b2 201 8 HH, ZV .u32 b7 199 64 kR, ZV .u32 b12 201 8 A0, ZV .u32 b106 201 8 A0, Z0 b130 199 (Z1P)] w131)
  have H133 : Sat w [zR w, ZV .u32 b2 201 8 HH, ZV .u32 b7 199 64 kR, ZV .u32 b12 201 8 A0, ZV .u32 b106 201 8 A0, ZV .u32 b130 199 64 (List.replicate 64 (0 : Int))] w131 := Sat.toW H132 5 .u32 (List.replicate 64 (0 : Int)) kr (by first | rfl | simp)
  have S134 := H133.pk [0, 1, 2, 3]
  refine kq _ _ S134 <| zhy 1 ?_
  refine zdq 18 (Z4l w131 (.slice sa s.length sc) s (ListAt.now H133 0 rfl hs) hl) H133 ?_
  intro w136 H137
  have S139 := H137.pk [0, 1, 2, 3]
  refine kh S139 <| zhy 5 ?_
  refine Z0u .u32 (B := (wOq s)) rfl H137 5 rfl rfl rfl kr kr (by decide) (by exact Z5A s) ?_
  intro w141 H142
  have S143 := H142.pk [0, 1, 2, 3]
  refine kh S143 <| zhy 6 ?_
  refine Z0u .u32 (B := HH) rfl H142 4 rfl rfl rfl kr kr (by decide) (by exact hH) ?_
  intro w145 H146
  have S147 := H146.pk [0, 1, 2, 3]
  refine kh S147 <| zhf <| ZH ?_ ⟨b130, b106, rfl, rfl, (H146.pk [0, 1, 2, 3, 5, 4])⟩
  exact zs
 rintro f148 w149 ⟨bq7, bq8, v151, v152, H150⟩
 refine Zn 7 _ v151 ?_
 refine Zn 8 _ v152 ?_
 refine Z9 <| zsl <| wv 20 (vi 0) <| znt <| Zh <| ZB ([9, 10, 11, 12, 13, 14, 15] ++ List.range' 20 84) (fun F_ W_ m_ => ∃ (i : Nat) (V : List Int), F_ 20 = (vi i) ∧ (i ≤ 64) ∧ (V = vRu (wOq s) HH i) ∧ Sat w [zR w, ZV .u32 b2 201 8 HH, ZV .u32 b7 199 64 kR, ZV .u32 b12 201 8 A0, ZV .u32 bq7 199 64 (wOq s), ZV .u32 bq8 201 8 V] W_ ∧ m_ = 64 - i) _ ⟨0, HH, (show ((vi 0) : Value) = _ by first | rfl | go_num), (Nat.zero_le _), rfl, H150, rfl⟩ ?_
 rintro g153 w154 _ ⟨i, V, v156, hi, hV, H155, rfl⟩
 refine Zn 20 _ v156 ?_
 refine zsl <| wv 21 (.bool (decide ((i : Int) < 64))) <| znt <| Z9 ?_
 refine zid (fun b158 g159 => ?_) fun b158 g192 => ?_
 ·refine Zp <| ztn <| Z9 <| Zh <| zsl <| wv 22 (vi i) <| wv 9 (vi i) <| znt <| Z9 <| zqs H155 ?_
  refine qv 23 (pt bq8 4) <| qv 24 (.int .u32 (V.getD 4 0)) ?_ (hr := fun _ H' => (zl1 (ZM (H'.at 5 rfl) (show 4 < 8 by omega) (show 4 = 4 by omega))))
  refine qv 25 (pt bq8 0) <| qv 26 (.int .u32 (V.getD 0 0)) ?_ (hr := fun _ H' => (zl1 (ZM (H'.at 5 rfl) (show 0 < 8 by omega) (show 0 = 0 by omega))))
  refine qv 10 (.int .u32 (V.getD 4 0)) <| qv 11 (.int .u32 (V.getD 0 0)) <| Z01 fun w161 H162 => ?_
  refine ztn <| zsl <| wv 27 (.int .u32 (V.getD 4 0)) <| zy <| zdq 28 (Z3y w161 (V.getD 4 0) (-6) 6 (by decide) (by decide)) H162 fun w164 H165 => ?_
  refine kk <| wv 29 (.int .u32 (V.getD 4 0)) <| zy <| zdq 30 (Z3y w164 (V.getD 4 0) (-11) 11 (by decide) (by decide)) H165 fun w168 H169 => ?_
  refine kk <| wv 31 (.int .u32 (Z03 .u32 (Z0b (V.getD 4 0) 6) (Z0b (V.getD 4 0) 11))) <| wv 32 (.int .u32 (V.getD 4 0)) <| zy <| zdq 33 (Z3y w168 (V.getD 4 0) (-25) 25 (by decide) (by decide)) H169 fun w172 H173 => ?_
  let A2 : Value := .int .u32 (Z03 .u32 (Z03 .u32 (Z0b (V.getD 4 0) 6) (Z0b (V.getD 4 0) 11)) (Z0b (V.getD 4 0) 25))
  refine kk <| wv 34 A2 <| wv 12 A2 <| znt <| Z9 <| zqs H173 ?_
  refine qv 35 (pt bq8 7) <| qv 36 (.int .u32 (V.getD 7 0)) ?_ (hr := fun _ H' => (zl1 (ZM (H'.at 5 rfl) (show 7 < 8 by omega) (show 7 = 7 by omega))))
  refine qv 37 A2 <| qv 38 (.int .u32 (IntKind.u32.wrap ((V.getD 7 0) + (Z03 .u32 (Z03 .u32 (Z0b (V.getD 4 0) 6) (Z0b (V.getD 4 0) 11)) (Z0b (V.getD 4 0) 25))))) <| qv 39 (.int .u32 (V.getD 4 0)) <| qv 40 (pt bq8 5) <| qv 41 (.int .u32 (V.getD 5 0)) ?_ (hr := fun _ H' => (zl1 (ZM (H'.at 5 rfl) (show 5 < 8 by omega) (show 5 = 5 by omega))))
  refine qv 42 (.int .u32 (Z0P .u32 (V.getD 4 0) (V.getD 5 0))) <| qv 43 (.int .u32 (V.getD 4 0)) <| qv 44 (.int .u32 (Z03 .u32 4294967295 (V.getD 4 0))) <| qv 45 (pt bq8 6) <| qv 46 (.int .u32 (V.getD 6 0)) ?_ (hr := fun _ H' => (zl1 (ZM (H'.at 5 rfl) (show 6 < 8 by omega) (show 6 = 6 by omega))))
  refine qv 47 (.int .u32 (Z0P .u32 (Z03 .u32 4294967295 (V.getD 4 0)) (V.getD 6 0))) <| qv 48 (.int .u32 (Z03 .u32 (Z0P .u32 (V.getD 4 0) (V.getD 5 0)) (Z0P .u32 (Z03 .u32 4294967295 (V.getD 4 0)) (V.getD 6 0)))) <| qv 49 (.int .u32 (IntKind.u32.wrap ((IntKind.u32.wrap ((V.getD 7 0) + (Z03 .u32 (Z03 .u32 (Z0b (V.getD 4 0) 6) (Z0b (V.getD 4 0) 11)) (Z0b (V.getD 4 0) 25)))) + (Z03 .u32 (Z0P .u32 (V.getD 4 0) (V.getD 5 0)) (Z0P .u32 (Z03 .u32 4294967295 (V.getD 4 0)) (V.getD 6 0)))))) <| qv 50 (vi i) <| qv 51 (.pointer (some ⟨b7, 0 + ((i : Int)).toNat * 1, none⟩)) ?_ (hr := fun _ H' => (ZT (E := 198) (N := 64) kr kr kn rfl rfl om om))
  refine qv 52 (.int .u32 (kR.getD i 0)) ?_ (hr := fun _ H' => (zl1 (ZM (H'.at 2 rfl) (show i < 64 by omega) (show 0 + ((i : Int)).toNat * 1 = i by omega))))
  refine qv 53 (.int .u32 (IntKind.u32.wrap ((IntKind.u32.wrap ((IntKind.u32.wrap ((V.getD 7 0) + (Z03 .u32 (Z03 .u32 (Z0b (V.getD 4 0) 6) (Z0b (V.getD 4 0) 11)) (Z0b (V.getD 4 0) 25)))) + (Z03 .u32 (Z0P .u32 (V.getD 4 0) (V.getD 5 0)) (Z0P .u32 (Z03 .u32 4294967295 (V.getD 4 0)) (V.getD 6 0))))) + (kR.getD i 0)))) <| qv 54 (vi i) <| qv 55 (.pointer (some ⟨bq7, 0 + ((i : Int)).toNat * 1, none⟩)) ?_ (hr := fun _ H' => (ZT (E := 198) (N := 64) kr kr kn rfl rfl om om))
  refine qv 56 (.int .u32 ((wOq s).getD i 0)) ?_ (hr := fun _ H' => (zl1 (ZM (H'.at 4 rfl) (show i < 64 by omega) (show 0 + ((i : Int)).toNat * 1 = i by omega))))
  refine qv 57 (.int .u32 (IntKind.u32.wrap ((IntKind.u32.wrap ((IntKind.u32.wrap ((IntKind.u32.wrap ((V.getD 7 0) + (Z03 .u32 (Z03 .u32 (Z0b (V.getD 4 0) 6) (Z0b (V.getD 4 0) 11)) (Z0b (V.getD 4 0) 25)))) + (Z03 .u32 (Z0P .u32 (V.getD 4 0) (V.getD 5 0)) (Z0P .u32 (Z03 .u32 4294967295 (V.getD 4 0)) (V.getD 6 0))))) + (kR.getD i 0))) + ((wOq s).getD i 0)))) <| qv 13 (.int .u32 (IntKind.u32.wrap ((IntKind.u32.wrap ((IntKind.u32.wrap ((IntKind.u32.wrap ((V.getD 7 0) + (Z03 .u32 (Z03 .u32 (Z0b (V.getD 4 0) 6) (Z0b (V.getD 4 0) 11)) (Z0b (V.getD 4 0) 25)))) + (Z03 .u32 (Z0P .u32 (V.getD 4 0) (V.getD 5 0)) (Z0P .u32 (Z03 .u32 4294967295 (V.getD 4 0)) (V.getD 6 0))))) + (kR.getD i 0))) + ((wOq s).getD i 0)))) <| Z01 fun w175 H176 => ?_
  refine ztn <| zsl <| wv 58 (.int .u32 (V.getD 0 0)) <| zy <| zdq 59 (Z3y w175 (V.getD 0 0) (-2) 2 (by decide) (by decide)) H176 fun w178 H179 => ?_
  refine kk <| wv 60 (.int .u32 (V.getD 0 0)) <| zy <| zdq 61 (Z3y w178 (V.getD 0 0) (-13) 13 (by decide) (by decide)) H179 fun w182 H183 => ?_
  refine kk <| wv 62 (.int .u32 (Z03 .u32 (Z0b (V.getD 0 0) 2) (Z0b (V.getD 0 0) 13))) <| wv 63 (.int .u32 (V.getD 0 0)) <| zy <| zdq 64 (Z3y w182 (V.getD 0 0) (-22) 22 (by decide) (by decide)) H183 fun w186 H187 => ?_
  refine kk <| wv 65 (.int .u32 (Z03 .u32 (Z03 .u32 (Z0b (V.getD 0 0) 2) (Z0b (V.getD 0 0) 13)) (Z0b (V.getD 0 0) 22))) <| wv 14 (.int .u32 (Z03 .u32 (Z03 .u32 (Z0b (V.getD 0 0) 2) (Z0b (V.getD 0 0) 13)) (Z0b (V.getD 0 0) 22))) <| Z1a <| wv 66 (.int .u32 (Z03 .u32 (Z03 .u32 (Z0b (V.getD 0 0) 2) (Z0b (V.getD 0 0) 13)) (Z0b (V.getD 0 0) 22))) <| wv 67 (.int .u32 (V.getD 0 0)) <| wv 68 (pt bq8 1) <| zw1 69 (.int .u32 (V.getD 1 0)) (ZM (H187.at 5 rfl) (show 1 < 8 by omega) (show 1 = 1 by omega)) <| wv 70 (.int .u32 (Z0P .u32 (V.getD 0 0) (V.getD 1 0))) <| wv 71 (.int .u32 (V.getD 0 0)) ?_
  refine wv 72 (pt bq8 2) <| zw1 73 (.int .u32 (V.getD 2 0)) (ZM (H187.at 5 rfl) (show 2 < 8 by omega) (show 2 = 2 by omega)) <| wv 74 (.int .u32 (Z0P .u32 (V.getD 0 0) (V.getD 2 0))) <| wv 75 (.int .u32 (Z03 .u32 (Z0P .u32 (V.getD 0 0) (V.getD 1 0)) (Z0P .u32 (V.getD 0 0) (V.getD 2 0)))) <| wv 76 (pt bq8 1) <| zw1 77 (.int .u32 (V.getD 1 0)) (ZM (H187.at 5 rfl) (show 1 < 8 by omega) (show 1 = 1 by omega)) <| wv 78 (pt bq8 2) <| zw1 79 (.int .u32 (V.getD 2 0)) (ZM (H187.at 5 rfl) (show 2 < 8 by omega) (show 2 = 2 by omega)) <| wv 80 (.int .u32 (Z0P .u32 (V.getD 1 0) (V.getD 2 0))) <| wv 81 (.int .u32 (Z03 .u32 (Z03 .u32 (Z0P .u32 (V.getD 0 0) (V.getD 1 0)) (Z0P .u32 (V.getD 0 0) (V.getD 2 0))) (Z0P .u32 (V.getD 1 0) (V.getD 2 0)))) ?_
  let A1 : Value := .int .u32 (IntKind.u32.wrap ((Z03 .u32 (Z03 .u32 (Z0b (V.getD 0 0) 2) (Z0b (V.getD 0 0) 13)) (Z0b (V.getD 0 0) 22)) + (Z03 .u32 (Z03 .u32 (Z0P .u32 (V.getD 0 0) (V.getD 1 0)) (Z0P .u32 (V.getD 0 0) (V.getD 2 0))) (Z0P .u32 (V.getD 1 0) (V.getD 2 0)))))
  refine wv 82 A1 <| wv 15 A1 <| znt <| ZG <| wv 83 (.int .u32 (IntKind.u32.wrap ((IntKind.u32.wrap ((IntKind.u32.wrap ((IntKind.u32.wrap ((V.getD 7 0) + (Z03 .u32 (Z03 .u32 (Z0b (V.getD 4 0) 6) (Z0b (V.getD 4 0) 11)) (Z0b (V.getD 4 0) 25)))) + (Z03 .u32 (Z0P .u32 (V.getD 4 0) (V.getD 5 0)) (Z0P .u32 (Z03 .u32 4294967295 (V.getD 4 0)) (V.getD 6 0))))) + (kR.getD i 0))) + ((wOq s).getD i 0)))) <| wv 84 A1 <| wv 85 (.int .u32 (IntKind.u32.wrap ((IntKind.u32.wrap ((IntKind.u32.wrap ((IntKind.u32.wrap ((IntKind.u32.wrap ((V.getD 7 0) + (Z03 .u32 (Z03 .u32 (Z0b (V.getD 4 0) 6) (Z0b (V.getD 4 0) 11)) (Z0b (V.getD 4 0) 25)))) + (Z03 .u32 (Z0P .u32 (V.getD 4 0) (V.getD 5 0)) (Z0P .u32 (Z03 .u32 4294967295 (V.getD 4 0)) (V.getD 6 0))))) + (kR.getD i 0))) + ((wOq s).getD i 0))) + (IntKind.u32.wrap ((Z03 .u32 (Z03 .u32 (Z0b (V.getD 0 0) 2) (Z0b (V.getD 0 0) 13)) (Z0b (V.getD 0 0) 22)) + (Z03 .u32 (Z03 .u32 (Z0P .u32 (V.getD 0 0) (V.getD 1 0)) (Z0P .u32 (V.getD 0 0) (V.getD 2 0))) (Z0P .u32 (V.getD 1 0) (V.getD 2 0)))))))) <| wv 86 (pt bq8 0) <| zw1 87 (.int .u32 (V.getD 0 0)) (ZM (H187.at 5 rfl) (show 0 < 8 by omega) (show 0 = 0 by omega)) <| wv 88 (pt bq8 1) ?_
  refine zw1 89 (.int .u32 (V.getD 1 0)) (ZM (H187.at 5 rfl) (show 1 < 8 by omega) (show 1 = 1 by omega)) <| wv 90 (pt bq8 2) <| zw1 91 (.int .u32 (V.getD 2 0)) (ZM (H187.at 5 rfl) (show 2 < 8 by omega) (show 2 = 2 by omega)) <| wv 92 (pt bq8 3) <| zw1 93 (.int .u32 (V.getD 3 0)) (ZM (H187.at 5 rfl) (show 3 < 8 by omega) (show 3 = 3 by omega)) <| wv 94 (.int .u32 (IntKind.u32.wrap ((IntKind.u32.wrap ((IntKind.u32.wrap ((IntKind.u32.wrap ((V.getD 7 0) + (Z03 .u32 (Z03 .u32 (Z0b (V.getD 4 0) 6) (Z0b (V.getD 4 0) 11)) (Z0b (V.getD 4 0) 25)))) + (Z03 .u32 (Z0P .u32 (V.getD 4 0) (V.getD 5 0)) (Z0P .u32 (Z03 .u32 4294967295 (V.getD 4 0)) (V.getD 6 0))))) + (kR.getD i 0))) + ((wOq s).getD i 0)))) <| wv 95 (.int .u32 (IntKind.u32.wrap ((V.getD 3 0) + (IntKind.u32.wrap ((IntKind.u32.wrap ((IntKind.u32.wrap ((IntKind.u32.wrap ((V.getD 7 0) + (Z03 .u32 (Z03 .u32 (Z0b (V.getD 4 0) 6) (Z0b (V.getD 4 0) 11)) (Z0b (V.getD 4 0) 25)))) + (Z03 .u32 (Z0P .u32 (V.getD 4 0) (V.getD 5 0)) (Z0P .u32 (Z03 .u32 4294967295 (V.getD 4 0)) (V.getD 6 0))))) + (kR.getD i 0))) + ((wOq s).getD i 0)))))) <| wv 96 (pt bq8 4) <| zw1 97 (.int .u32 (V.getD 4 0)) (ZM (H187.at 5 rfl) (show 4 < 8 by omega) (show 4 = 4 by omega)) <| wv 98 (pt bq8 5) ?_
  refine zw1 99 (.int .u32 (V.getD 5 0)) (ZM (H187.at 5 rfl) (show 5 < 8 by omega) (show 5 = 5 by omega)) <| wv 100 (pt bq8 6) <| zw1 101 (.int .u32 (V.getD 6 0)) (ZM (H187.at 5 rfl) (show 6 < 8 by omega) (show 6 = 6 by omega)) <| wv 102 (.agg ⟨([(.int .u32 (IntKind.u32.wrap ((IntKind.u32.wrap ((IntKind.u32.wrap ((IntKind.u32.wrap ((IntKind.u32.wrap ((V.getD 7 0) + (Z03 .u32 (Z03 .u32 (Z0b (V.getD 4 0) 6) (Z0b (V.getD 4 0) 11)) (Z0b (V.getD 4 0) 25)))) + (Z03 .u32 (Z0P .u32 (V.getD 4 0) (V.getD 5 0)) (Z0P .u32 (Z03 .u32 4294967295 (V.getD 4 0)) (V.getD 6 0))))) + (kR.getD i 0))) + ((wOq s).getD i 0))) + (IntKind.u32.wrap ((Z03 .u32 (Z03 .u32 (Z0b (V.getD 0 0) 2) (Z0b (V.getD 0 0) 13)) (Z0b (V.getD 0 0) 22)) + (Z03 .u32 (Z03 .u32 (Z0P .u32 (V.getD 0 0) (V.getD 1 0)) (Z0P .u32 (V.getD 0 0) (V.getD 2 0))) (Z0P .u32 (V.getD 1 0) (V.getD 2 0)))))))), (.int .u32 (V.getD 0 0)), (.int .u32 (V.getD 1 0)), (.int .u32 (V.getD 2 0)), (.int .u32 (IntKind.u32.wrap ((V.getD 3 0) + (IntKind.u32.wrap ((IntKind.u32.wrap ((IntKind.u32.wrap ((IntKind.u32.wrap ((V.getD 7 0) + (Z03 .u32 (Z03 .u32 (Z0b (V.getD 4 0) 6) (Z0b (V.getD 4 0) 11)) (Z0b (V.getD 4 0) 25)))) + (Z03 .u32 (Z0P .u32 (V.getD 4 0) (V.getD 5 0)) (Z0P .u32 (Z03 .u32 4294967295 (V.getD 4 0)) (V.getD 6 0))))) + (kR.getD i 0))) + ((wOq s).getD i 0)))))), (.int .u32 (V.getD 4 0)), (.int .u32 (V.getD 5 0)), (.int .u32 (V.getD 6 0))] : LV)⟩) <| zy <| Z0u .u32 (B := ([IntKind.u32.wrap ((IntKind.u32.wrap ((IntKind.u32.wrap ((IntKind.u32.wrap ((IntKind.u32.wrap ((V.getD 7 0) + (Z03 .u32 (Z03 .u32 (Z0b (V.getD 4 0) 6) (Z0b (V.getD 4 0) 11)) (Z0b (V.getD 4 0) 25)))) + (Z03 .u32 (Z0P .u32 (V.getD 4 0) (V.getD 5 0)) (Z0P .u32 (Z03 .u32 4294967295 (V.getD 4 0)) (V.getD 6 0))))) + (kR.getD i 0))) + ((wOq s).getD i 0))) + (IntKind.u32.wrap ((Z03 .u32 (Z03 .u32 (Z0b (V.getD 0 0) 2) (Z0b (V.getD 0 0) 13)) (Z0b (V.getD 0 0) 22)) + (Z03 .u32 (Z03 .u32 (Z0P .u32 (V.getD 0 0) (V.getD 1 0)) (Z0P .u32 (V.getD 0 0) (V.getD 2 0))) (Z0P .u32 (V.getD 1 0) (V.getD 2 0)))))), V.getD 0 0, V.getD 1 0, V.getD 2 0, IntKind.u32.wrap ((V.getD 3 0) + (IntKind.u32.wrap ((IntKind.u32.wrap ((IntKind.u32.wrap ((IntKind.u32.wrap ((V.getD 7 0) + (Z03 .u32 (Z03 .u32 (Z0b (V.getD 4 0) 6) (Z0b (V.getD 4 0) 11)) (Z0b (V.getD 4 0) 25)))) + (Z03 .u32 (Z0P .u32 (V.getD 4 0) (V.getD 5 0)) (Z0P .u32 (Z03 .u32 4294967295 (V.getD 4 0)) (V.getD 6 0))))) + (kR.getD i 0))) + ((wOq s).getD i 0)))), V.getD 4 0, V.getD 5 0, V.getD 6 0] : List Int)) rfl H187 5 rfl rfl rfl kr kr (by decide) (by first | rfl | simp) fun w190 H191 => ?_
  refine kk <| ZL <| Z6 <| ztn <| ZG <| zwi 103 ((i : Int) + 1) <| wv 20 (vi ((i : Int) + 1)) <| ZL <| Za ?_ _ ⟨(i + 1), ([IntKind.u32.wrap ((IntKind.u32.wrap ((IntKind.u32.wrap ((IntKind.u32.wrap ((IntKind.u32.wrap ((V.getD 7 0) + (Z03 .u32 (Z03 .u32 (Z0b (V.getD 4 0) 6) (Z0b (V.getD 4 0) 11)) (Z0b (V.getD 4 0) 25)))) + (Z03 .u32 (Z0P .u32 (V.getD 4 0) (V.getD 5 0)) (Z0P .u32 (Z03 .u32 4294967295 (V.getD 4 0)) (V.getD 6 0))))) + (kR.getD i 0))) + ((wOq s).getD i 0))) + (IntKind.u32.wrap ((Z03 .u32 (Z03 .u32 (Z0b (V.getD 0 0) 2) (Z0b (V.getD 0 0) 13)) (Z0b (V.getD 0 0) 22)) + (Z03 .u32 (Z03 .u32 (Z0P .u32 (V.getD 0 0) (V.getD 1 0)) (Z0P .u32 (V.getD 0 0) (V.getD 2 0))) (Z0P .u32 (V.getD 1 0) (V.getD 2 0)))))), V.getD 0 0, V.getD 1 0, V.getD 2 0, IntKind.u32.wrap ((V.getD 3 0) + (IntKind.u32.wrap ((IntKind.u32.wrap ((IntKind.u32.wrap ((IntKind.u32.wrap ((V.getD 7 0) + (Z03 .u32 (Z03 .u32 (Z0b (V.getD 4 0) 6) (Z0b (V.getD 4 0) 11)) (Z0b (V.getD 4 0) 25)))) + (Z03 .u32 (Z0P .u32 (V.getD 4 0) (V.getD 5 0)) (Z0P .u32 (Z03 .u32 4294967295 (V.getD 4 0)) (V.getD 6 0))))) + (kR.getD i 0))) + ((wOq s).getD i 0)))), V.getD 4 0, V.getD 5 0, V.getD 6 0] : List Int), (show ((vi ((i : Int) + 1)) : Value) = _ by first | rfl | go_num | exact congrArg (Value.int .i64) om), om, (by rw [hV]; rfl), H191, rfl⟩ om
  exact zs
 refine zxb <| ztn <| Z9 <| zsl <| wv 104 (vi 0) <| znt <| Zh ?_
 have hvv : V = vRu (wOq s) HH 64 := by rw [hV, show i = 64 by omega]
 refine ZB ([16] ++ List.range' 104 13) (fun F_ W_ m_ => ∃ (i : Nat) (X : List Int), F_ 104 = (vi i) ∧ (i ≤ 8) ∧ (X = hAd V HH i) ∧ Sat w [zR w, ZV .u32 b2 201 8 X, ZV .u32 b7 199 64 kR, ZV .u32 b12 201 8 A0, ZV .u32 bq7 199 64 (wOq s), ZV .u32 bq8 201 8 V] W_ ∧ m_ = 8 - i) _ ⟨0, HH, (show ((vi 0) : Value) = _ by first | rfl | go_num), (Nat.zero_le _), rfl, H155, rfl⟩ ?_
 rintro g194 w195 _ ⟨i, X, v197, hi, hX, H196, rfl⟩
 refine Zn 104 _ v197 ?_
 refine zsl <| wv 105 (.bool (decide ((i : Int) < 8))) <| znt <| Z9 ?_
 refine zid (fun b199 g200 => ?_) fun b199 g209 => ?_
 ·refine Zp <| ztn <| Z9 <| Zh <| zsl <| wv 106 (vi i) <| wv 16 (vi i) <| znt <| Z0Z H196 [zR w, ZV .u32 b2 201 8 X, ZV .u32 b7 199 64 kR, ZV .u32 b12 201 8 A0, ZV .u32 bq7 199 64 (wOq s), ZV .u32 bq8 201 8 V] [9] 10 rfl kr (fun Hx => (Hx.pk [0, 1, 2, 3, 4, 5])) fun w202 H203 S204 => ?_
  refine zkp 0 S204 107 (vi i) <| zkp 1 S204 108 (vi i) <| zkp 2 S204 109 (.pointer (some ⟨b2, 0 + ((i : Int)).toNat * 1, none⟩)) ?_ (he := fun _ => (ZT (E := 198) (N := 8) kr kr kn rfl rfl om om))
  refine zkv 3 S204 110 (.int .u32 (X.getD i 0)) ?_ (he := fun _ H' => (zl1 (ZM (H'.at 1 rfl) (show i < 8 by omega) (show 0 + ((i : Int)).toNat * 1 = i by omega))))
  refine zkp 4 S204 111 (vi i) <| zkp 5 S204 112 (.pointer (some ⟨bq8, 0 + ((i : Int)).toNat * 1, none⟩)) ?_ (he := fun _ => (ZT (E := 198) (N := 8) kr kr kn rfl rfl om om))
  refine zkv 6 S204 113 (.int .u32 (V.getD i 0)) ?_ (he := fun _ H' => (zl1 (ZM (H'.at 5 rfl) (show i < 8 by omega) (show 0 + ((i : Int)).toNat * 1 = i by omega))))
  refine zkp 7 S204 114 (.int .u32 (IntKind.u32.wrap ((X.getD i 0) + (V.getD i 0)))) <| zkp 8 S204 115 (.pointer (some ⟨b2, 0 + ((i : Int)).toNat * 1, none⟩)) ?_ (he := fun _ => (ZT (E := 198) (N := 8) kr kr kn rfl rfl om om))
  refine Z2B 9 (Sat w [zR w, ZV .u32 b7 199 64 kR, ZV .u32 b12 201 8 A0, ZV .u32 bq7 199 64 (wOq s), ZV .u32 bq8 201 8 V]) rfl kr (Zc rfl) rfl (fun Kq kq => ?_)
  refine Z2w .u32 rfl H203 1 rfl rfl rfl kr (show 0 + ((i : Int)).toNat * 1 = i by omega) (show i < 8 by omega) ?_
  intro w206 H207
  have S208 := H207.pk [0, 2, 3, 4, 5]
  refine kq _ _ S208 <| zhf <| Z6 <| ztn <| ZG <| zwi 116 ((i : Int) + 1) <| wv 104 (vi ((i : Int) + 1)) <| ZL <| Za ?_ _ ⟨(i + 1), (X.set i (IntKind.u32.wrap ((X.getD i 0) + (V.getD i 0)))), (show ((vi ((i : Int) + 1)) : Value) = _ by first | rfl | go_num | exact congrArg (Value.int .i64) om), om, (by rw [hX]; rfl), H207, rfl⟩ om
  exact zs
 refine zxb <| ztn <| zsl <| wv 117 (.agg ⟨(X.map (Value.int .u32))⟩) ?_ (hr := Z32 rfl kr kr (by decide) (H196.at 1 rfl))
 refine zy <| Z0u .u32 (B := X) rfl H196 3 rfl rfl rfl kr kr (by decide) (by exact Z12 (H196.at 1 rfl)) fun w212 H213 => ?_
 refine kk <| znt <| Zk ?_
 have hAL_ : X.length = 8 := Z12 (H213.at 3 rfl)
 have H214 := Sat.offW H213 3 rfl
 refine Z5v rfl (Z02 (vs := (X.map (Value.int .u32))) rfl kr (by rw [List.length_map, hAL_]; kernel_rfl) (by rw [List.length_map, hAL_]; decide) (H214.at 3 rfl) (List.take_length)) ?_
 have hm : X = ZcF HH s := by unfold ZcF; rw [hX, hvv, show i = 8 by omega]
 exact ⟨by rw [hm], H214.upd 0 rfl [] ne⟩
theorem mix_at (w : World) (v : Value) (s : List UInt8) (hs : ListAt Zx 1 w v s) (hl : 64 ≤ s.length) (HH : List Int) (hH : HH.length = 8) : Calls Tryz.prog 197 #[.agg ⟨HH.map (Value.int .u32)⟩, .agg ⟨kR.map (Value.int .u32)⟩, v] w fun e w' => e = .returned (.agg ⟨(ZcF HH s).map (Value.int .u32)⟩) ∧ Upd [] w w' := by
 obtain ⟨a, c, rfl⟩ := SliceOf.len hs
 exact Zes w a c s hs hl HH hH
theorem Z8h (w : World) (sa : Option Addr) (sc : Nat) (s : List UInt8) (hs : ListAt Zx 1 w (.slice sa s.length sc) s) (hl : s.length ≤ 1000000) :
  Calls Tryz.prog 159 #[(.slice sa s.length sc)] w fun e w' => e = .returned (.agg ⟨hc (Z0E s)⟩) ∧ Upd [] w w' := by
 have H := Sat.start0 w
 refine Zg Tryz.func159 rfl 73 rfl kn ?_
 refine zsl <| zy <| zda (hc Zz) H ?_
 intro b2 w3 (H4 : Sat w [zR w, Z0 b2 61 (hc Zz)] w3)
 have H5 : Sat w [zR w, ZV .u8 b2 61 32 (List.replicate 32 (0 : Int))] w3 := Sat.toW H4 1 .u8 (List.replicate 32 (0 : Int)) kr (by first | rfl | simp)
 refine kk <| Z1a <| wv 12 (.agg ⟨([(.int .u32 (1779033703)), (.int .u32 (3144134277)), (.int .u32 (1013904242)), (.int .u32 (2773480762)), (.int .u32 (1359893119)), (.int .u32 (2600822924)), (.int .u32 (528734635)), (.int .u32 (1541459225))] : LV)⟩) <| zy <| zda (Z2u) H5 ?_
 intro b7 w8 (H9 : Sat w [zR w, ZV .u8 b2 61 32 (List.replicate 32 (0 : Int)), Z0 b7 201 (Z2u)] w8)
 have H10 : Sat w [zR w, ZV .u8 b2 61 32 (List.replicate 32 (0 : Int)), ZV .u32 b7 201 8 ([0, 0, 0, 0, 0, 0, 0, 0] : List Int)] w8 := Sat.toW H9 2 .u32 ([0, 0, 0, 0, 0, 0, 0, 0] : List Int) kr (by first | rfl | simp)
 refine kk <| zy <| Z0u .u32 (B := ([1779033703, 3144134277, 1013904242, 2773480762, 1359893119, 2600822924, 528734635, 1541459225] : List Int)) rfl H10 2 rfl rfl rfl kr kr (by decide) (by first | rfl | simp) fun w12 H13 => ?_
 refine kk <| Z1a <| wv 13 (.slice sa s.length sc) <| zy <| Z5U (T := 84) (e := 5) (size := 1) (bytes := 1) rfl H13 kr Zw Z1c (ListAt.now H13 0 rfl hs) rfl rfl om om fun v15 w16 H17 => ?_
 obtain ⟨a18, c19, rfl⟩ := Z3 (H17.at 3 rfl)
 let A2 : Value := .int .u8 (0)
 refine kk <| zy <| Z2z 5 1 1 A2 [(0, (.int .u8 (128)))] ([(.int .u8 (128))] : LV) H17 fun b21 w22 H23 => ?_
 let A0 := ([128] : List UInt8)
 have H24 := H23.ct 4 rfl (Zo 5 1 (.slice (some ⟨b21, 0, none⟩) 1 1) 1 (A0.flatMap Zx)) (by rw [(show ([.int .u8 128] : LV) = A0.flatMap Zx by kernel_rfl)])
 refine kk <| zy <| Z0t (T := 84) (e := 5) (size := 1) (bytes := 1) rfl H24 kr 3 4 rfl rfl rfl rfl (Z0q Zx Z1c A0) om om ?_
 intro v26 w27 (H28 : Sat w [zR w, ZV .u8 b2 61 32 (List.replicate 32 (0 : Int)), ZV .u32 b7 201 8 ([1779033703, 3144134277, 1013904242, 2773480762, 1359893119, 2600822924, 528734635, 1541459225] : List Int), Zo 5 1 v26 (s.length + 1) ((s.flatMap Zx) ++ (A0.flatMap Zx)), Zo 5 1 (.slice (some ⟨b21, 0, none⟩) 1 1) 1 (A0.flatMap Zx)] w27)
 have H31 := H28.ct 3 rfl (Zo 5 1 v26 ((s ++ A0).length) ((s ++ A0).flatMap Zx)) ja
 obtain ⟨a29, c30, rfl⟩ := Z3 (H31.at 3 rfl)
 refine kk <| wv 4 (.slice a29 ((s ++ A0).length) c30) <| znt <| Z9 <| Zh ?_
 have hD0 : (s ++ A0) = s ++ [128] ++ List.replicate 0 0 := (List.append_nil _).symm
 refine ZB [4, 17, 18, 19, 20, 21, 22, 23] (fun F_ W_ m_ => ∃ (j : Nat) (a : Option Addr) (c : Nat) (D : List UInt8), F_ 4 = (.slice a D.length c) ∧ (j ≤ Zd3 s.length) ∧ (D = s ++ [128] ++ List.replicate j 0) ∧ Sat w [zR w, ZV .u8 b2 61 32 (List.replicate 32 (0 : Int)), ZV .u32 b7 201 8 ([1779033703, 3144134277, 1013904242, 2773480762, 1359893119, 2600822924, 528734635, 1541459225] : List Int), (Z5F a D c), Zo 5 1 (.slice (some ⟨b21, 0, none⟩) 1 1) 1 (A0.flatMap Zx)] W_ ∧ m_ = 64 - j) _ ⟨0, a29, c30, (s ++ A0), (by first | rfl | go_num), (Nat.zero_le _), hD0, H31, rfl⟩ ?_
 rintro g32 w33 _ ⟨j, a, c, D, v35, hj, hD, H34, rfl⟩
 refine Zn 4 _ v35 ?_
 have hDl : D.length = s.length + 1 + j := by rw [hD]; simp; omega
 have hj2 : j ≤ (119 - s.length % 64) % 64 := hj
 refine Z9 <| zsl <| wv 17 (.slice a D.length c) <| wv 18 (vi D.length) <| wv 19 (vi ((D.length : Int) % 64)) ?_ (hr := Z7E kr om om)
 refine wv 20 (.bool (!(decide (((D.length : Int) % 64) = 56)))) <| znt ?_
 refine (ZY (!(decide (((D.length : Int) % 64) = 56)))).elim (fun b37 => ?_) (fun b37 => ?_)
 ·have g38 := Z7 b37
  have g39 := of_decide_eq_false g38
  refine Z48 _ b37 ?_
  refine Zp <| ztn <| Zh <| ZG <| wv 21 (.slice a D.length c) <| zy <| Z2z 5 1 1 A2 [(0, A2)] ([A2] : LV) H34 fun b43 w44 H45 => ?_
  let A1 := ([0] : List UInt8)
  have H46 := H45.ct 5 rfl (Zo 5 1 (.slice (some ⟨b43, 0, none⟩) 1 1) 1 (A1.flatMap Zx)) (by rw [(show ([.int .u8 0] : LV) = A1.flatMap Zx by kernel_rfl)])
  refine kk <| zy <| Z0t (T := 84) (e := 5) (size := 1) (bytes := 1) rfl H46 kr 3 5 rfl rfl rfl rfl (Z0q Zx Z1c A1) om om fun v48 w49 H50 => ?_
  have H53 : Sat w [zR w, ZV .u8 b2 61 32 (List.replicate 32 (0 : Int)), ZV .u32 b7 201 8 ([1779033703, 3144134277, 1013904242, 2773480762, 1359893119, 2600822924, 528734635, 1541459225] : List Int), Zo 5 1 v48 ((D ++ A1).length) ((D ++ A1).flatMap Zx), Zo 5 1 (.slice (some ⟨b21, 0, none⟩) 1 1) 1 (A0.flatMap Zx), Zo 5 1 (.slice (some ⟨b43, 0, none⟩) 1 1) 1 (A1.flatMap Zx)] w49 := H50.cast (by simp only [List.length_append, List.flatMap_append] <;> rfl)
  obtain ⟨a51, c52, rfl⟩ := Z3 (H53.at 3 rfl)
  refine kk <| wv 4 (.slice a51 ((D ++ A1).length) c52) <| ZL <| Z6 ?_
  have H54 : Sat w [zR w, ZV .u8 b2 61 32 (List.replicate 32 (0 : Int)), ZV .u32 b7 201 8 ([1779033703, 3144134277, 1013904242, 2773480762, 1359893119, 2600822924, 528734635, 1541459225] : List Int), (Z5F a51 (D ++ A1) c52), Zo 5 1 (.slice (some ⟨b21, 0, none⟩) 1 1) 1 (A0.flatMap Zx)] w49 := H53.pick [0, 1, 2, 3, 4] (by decide)
  refine Za ?_ _ ⟨(j + 1), a51, c52, (D ++ A1), (show ((.slice a51 ((D ++ A1).length) c52) : Value) = _ by first | rfl | go_num), (by unfold Zd3; omega), (by rw [hD]; exact ZaD s j), H54, rfl⟩ om
  exact zs
 have g55 := Z2 b37
 have g56 := of_decide_eq_true g55
 refine Z3L _ b37 ?_
 refine zxb <| ztn <| zsl <| wv 24 (.slice sa s.length sc) <| wv 25 (vi s.length) <| wv 26 (vu s.length) ?_ (hr := Z0A (z := (s.length : Int)) kr (Z1h om))
 refine wv 27 (vu (Z2A .u64 (s.length : Int) 3)) ?_ (hr := Z7a rfl rfl (by decide))
 refine wv 5 (vu (Z2A .u64 (s.length : Int) 3)) <| znt <| Z9 <| Z9 <| Zn 5 (vu ((s.length : Int) * 8)) (show ((vu (Z2A .u64 (s.length : Int) 3)) : Value) = _ by rw [shl3 hl]) ?_
 refine ZG <| wv 28 (vi 0) <| znt <| Zh ?_
 obtain ⟨P, hP⟩ : ∃ P, P = D := ⟨_, rfl⟩
 have hPl : P.length % 64 = 56 := by rw [hP]; omega
 have hP2 : P = padP s := by rw [hP, hD]; unfold padP; rw [show j = Zd3 s.length by unfold Zd3; omega]
 have hPn : P.length ≤ s.length + 100 := by rw [hP, hDl]; omega
 refine ZB ([4, 6] ++ List.range' 28 13) (fun F_ W_ m_ => ∃ (q : Nat) (a : Option Addr) (c : Nat) (D : List UInt8), F_ 28 = (vi q) ∧ F_ 4 = (.slice a D.length c) ∧ (q ≤ 8) ∧ (D = P ++ ZcT ((s.length : Int) * 8) q) ∧ Sat w [zR w, ZV .u8 b2 61 32 (List.replicate 32 (0 : Int)), ZV .u32 b7 201 8 ([1779033703, 3144134277, 1013904242, 2773480762, 1359893119, 2600822924, 528734635, 1541459225] : List Int), (Z5F a D c), Zo 5 1 (.slice (some ⟨b21, 0, none⟩) 1 1) 1 (A0.flatMap Zx)] W_ ∧ m_ = 8 - q) _ ⟨0, a, c, D, (show ((vi 0) : Value) = _ by first | rfl | go_num), (by first | rfl | go_num), (Nat.zero_le _), (by rw [hP]; exact (List.append_nil _).symm), H34, rfl⟩ ?_
 rintro g59 w60 _ ⟨q, a, c, D, v62, v63, hq, hD, H61, rfl⟩
 refine Zn 28 _ v62 ?_
 refine Zn 4 _ v63 ?_
 have hDl : D.length = P.length + q := by rw [hD, List.length_append, ZaC]
 refine zsl <| wv 29 (.bool (decide ((q : Int) < 8))) <| znt <| Z9 ?_
 refine zid (fun b65 g66 => ?_) fun b65 g81 => ?_
 ·refine Zp <| ztn <| Z9 <| Zh <| zsl <| wv 30 (vi q) <| wv 6 (vi q) <| znt <| ZG <| wv 31 (.slice a D.length c) ?_
  refine wv 32 (vu ((s.length : Int) * 8)) <| wv 33 (vi q) <| zwi 34 (8 * (q : Int)) <| zwi 35 (56 - (8 * (q : Int))) <| wv 36 (vu (((s.length : Int) * 8) / 2 ^ (min (56 - (8 * (q : Int))).toNat 64))) ?_ (hr := Z5b rfl rfl om rfl (Int.le_of_lt (Int.pow_pos (by decide))))
  refine wv 37 (.int .u8 (IntKind.u8.wrap (((s.length : Int) * 8) / 2 ^ (min (56 - (8 * (q : Int))).toNat 64)))) <| zy <| Z2z 5 1 1 A2 [(0, (.int .u8 (IntKind.u8.wrap (((s.length : Int) * 8) / 2 ^ (min (56 - (8 * (q : Int))).toNat 64)))))] ([(.int .u8 (IntKind.u8.wrap (((s.length : Int) * 8) / 2 ^ (min (56 - (8 * (q : Int))).toNat 64))))] : LV) H61 fun b69 w70 H71 => ?_
  have H72 := H71.ct 5 rfl (Zo 5 1 (.slice (some ⟨b69, 0, none⟩) 1 1) 1 ([UInt8.ofNat (IntKind.u8.wrap (((s.length : Int) * 8) / 2 ^ (min (56 - (8 * (q : Int))).toNat 64))).toNat].flatMap Zx)) (by rw [Z33 (Z2E _)])
  refine kk <| zy <| Z0t (T := 84) (e := 5) (size := 1) (bytes := 1) rfl H72 kr 3 5 rfl rfl rfl rfl (Z0q Zx Z1c [UInt8.ofNat (IntKind.u8.wrap (((s.length : Int) * 8) / 2 ^ (min (56 - (8 * (q : Int))).toNat 64))).toNat]) om om fun v74 w75 H76 => ?_
  have H79 := H76.ct 3 rfl (Zo 5 1 v74 ((D ++ [UInt8.ofNat (IntKind.u8.wrap (((s.length : Int) * 8) / 2 ^ (min (56 - (8 * (q : Int))).toNat 64))).toNat]).length) ((D ++ [UInt8.ofNat (IntKind.u8.wrap (((s.length : Int) * 8) / 2 ^ (min (56 - (8 * (q : Int))).toNat 64))).toNat]).flatMap Zx)) ja
  obtain ⟨a77, c78, rfl⟩ := Z3 (H79.at 3 rfl)
  refine kk <| wv 4 (.slice a77 ((D ++ [UInt8.ofNat (IntKind.u8.wrap (((s.length : Int) * 8) / 2 ^ (min (56 - (8 * (q : Int))).toNat 64))).toNat]).length) c78) <| ZL <| Z6 <| ztn <| ZG <| zwi 40 ((q : Int) + 1) <| wv 28 (vi ((q : Int) + 1)) <| ZL ?_
  have H80 := H79.pk [0, 1, 2, 3, 4]
  refine Za ?_ _ ⟨(q + 1), a77, c78, (D ++ [UInt8.ofNat (IntKind.u8.wrap (((s.length : Int) * 8) / 2 ^ (min (56 - (8 * (q : Int))).toNat 64))).toNat]), (show ((vi ((q : Int) + 1)) : Value) = _ by first | rfl | go_num | exact congrArg (Value.int .i64) om), (show ((.slice a77 ((D ++ [UInt8.ofNat (IntKind.u8.wrap (((s.length : Int) * 8) / 2 ^ (min (56 - (8 * (q : Int))).toNat 64))).toNat]).length) c78) : Value) = _ by first | rfl | go_num | exact congrArg (Value.int .i64) om), om, (by rw [hD]; exact (List.append_assoc _ _ _).trans (congrArg (P ++ ·) (ZbQ _ q).symm)), H80, rfl⟩ om
  exact zs
 refine zxb <| ztn <| zsl <| zy <| zdq 41 (Z9v w60) H61 fun w84 H85 => ?_
 refine kk <| zy <| zda (Z1P) H85 ?_
 intro b88 w89 (H90 : Sat w [zR w, ZV .u8 b2 61 32 (List.replicate 32 (0 : Int)), ZV .u32 b7 201 8 ([1779033703, 3144134277, 1013904242, 2773480762, 1359893119, 2600822924, 528734635, 1541459225] : List Int), (Z5F a D c), Zo 5 1 (.slice (some ⟨b21, 0, none⟩) 1 1) 1 (A0.flatMap Zx), Z0 b88 199 (Z1P)] w89)
 have H91 : Sat w [zR w, ZV .u8 b2 61 32 (List.replicate 32 (0 : Int)), ZV .u32 b7 201 8 ([1779033703, 3144134277, 1013904242, 2773480762, 1359893119, 2600822924, 528734635, 1541459225] : List Int), (Z5F a D c), Zo 5 1 (.slice (some ⟨b21, 0, none⟩) 1 1) 1 (A0.flatMap Zx), ZV .u32 b88 199 64 (List.replicate 64 (0 : Int))] w89 := Sat.toW H90 5 .u32 (List.replicate 64 (0 : Int)) kr (by first | rfl | simp)
 refine kk <| zy <| Z0u .u32 (B := kR) rfl H91 5 rfl rfl rfl kr kr (by decide) (by first | rfl | simp) ?_
 intro w93 (H94 : Sat w [zR w, ZV .u8 b2 61 32 (List.replicate 32 (0 : Int)), ZV .u32 b7 201 8 ([1779033703, 3144134277, 1013904242, 2773480762, 1359893119, 2600822924, 528734635, 1541459225] : List Int), (Z5F a D c), Zo 5 1 (.slice (some ⟨b21, 0, none⟩) 1 1) 1 (A0.flatMap Zx), ZV .u32 b88 199 64 kR] w93)
 refine kk <| znt <| Z9 <| Zh ?_
 have hDm : D = Zf7 s := by unfold Zf7; rw [hD, ← hP2, show q = 8 by omega]
 obtain ⟨nb, hnb⟩ : ∃ nb, nb = D.length / 64 := ⟨_, rfl⟩
 have hml : D.length = 64 * nb := by omega
 have H95 : Sat w [zR w, ZV .u8 b2 61 32 (List.replicate 32 (0 : Int)), ZV .u32 b7 201 8 ([1779033703, 3144134277, 1013904242, 2773480762, 1359893119, 2600822924, 528734635, 1541459225] : List Int), Z1y (.slice a D.length c) D, Zo 5 1 (.slice (some ⟨b21, 0, none⟩) 1 1) 1 (A0.flatMap Zx), ZV .u32 b88 199 64 kR] w93 := H94.conv 3 rfl (fun h => Z25 (ListAt.row (enc := Zx) (sz := 1) Zw (by decide) h)) (fun b hb => hb.2)
 refine ZB [4, 42, 43, 44, 45, 46, 47, 48, 49, 50] (fun F_ W_ m_ => ∃ (b : Nat) (a : Option Addr) (c : Nat) (E : List UInt8) (HH : List Int), F_ 4 = (.slice a E.length c) ∧ (b ≤ nb) ∧ (E = D.drop (64 * b)) ∧ (HH = ZeX D b) ∧ Sat w [zR w, ZV .u8 b2 61 32 (List.replicate 32 (0 : Int)), ZV .u32 b7 201 8 HH, Z1y (.slice a E.length c) E, Zo 5 1 (.slice (some ⟨b21, 0, none⟩) 1 1) 1 (A0.flatMap Zx), ZV .u32 b88 199 64 kR] W_ ∧ m_ = nb - b) _ ⟨0, a, c, D, ([1779033703, 3144134277, 1013904242, 2773480762, 1359893119, 2600822924, 528734635, 1541459225] : List Int), (by first | rfl | go_num), (Nat.zero_le _), rfl, rfl, H95, rfl⟩ ?_
 rintro g96 w97 _ ⟨b, a, c, E, HH, v99, hb, hE, hHH, H98, rfl⟩
 refine Zn 4 _ v99 ?_
 have hEl0 : E.length = 64 * nb - 64 * b := by rw [hE, List.length_drop, hml]
 refine Z9 <| zsl <| wv 42 (.slice a E.length c) <| wv 43 (vi E.length) <| wv 44 (.bool (decide ((E.length : Int) > 0))) <| znt ?_
 refine zid (fun b101 g102 => ?_) fun b101 g112 => ?_
 ·refine Zp <| ztn <| Z9 <| Zh ?_
  have hHl : HH.length = 8 := Z12 (H98.at 2 rfl)
  refine ZG <| wv 47 (.agg ⟨(HH.map (Value.int .u32))⟩) ?_ (hr := Z32 rfl kr kr (by decide) (H98.at 2 rfl))
  refine wv 48 (.agg ⟨(kR.map (Value.int .u32))⟩) ?_ (hr := Z32 rfl kr kr (by decide) (H98.at 5 rfl))
  refine wv 49 (.slice a E.length c) <| zy <| zdq 50 (mix_at w97 (.slice a E.length c) E (ListAt.ofTxt (H98.at 3 rfl)) om HH hHl) H98 fun w105 H106 => ?_
  refine kk <| zy <| Z0u .u32 (B := (ZcF HH E)) rfl H106 2 rfl rfl rfl kr kr (by decide) (by exact (Zdx _ _).trans hHl) ?_
  intro w109 (H110 : Sat w [zR w, ZV .u8 b2 61 32 (List.replicate 32 (0 : Int)), ZV .u32 b7 201 8 (ZcF HH E), Z1y (.slice a E.length c) E, Zo 5 1 (.slice (some ⟨b21, 0, none⟩) 1 1) 1 (A0.flatMap Zx), ZV .u32 b88 199 64 kR] w109)
  refine kk <| ZL <| Z6 <| ztn <| ZG <| wv 45 (.slice a E.length c) <| wv 46 (.slice (if c = 64 then a else a.map (·.add (64 * 1))) (E.length - 64) (c - 64)) ?_ (hr := Z35 (E := 5) (q := 64) kr kr rfl rfl rfl om)
  refine wv 4 (.slice (if c = 64 then a else a.map (·.add (64 * 1))) (E.length - 64) (c - 64)) <| ZL ?_
  have hEl : E.length - 64 = (E.drop 64).length := by rw [List.length_drop]
  have H111 : Sat w [zR w, ZV .u8 b2 61 32 (List.replicate 32 (0 : Int)), ZV .u32 b7 201 8 (ZcF HH E), Z1y (.slice (if c = 64 then a else a.map (·.add (64 * 1))) (E.length - 64) (c - 64)) (E.drop 64), Zo 5 1 (.slice (some ⟨b21, 0, none⟩) 1 1) 1 (A0.flatMap Zx), ZV .u32 b88 199 64 kR] w109 := H110.conv 3 rfl (fun h => ZcC om h) (fun b hb => Zba hb)
  rw [hEl] at H111
  refine Za ?_ _ ⟨(b + 1), (if c = 64 then a else a.map (·.add (64 * 1))), (c - 64), (E.drop 64), (ZcF HH E), (show ((.slice (if c = 64 then a else a.map (·.add (64 * 1))) (E.length - 64) (c - 64)) : Value) = _ by rw [hEl]), om, (by rw [hE, List.drop_drop, show 64 * (b + 1) = 64 * b + 64 by omega]), (by rw [Zdv, ← hHH, ← hE]), H111, rfl⟩ om
  exact zs
 refine zxb <| ztn <| zsl <| zy <| zda (hc Zz) H98 ?_
 intro b115 w116 (H117 : Sat w [zR w, ZV .u8 b2 61 32 (List.replicate 32 (0 : Int)), ZV .u32 b7 201 8 HH, Z1y (.slice a E.length c) E, Zo 5 1 (.slice (some ⟨b21, 0, none⟩) 1 1) 1 (A0.flatMap Zx), ZV .u32 b88 199 64 kR, Z0 b115 61 (hc Zz)] w116)
 have H118 : Sat w [zR w, ZV .u8 b2 61 32 (List.replicate 32 (0 : Int)), ZV .u32 b7 201 8 HH, Z1y (.slice a E.length c) E, Zo 5 1 (.slice (some ⟨b21, 0, none⟩) 1 1) 1 (A0.flatMap Zx), ZV .u32 b88 199 64 kR, ZV .u8 b115 61 32 (List.replicate 32 (0 : Int))] w116 := Sat.toW H117 6 .u8 (List.replicate 32 (0 : Int)) kr (by exact Z12 (H117.at 1 rfl))
 refine kk <| znt <| Z9 <| zsl <| wv 51 (.agg ⟨(HH.map (Value.int .u32))⟩) ?_ (hr := Z32 rfl kr kr (by decide) (H118.at 2 rfl))
 refine wv 52 (vi 0) <| znt <| Zh ?_
 have hHl2 : HH.length = 8 := Z12 (H118.at 2 rfl)
 refine ZB ([9, 10, 11] ++ List.range' 52 20) (fun F_ W_ m_ => ∃ (i : Nat) (O : List Int), F_ 52 = (vi i) ∧ (i ≤ 8) ∧ (O = oOf HH i) ∧ Sat w [zR w, ZV .u8 b2 61 32 (List.replicate 32 (0 : Int)), ZV .u32 b7 201 8 HH, Z1y (.slice a E.length c) E, Zo 5 1 (.slice (some ⟨b21, 0, none⟩) 1 1) 1 (A0.flatMap Zx), ZV .u32 b88 199 64 kR, ZV .u8 b115 61 32 O] W_ ∧ m_ = 8 - i) _ ⟨0, (List.replicate 32 (0 : Int)), (show ((vi 0) : Value) = _ by first | rfl | go_num), (Nat.zero_le _), rfl, H118, rfl⟩ ?_
 rintro g119 w120 _ ⟨i, O, v122, hi, hO, H121, rfl⟩
 refine Zn 52 _ v122 ?_
 refine zsl <| wv 53 (.bool (decide ((i : Int) < 8))) <| znt <| Z9 ?_
 refine zid (fun b124 g125 => ?_) fun b124 g140 => ?_
 ·let A3 : Value := .int .u32 (HH.getD i 0)
  refine Zp <| ztn <| Z9 <| Zh <| zsl <| wv 54 (vi i) <| wv 55 A3 ?_ (hr := ZaS (E := 198) (q := i) kr hHl2 kr kr rfl rfl rfl om)
  refine wv 9 (vi i) <| wv 10 A3 <| Z1a <| wv 56 (vi 0) <| znt <| Zh <| ZB ([11] ++ List.range' 56 15) (fun F_ W_ m_ => ∃ (j : Nat) (O2 : List Int), F_ 56 = (vi j) ∧ (j ≤ 4) ∧ (O2 = oIn (HH.getD i 0) i O j) ∧ Sat w [zR w, ZV .u8 b2 61 32 (List.replicate 32 (0 : Int)), ZV .u32 b7 201 8 HH, Z1y (.slice a E.length c) E, Zo 5 1 (.slice (some ⟨b21, 0, none⟩) 1 1) 1 (A0.flatMap Zx), ZV .u32 b88 199 64 kR, ZV .u8 b115 61 32 O2] W_ ∧ m_ = 4 - j) _ ⟨0, O, (show ((vi 0) : Value) = _ by first | rfl | go_num), (Nat.zero_le _), rfl, H121, rfl⟩ ?_
  rintro g127 w128 _ ⟨j, O2, v130, hj, hO2, H129, rfl⟩
  refine Zn 56 _ v130 ?_
  refine zsl <| wv 57 (.bool (decide ((j : Int) < 4))) <| znt <| Z9 ?_
  refine zid (fun b132 g133 => ?_) fun b132 g138 => ?_
  ·refine Zp <| ztn <| Z9 <| Zh <| zsl <| wv 58 (vi j) <| wv 11 (vi j) <| znt <| ZG <| wv 59 (vi i) ?_
   refine zwi 60 (4 * (i : Int)) <| wv 61 (vi j) <| zwi 62 ((4 * (i : Int)) + (j : Int)) <| wv 63 A3 <| wv 64 (vi j) <| zwi 65 (8 * (j : Int)) <| zwi 66 (24 - (8 * (j : Int))) <| wv 67 (.int .u32 ((HH.getD i 0) / 2 ^ (min (24 - (8 * (j : Int))).toNat 32))) ?_ (hr := Z5b rfl rfl om rfl (Int.le_of_lt (Int.pow_pos (by decide))))
   refine wv 68 (.int .u8 (IntKind.u8.wrap ((HH.getD i 0) / 2 ^ (min (24 - (8 * (j : Int))).toNat 32)))) <| wv 69 (.pointer (some ⟨b115, 0 + ((4 * (i : Int)) + (j : Int)).toNat * 1, none⟩)) ?_ (hr := ZT (E := 5) (N := 32) kr kr kn rfl rfl om om)
   refine zy <| Z2w .u8 rfl H129 6 rfl rfl rfl kr (show 0 + ((4 * (i : Int)) + (j : Int)).toNat * 1 = ((4 * i) + j) by omega) (show ((4 * i) + j) < 32 by omega) fun w136 H137 => ?_
   refine kk <| ZL <| Z6 <| ztn <| ZG <| zwi 70 ((j : Int) + 1) <| wv 56 (vi ((j : Int) + 1)) <| ZL <| Za ?_ _ ⟨(j + 1), (O2.set ((4 * i) + j) (IntKind.u8.wrap ((HH.getD i 0) / 2 ^ (min (24 - (8 * (j : Int))).toNat 32)))), (show ((vi ((j : Int) + 1)) : Value) = _ by first | rfl | go_num | exact congrArg (Value.int .i64) om), om, (by rw [hO2]; rfl), H137, rfl⟩ om
   exact zs
  refine zxb <| Z6 <| ztn <| ZG <| zwi 71 ((i : Int) + 1) <| wv 52 (vi ((i : Int) + 1)) <| ZL <| Za ?_ _ ⟨(i + 1), O2, (show ((vi ((i : Int) + 1)) : Value) = _ by first | rfl | go_num | exact congrArg (Value.int .i64) om), om, (by rw [hO2, show j = 4 by omega, Zd0, hO]; rfl), H129, rfl⟩ om
  exact zs
 refine zxb <| ztn <| zsl <| wv 72 (.agg ⟨(O.map (Value.int .u8))⟩) ?_ (hr := Z32 rfl kr kr (by decide) (H121.at 6 rfl))
 refine zy <| Z0u .u8 (B := O) rfl H121 1 rfl rfl rfl kr kr (by decide) (by exact Z12 (H121.at 6 rfl)) fun w143 H144 => ?_
 refine kk <| znt <| Zk ?_
 have hAL_ : O.length = 32 := Z12 (H144.at 1 rfl)
 have H145 := Sat.offW H144 1 rfl
 refine Z5v rfl (Z02 (vs := (O.map (Value.int .u8))) rfl kr (by rw [List.length_map, hAL_]; kernel_rfl) (by rw [List.length_map, hAL_]; decide) (H145.at 1 rfl) (List.take_length)) ?_
 have hfin : O = Zd4 s := by unfold Zd4; rw [← hDm, ← hnb, hO, hHH, show i = 8 by omega, show b = nb by omega]
 exact ⟨by rw [hfin, Z7e], H145.upd 0 rfl [] ne⟩
end Go.Proofs.YtenihpghfdcpkaaGreat
