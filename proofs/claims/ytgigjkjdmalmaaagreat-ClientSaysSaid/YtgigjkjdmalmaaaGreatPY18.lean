/- WHAT IS PROVED: contracts and plain laws of ShaP. Conditions: stated with each. -/
import Derived.Test.YtgigjkjdmalmaaaGreatPY05
import Derived.Test.YtgigjkjdmalmaaaGreatPY06
import Derived.Test.YtgigjkjdmalmaaaGreatPY17
set_option maxHeartbeats 4000000
set_option maxRecDepth 100000
namespace Go.Proofs.YtgigjkjdmalmaaaGreat
open Go.RowKit
abbrev Z0Z : List Value := ([(.int .u32 (0)), (.int .u32 (0)), (.int .u32 (0)), (.int .u32 (0)), (.int .u32 (0)), (.int .u32 (0)), (.int .u32 (0)), (.int .u32 (0)), (.int .u32 (0)), (.int .u32 (0)), (.int .u32 (0)), (.int .u32 (0)), (.int .u32 (0)), (.int .u32 (0)), (.int .u32 (0)), (.int .u32 (0)), (.int .u32 (0)), (.int .u32 (0)), (.int .u32 (0)), (.int .u32 (0)), (.int .u32 (0)), (.int .u32 (0)), (.int .u32 (0)), (.int .u32 (0))] : List Value) ++ ([(.int .u32 (0)), (.int .u32 (0)), (.int .u32 (0)), (.int .u32 (0)), (.int .u32 (0)), (.int .u32 (0)), (.int .u32 (0)), (.int .u32 (0)), (.int .u32 (0)), (.int .u32 (0)), (.int .u32 (0)), (.int .u32 (0)), (.int .u32 (0)), (.int .u32 (0)), (.int .u32 (0)), (.int .u32 (0)), (.int .u32 (0)), (.int .u32 (0)), (.int .u32 (0)), (.int .u32 (0)), (.int .u32 (0)), (.int .u32 (0)), (.int .u32 (0)), (.int .u32 (0))] : List Value) ++ ([(.int .u32 (0)), (.int .u32 (0)), (.int .u32 (0)), (.int .u32 (0)), (.int .u32 (0)), (.int .u32 (0)), (.int .u32 (0)), (.int .u32 (0)), (.int .u32 (0)), (.int .u32 (0)), (.int .u32 (0)), (.int .u32 (0)), (.int .u32 (0)), (.int .u32 (0)), (.int .u32 (0)), (.int .u32 (0))] : List Value)
abbrev Z1l : List Value := ([(.int .u32 (0)), (.int .u32 (0)), (.int .u32 (0)), (.int .u32 (0)), (.int .u32 (0)), (.int .u32 (0)), (.int .u32 (0)), (.int .u32 (0))] : List Value)
abbrev Z3t (p0 : Option Addr) (p1 : List UInt8) (p2 : Nat) : Ck := Zc 5 1 (.slice p0 p1.length p2) p1.length (p1.flatMap ZH)
theorem Zbk (w : World) (sa : Option Addr) (sc : Nat) (s : List UInt8) (hs : ListAt ZH 1 w (.slice sa s.length sc) s) (hl : 4 ≤ s.length) :
  Calls Tryz.prog 138 #[(.slice sa s.length sc)] w fun e w' => e = .returned (.int .u32 (Zah s)) ∧ Upd [] w w' := by
 have H := Sat.start0 w
 refine Zg Tryz.func138 rfl 25 rfl (Nat.le_of_ble_eq_true rfl) ?_
 apply zsl
 refine wv 2 (.int .u32 (0)) ?_
 apply znt
 apply Zf
 refine zqs H ?_
 refine qv 3 (.slice sa s.length sc) ?_
 obtain ⟨g1, o2, c3, e4⟩ := Z8v (ListAt.now H 0 rfl hs) (show 0 < s.length by omega)
 refine qv 4 (.pointer (some ⟨g1, o2 + ((0 : Int)).toNat * 1, none⟩)) ?_ (hr := fun _ H' => (ZM (E := 5) (by kernel_rfl) (by kernel_rfl) (Nat.le_of_ble_eq_true rfl) rfl e4 rfl (by omega) (by omega)))
 refine qv 5 (.int .u8 (((s.getD 0 0).toNat : Int))) ?_ (hr := fun _ H' => (Zi rfl (by kernel_rfl) (Z3f (by have q := (ListAt.now H' 0 rfl hs); rw [e4] at q; exact q) (show 0 < s.length by omega) (show o2 + ((0 : Int)).toNat * 1 = o2 + 0 by omega))))
 refine qv 6 (.int .u32 (IntKind.u32.wrap (((s.getD 0 0).toNat : Int)))) ?_
 refine qv 7 (.int .u32 (Z2f .u32 (IntKind.u32.wrap (((s.getD 0 0).toNat : Int))) 24)) ?_ (hr := fun _ H' => (Z97 rfl rfl (by decide)))
 refine qv 8 (.slice sa s.length sc) ?_
 refine qv 9 (.pointer (some ⟨g1, o2 + ((1 : Int)).toNat * 1, none⟩)) ?_ (hr := fun _ H' => (ZM (E := 5) (by kernel_rfl) (by kernel_rfl) (Nat.le_of_ble_eq_true rfl) rfl e4 rfl (by omega) (by omega)))
 refine qv 10 (.int .u8 (((s.getD 1 0).toNat : Int))) ?_ (hr := fun _ H' => (Zi rfl (by kernel_rfl) (Z3f (by have q := (ListAt.now H' 0 rfl hs); rw [e4] at q; exact q) (show 1 < s.length by omega) (show o2 + ((1 : Int)).toNat * 1 = o2 + 1 by omega))))
 refine qv 11 (.int .u32 (IntKind.u32.wrap (((s.getD 1 0).toNat : Int)))) ?_
 refine qv 12 (.int .u32 (Z2f .u32 (IntKind.u32.wrap (((s.getD 1 0).toNat : Int))) 16)) ?_ (hr := fun _ H' => (Z97 rfl rfl (by decide)))
 refine qv 13 (.int .u32 (bOr .u32 (Z2f .u32 (IntKind.u32.wrap (((s.getD 0 0).toNat : Int))) 24) (Z2f .u32 (IntKind.u32.wrap (((s.getD 1 0).toNat : Int))) 16))) ?_
 refine qv 14 (.slice sa s.length sc) ?_
 refine qv 15 (.pointer (some ⟨g1, o2 + ((2 : Int)).toNat * 1, none⟩)) ?_ (hr := fun _ H' => (ZM (E := 5) (by kernel_rfl) (by kernel_rfl) (Nat.le_of_ble_eq_true rfl) rfl e4 rfl (by omega) (by omega)))
 refine qv 16 (.int .u8 (((s.getD 2 0).toNat : Int))) ?_ (hr := fun _ H' => (Zi rfl (by kernel_rfl) (Z3f (by have q := (ListAt.now H' 0 rfl hs); rw [e4] at q; exact q) (show 2 < s.length by omega) (show o2 + ((2 : Int)).toNat * 1 = o2 + 2 by omega))))
 refine qv 17 (.int .u32 (IntKind.u32.wrap (((s.getD 2 0).toNat : Int)))) ?_
 refine qv 18 (.int .u32 (Z2f .u32 (IntKind.u32.wrap (((s.getD 2 0).toNat : Int))) 8)) ?_ (hr := fun _ H' => (Z97 rfl rfl (by decide)))
 refine qv 19 (.int .u32 (bOr .u32 (bOr .u32 (Z2f .u32 (IntKind.u32.wrap (((s.getD 0 0).toNat : Int))) 24) (Z2f .u32 (IntKind.u32.wrap (((s.getD 1 0).toNat : Int))) 16)) (Z2f .u32 (IntKind.u32.wrap (((s.getD 2 0).toNat : Int))) 8))) ?_
 refine qv 20 (.slice sa s.length sc) ?_
 refine qv 21 (.pointer (some ⟨g1, o2 + ((3 : Int)).toNat * 1, none⟩)) ?_ (hr := fun _ H' => (ZM (E := 5) (by kernel_rfl) (by kernel_rfl) (Nat.le_of_ble_eq_true rfl) rfl e4 rfl (by omega) (by omega)))
 refine qv 22 (.int .u8 (((s.getD 3 0).toNat : Int))) ?_ (hr := fun _ H' => (Zi rfl (by kernel_rfl) (Z3f (by have q := (ListAt.now H' 0 rfl hs); rw [e4] at q; exact q) (show 3 < s.length by omega) (show o2 + ((3 : Int)).toNat * 1 = o2 + 3 by omega))))
 refine qv 23 (.int .u32 (IntKind.u32.wrap (((s.getD 3 0).toNat : Int)))) ?_
 refine qv 24 (.int .u32 (bOr .u32 (bOr .u32 (bOr .u32 (Z2f .u32 (IntKind.u32.wrap (((s.getD 0 0).toNat : Int))) 24) (Z2f .u32 (IntKind.u32.wrap (((s.getD 1 0).toNat : Int))) 16)) (Z2f .u32 (IntKind.u32.wrap (((s.getD 2 0).toNat : Int))) 8)) (IntKind.u32.wrap (((s.getD 3 0).toNat : Int))))) ?_
 refine qv 2 (.int .u32 (bOr .u32 (bOr .u32 (bOr .u32 (Z2f .u32 (IntKind.u32.wrap (((s.getD 0 0).toNat : Int))) 24) (Z2f .u32 (IntKind.u32.wrap (((s.getD 1 0).toNat : Int))) 16)) (Z2f .u32 (IntKind.u32.wrap (((s.getD 2 0).toNat : Int))) 8)) (IntKind.u32.wrap (((s.getD 3 0).toNat : Int))))) ?_
 refine Z1A ?_
 intro w5 H6
 apply ztn
 apply Zz
 refine ze1 (.int .u32 (bOr .u32 (bOr .u32 (bOr .u32 (Z2f .u32 (IntKind.u32.wrap (((s.getD 0 0).toNat : Int))) 24) (Z2f .u32 (IntKind.u32.wrap (((s.getD 1 0).toNat : Int))) 16)) (Z2f .u32 (IntKind.u32.wrap (((s.getD 2 0).toNat : Int))) 8)) (IntKind.u32.wrap (((s.getD 3 0).toNat : Int))))) ?_
 exact ⟨rfl, H6.upd 0 rfl [] (fun _ h => h.elim)⟩
theorem Zck (w : World) (v : Value) (s : List UInt8) (hs : ListAt ZH 1 w v s) (hl : 4 ≤ s.length) : Calls Tryz.prog 138 #[v] w fun e w' => e = .returned (.int .u32 (Zah s)) ∧ Upd [] w w' := by
 obtain ⟨a, c, rfl⟩ := SliceOf.len hs
 exact Zbk w a c s hs hl
theorem Z1Y (w : World) (x k n : Int) (hk : Z11 .u64 (IntKind.u64.wrap k) 31 = 32 - n) (hn : 1 ≤ n ∧ n ≤ 31) :
  Calls Tryz.prog 108 #[(.int .u32 (x)), (.int .i64 (k))] w fun e w' => e = .returned (.int .u32 (Z0f x n)) ∧ Upd [] w w' := by
 have H := Sat.start0 w
 refine Zg Tryz.func108 rfl 17 rfl (Nat.le_of_ble_eq_true rfl) ?_
 apply zsl
 refine wv 4 (.int .u32 (0)) ?_
 apply Z0N
 refine wv 6 (.int .i64 (k)) ?_
 refine wv 7 (.int .u64 (IntKind.u64.wrap (k))) ?_
 refine wv 8 (.int .u64 (Z11 .u64 (IntKind.u64.wrap (k)) 31)) ?_
 refine wv 5 (.int .u64 (Z11 .u64 (IntKind.u64.wrap (k)) 31)) ?_
 apply znt
 apply Zf
 refine Zo 5 (.int .u64 ((32 - n))) (show ((.int .u64 (Z11 .u64 (IntKind.u64.wrap (k)) 31)) : Value) = _ by rw [hk]) ?_
 apply Zt
 refine wv 9 (.int .u32 (x)) ?_
 refine wv 10 (.int .u64 ((32 - n))) ?_
 refine wv 11 (.int .u32 (Z2f .u32 x (32 - n))) ?_ (hr := Z97 rfl rfl (by omega))
 refine wv 12 (.int .u32 (x)) ?_
 refine wv 13 (.int .u64 ((32 - n))) ?_
 refine wv 14 (.int .u64 (32 - (32 - n))) ?_ (hr := Z0I (z := 32 - (32 - n)) (by kernel_rfl) (Z3o (by omega)))
 refine wv 15 (.int .u32 (x / 2 ^ (min (32 - (32 - n)).toNat 32))) ?_ (hr := Z8r rfl rfl (by omega) rfl (Int.le_of_lt (Int.pow_pos (by decide))))
 refine wv 16 (.int .u32 (bOr .u32 (Z2f .u32 x (32 - n)) (x / 2 ^ (min (32 - (32 - n)).toNat 32)))) ?_
 refine wv 4 (.int .u32 (bOr .u32 (Z2f .u32 x (32 - n)) (x / 2 ^ (min (32 - (32 - n)).toNat 32)))) ?_
 apply znt
 apply Zz
 refine ze1 (.int .u32 (bOr .u32 (Z2f .u32 x (32 - n)) (x / 2 ^ (min (32 - (32 - n)).toNat 32)))) ?_
 exact ⟨by rw [Zba x n (32 - n) rfl], H.upd 0 rfl [] (fun _ h => h.elim)⟩
theorem Z7C (w : World) :
  Calls Tryz.prog 90 #[] w fun e w' => e = .returned (.agg ⟨kR.map (Value.int .u32)⟩) ∧ Upd [] w w' := by
 have H := Sat.start0 w
 refine Zg Tryz.func90 rfl 2 rfl (Nat.le_of_ble_eq_true rfl) ?_
 apply zsl
 refine zwd fun Kq kq => ?_
 refine zda (Z0Z) H ?_
 intro b2 w3 (H4 : Sat w [Z7 w (fun _ => False), Z3 b2 142 (Z0Z)] w3)
 have H5 : Sat w [Z7 w (fun _ => False), ZT .u32 b2 142 64 (List.replicate 64 (0 : Int))] w3 := Sat.toW H4 1 .u32 (List.replicate 64 (0 : Int)) (by kernel_rfl) (by first | rfl | simp)
 refine kq _ _ ?_
 clear kq Kq
 apply Z0N
 refine wv 1 (.agg ⟨(([(.int .u32 (1116352408)), (.int .u32 (1899447441)), (.int .u32 (3049323471)), (.int .u32 (3921009573)), (.int .u32 (961987163)), (.int .u32 (1508970993)), (.int .u32 (2453635748)), (.int .u32 (2870763221)), (.int .u32 (3624381080)), (.int .u32 (310598401)), (.int .u32 (607225278)), (.int .u32 (1426881987)), (.int .u32 (1925078388)), (.int .u32 (2162078206)), (.int .u32 (2614888103)), (.int .u32 (3248222580)), (.int .u32 (3835390401)), (.int .u32 (4022224774)), (.int .u32 (264347078)), (.int .u32 (604807628)), (.int .u32 (770255983)), (.int .u32 (1249150122)), (.int .u32 (1555081692)), (.int .u32 (1996064986))] : List Value) ++ ([(.int .u32 (2554220882)), (.int .u32 (2821834349)), (.int .u32 (2952996808)), (.int .u32 (3210313671)), (.int .u32 (3336571891)), (.int .u32 (3584528711)), (.int .u32 (113926993)), (.int .u32 (338241895)), (.int .u32 (666307205)), (.int .u32 (773529912)), (.int .u32 (1294757372)), (.int .u32 (1396182291)), (.int .u32 (1695183700)), (.int .u32 (1986661051)), (.int .u32 (2177026350)), (.int .u32 (2456956037)), (.int .u32 (2730485921)), (.int .u32 (2820302411)), (.int .u32 (3259730800)), (.int .u32 (3345764771)), (.int .u32 (3516065817)), (.int .u32 (3600352804)), (.int .u32 (4094571909)), (.int .u32 (275423344))] : List Value) ++ ([(.int .u32 (430227734)), (.int .u32 (506948616)), (.int .u32 (659060556)), (.int .u32 (883997877)), (.int .u32 (958139571)), (.int .u32 (1322822218)), (.int .u32 (1537002063)), (.int .u32 (1747873779)), (.int .u32 (1955562222)), (.int .u32 (2024104815)), (.int .u32 (2227730452)), (.int .u32 (2361852424)), (.int .u32 (2428436474)), (.int .u32 (2756734187)), (.int .u32 (3204031479)), (.int .u32 (3329325298))] : List Value))⟩) ?_
 refine zwd fun Kq kq => ?_
 refine Z0m .u32 (B := ([1116352408, 1899447441, 3049323471, 3921009573, 961987163, 1508970993, 2453635748, 2870763221, 3624381080, 310598401, 607225278, 1426881987, 1925078388, 2162078206, 2614888103, 3248222580, 3835390401, 4022224774, 264347078, 604807628, 770255983, 1249150122, 1555081692, 1996064986, 2554220882, 2821834349, 2952996808, 3210313671, 3336571891, 3584528711, 113926993, 338241895, 666307205, 773529912, 1294757372, 1396182291, 1695183700, 1986661051, 2177026350, 2456956037, 2730485921, 2820302411, 3259730800, 3345764771, 3516065817, 3600352804, 4094571909, 275423344, 430227734, 506948616, 659060556, 883997877, 958139571, 1322822218, 1537002063, 1747873779, 1955562222, 2024104815, 2227730452, 2361852424, 2428436474, 2756734187, 3204031479, 3329325298] : List Int)) rfl H5 1 rfl rfl rfl (by kernel_rfl) (by kernel_rfl) (by decide) (by first | rfl | simp) ?_
 intro w7 H8
 refine kq _ _ ?_
 clear kq Kq
 apply znt
 apply Zz
 have hAL_ : ([1116352408, 1899447441, 3049323471, 3921009573, 961987163, 1508970993, 2453635748, 2870763221, 3624381080, 310598401, 607225278, 1426881987, 1925078388, 2162078206, 2614888103, 3248222580, 3835390401, 4022224774, 264347078, 604807628, 770255983, 1249150122, 1555081692, 1996064986, 2554220882, 2821834349, 2952996808, 3210313671, 3336571891, 3584528711, 113926993, 338241895, 666307205, 773529912, 1294757372, 1396182291, 1695183700, 1986661051, 2177026350, 2456956037, 2730485921, 2820302411, 3259730800, 3345764771, 3516065817, 3600352804, 4094571909, 275423344, 430227734, 506948616, 659060556, 883997877, 958139571, 1322822218, 1537002063, 1747873779, 1955562222, 2024104815, 2227730452, 2361852424, 2428436474, 2756734187, 3204031479, 3329325298] : List Int).length = 64 := Z0S (H8.at 1 rfl)
 have H9 : Sat w [Z7 w (fun _ => False), Z3 b2 142 (([1116352408, 1899447441, 3049323471, 3921009573, 961987163, 1508970993, 2453635748, 2870763221, 3624381080, 310598401, 607225278, 1426881987, 1925078388, 2162078206, 2614888103, 3248222580, 3835390401, 4022224774, 264347078, 604807628, 770255983, 1249150122, 1555081692, 1996064986, 2554220882, 2821834349, 2952996808, 3210313671, 3336571891, 3584528711, 113926993, 338241895, 666307205, 773529912, 1294757372, 1396182291, 1695183700, 1986661051, 2177026350, 2456956037, 2730485921, 2820302411, 3259730800, 3345764771, 3516065817, 3600352804, 4094571909, 275423344, 430227734, 506948616, 659060556, 883997877, 958139571, 1322822218, 1537002063, 1747873779, 1955562222, 2024104815, 2227730452, 2361852424, 2428436474, 2756734187, 3204031479, 3329325298] : List Int).map (Value.int .u32))] w7 := Sat.offW H8 1 rfl
 refine Z1x rfl (Z02 (vs := (([1116352408, 1899447441, 3049323471, 3921009573, 961987163, 1508970993, 2453635748, 2870763221, 3624381080, 310598401, 607225278, 1426881987, 1925078388, 2162078206, 2614888103, 3248222580, 3835390401, 4022224774, 264347078, 604807628, 770255983, 1249150122, 1555081692, 1996064986, 2554220882, 2821834349, 2952996808, 3210313671, 3336571891, 3584528711, 113926993, 338241895, 666307205, 773529912, 1294757372, 1396182291, 1695183700, 1986661051, 2177026350, 2456956037, 2730485921, 2820302411, 3259730800, 3345764771, 3516065817, 3600352804, 4094571909, 275423344, 430227734, 506948616, 659060556, 883997877, 958139571, 1322822218, 1537002063, 1747873779, 1955562222, 2024104815, 2227730452, 2361852424, 2428436474, 2756734187, 3204031479, 3329325298] : List Int).map (Value.int .u32))) rfl (by kernel_rfl) (by rw [List.length_map, hAL_]; kernel_rfl) (by rw [List.length_map, hAL_]; decide) (H9.at 1 rfl) (List.take_length)) ?_
 exact ⟨rfl, H9.upd 0 rfl [] (fun _ h => h.elim)⟩
theorem Z8G (w : World) (sa : Option Addr) (sc : Nat) (s : List UInt8) (hs : ListAt ZH 1 w (.slice sa s.length sc) s) (hl : 64 ≤ s.length) :
  Calls Tryz.prog 107 #[(.slice sa s.length sc)] w fun e w' => e = .returned (.agg ⟨(wOq s).map (Value.int .u32)⟩) ∧ Upd [] w w' := by
 have H := Sat.start0 w
 refine Zg Tryz.func107 rfl 65 rfl (Nat.le_of_ble_eq_true rfl) ?_
 apply zsl
 refine zwd fun Kq kq => ?_
 refine zda (Z0Z) H ?_
 intro b2 w3 (H4 : Sat w [Z7 w (fun _ => False), Z3 b2 142 (Z0Z)] w3)
 have H5 : Sat w [Z7 w (fun _ => False), ZT .u32 b2 142 64 (List.replicate 64 (0 : Int))] w3 := Sat.toW H4 1 .u32 (List.replicate 64 (0 : Int)) (by kernel_rfl) (by first | rfl | simp)
 refine kq _ _ ?_
 clear kq Kq
 apply Z0N
 refine zwd fun Kq kq => ?_
 refine zda (Z0Z) H5 ?_
 intro b7 w8 (H9 : Sat w [Z7 w (fun _ => False), ZT .u32 b2 142 64 (List.replicate 64 (0 : Int)), Z3 b7 142 (Z0Z)] w8)
 have H10 : Sat w [Z7 w (fun _ => False), ZT .u32 b2 142 64 (List.replicate 64 (0 : Int)), ZT .u32 b7 142 64 (List.replicate 64 (0 : Int))] w8 := Sat.toW H9 2 .u32 (List.replicate 64 (0 : Int)) (by kernel_rfl) (by exact Z0S (H9.at 1 rfl))
 refine kq _ _ ?_
 clear kq Kq
 apply znt
 apply Zf
 apply zsl
 refine wv 10 (.int .i64 (0)) ?_
 apply znt
 apply ZA
 refine ZW ([4] ++ List.range' 10 11) (fun F_ W_ m_ => ∃ (i : Nat) (A : List Int), F_ 10 = (.int .i64 ((i : Int))) ∧ (i ≤ 16) ∧ (A = wLq s i) ∧ Sat w [Z7 w (fun _ => False), ZT .u32 b2 142 64 (List.replicate 64 (0 : Int)), ZT .u32 b7 142 64 A] W_ ∧ m_ = 16 - i) _ ⟨0, (List.replicate 64 (0 : Int)), (show ((.int .i64 (0)) : Value) = _ by first | rfl | go_num), (Nat.zero_le _), rfl, H10, rfl⟩ ?_
 rintro g11 w12 _ ⟨i, A, v14, hi, hA, H13, rfl⟩
 refine Zo 10 _ v14 ?_
 apply zsl
 refine wv 11 (.bool (decide ((i : Int) < 16))) ?_
 apply znt
 apply Zf
 refine (ZC (decide ((i : Int) < 16))).elim (fun b16 => ?_) (fun b16 => ?_)
 ·have g17 := of_decide_eq_true b16
  refine Z1q _ b16 ?_
  apply ZF
  apply ztn
  apply Zf
  apply ZA
  apply zsl
  refine wv 12 (.int .i64 ((i : Int))) ?_
  refine wv 4 (.int .i64 ((i : Int))) ?_
  apply znt
  apply Zt
  refine wv 13 (.int .i64 ((i : Int))) ?_
  refine wv 14 (.slice sa s.length sc) ?_
  refine wv 15 (.int .i64 ((i : Int))) ?_
  refine zwi 16 (4 * (i : Int)) ?_
  refine wv 17 (.slice (if sc = (4 * i) then sa else sa.map (·.add ((4 * i) * 1))) (s.length - (4 * i)) (sc - (4 * i))) ?_ (hr := Z4W (E := 5) (q := (4 * i)) (by kernel_rfl) (by kernel_rfl) rfl rfl rfl (by omega))
  refine zwd fun Kq kq => ?_
  refine zdq 18 (Zck w12 (.slice (if sc = (4 * i) then sa else sa.map (·.add ((4 * i) * 1))) (s.length - (4 * i)) (sc - (4 * i))) (s.drop (4 * i)) (ListAt.dropG (k := (4 * i)) (ListAt.now H13 0 rfl hs) (by omega)) (by simp only [List.length_drop]; omega)) H13 ?_
  intro w20 H21
  refine kq _ _ ?_
  clear kq Kq
  refine wv 19 (.pointer (some ⟨b7, 0 + ((i : Int)).toNat * 1, none⟩)) ?_ (hr := Z0q (E := 141) (N := 64) (by kernel_rfl) (by kernel_rfl) (Nat.le_of_ble_eq_true rfl) rfl rfl (by omega) (by omega))
  refine zwd fun Kq kq => ?_
  refine Z41 .u32 rfl H21 2 rfl rfl rfl (by kernel_rfl) (show 0 + ((i : Int)).toNat * 1 = i by omega) (show i < 64 by omega) ?_
  intro w24 H25
  refine kq _ _ ?_
  clear kq Kq
  apply Zu
  apply Zw
  apply ztn
  apply Zt
  refine zwi 20 ((i : Int) + 1) ?_
  refine wv 10 (.int .i64 ((i : Int) + 1)) ?_
  apply Zu
  refine ZE ?_ _ ⟨(i + 1), (A.set i (Zah (s.drop (4 * i)))), (show ((.int .i64 ((i : Int) + 1)) : Value) = _ by first | rfl | go_num | exact congrArg (Value.int .i64) (by omega)), (by omega), (by rw [hA]; rfl), H25, rfl⟩ (by omega)
  exact zs
 have g26 := of_decide_eq_false b16
 refine Z1a _ b16 ?_
 apply zxb
 apply ztn
 apply Zf
 apply zsl
 refine wv 5 (.int .i64 (16)) ?_
 apply znt
 apply ZA
 obtain rfl : i = 16 := by omega
 refine ZW ([5, 6, 7, 8, 9] ++ List.range' 21 43) (fun F_ W_ m_ => ∃ (j : Nat) (B : List Int), F_ 5 = (.int .i64 (((j : Int) + 16))) ∧ (j ≤ 48) ∧ (B = wEx A j) ∧ Sat w [Z7 w (fun _ => False), ZT .u32 b2 142 64 (List.replicate 64 (0 : Int)), ZT .u32 b7 142 64 B] W_ ∧ m_ = 48 - j) _ ⟨0, A, (show ((.int .i64 (16)) : Value) = _ by first | rfl | go_num), (Nat.zero_le _), rfl, H13, rfl⟩ ?_
 rintro g28 w29 _ ⟨j, B, v31, hj, hB, H30, rfl⟩
 refine Zo 5 _ v31 ?_
 apply Zf
 apply zsl
 refine wv 21 (.int .i64 (((j : Int) + 16))) ?_
 refine wv 22 (.bool (decide (((j : Int) + 16) < 64))) ?_
 apply znt
 refine (ZC (decide (((j : Int) + 16) < 64))).elim (fun b33 => ?_) (fun b33 => ?_)
 ·have g34 := of_decide_eq_true b33
  refine Z1q _ b33 ?_
  apply ZF
  apply ztn
  apply Zf
  apply ZA
  apply Zf
  refine zqs H30 ?_
  refine qv 25 (.int .i64 (((j : Int) + 16))) ?_
  refine qv 26 (.int .i64 (((j : Int) + 16) - 15)) ?_ (hr := fun _ H' => (Z0I (z := ((j : Int) + 16) - 15) (by kernel_rfl) (IntWalk.i64_in _ (by omega))))
  refine qv 27 (.pointer (some ⟨b7, 0 + (((j : Int) + 16) - 15).toNat * 1, none⟩)) ?_ (hr := fun _ H' => (Z0q (E := 141) (N := 64) (by kernel_rfl) (by kernel_rfl) (Nat.le_of_ble_eq_true rfl) rfl rfl (by omega) (by omega)))
  refine qv 28 (.int .u32 (B.getD ((j + 16) - 15) 0)) ?_ (hr := fun _ H' => (Zi rfl (by kernel_rfl) (Z06 (H'.at 2 rfl) (show ((j + 16) - 15) < 64 by omega) (show 0 + (((j : Int) + 16) - 15).toNat * 1 = ((j + 16) - 15) by omega))))
  refine qv 29 (.int .i64 (((j : Int) + 16))) ?_
  refine qv 30 (.int .i64 (((j : Int) + 16) - 2)) ?_ (hr := fun _ H' => (Z0I (z := ((j : Int) + 16) - 2) (by kernel_rfl) (IntWalk.i64_in _ (by omega))))
  refine qv 31 (.pointer (some ⟨b7, 0 + (((j : Int) + 16) - 2).toNat * 1, none⟩)) ?_ (hr := fun _ H' => (Z0q (E := 141) (N := 64) (by kernel_rfl) (by kernel_rfl) (Nat.le_of_ble_eq_true rfl) rfl rfl (by omega) (by omega)))
  refine qv 32 (.int .u32 (B.getD ((j + 16) - 2) 0)) ?_ (hr := fun _ H' => (Zi rfl (by kernel_rfl) (Z06 (H'.at 2 rfl) (show ((j + 16) - 2) < 64 by omega) (show 0 + (((j : Int) + 16) - 2).toNat * 1 = ((j + 16) - 2) by omega))))
  refine qv 6 (.int .u32 (B.getD ((j + 16) - 15) 0)) ?_
  refine qv 7 (.int .u32 (B.getD ((j + 16) - 2) 0)) ?_
  refine Z1A ?_
  intro w36 H37
  apply ztn
  apply zsl
  refine wv 33 (.int .u32 (B.getD ((j + 16) - 15) 0)) ?_
  refine zwd fun Kq kq => ?_
  refine zdq 34 (Z1Y w36 (B.getD ((j + 16) - 15) 0) (-7) 7 (by decide) (by decide)) H37 ?_
  intro w39 H40
  refine kq _ _ ?_
  clear kq Kq
  refine wv 35 (.int .u32 (B.getD ((j + 16) - 15) 0)) ?_
  refine zwd fun Kq kq => ?_
  refine zdq 36 (Z1Y w39 (B.getD ((j + 16) - 15) 0) (-18) 18 (by decide) (by decide)) H40 ?_
  intro w43 H44
  refine kq _ _ ?_
  clear kq Kq
  refine wv 37 (.int .u32 (Z05 .u32 (Z0f (B.getD ((j + 16) - 15) 0) 7) (Z0f (B.getD ((j + 16) - 15) 0) 18))) ?_
  refine wv 38 (.int .u32 (B.getD ((j + 16) - 15) 0)) ?_
  refine wv 39 (.int .u32 ((B.getD ((j + 16) - 15) 0) / 8)) ?_ (hr := Z8r rfl rfl (by decide) (by decide) (by decide))
  refine wv 40 (.int .u32 (Z05 .u32 (Z05 .u32 (Z0f (B.getD ((j + 16) - 15) 0) 7) (Z0f (B.getD ((j + 16) - 15) 0) 18)) ((B.getD ((j + 16) - 15) 0) / 8))) ?_
  refine wv 8 (.int .u32 (Z05 .u32 (Z05 .u32 (Z0f (B.getD ((j + 16) - 15) 0) 7) (Z0f (B.getD ((j + 16) - 15) 0) 18)) ((B.getD ((j + 16) - 15) 0) / 8))) ?_
  apply Z0N
  refine wv 41 (.int .u32 (B.getD ((j + 16) - 2) 0)) ?_
  refine zwd fun Kq kq => ?_
  refine Z0L (d := 42) rfl (by kernel_rfl) (Z1Y w43 (B.getD ((j + 16) - 2) 0) (-17) 17 (by decide) (by decide)) ?_
  rintro _ w47 ⟨rfl, u49⟩
  have H48 := H44.keepU u49
  refine ⟨_, rfl, ?_⟩
  refine kq _ _ ?_
  clear kq Kq
  refine wv 43 (.int .u32 (B.getD ((j + 16) - 2) 0)) ?_
  refine zwd fun Kq kq => ?_
  refine zdq 44 (Z1Y w47 (B.getD ((j + 16) - 2) 0) (-19) 19 (by decide) (by decide)) H48 ?_
  intro w51 H52
  refine kq _ _ ?_
  clear kq Kq
  refine wv 45 (.int .u32 (Z05 .u32 (Z0f (B.getD ((j + 16) - 2) 0) 17) (Z0f (B.getD ((j + 16) - 2) 0) 19))) ?_
  refine wv 46 (.int .u32 (B.getD ((j + 16) - 2) 0)) ?_
  refine wv 47 (.int .u32 ((B.getD ((j + 16) - 2) 0) / 1024)) ?_ (hr := Z8r rfl rfl (by decide) (by decide) (by decide))
  refine wv 48 (.int .u32 (Z05 .u32 (Z05 .u32 (Z0f (B.getD ((j + 16) - 2) 0) 17) (Z0f (B.getD ((j + 16) - 2) 0) 19)) ((B.getD ((j + 16) - 2) 0) / 1024))) ?_
  refine wv 9 (.int .u32 (Z05 .u32 (Z05 .u32 (Z0f (B.getD ((j + 16) - 2) 0) 17) (Z0f (B.getD ((j + 16) - 2) 0) 19)) ((B.getD ((j + 16) - 2) 0) / 1024))) ?_
  apply znt
  refine Z1o H52 [Z7 w (fun _ => False), ZT .u32 b2 142 64 (List.replicate 64 (0 : Int)), ZT .u32 b7 142 64 B] [15] 16 rfl (by kernel_rfl) (fun Hx => (Hx.pk [0, 1, 2])) ?_
  intro w54 H55 S56
  refine zkp 0 S56 49 (.int .i64 (((j : Int) + 16))) ?_
  refine zkp 1 S56 50 (.int .i64 (((j : Int) + 16))) ?_
  refine zkp 2 S56 51 (.int .i64 (((j : Int) + 16) - 16)) ?_ (he := fun _ => (Z0I (z := ((j : Int) + 16) - 16) (by kernel_rfl) (IntWalk.i64_in _ (by omega))))
  refine zkp 3 S56 52 (.pointer (some ⟨b7, 0 + (((j : Int) + 16) - 16).toNat * 1, none⟩)) ?_ (he := fun _ => (Z0q (E := 141) (N := 64) (by kernel_rfl) (by kernel_rfl) (Nat.le_of_ble_eq_true rfl) rfl rfl (by omega) (by omega)))
  refine zkv 4 S56 53 (.int .u32 (B.getD ((j + 16) - 16) 0)) ?_ (he := fun _ H' => (Zi rfl (by kernel_rfl) (Z06 (H'.at 2 rfl) (show ((j + 16) - 16) < 64 by omega) (show 0 + (((j : Int) + 16) - 16).toNat * 1 = ((j + 16) - 16) by omega))))
  refine zkp 5 S56 54 (.int .u32 (Z05 .u32 (Z05 .u32 (Z0f (B.getD ((j + 16) - 15) 0) 7) (Z0f (B.getD ((j + 16) - 15) 0) 18)) ((B.getD ((j + 16) - 15) 0) / 8))) ?_
  refine zkp 6 S56 55 (.int .u32 (IntKind.u32.wrap ((B.getD ((j + 16) - 16) 0) + (Z05 .u32 (Z05 .u32 (Z0f (B.getD ((j + 16) - 15) 0) 7) (Z0f (B.getD ((j + 16) - 15) 0) 18)) ((B.getD ((j + 16) - 15) 0) / 8))))) ?_
  refine zkp 7 S56 56 (.int .i64 (((j : Int) + 16))) ?_
  refine zkp 8 S56 57 (.int .i64 (((j : Int) + 16) - 7)) ?_ (he := fun _ => (Z0I (z := ((j : Int) + 16) - 7) (by kernel_rfl) (IntWalk.i64_in _ (by omega))))
  refine zkp 9 S56 58 (.pointer (some ⟨b7, 0 + (((j : Int) + 16) - 7).toNat * 1, none⟩)) ?_ (he := fun _ => (Z0q (E := 141) (N := 64) (by kernel_rfl) (by kernel_rfl) (Nat.le_of_ble_eq_true rfl) rfl rfl (by omega) (by omega)))
  refine zkv 10 S56 59 (.int .u32 (B.getD ((j + 16) - 7) 0)) ?_ (he := fun _ H' => (Zi rfl (by kernel_rfl) (Z06 (H'.at 2 rfl) (show ((j + 16) - 7) < 64 by omega) (show 0 + (((j : Int) + 16) - 7).toNat * 1 = ((j + 16) - 7) by omega))))
  refine zkp 11 S56 60 (.int .u32 (IntKind.u32.wrap ((IntKind.u32.wrap ((B.getD ((j + 16) - 16) 0) + (Z05 .u32 (Z05 .u32 (Z0f (B.getD ((j + 16) - 15) 0) 7) (Z0f (B.getD ((j + 16) - 15) 0) 18)) ((B.getD ((j + 16) - 15) 0) / 8)))) + (B.getD ((j + 16) - 7) 0)))) ?_
  refine zkp 12 S56 61 (.int .u32 (Z05 .u32 (Z05 .u32 (Z0f (B.getD ((j + 16) - 2) 0) 17) (Z0f (B.getD ((j + 16) - 2) 0) 19)) ((B.getD ((j + 16) - 2) 0) / 1024))) ?_
  refine zkp 13 S56 62 (.int .u32 (IntKind.u32.wrap ((IntKind.u32.wrap ((IntKind.u32.wrap ((B.getD ((j + 16) - 16) 0) + (Z05 .u32 (Z05 .u32 (Z0f (B.getD ((j + 16) - 15) 0) 7) (Z0f (B.getD ((j + 16) - 15) 0) 18)) ((B.getD ((j + 16) - 15) 0) / 8)))) + (B.getD ((j + 16) - 7) 0))) + (Z05 .u32 (Z05 .u32 (Z0f (B.getD ((j + 16) - 2) 0) 17) (Z0f (B.getD ((j + 16) - 2) 0) 19)) ((B.getD ((j + 16) - 2) 0) / 1024))))) ?_
  refine zkp 14 S56 63 (.pointer (some ⟨b7, 0 + (((j : Int) + 16)).toNat * 1, none⟩)) ?_ (he := fun _ => (Z0q (E := 141) (N := 64) (by kernel_rfl) (by kernel_rfl) (Nat.le_of_ble_eq_true rfl) rfl rfl (by omega) (by omega)))
  refine Z3u 15 (Sat w [Z7 w (fun _ => False), ZT .u32 b2 142 64 (List.replicate 64 (0 : Int))]) rfl (by kernel_rfl) (Z5 rfl) rfl (fun Kq kq => ?_)
  refine Z41 .u32 rfl H55 2 rfl rfl rfl (by kernel_rfl) (show 0 + (((j : Int) + 16)).toNat * 1 = (j + 16) by omega) (show (j + 16) < 64 by omega) ?_
  intro w58 H59
  have S60 := H59.pk [0, 1]
  refine kq _ _ S60 ?_
  clear kq Kq
  refine zhf ?_
  apply Zw
  apply ztn
  apply Zt
  refine wv 23 (.int .i64 (((j : Int) + 16))) ?_
  refine zwi 24 (((j : Int) + 16) + 1) ?_
  refine wv 5 (.int .i64 (((j : Int) + 16) + 1)) ?_
  apply Zu
  refine ZE ?_ _ ⟨(j + 1), (B.set (j + 16) (IntKind.u32.wrap ((IntKind.u32.wrap ((IntKind.u32.wrap ((B.getD ((j + 16) - 16) 0) + (Z05 .u32 (Z05 .u32 (Z0f (B.getD ((j + 16) - 15) 0) 7) (Z0f (B.getD ((j + 16) - 15) 0) 18)) ((B.getD ((j + 16) - 15) 0) / 8)))) + (B.getD ((j + 16) - 7) 0))) + (Z05 .u32 (Z05 .u32 (Z0f (B.getD ((j + 16) - 2) 0) 17) (Z0f (B.getD ((j + 16) - 2) 0) 19)) ((B.getD ((j + 16) - 2) 0) / 1024))))), (show ((.int .i64 (((j : Int) + 16) + 1)) : Value) = _ by first | rfl | go_num | exact congrArg (Value.int .i64) (by omega)), (by omega), (by rw [hB]; rfl), H59, rfl⟩ (by omega)
  exact zs
 have g61 := of_decide_eq_false b33
 refine Z1a _ b33 ?_
 apply zxb
 apply ztn
 apply zsl
 refine wv 64 (.agg ⟨(B.map (Value.int .u32))⟩) ?_ (hr := Z28 rfl (by kernel_rfl) (by kernel_rfl) (by decide) (H30.at 2 rfl))
 refine zwd fun Kq kq => ?_
 refine Z0m .u32 (B := B) rfl H30 1 rfl rfl rfl (by kernel_rfl) (by kernel_rfl) (by decide) (by exact Z0S (H30.at 2 rfl)) ?_
 intro w64 H65
 refine kq _ _ ?_
 clear kq Kq
 apply znt
 apply Zz
 have hAL_ : B.length = 64 := Z0S (H65.at 1 rfl)
 have H66 : Sat w [Z7 w (fun _ => False), Z3 b2 142 (B.map (Value.int .u32)), ZT .u32 b7 142 64 B] w64 := Sat.offW H65 1 rfl
 refine Z1x rfl (Z02 (vs := (B.map (Value.int .u32))) rfl (by kernel_rfl) (by rw [List.length_map, hAL_]; kernel_rfl) (by rw [List.length_map, hAL_]; decide) (H66.at 1 rfl) (List.take_length)) ?_
 have hww : B = wOq s := by rw [hB, hA, show j = 48 by omega]; rfl
 exact ⟨by rw [hww], H66.upd 0 rfl [] (fun _ h => h.elim)⟩
theorem Z2x (w : World) (v : Value) (s : List UInt8) (hs : ListAt ZH 1 w v s) (hl : 64 ≤ s.length) : Calls Tryz.prog 107 #[v] w fun e w' => e = .returned (.agg ⟨(wOq s).map (Value.int .u32)⟩) ∧ Upd [] w w' := by
 obtain ⟨a, c, rfl⟩ := SliceOf.len hs
 exact Z8G w a c s hs hl
theorem Zch (A : List Int) (j : Nat) : (wEx A j).length = A.length := by
 induction j with
 | zero => rfl
 | succ j ih => simp [wEx, exS, ih]
theorem Zci (s : List UInt8) (i : Nat) : (wLq s i).length = 64 := by
 induction i with
 | zero => rfl
 | succ i ih => simp [wLq, ih]
theorem Z3z (s : List UInt8) : (wOq s).length = 64 := (Zch _ _).trans (Zci s 16)
theorem Zc5 (w : World) (sa : Option Addr) (sc : Nat) (s : List UInt8) (hs : ListAt ZH 1 w (.slice sa s.length sc) s) (hl : 64 ≤ s.length) (HH : List Int) (hH : HH.length = 8) :
  Calls Tryz.prog 91 #[(.agg ⟨(HH.map (Value.int .u32))⟩), (.agg ⟨(kR.map (Value.int .u32))⟩), (.slice sa s.length sc)] w fun e w' => e = .returned (.agg ⟨(Z9S HH s).map (Value.int .u32)⟩) ∧ Upd [] w w' := by
 have H := Sat.start0 w
 refine Zg Tryz.func91 rfl 118 rfl (Nat.le_of_ble_eq_true rfl) ?_
 apply zsl
 refine zwd fun Kq kq => ?_
 refine zdb (HH.map (Value.int .u32)) H ?_
 intro b2 w3 (H4 : Sat w [Z7 w (fun _ => False), Z3 b2 144 (HH.map (Value.int .u32))] w3)
 have H5 : Sat w [Z7 w (fun _ => False), ZT .u32 b2 144 8 HH] w3 := Sat.toW H4 1 .u32 HH (by kernel_rfl) (by exact hH)
 refine kq _ _ ?_
 clear kq Kq
 refine zwd fun Kq kq => ?_
 refine zdb (kR.map (Value.int .u32)) H5 ?_
 intro b7 w8 (H9 : Sat w [Z7 w (fun _ => False), ZT .u32 b2 144 8 HH, Z3 b7 142 (kR.map (Value.int .u32))] w8)
 have H10 : Sat w [Z7 w (fun _ => False), ZT .u32 b2 144 8 HH, ZT .u32 b7 142 64 kR] w8 := Sat.toW H9 2 .u32 kR (by kernel_rfl) (by first | rfl | simp)
 refine kq _ _ ?_
 clear kq Kq
 refine zwd fun Kq kq => ?_
 refine zda (Z1l) H10 ?_
 intro b12 w13 (H14 : Sat w [Z7 w (fun _ => False), ZT .u32 b2 144 8 HH, ZT .u32 b7 142 64 kR, Z3 b12 144 (Z1l)] w13)
 have H15 : Sat w [Z7 w (fun _ => False), ZT .u32 b2 144 8 HH, ZT .u32 b7 142 64 kR, ZT .u32 b12 144 8 ([0, 0, 0, 0, 0, 0, 0, 0] : List Int)] w13 := Sat.toW H14 3 .u32 ([0, 0, 0, 0, 0, 0, 0, 0] : List Int) (by kernel_rfl) (by first | rfl | simp)
 refine kq _ _ ?_
 clear kq Kq
 apply znt
 refine Z0v [7, 8, 17, 18, 19] (fun G_ W_ => ∃ (bq7 bq8 : Nat), G_ 7 = (pt bq7 0) ∧ G_ 8 = (pt bq8 0) ∧ Sat w [Z7 w (fun _ => False), ZT .u32 b2 144 8 HH, ZT .u32 b7 142 64 kR, ZT .u32 b12 144 8 ([0, 0, 0, 0, 0, 0, 0, 0] : List Int), ZT .u32 bq7 142 64 (wOq s), ZT .u32 bq8 144 8 HH] W_) ?_ ?_
 ·refine Z0b H15 [Z7 w (fun _ => False), ZT .u32 b2 144 8 HH, ZT .u32 b7 142 64 kR, ZT .u32 b12 144 8 ([0, 0, 0, 0, 0, 0, 0, 0] : List Int)] 7 rfl (by kernel_rfl) (fun Hx => (Hx.pk [0, 1, 2, 3])) ?_
  intro w17 H18 S19
  refine hv0 0 S19 17 (.slice sa s.length sc) ?_
  refine hv0 2 S19 19 (.agg ⟨(HH.map (Value.int .u32))⟩) ?_ (he := fun _ H' => (Z28 rfl (by kernel_rfl) (by kernel_rfl) (by decide) (H'.at 1 rfl)))
  refine h_do3 1 3 4 rfl rfl rfl (by kernel_rfl) (Z5 rfl) (Z5 rfl) (Z5 rfl) (fun Kq kq => ?_) (fun Kq kq => ?_) (fun Kq kq => ?_)
  ·refine zdq 18 (Z2x w17 (.slice sa s.length sc) s (ListAt.now H18 0 rfl hs) hl) H18 ?_
   intro w21 H22
   have S24 := H22.pk [0, 1, 2, 3]
   refine kq _ _ S24 ?_
   clear kq Kq
   refine Z3W 3 4 rfl rfl (by kernel_rfl) (Z5 rfl) (Z5 rfl) (fun Kq kq => ?_) (fun Kq kq => ?_)
   ·refine zda (Z0Z) H22 ?_
    intro b26 w27 (H28 : Sat w [Z7 w (fun _ => False), ZT .u32 b2 144 8 HH, ZT .u32 b7 142 64 kR, ZT .u32 b12 144 8 ([0, 0, 0, 0, 0, 0, 0, 0] : List Int), Z3 b26 142 (Z0Z)] w27)
    have H29 : Sat w [Z7 w (fun _ => False), ZT .u32 b2 144 8 HH, ZT .u32 b7 142 64 kR, ZT .u32 b12 144 8 ([0, 0, 0, 0, 0, 0, 0, 0] : List Int), ZT .u32 b26 142 64 (List.replicate 64 (0 : Int))] w27 := Sat.toW H28 4 .u32 (List.replicate 64 (0 : Int)) (by kernel_rfl) (by first | rfl | simp)
    have S30 := H29.pk [0, 1, 2, 3]
    refine kq _ _ S30 ?_
    clear kq Kq
    refine Z0H 4 fun Kq kq => ?_
    refine zda (Z1l) H29 ?_
    intro b32 w33 (H34 : Sat w [Z7 w (fun _ => False), ZT .u32 b2 144 8 HH, ZT .u32 b7 142 64 kR, ZT .u32 b12 144 8 ([0, 0, 0, 0, 0, 0, 0, 0] : List Int), ZT .u32 b26 142 64 (List.replicate 64 (0 : Int)), Z3 b32 144 (Z1l)] w33)
    have H35 : Sat w [Z7 w (fun _ => False), ZT .u32 b2 144 8 HH, ZT .u32 b7 142 64 kR, ZT .u32 b12 144 8 ([0, 0, 0, 0, 0, 0, 0, 0] : List Int), ZT .u32 b26 142 64 (List.replicate 64 (0 : Int)), ZT .u32 b32 144 8 ([0, 0, 0, 0, 0, 0, 0, 0] : List Int)] w33 := Sat.toW H34 5 .u32 ([0, 0, 0, 0, 0, 0, 0, 0] : List Int) (by kernel_rfl) (by exact Z0S (H34.at 3 rfl))
    have S36 := H35.pk [0, 1, 2, 3]
    refine kq _ _ S36 ?_
    clear kq Kq
    refine Z0H 5 fun Kq kq => ?_
    refine Z0m .u32 (B := (wOq s)) rfl H35 4 rfl rfl rfl (by kernel_rfl) (by kernel_rfl) (by decide) (by exact Z3z s) ?_
    intro w38 H39
    have S40 := H39.pk [0, 1, 2, 3]
    refine kq _ _ S40 ?_
    clear kq Kq
    refine Z0H 6 fun Kq kq => ?_
    refine Z0m .u32 (B := HH) rfl H39 5 rfl rfl rfl (by kernel_rfl) (by kernel_rfl) (by decide) (by exact hH) ?_
    intro w42 H43
    have S44 := H43.pk [0, 1, 2, 3]
    refine kq _ _ S44 ?_
    clear kq Kq
    refine zhf ?_
    refine ZJ ?_ ⟨b26, b32, rfl, rfl, (H43.pk [0, 1, 2, 3, 4, 5])⟩
    exact zs
   refine zda (Z1l) H22 ?_
   intro b45 w46 (H47 : Sat w [Z7 w (fun _ => False), ZT .u32 b2 144 8 HH, ZT .u32 b7 142 64 kR, ZT .u32 b12 144 8 ([0, 0, 0, 0, 0, 0, 0, 0] : List Int), Z3 b45 144 (Z1l)] w46)
   have H48 : Sat w [Z7 w (fun _ => False), ZT .u32 b2 144 8 HH, ZT .u32 b7 142 64 kR, ZT .u32 b12 144 8 ([0, 0, 0, 0, 0, 0, 0, 0] : List Int), ZT .u32 b45 144 8 ([0, 0, 0, 0, 0, 0, 0, 0] : List Int)] w46 := Sat.toW H47 4 .u32 ([0, 0, 0, 0, 0, 0, 0, 0] : List Int) (by kernel_rfl) (by exact Z0S (H47.at 3 rfl))
   have S49 := H48.pk [0, 1, 2, 3]
   refine kq _ _ S49 ?_
   clear kq Kq
   refine Z0H 3 fun Kq kq => ?_
   refine zda (Z0Z) H48 ?_
   intro b51 w52 (H53 : Sat w [Z7 w (fun _ => False), ZT .u32 b2 144 8 HH, ZT .u32 b7 142 64 kR, ZT .u32 b12 144 8 ([0, 0, 0, 0, 0, 0, 0, 0] : List Int), ZT .u32 b45 144 8 ([0, 0, 0, 0, 0, 0, 0, 0] : List Int), Z3 b51 142 (Z0Z)] w52)
   have H54 : Sat w [Z7 w (fun _ => False), ZT .u32 b2 144 8 HH, ZT .u32 b7 142 64 kR, ZT .u32 b12 144 8 ([0, 0, 0, 0, 0, 0, 0, 0] : List Int), ZT .u32 b45 144 8 ([0, 0, 0, 0, 0, 0, 0, 0] : List Int), ZT .u32 b51 142 64 (List.replicate 64 (0 : Int))] w52 := Sat.toW H53 5 .u32 (List.replicate 64 (0 : Int)) (by kernel_rfl) (by first | rfl | simp)
   have S55 := H54.pk [0, 1, 2, 3]
   refine kq _ _ S55 ?_
   clear kq Kq
   refine Z0H 5 fun Kq kq => ?_
   refine Z0m .u32 (B := (wOq s)) rfl H54 5 rfl rfl rfl (by kernel_rfl) (by kernel_rfl) (by decide) (by exact Z3z s) ?_
   intro w57 H58
   have S59 := H58.pk [0, 1, 2, 3]
   refine kq _ _ S59 ?_
   clear kq Kq
   refine Z0H 6 fun Kq kq => ?_
   refine Z0m .u32 (B := HH) rfl H58 4 rfl rfl rfl (by kernel_rfl) (by kernel_rfl) (by decide) (by exact hH) ?_
   intro w61 H62
   have S63 := H62.pk [0, 1, 2, 3]
   refine kq _ _ S63 ?_
   clear kq Kq
   refine zhf ?_
   refine ZJ ?_ ⟨b51, b45, rfl, rfl, (H62.pk [0, 1, 2, 3, 5, 4])⟩
   exact zs
  ·refine zda (Z0Z) H18 ?_
   intro b64 w65 (H66 : Sat w [Z7 w (fun _ => False), ZT .u32 b2 144 8 HH, ZT .u32 b7 142 64 kR, ZT .u32 b12 144 8 ([0, 0, 0, 0, 0, 0, 0, 0] : List Int), Z3 b64 142 (Z0Z)] w65)
   have H67 : Sat w [Z7 w (fun _ => False), ZT .u32 b2 144 8 HH, ZT .u32 b7 142 64 kR, ZT .u32 b12 144 8 ([0, 0, 0, 0, 0, 0, 0, 0] : List Int), ZT .u32 b64 142 64 (List.replicate 64 (0 : Int))] w65 := Sat.toW H66 4 .u32 (List.replicate 64 (0 : Int)) (by kernel_rfl) (by first | rfl | simp)
   have S68 := H67.pk [0, 1, 2, 3]
   refine kq _ _ S68 ?_
   clear kq Kq
   refine Z3W 1 4 rfl rfl (by kernel_rfl) (Z5 rfl) (Z5 rfl) (fun Kq kq => ?_) (fun Kq kq => ?_)
   ·refine zdq 18 (Z2x w65 (.slice sa s.length sc) s (ListAt.now H67 0 rfl hs) hl) H67 ?_
    intro w70 H71
    have S73 := H71.pk [0, 1, 2, 3]
    refine kq _ _ S73 ?_
    clear kq Kq
    refine Z0H 4 fun Kq kq => ?_
    refine zda (Z1l) H71 ?_
    intro b75 w76 (H77 : Sat w [Z7 w (fun _ => False), ZT .u32 b2 144 8 HH, ZT .u32 b7 142 64 kR, ZT .u32 b12 144 8 ([0, 0, 0, 0, 0, 0, 0, 0] : List Int), ZT .u32 b64 142 64 (List.replicate 64 (0 : Int)), Z3 b75 144 (Z1l)] w76)
    have H78 : Sat w [Z7 w (fun _ => False), ZT .u32 b2 144 8 HH, ZT .u32 b7 142 64 kR, ZT .u32 b12 144 8 ([0, 0, 0, 0, 0, 0, 0, 0] : List Int), ZT .u32 b64 142 64 (List.replicate 64 (0 : Int)), ZT .u32 b75 144 8 ([0, 0, 0, 0, 0, 0, 0, 0] : List Int)] w76 := Sat.toW H77 5 .u32 ([0, 0, 0, 0, 0, 0, 0, 0] : List Int) (by kernel_rfl) (by exact Z0S (H77.at 3 rfl))
    have S79 := H78.pk [0, 1, 2, 3]
    refine kq _ _ S79 ?_
    clear kq Kq
    refine Z0H 5 fun Kq kq => ?_
    refine Z0m .u32 (B := (wOq s)) rfl H78 4 rfl rfl rfl (by kernel_rfl) (by kernel_rfl) (by decide) (by exact Z3z s) ?_
    intro w81 H82
    have S83 := H82.pk [0, 1, 2, 3]
    refine kq _ _ S83 ?_
    clear kq Kq
    refine Z0H 6 fun Kq kq => ?_
    refine Z0m .u32 (B := HH) rfl H82 5 rfl rfl rfl (by kernel_rfl) (by kernel_rfl) (by decide) (by exact hH) ?_
    intro w85 H86
    have S87 := H86.pk [0, 1, 2, 3]
    refine kq _ _ S87 ?_
    clear kq Kq
    refine zhf ?_
    refine ZJ ?_ ⟨b64, b75, rfl, rfl, (H86.pk [0, 1, 2, 3, 4, 5])⟩
    exact zs
   refine zda (Z1l) H67 ?_
   intro b88 w89 (H90 : Sat w [Z7 w (fun _ => False), ZT .u32 b2 144 8 HH, ZT .u32 b7 142 64 kR, ZT .u32 b12 144 8 ([0, 0, 0, 0, 0, 0, 0, 0] : List Int), ZT .u32 b64 142 64 (List.replicate 64 (0 : Int)), Z3 b88 144 (Z1l)] w89)
   have H91 : Sat w [Z7 w (fun _ => False), ZT .u32 b2 144 8 HH, ZT .u32 b7 142 64 kR, ZT .u32 b12 144 8 ([0, 0, 0, 0, 0, 0, 0, 0] : List Int), ZT .u32 b64 142 64 (List.replicate 64 (0 : Int)), ZT .u32 b88 144 8 ([0, 0, 0, 0, 0, 0, 0, 0] : List Int)] w89 := Sat.toW H90 5 .u32 ([0, 0, 0, 0, 0, 0, 0, 0] : List Int) (by kernel_rfl) (by exact Z0S (H90.at 3 rfl))
   have S92 := H91.pk [0, 1, 2, 3]
   refine kq _ _ S92 ?_
   clear kq Kq
   refine Z0H 1 fun Kq kq => ?_
   refine Z0L (d := 18) rfl (by kernel_rfl) (Z2x w89 (.slice sa s.length sc) s (ListAt.now H91 0 rfl hs) hl) ?_
   rintro _ w94 ⟨rfl, u96⟩
   have H95 := H91.keepU u96
   refine ⟨_, rfl, ?_⟩
   have S97 := H95.pk [0, 1, 2, 3]
   refine kq _ _ S97 ?_
   clear kq Kq
   refine Z0H 5 fun Kq kq => ?_
   refine Z0m .u32 (B := (wOq s)) rfl H95 4 rfl rfl rfl (by kernel_rfl) (by kernel_rfl) (by decide) (by exact Z3z s) ?_
   intro w99 H100
   have S101 := H100.pk [0, 1, 2, 3]
   refine kq _ _ S101 ?_
   clear kq Kq
   refine Z0H 6 fun Kq kq => ?_
   refine Z0m .u32 (B := HH) rfl H100 5 rfl rfl rfl (by kernel_rfl) (by kernel_rfl) (by decide) (by exact hH) ?_
   intro w103 H104
   have S105 := H104.pk [0, 1, 2, 3]
   refine kq _ _ S105 ?_
   clear kq Kq
   refine zhf ?_
   refine ZJ ?_ ⟨b64, b88, rfl, rfl, (H104.pk [0, 1, 2, 3, 4, 5])⟩
   exact zs
  refine zda (Z1l) H18 ?_
  intro b106 w107 (H108 : Sat w [Z7 w (fun _ => False), ZT .u32 b2 144 8 HH, ZT .u32 b7 142 64 kR, ZT .u32 b12 144 8 ([0, 0, 0, 0, 0, 0, 0, 0] : List Int), Z3 b106 144 (Z1l)] w107)
  have H109 : Sat w [Z7 w (fun _ => False), ZT .u32 b2 144 8 HH, ZT .u32 b7 142 64 kR, ZT .u32 b12 144 8 ([0, 0, 0, 0, 0, 0, 0, 0] : List Int), ZT .u32 b106 144 8 ([0, 0, 0, 0, 0, 0, 0, 0] : List Int)] w107 := Sat.toW H108 4 .u32 ([0, 0, 0, 0, 0, 0, 0, 0] : List Int) (by kernel_rfl) (by exact Z0S (H108.at 3 rfl))
  have S110 := H109.pk [0, 1, 2, 3]
  refine kq _ _ S110 ?_
  clear kq Kq
  refine Z3W 1 3 rfl rfl (by kernel_rfl) (Z5 rfl) (Z5 rfl) (fun Kq kq => ?_) (fun Kq kq => ?_)
  ·refine zdq 18 (Z2x w107 (.slice sa s.length sc) s (ListAt.now H109 0 rfl hs) hl) H109 ?_
   intro w112 H113
   have S115 := H113.pk [0, 1, 2, 3]
   refine kq _ _ S115 ?_
   clear kq Kq
   refine Z0H 3 fun Kq kq => ?_
   refine zda (Z0Z) H113 ?_
   intro b117 w118 (H119 : Sat w [Z7 w (fun _ => False), ZT .u32 b2 144 8 HH, ZT .u32 b7 142 64 kR, ZT .u32 b12 144 8 ([0, 0, 0, 0, 0, 0, 0, 0] : List Int), ZT .u32 b106 144 8 ([0, 0, 0, 0, 0, 0, 0, 0] : List Int), Z3 b117 142 (Z0Z)] w118)
   have H120 : Sat w [Z7 w (fun _ => False), ZT .u32 b2 144 8 HH, ZT .u32 b7 142 64 kR, ZT .u32 b12 144 8 ([0, 0, 0, 0, 0, 0, 0, 0] : List Int), ZT .u32 b106 144 8 ([0, 0, 0, 0, 0, 0, 0, 0] : List Int), ZT .u32 b117 142 64 (List.replicate 64 (0 : Int))] w118 := Sat.toW H119 5 .u32 (List.replicate 64 (0 : Int)) (by kernel_rfl) (by first | rfl | simp)
   have S121 := H120.pk [0, 1, 2, 3]
   refine kq _ _ S121 ?_
   clear kq Kq
   refine Z0H 5 fun Kq kq => ?_
   refine Z0m .u32 (B := (wOq s)) rfl H120 5 rfl rfl rfl (by kernel_rfl) (by kernel_rfl) (by decide) (by exact Z3z s) ?_
   intro w123 H124
   have S125 := H124.pk [0, 1, 2, 3]
   refine kq _ _ S125 ?_
   clear kq Kq
   refine Z0H 6 fun Kq kq => ?_
   refine Z0m .u32 (B := HH) rfl H124 4 rfl rfl rfl (by kernel_rfl) (by kernel_rfl) (by decide) (by exact hH) ?_
   intro w127 H128
   have S129 := H128.pk [0, 1, 2, 3]
   refine kq _ _ S129 ?_
   clear kq Kq
   refine zhf ?_
   refine ZJ ?_ ⟨b117, b106, rfl, rfl, (H128.pk [0, 1, 2, 3, 5, 4])⟩
   exact zs
  refine zda (Z0Z) H109 ?_
  intro b130 w131 (H132 : Sat w [Z7 w (fun _ => False), ZT .u32 b2 144 8 HH, ZT .u32 b7 142 64 kR, ZT .u32 b12 144 8 ([0, 0, 0, 0, 0, 0, 0, 0] : List Int), ZT .u32 b106 144 8 ([0, 0, 0, 0, 0, 0, 0, 0] : List Int), Z3 b130 142 (Z0Z)] w131)
  have H133 : Sat w [Z7 w (fun _ => False), ZT .u32 b2 144 8 HH, ZT .u32 b7 142 64 kR, ZT .u32 b12 144 8 ([0, 0, 0, 0, 0, 0, 0, 0] : List Int), ZT .u32 b106 144 8 ([0, 0, 0, 0, 0, 0, 0, 0] : List Int), ZT .u32 b130 142 64 (List.replicate 64 (0 : Int))] w131 := Sat.toW H132 5 .u32 (List.replicate 64 (0 : Int)) (by kernel_rfl) (by first | rfl | simp)
  have S134 := H133.pk [0, 1, 2, 3]
  refine kq _ _ S134 ?_
  clear kq Kq
  refine Z0H 1 fun Kq kq => ?_
  refine zdq 18 (Z2x w131 (.slice sa s.length sc) s (ListAt.now H133 0 rfl hs) hl) H133 ?_
  intro w136 H137
  have S139 := H137.pk [0, 1, 2, 3]
  refine kq _ _ S139 ?_
  clear kq Kq
  refine Z0H 5 fun Kq kq => ?_
  refine Z0m .u32 (B := (wOq s)) rfl H137 5 rfl rfl rfl (by kernel_rfl) (by kernel_rfl) (by decide) (by exact Z3z s) ?_
  intro w141 H142
  have S143 := H142.pk [0, 1, 2, 3]
  refine kq _ _ S143 ?_
  clear kq Kq
  refine Z0H 6 fun Kq kq => ?_
  refine Z0m .u32 (B := HH) rfl H142 4 rfl rfl rfl (by kernel_rfl) (by kernel_rfl) (by decide) (by exact hH) ?_
  intro w145 H146
  have S147 := H146.pk [0, 1, 2, 3]
  refine kq _ _ S147 ?_
  clear kq Kq
  refine zhf ?_
  refine ZJ ?_ ⟨b130, b106, rfl, rfl, (H146.pk [0, 1, 2, 3, 5, 4])⟩
  exact zs
 rintro f148 w149 ⟨bq7, bq8, v151, v152, H150⟩
 refine Zo 7 _ v151 ?_
 refine Zo 8 _ v152 ?_
 apply Zf
 apply zsl
 refine wv 20 (.int .i64 (0)) ?_
 apply znt
 apply ZA
 refine ZW ([9, 10, 11, 12, 13, 14, 15] ++ List.range' 20 84) (fun F_ W_ m_ => ∃ (i : Nat) (V : List Int), F_ 20 = (.int .i64 ((i : Int))) ∧ (i ≤ 64) ∧ (V = vRu (wOq s) HH i) ∧ Sat w [Z7 w (fun _ => False), ZT .u32 b2 144 8 HH, ZT .u32 b7 142 64 kR, ZT .u32 b12 144 8 ([0, 0, 0, 0, 0, 0, 0, 0] : List Int), ZT .u32 bq7 142 64 (wOq s), ZT .u32 bq8 144 8 V] W_ ∧ m_ = 64 - i) _ ⟨0, HH, (show ((.int .i64 (0)) : Value) = _ by first | rfl | go_num), (Nat.zero_le _), rfl, H150, rfl⟩ ?_
 rintro g153 w154 _ ⟨i, V, v156, hi, hV, H155, rfl⟩
 refine Zo 20 _ v156 ?_
 apply zsl
 refine wv 21 (.bool (decide ((i : Int) < 64))) ?_
 apply znt
 apply Zf
 refine (ZC (decide ((i : Int) < 64))).elim (fun b158 => ?_) (fun b158 => ?_)
 ·have g159 := of_decide_eq_true b158
  refine Z1q _ b158 ?_
  apply ZF
  apply ztn
  apply Zf
  apply ZA
  apply zsl
  refine wv 22 (.int .i64 ((i : Int))) ?_
  refine wv 9 (.int .i64 ((i : Int))) ?_
  apply znt
  apply Zf
  refine zqs H155 ?_
  refine qv 23 (pt bq8 4) ?_
  refine qv 24 (.int .u32 (V.getD 4 0)) ?_ (hr := fun _ H' => (Zi rfl (by kernel_rfl) (Z06 (H'.at 5 rfl) (show 4 < 8 by omega) (show 4 = 4 by omega))))
  refine qv 25 (pt bq8 0) ?_
  refine qv 26 (.int .u32 (V.getD 0 0)) ?_ (hr := fun _ H' => (Zi rfl (by kernel_rfl) (Z06 (H'.at 5 rfl) (show 0 < 8 by omega) (show 0 = 0 by omega))))
  refine qv 10 (.int .u32 (V.getD 4 0)) ?_
  refine qv 11 (.int .u32 (V.getD 0 0)) ?_
  refine Z1A ?_
  intro w161 H162
  apply ztn
  apply zsl
  refine wv 27 (.int .u32 (V.getD 4 0)) ?_
  refine zwd fun Kq kq => ?_
  refine zdq 28 (Z1Y w161 (V.getD 4 0) (-6) 6 (by decide) (by decide)) H162 ?_
  intro w164 H165
  refine kq _ _ ?_
  clear kq Kq
  refine wv 29 (.int .u32 (V.getD 4 0)) ?_
  refine zwd fun Kq kq => ?_
  refine zdq 30 (Z1Y w164 (V.getD 4 0) (-11) 11 (by decide) (by decide)) H165 ?_
  intro w168 H169
  refine kq _ _ ?_
  clear kq Kq
  refine wv 31 (.int .u32 (Z05 .u32 (Z0f (V.getD 4 0) 6) (Z0f (V.getD 4 0) 11))) ?_
  refine wv 32 (.int .u32 (V.getD 4 0)) ?_
  refine zwd fun Kq kq => ?_
  refine zdq 33 (Z1Y w168 (V.getD 4 0) (-25) 25 (by decide) (by decide)) H169 ?_
  intro w172 H173
  refine kq _ _ ?_
  clear kq Kq
  refine wv 34 (.int .u32 (Z05 .u32 (Z05 .u32 (Z0f (V.getD 4 0) 6) (Z0f (V.getD 4 0) 11)) (Z0f (V.getD 4 0) 25))) ?_
  refine wv 12 (.int .u32 (Z05 .u32 (Z05 .u32 (Z0f (V.getD 4 0) 6) (Z0f (V.getD 4 0) 11)) (Z0f (V.getD 4 0) 25))) ?_
  apply znt
  apply Zf
  refine zqs H173 ?_
  refine qv 35 (pt bq8 7) ?_
  refine qv 36 (.int .u32 (V.getD 7 0)) ?_ (hr := fun _ H' => (Zi rfl (by kernel_rfl) (Z06 (H'.at 5 rfl) (show 7 < 8 by omega) (show 7 = 7 by omega))))
  refine qv 37 (.int .u32 (Z05 .u32 (Z05 .u32 (Z0f (V.getD 4 0) 6) (Z0f (V.getD 4 0) 11)) (Z0f (V.getD 4 0) 25))) ?_
  refine qv 38 (.int .u32 (IntKind.u32.wrap ((V.getD 7 0) + (Z05 .u32 (Z05 .u32 (Z0f (V.getD 4 0) 6) (Z0f (V.getD 4 0) 11)) (Z0f (V.getD 4 0) 25))))) ?_
  refine qv 39 (.int .u32 (V.getD 4 0)) ?_
  refine qv 40 (pt bq8 5) ?_
  refine qv 41 (.int .u32 (V.getD 5 0)) ?_ (hr := fun _ H' => (Zi rfl (by kernel_rfl) (Z06 (H'.at 5 rfl) (show 5 < 8 by omega) (show 5 = 5 by omega))))
  refine qv 42 (.int .u32 (Z11 .u32 (V.getD 4 0) (V.getD 5 0))) ?_
  refine qv 43 (.int .u32 (V.getD 4 0)) ?_
  refine qv 44 (.int .u32 (Z05 .u32 4294967295 (V.getD 4 0))) ?_
  refine qv 45 (pt bq8 6) ?_
  refine qv 46 (.int .u32 (V.getD 6 0)) ?_ (hr := fun _ H' => (Zi rfl (by kernel_rfl) (Z06 (H'.at 5 rfl) (show 6 < 8 by omega) (show 6 = 6 by omega))))
  refine qv 47 (.int .u32 (Z11 .u32 (Z05 .u32 4294967295 (V.getD 4 0)) (V.getD 6 0))) ?_
  refine qv 48 (.int .u32 (Z05 .u32 (Z11 .u32 (V.getD 4 0) (V.getD 5 0)) (Z11 .u32 (Z05 .u32 4294967295 (V.getD 4 0)) (V.getD 6 0)))) ?_
  refine qv 49 (.int .u32 (IntKind.u32.wrap ((IntKind.u32.wrap ((V.getD 7 0) + (Z05 .u32 (Z05 .u32 (Z0f (V.getD 4 0) 6) (Z0f (V.getD 4 0) 11)) (Z0f (V.getD 4 0) 25)))) + (Z05 .u32 (Z11 .u32 (V.getD 4 0) (V.getD 5 0)) (Z11 .u32 (Z05 .u32 4294967295 (V.getD 4 0)) (V.getD 6 0)))))) ?_
  refine qv 50 (.int .i64 ((i : Int))) ?_
  refine qv 51 (.pointer (some ⟨b7, 0 + ((i : Int)).toNat * 1, none⟩)) ?_ (hr := fun _ H' => (Z0q (E := 141) (N := 64) (by kernel_rfl) (by kernel_rfl) (Nat.le_of_ble_eq_true rfl) rfl rfl (by omega) (by omega)))
  refine qv 52 (.int .u32 (kR.getD i 0)) ?_ (hr := fun _ H' => (Zi rfl (by kernel_rfl) (Z06 (H'.at 2 rfl) (show i < 64 by omega) (show 0 + ((i : Int)).toNat * 1 = i by omega))))
  refine qv 53 (.int .u32 (IntKind.u32.wrap ((IntKind.u32.wrap ((IntKind.u32.wrap ((V.getD 7 0) + (Z05 .u32 (Z05 .u32 (Z0f (V.getD 4 0) 6) (Z0f (V.getD 4 0) 11)) (Z0f (V.getD 4 0) 25)))) + (Z05 .u32 (Z11 .u32 (V.getD 4 0) (V.getD 5 0)) (Z11 .u32 (Z05 .u32 4294967295 (V.getD 4 0)) (V.getD 6 0))))) + (kR.getD i 0)))) ?_
  refine qv 54 (.int .i64 ((i : Int))) ?_
  refine qv 55 (.pointer (some ⟨bq7, 0 + ((i : Int)).toNat * 1, none⟩)) ?_ (hr := fun _ H' => (Z0q (E := 141) (N := 64) (by kernel_rfl) (by kernel_rfl) (Nat.le_of_ble_eq_true rfl) rfl rfl (by omega) (by omega)))
  refine qv 56 (.int .u32 ((wOq s).getD i 0)) ?_ (hr := fun _ H' => (Zi rfl (by kernel_rfl) (Z06 (H'.at 4 rfl) (show i < 64 by omega) (show 0 + ((i : Int)).toNat * 1 = i by omega))))
  refine qv 57 (.int .u32 (IntKind.u32.wrap ((IntKind.u32.wrap ((IntKind.u32.wrap ((IntKind.u32.wrap ((V.getD 7 0) + (Z05 .u32 (Z05 .u32 (Z0f (V.getD 4 0) 6) (Z0f (V.getD 4 0) 11)) (Z0f (V.getD 4 0) 25)))) + (Z05 .u32 (Z11 .u32 (V.getD 4 0) (V.getD 5 0)) (Z11 .u32 (Z05 .u32 4294967295 (V.getD 4 0)) (V.getD 6 0))))) + (kR.getD i 0))) + ((wOq s).getD i 0)))) ?_
  refine qv 13 (.int .u32 (IntKind.u32.wrap ((IntKind.u32.wrap ((IntKind.u32.wrap ((IntKind.u32.wrap ((V.getD 7 0) + (Z05 .u32 (Z05 .u32 (Z0f (V.getD 4 0) 6) (Z0f (V.getD 4 0) 11)) (Z0f (V.getD 4 0) 25)))) + (Z05 .u32 (Z11 .u32 (V.getD 4 0) (V.getD 5 0)) (Z11 .u32 (Z05 .u32 4294967295 (V.getD 4 0)) (V.getD 6 0))))) + (kR.getD i 0))) + ((wOq s).getD i 0)))) ?_
  refine Z1A ?_
  intro w175 H176
  apply ztn
  apply zsl
  refine wv 58 (.int .u32 (V.getD 0 0)) ?_
  refine zwd fun Kq kq => ?_
  refine zdq 59 (Z1Y w175 (V.getD 0 0) (-2) 2 (by decide) (by decide)) H176 ?_
  intro w178 H179
  refine kq _ _ ?_
  clear kq Kq
  refine wv 60 (.int .u32 (V.getD 0 0)) ?_
  refine zwd fun Kq kq => ?_
  refine zdq 61 (Z1Y w178 (V.getD 0 0) (-13) 13 (by decide) (by decide)) H179 ?_
  intro w182 H183
  refine kq _ _ ?_
  clear kq Kq
  refine wv 62 (.int .u32 (Z05 .u32 (Z0f (V.getD 0 0) 2) (Z0f (V.getD 0 0) 13))) ?_
  refine wv 63 (.int .u32 (V.getD 0 0)) ?_
  refine zwd fun Kq kq => ?_
  refine zdq 64 (Z1Y w182 (V.getD 0 0) (-22) 22 (by decide) (by decide)) H183 ?_
  intro w186 H187
  refine kq _ _ ?_
  clear kq Kq
  refine wv 65 (.int .u32 (Z05 .u32 (Z05 .u32 (Z0f (V.getD 0 0) 2) (Z0f (V.getD 0 0) 13)) (Z0f (V.getD 0 0) 22))) ?_
  refine wv 14 (.int .u32 (Z05 .u32 (Z05 .u32 (Z0f (V.getD 0 0) 2) (Z0f (V.getD 0 0) 13)) (Z0f (V.getD 0 0) 22))) ?_
  apply Z0N
  refine wv 66 (.int .u32 (Z05 .u32 (Z05 .u32 (Z0f (V.getD 0 0) 2) (Z0f (V.getD 0 0) 13)) (Z0f (V.getD 0 0) 22))) ?_
  refine wv 67 (.int .u32 (V.getD 0 0)) ?_
  refine wv 68 (pt bq8 1) ?_
  refine zw1 69 (.int .u32 (V.getD 1 0)) (Z06 (H187.at 5 rfl) (show 1 < 8 by omega) (show 1 = 1 by omega)) ?_
  refine wv 70 (.int .u32 (Z11 .u32 (V.getD 0 0) (V.getD 1 0))) ?_
  refine wv 71 (.int .u32 (V.getD 0 0)) ?_
  refine wv 72 (pt bq8 2) ?_
  refine zw1 73 (.int .u32 (V.getD 2 0)) (Z06 (H187.at 5 rfl) (show 2 < 8 by omega) (show 2 = 2 by omega)) ?_
  refine wv 74 (.int .u32 (Z11 .u32 (V.getD 0 0) (V.getD 2 0))) ?_
  refine wv 75 (.int .u32 (Z05 .u32 (Z11 .u32 (V.getD 0 0) (V.getD 1 0)) (Z11 .u32 (V.getD 0 0) (V.getD 2 0)))) ?_
  refine wv 76 (pt bq8 1) ?_
  refine zw1 77 (.int .u32 (V.getD 1 0)) (Z06 (H187.at 5 rfl) (show 1 < 8 by omega) (show 1 = 1 by omega)) ?_
  refine wv 78 (pt bq8 2) ?_
  refine zw1 79 (.int .u32 (V.getD 2 0)) (Z06 (H187.at 5 rfl) (show 2 < 8 by omega) (show 2 = 2 by omega)) ?_
  refine wv 80 (.int .u32 (Z11 .u32 (V.getD 1 0) (V.getD 2 0))) ?_
  refine wv 81 (.int .u32 (Z05 .u32 (Z05 .u32 (Z11 .u32 (V.getD 0 0) (V.getD 1 0)) (Z11 .u32 (V.getD 0 0) (V.getD 2 0))) (Z11 .u32 (V.getD 1 0) (V.getD 2 0)))) ?_
  refine wv 82 (.int .u32 (IntKind.u32.wrap ((Z05 .u32 (Z05 .u32 (Z0f (V.getD 0 0) 2) (Z0f (V.getD 0 0) 13)) (Z0f (V.getD 0 0) 22)) + (Z05 .u32 (Z05 .u32 (Z11 .u32 (V.getD 0 0) (V.getD 1 0)) (Z11 .u32 (V.getD 0 0) (V.getD 2 0))) (Z11 .u32 (V.getD 1 0) (V.getD 2 0)))))) ?_
  refine wv 15 (.int .u32 (IntKind.u32.wrap ((Z05 .u32 (Z05 .u32 (Z0f (V.getD 0 0) 2) (Z0f (V.getD 0 0) 13)) (Z0f (V.getD 0 0) 22)) + (Z05 .u32 (Z05 .u32 (Z11 .u32 (V.getD 0 0) (V.getD 1 0)) (Z11 .u32 (V.getD 0 0) (V.getD 2 0))) (Z11 .u32 (V.getD 1 0) (V.getD 2 0)))))) ?_
  apply znt
  apply Zt
  refine wv 83 (.int .u32 (IntKind.u32.wrap ((IntKind.u32.wrap ((IntKind.u32.wrap ((IntKind.u32.wrap ((V.getD 7 0) + (Z05 .u32 (Z05 .u32 (Z0f (V.getD 4 0) 6) (Z0f (V.getD 4 0) 11)) (Z0f (V.getD 4 0) 25)))) + (Z05 .u32 (Z11 .u32 (V.getD 4 0) (V.getD 5 0)) (Z11 .u32 (Z05 .u32 4294967295 (V.getD 4 0)) (V.getD 6 0))))) + (kR.getD i 0))) + ((wOq s).getD i 0)))) ?_
  refine wv 84 (.int .u32 (IntKind.u32.wrap ((Z05 .u32 (Z05 .u32 (Z0f (V.getD 0 0) 2) (Z0f (V.getD 0 0) 13)) (Z0f (V.getD 0 0) 22)) + (Z05 .u32 (Z05 .u32 (Z11 .u32 (V.getD 0 0) (V.getD 1 0)) (Z11 .u32 (V.getD 0 0) (V.getD 2 0))) (Z11 .u32 (V.getD 1 0) (V.getD 2 0)))))) ?_
  refine wv 85 (.int .u32 (IntKind.u32.wrap ((IntKind.u32.wrap ((IntKind.u32.wrap ((IntKind.u32.wrap ((IntKind.u32.wrap ((V.getD 7 0) + (Z05 .u32 (Z05 .u32 (Z0f (V.getD 4 0) 6) (Z0f (V.getD 4 0) 11)) (Z0f (V.getD 4 0) 25)))) + (Z05 .u32 (Z11 .u32 (V.getD 4 0) (V.getD 5 0)) (Z11 .u32 (Z05 .u32 4294967295 (V.getD 4 0)) (V.getD 6 0))))) + (kR.getD i 0))) + ((wOq s).getD i 0))) + (IntKind.u32.wrap ((Z05 .u32 (Z05 .u32 (Z0f (V.getD 0 0) 2) (Z0f (V.getD 0 0) 13)) (Z0f (V.getD 0 0) 22)) + (Z05 .u32 (Z05 .u32 (Z11 .u32 (V.getD 0 0) (V.getD 1 0)) (Z11 .u32 (V.getD 0 0) (V.getD 2 0))) (Z11 .u32 (V.getD 1 0) (V.getD 2 0)))))))) ?_
  refine wv 86 (pt bq8 0) ?_
  refine zw1 87 (.int .u32 (V.getD 0 0)) (Z06 (H187.at 5 rfl) (show 0 < 8 by omega) (show 0 = 0 by omega)) ?_
  refine wv 88 (pt bq8 1) ?_
  refine zw1 89 (.int .u32 (V.getD 1 0)) (Z06 (H187.at 5 rfl) (show 1 < 8 by omega) (show 1 = 1 by omega)) ?_
  refine wv 90 (pt bq8 2) ?_
  refine zw1 91 (.int .u32 (V.getD 2 0)) (Z06 (H187.at 5 rfl) (show 2 < 8 by omega) (show 2 = 2 by omega)) ?_
  refine wv 92 (pt bq8 3) ?_
  refine zw1 93 (.int .u32 (V.getD 3 0)) (Z06 (H187.at 5 rfl) (show 3 < 8 by omega) (show 3 = 3 by omega)) ?_
  refine wv 94 (.int .u32 (IntKind.u32.wrap ((IntKind.u32.wrap ((IntKind.u32.wrap ((IntKind.u32.wrap ((V.getD 7 0) + (Z05 .u32 (Z05 .u32 (Z0f (V.getD 4 0) 6) (Z0f (V.getD 4 0) 11)) (Z0f (V.getD 4 0) 25)))) + (Z05 .u32 (Z11 .u32 (V.getD 4 0) (V.getD 5 0)) (Z11 .u32 (Z05 .u32 4294967295 (V.getD 4 0)) (V.getD 6 0))))) + (kR.getD i 0))) + ((wOq s).getD i 0)))) ?_
  refine wv 95 (.int .u32 (IntKind.u32.wrap ((V.getD 3 0) + (IntKind.u32.wrap ((IntKind.u32.wrap ((IntKind.u32.wrap ((IntKind.u32.wrap ((V.getD 7 0) + (Z05 .u32 (Z05 .u32 (Z0f (V.getD 4 0) 6) (Z0f (V.getD 4 0) 11)) (Z0f (V.getD 4 0) 25)))) + (Z05 .u32 (Z11 .u32 (V.getD 4 0) (V.getD 5 0)) (Z11 .u32 (Z05 .u32 4294967295 (V.getD 4 0)) (V.getD 6 0))))) + (kR.getD i 0))) + ((wOq s).getD i 0)))))) ?_
  refine wv 96 (pt bq8 4) ?_
  refine zw1 97 (.int .u32 (V.getD 4 0)) (Z06 (H187.at 5 rfl) (show 4 < 8 by omega) (show 4 = 4 by omega)) ?_
  refine wv 98 (pt bq8 5) ?_
  refine zw1 99 (.int .u32 (V.getD 5 0)) (Z06 (H187.at 5 rfl) (show 5 < 8 by omega) (show 5 = 5 by omega)) ?_
  refine wv 100 (pt bq8 6) ?_
  refine zw1 101 (.int .u32 (V.getD 6 0)) (Z06 (H187.at 5 rfl) (show 6 < 8 by omega) (show 6 = 6 by omega)) ?_
  refine wv 102 (.agg ⟨([(.int .u32 (IntKind.u32.wrap ((IntKind.u32.wrap ((IntKind.u32.wrap ((IntKind.u32.wrap ((IntKind.u32.wrap ((V.getD 7 0) + (Z05 .u32 (Z05 .u32 (Z0f (V.getD 4 0) 6) (Z0f (V.getD 4 0) 11)) (Z0f (V.getD 4 0) 25)))) + (Z05 .u32 (Z11 .u32 (V.getD 4 0) (V.getD 5 0)) (Z11 .u32 (Z05 .u32 4294967295 (V.getD 4 0)) (V.getD 6 0))))) + (kR.getD i 0))) + ((wOq s).getD i 0))) + (IntKind.u32.wrap ((Z05 .u32 (Z05 .u32 (Z0f (V.getD 0 0) 2) (Z0f (V.getD 0 0) 13)) (Z0f (V.getD 0 0) 22)) + (Z05 .u32 (Z05 .u32 (Z11 .u32 (V.getD 0 0) (V.getD 1 0)) (Z11 .u32 (V.getD 0 0) (V.getD 2 0))) (Z11 .u32 (V.getD 1 0) (V.getD 2 0)))))))), (.int .u32 (V.getD 0 0)), (.int .u32 (V.getD 1 0)), (.int .u32 (V.getD 2 0)), (.int .u32 (IntKind.u32.wrap ((V.getD 3 0) + (IntKind.u32.wrap ((IntKind.u32.wrap ((IntKind.u32.wrap ((IntKind.u32.wrap ((V.getD 7 0) + (Z05 .u32 (Z05 .u32 (Z0f (V.getD 4 0) 6) (Z0f (V.getD 4 0) 11)) (Z0f (V.getD 4 0) 25)))) + (Z05 .u32 (Z11 .u32 (V.getD 4 0) (V.getD 5 0)) (Z11 .u32 (Z05 .u32 4294967295 (V.getD 4 0)) (V.getD 6 0))))) + (kR.getD i 0))) + ((wOq s).getD i 0)))))), (.int .u32 (V.getD 4 0)), (.int .u32 (V.getD 5 0)), (.int .u32 (V.getD 6 0))] : List Value)⟩) ?_
  refine zwd fun Kq kq => ?_
  refine Z0m .u32 (B := ([IntKind.u32.wrap ((IntKind.u32.wrap ((IntKind.u32.wrap ((IntKind.u32.wrap ((IntKind.u32.wrap ((V.getD 7 0) + (Z05 .u32 (Z05 .u32 (Z0f (V.getD 4 0) 6) (Z0f (V.getD 4 0) 11)) (Z0f (V.getD 4 0) 25)))) + (Z05 .u32 (Z11 .u32 (V.getD 4 0) (V.getD 5 0)) (Z11 .u32 (Z05 .u32 4294967295 (V.getD 4 0)) (V.getD 6 0))))) + (kR.getD i 0))) + ((wOq s).getD i 0))) + (IntKind.u32.wrap ((Z05 .u32 (Z05 .u32 (Z0f (V.getD 0 0) 2) (Z0f (V.getD 0 0) 13)) (Z0f (V.getD 0 0) 22)) + (Z05 .u32 (Z05 .u32 (Z11 .u32 (V.getD 0 0) (V.getD 1 0)) (Z11 .u32 (V.getD 0 0) (V.getD 2 0))) (Z11 .u32 (V.getD 1 0) (V.getD 2 0)))))), V.getD 0 0, V.getD 1 0, V.getD 2 0, IntKind.u32.wrap ((V.getD 3 0) + (IntKind.u32.wrap ((IntKind.u32.wrap ((IntKind.u32.wrap ((IntKind.u32.wrap ((V.getD 7 0) + (Z05 .u32 (Z05 .u32 (Z0f (V.getD 4 0) 6) (Z0f (V.getD 4 0) 11)) (Z0f (V.getD 4 0) 25)))) + (Z05 .u32 (Z11 .u32 (V.getD 4 0) (V.getD 5 0)) (Z11 .u32 (Z05 .u32 4294967295 (V.getD 4 0)) (V.getD 6 0))))) + (kR.getD i 0))) + ((wOq s).getD i 0)))), V.getD 4 0, V.getD 5 0, V.getD 6 0] : List Int)) rfl H187 5 rfl rfl rfl (by kernel_rfl) (by kernel_rfl) (by decide) (by first | rfl | simp) ?_
  intro w190 H191
  refine kq _ _ ?_
  clear kq Kq
  apply Zu
  apply Zw
  apply ztn
  apply Zt
  refine zwi 103 ((i : Int) + 1) ?_
  refine wv 20 (.int .i64 ((i : Int) + 1)) ?_
  apply Zu
  refine ZE ?_ _ ⟨(i + 1), ([IntKind.u32.wrap ((IntKind.u32.wrap ((IntKind.u32.wrap ((IntKind.u32.wrap ((IntKind.u32.wrap ((V.getD 7 0) + (Z05 .u32 (Z05 .u32 (Z0f (V.getD 4 0) 6) (Z0f (V.getD 4 0) 11)) (Z0f (V.getD 4 0) 25)))) + (Z05 .u32 (Z11 .u32 (V.getD 4 0) (V.getD 5 0)) (Z11 .u32 (Z05 .u32 4294967295 (V.getD 4 0)) (V.getD 6 0))))) + (kR.getD i 0))) + ((wOq s).getD i 0))) + (IntKind.u32.wrap ((Z05 .u32 (Z05 .u32 (Z0f (V.getD 0 0) 2) (Z0f (V.getD 0 0) 13)) (Z0f (V.getD 0 0) 22)) + (Z05 .u32 (Z05 .u32 (Z11 .u32 (V.getD 0 0) (V.getD 1 0)) (Z11 .u32 (V.getD 0 0) (V.getD 2 0))) (Z11 .u32 (V.getD 1 0) (V.getD 2 0)))))), V.getD 0 0, V.getD 1 0, V.getD 2 0, IntKind.u32.wrap ((V.getD 3 0) + (IntKind.u32.wrap ((IntKind.u32.wrap ((IntKind.u32.wrap ((IntKind.u32.wrap ((V.getD 7 0) + (Z05 .u32 (Z05 .u32 (Z0f (V.getD 4 0) 6) (Z0f (V.getD 4 0) 11)) (Z0f (V.getD 4 0) 25)))) + (Z05 .u32 (Z11 .u32 (V.getD 4 0) (V.getD 5 0)) (Z11 .u32 (Z05 .u32 4294967295 (V.getD 4 0)) (V.getD 6 0))))) + (kR.getD i 0))) + ((wOq s).getD i 0)))), V.getD 4 0, V.getD 5 0, V.getD 6 0] : List Int), (show ((.int .i64 ((i : Int) + 1)) : Value) = _ by first | rfl | go_num | exact congrArg (Value.int .i64) (by omega)), (by omega), (by rw [hV]; rfl), H191, rfl⟩ (by omega)
  exact zs
 have g192 := of_decide_eq_false b158
 refine Z1a _ b158 ?_
 apply zxb
 apply ztn
 apply Zf
 apply zsl
 refine wv 104 (.int .i64 (0)) ?_
 apply znt
 apply ZA
 have hvv : V = vRu (wOq s) HH 64 := by rw [hV, show i = 64 by omega]
 refine ZW ([16] ++ List.range' 104 13) (fun F_ W_ m_ => ∃ (i : Nat) (X : List Int), F_ 104 = (.int .i64 ((i : Int))) ∧ (i ≤ 8) ∧ (X = hAd V HH i) ∧ Sat w [Z7 w (fun _ => False), ZT .u32 b2 144 8 X, ZT .u32 b7 142 64 kR, ZT .u32 b12 144 8 ([0, 0, 0, 0, 0, 0, 0, 0] : List Int), ZT .u32 bq7 142 64 (wOq s), ZT .u32 bq8 144 8 V] W_ ∧ m_ = 8 - i) _ ⟨0, HH, (show ((.int .i64 (0)) : Value) = _ by first | rfl | go_num), (Nat.zero_le _), rfl, H155, rfl⟩ ?_
 rintro g194 w195 _ ⟨i, X, v197, hi, hX, H196, rfl⟩
 refine Zo 104 _ v197 ?_
 apply zsl
 refine wv 105 (.bool (decide ((i : Int) < 8))) ?_
 apply znt
 apply Zf
 refine (ZC (decide ((i : Int) < 8))).elim (fun b199 => ?_) (fun b199 => ?_)
 ·have g200 := of_decide_eq_true b199
  refine Z1q _ b199 ?_
  apply ZF
  apply ztn
  apply Zf
  apply ZA
  apply zsl
  refine wv 106 (.int .i64 ((i : Int))) ?_
  refine wv 16 (.int .i64 ((i : Int))) ?_
  apply znt
  refine Z1o H196 [Z7 w (fun _ => False), ZT .u32 b2 144 8 X, ZT .u32 b7 142 64 kR, ZT .u32 b12 144 8 ([0, 0, 0, 0, 0, 0, 0, 0] : List Int), ZT .u32 bq7 142 64 (wOq s), ZT .u32 bq8 144 8 V] [9] 10 rfl (by kernel_rfl) (fun Hx => (Hx.pk [0, 1, 2, 3, 4, 5])) ?_
  intro w202 H203 S204
  refine zkp 0 S204 107 (.int .i64 ((i : Int))) ?_
  refine zkp 1 S204 108 (.int .i64 ((i : Int))) ?_
  refine zkp 2 S204 109 (.pointer (some ⟨b2, 0 + ((i : Int)).toNat * 1, none⟩)) ?_ (he := fun _ => (Z0q (E := 141) (N := 8) (by kernel_rfl) (by kernel_rfl) (Nat.le_of_ble_eq_true rfl) rfl rfl (by omega) (by omega)))
  refine zkv 3 S204 110 (.int .u32 (X.getD i 0)) ?_ (he := fun _ H' => (Zi rfl (by kernel_rfl) (Z06 (H'.at 1 rfl) (show i < 8 by omega) (show 0 + ((i : Int)).toNat * 1 = i by omega))))
  refine zkp 4 S204 111 (.int .i64 ((i : Int))) ?_
  refine zkp 5 S204 112 (.pointer (some ⟨bq8, 0 + ((i : Int)).toNat * 1, none⟩)) ?_ (he := fun _ => (Z0q (E := 141) (N := 8) (by kernel_rfl) (by kernel_rfl) (Nat.le_of_ble_eq_true rfl) rfl rfl (by omega) (by omega)))
  refine zkv 6 S204 113 (.int .u32 (V.getD i 0)) ?_ (he := fun _ H' => (Zi rfl (by kernel_rfl) (Z06 (H'.at 5 rfl) (show i < 8 by omega) (show 0 + ((i : Int)).toNat * 1 = i by omega))))
  refine zkp 7 S204 114 (.int .u32 (IntKind.u32.wrap ((X.getD i 0) + (V.getD i 0)))) ?_
  refine zkp 8 S204 115 (.pointer (some ⟨b2, 0 + ((i : Int)).toNat * 1, none⟩)) ?_ (he := fun _ => (Z0q (E := 141) (N := 8) (by kernel_rfl) (by kernel_rfl) (Nat.le_of_ble_eq_true rfl) rfl rfl (by omega) (by omega)))
  refine Z3u 9 (Sat w [Z7 w (fun _ => False), ZT .u32 b7 142 64 kR, ZT .u32 b12 144 8 ([0, 0, 0, 0, 0, 0, 0, 0] : List Int), ZT .u32 bq7 142 64 (wOq s), ZT .u32 bq8 144 8 V]) rfl (by kernel_rfl) (Z5 rfl) rfl (fun Kq kq => ?_)
  refine Z41 .u32 rfl H203 1 rfl rfl rfl (by kernel_rfl) (show 0 + ((i : Int)).toNat * 1 = i by omega) (show i < 8 by omega) ?_
  intro w206 H207
  have S208 := H207.pk [0, 2, 3, 4, 5]
  refine kq _ _ S208 ?_
  clear kq Kq
  refine zhf ?_
  apply Zw
  apply ztn
  apply Zt
  refine zwi 116 ((i : Int) + 1) ?_
  refine wv 104 (.int .i64 ((i : Int) + 1)) ?_
  apply Zu
  refine ZE ?_ _ ⟨(i + 1), (X.set i (IntKind.u32.wrap ((X.getD i 0) + (V.getD i 0)))), (show ((.int .i64 ((i : Int) + 1)) : Value) = _ by first | rfl | go_num | exact congrArg (Value.int .i64) (by omega)), (by omega), (by rw [hX]; rfl), H207, rfl⟩ (by omega)
  exact zs
 have g209 := of_decide_eq_false b199
 refine Z1a _ b199 ?_
 apply zxb
 apply ztn
 apply zsl
 refine wv 117 (.agg ⟨(X.map (Value.int .u32))⟩) ?_ (hr := Z28 rfl (by kernel_rfl) (by kernel_rfl) (by decide) (H196.at 1 rfl))
 refine zwd fun Kq kq => ?_
 refine Z0m .u32 (B := X) rfl H196 3 rfl rfl rfl (by kernel_rfl) (by kernel_rfl) (by decide) (by exact Z0S (H196.at 1 rfl)) ?_
 intro w212 H213
 refine kq _ _ ?_
 clear kq Kq
 apply znt
 apply Zz
 have hAL_ : X.length = 8 := Z0S (H213.at 3 rfl)
 have H214 := Sat.offW H213 3 rfl
 refine Z1x rfl (Z02 (vs := (X.map (Value.int .u32))) rfl (by kernel_rfl) (by rw [List.length_map, hAL_]; kernel_rfl) (by rw [List.length_map, hAL_]; decide) (H214.at 3 rfl) (List.take_length)) ?_
 have hm : X = Z9S HH s := by unfold Z9S; rw [hX, hvv, show i = 8 by omega]
 exact ⟨by rw [hm], H214.upd 0 rfl [] (fun _ h => h.elim)⟩
theorem mix_at (w : World) (v : Value) (s : List UInt8) (hs : ListAt ZH 1 w v s) (hl : 64 ≤ s.length) (HH : List Int) (hH : HH.length = 8) : Calls Tryz.prog 91 #[.agg ⟨HH.map (Value.int .u32)⟩, .agg ⟨kR.map (Value.int .u32)⟩, v] w fun e w' => e = .returned (.agg ⟨(Z9S HH s).map (Value.int .u32)⟩) ∧ Upd [] w w' := by
 obtain ⟨a, c, rfl⟩ := SliceOf.len hs
 exact Zc5 w a c s hs hl HH hH
theorem Z64 (w : World) (sa : Option Addr) (sc : Nat) (s : List UInt8) (hs : ListAt ZH 1 w (.slice sa s.length sc) s) (hl : s.length ≤ 1000000) :
  Calls Tryz.prog 72 #[(.slice sa s.length sc)] w fun e w' => e = .returned (.agg ⟨hc (Z8 s)⟩) ∧ Upd [] w w' := by
 have H := Sat.start0 w
 refine Zg Tryz.func72 rfl 73 rfl (Nat.le_of_ble_eq_true rfl) ?_
 apply zsl
 refine zwd fun Kq kq => ?_
 refine zda (hc Zx) H ?_
 intro b2 w3 (H4 : Sat w [Z7 w (fun _ => False), Z3 b2 40 (hc Zx)] w3)
 have H5 : Sat w [Z7 w (fun _ => False), ZT .u8 b2 40 32 (List.replicate 32 (0 : Int))] w3 := Sat.toW H4 1 .u8 (List.replicate 32 (0 : Int)) (by kernel_rfl) (by first | rfl | simp)
 refine kq _ _ ?_
 clear kq Kq
 apply Z0N
 refine wv 12 (.agg ⟨([(.int .u32 (1779033703)), (.int .u32 (3144134277)), (.int .u32 (1013904242)), (.int .u32 (2773480762)), (.int .u32 (1359893119)), (.int .u32 (2600822924)), (.int .u32 (528734635)), (.int .u32 (1541459225))] : List Value)⟩) ?_
 refine zwd fun Kq kq => ?_
 refine zda (Z1l) H5 ?_
 intro b7 w8 (H9 : Sat w [Z7 w (fun _ => False), ZT .u8 b2 40 32 (List.replicate 32 (0 : Int)), Z3 b7 144 (Z1l)] w8)
 have H10 : Sat w [Z7 w (fun _ => False), ZT .u8 b2 40 32 (List.replicate 32 (0 : Int)), ZT .u32 b7 144 8 ([0, 0, 0, 0, 0, 0, 0, 0] : List Int)] w8 := Sat.toW H9 2 .u32 ([0, 0, 0, 0, 0, 0, 0, 0] : List Int) (by kernel_rfl) (by first | rfl | simp)
 refine kq _ _ ?_
 clear kq Kq
 refine zwd fun Kq kq => ?_
 refine Z0m .u32 (B := ([1779033703, 3144134277, 1013904242, 2773480762, 1359893119, 2600822924, 528734635, 1541459225] : List Int)) rfl H10 2 rfl rfl rfl (by kernel_rfl) (by kernel_rfl) (by decide) (by first | rfl | simp) ?_
 intro w12 H13
 refine kq _ _ ?_
 clear kq Kq
 apply Z0N
 refine wv 13 (.slice sa s.length sc) ?_
 refine zwd fun Kq kq => ?_
 refine Z1f (T := 38) (e := 5) (size := 1) (bytes := 1) rfl H13 (by kernel_rfl) Z0u Z1b (ListAt.now H13 0 rfl hs) rfl rfl (by omega) (by omega) ?_
 intro v15 w16 H17
 obtain ⟨a18, c19, rfl⟩ := Ze (H17.at 3 rfl)
 refine kq _ _ ?_
 clear kq Kq
 refine zwd fun Kq kq => ?_
 refine Z3U 5 1 1 (.int .u8 (0)) [(0, (.int .u8 (128)))] ([(.int .u8 (128))] : List Value) H17 ?_
 intro b21 w22 H23
 have H24 := H23.ct 4 rfl (Zc 5 1 (.slice (some ⟨b21, 0, none⟩) 1 1) 1 (([128] : List UInt8).flatMap ZH)) (by rw [(show ([.int .u8 128] : List Value) = ([128] : List UInt8).flatMap ZH by kernel_rfl)])
 refine kq _ _ ?_
 clear kq Kq
 refine zwd fun Kq kq => ?_
 refine Z0n (T := 38) (e := 5) (size := 1) (bytes := 1) rfl H24 (by kernel_rfl) 3 4 rfl rfl rfl rfl (Z0e ZH Z1b ([128] : List UInt8)) (by omega) (by omega) ?_
 intro v26 w27 (H28 : Sat w [Z7 w (fun _ => False), ZT .u8 b2 40 32 (List.replicate 32 (0 : Int)), ZT .u32 b7 144 8 ([1779033703, 3144134277, 1013904242, 2773480762, 1359893119, 2600822924, 528734635, 1541459225] : List Int), Zc 5 1 v26 (s.length + 1) ((s.flatMap ZH) ++ (([128] : List UInt8).flatMap ZH)), Zc 5 1 (.slice (some ⟨b21, 0, none⟩) 1 1) 1 (([128] : List UInt8).flatMap ZH)] w27)
 have H31 := H28.ct 3 rfl (Zc 5 1 v26 ((s ++ ([128] : List UInt8)).length) ((s ++ ([128] : List UInt8)).flatMap ZH)) ja
 obtain ⟨a29, c30, rfl⟩ := Ze (H31.at 3 rfl)
 refine kq _ _ ?_
 clear kq Kq
 refine wv 4 (.slice a29 ((s ++ ([128] : List UInt8)).length) c30) ?_
 apply znt
 apply Zf
 apply ZA
 have hD0 : (s ++ ([128] : List UInt8)) = s ++ [128] ++ List.replicate 0 0 := (List.append_nil _).symm
 refine ZW [4, 17, 18, 19, 20, 21, 22, 23] (fun F_ W_ m_ => ∃ (j : Nat) (a : Option Addr) (c : Nat) (D : List UInt8), F_ 4 = (.slice a D.length c) ∧ (j ≤ padN s.length) ∧ (D = s ++ [128] ++ List.replicate j 0) ∧ Sat w [Z7 w (fun _ => False), ZT .u8 b2 40 32 (List.replicate 32 (0 : Int)), ZT .u32 b7 144 8 ([1779033703, 3144134277, 1013904242, 2773480762, 1359893119, 2600822924, 528734635, 1541459225] : List Int), (Z3t a D c), Zc 5 1 (.slice (some ⟨b21, 0, none⟩) 1 1) 1 (([128] : List UInt8).flatMap ZH)] W_ ∧ m_ = 64 - j) _ ⟨0, a29, c30, (s ++ ([128] : List UInt8)), (by first | rfl | go_num), (Nat.zero_le _), hD0, H31, rfl⟩ ?_
 rintro g32 w33 _ ⟨j, a, c, D, v35, hj, hD, H34, rfl⟩
 refine Zo 4 _ v35 ?_
 have hDl : D.length = s.length + 1 + j := by rw [hD]; simp; omega
 have hj2 : j ≤ (119 - s.length % 64) % 64 := hj
 apply Zf
 apply zsl
 refine wv 17 (.slice a D.length c) ?_
 refine wv 18 (.int .i64 ((D.length : Int))) ?_
 refine wv 19 (.int .i64 ((D.length : Int) % 64)) ?_ (hr := e_rem (by kernel_rfl) (by omega) (by omega))
 refine wv 20 (.bool (!(decide (((D.length : Int) % 64) = 56)))) ?_
 apply znt
 refine (ZC (!(decide (((D.length : Int) % 64) = 56)))).elim (fun b37 => ?_) (fun b37 => ?_)
 ·have g38 := Z12 b37
  have g39 := of_decide_eq_false g38
  refine Z1q _ b37 ?_
  apply ZF
  apply ztn
  apply ZA
  apply Zt
  refine wv 21 (.slice a D.length c) ?_
  refine zwd fun Kq kq => ?_
  refine Z3U 5 1 1 (.int .u8 (0)) [(0, (.int .u8 (0)))] ([(.int .u8 (0))] : List Value) H34 ?_
  intro b43 w44 H45
  have H46 := H45.ct 5 rfl (Zc 5 1 (.slice (some ⟨b43, 0, none⟩) 1 1) 1 (([0] : List UInt8).flatMap ZH)) (by rw [(show ([.int .u8 0] : List Value) = ([0] : List UInt8).flatMap ZH by kernel_rfl)])
  refine kq _ _ ?_
  clear kq Kq
  refine zwd fun Kq kq => ?_
  refine Z0n (T := 38) (e := 5) (size := 1) (bytes := 1) rfl H46 (by kernel_rfl) 3 5 rfl rfl rfl rfl (Z0e ZH Z1b ([0] : List UInt8)) (by omega) (by omega) ?_
  intro v48 w49 H50
  have H53 : Sat w [Z7 w (fun _ => False), ZT .u8 b2 40 32 (List.replicate 32 (0 : Int)), ZT .u32 b7 144 8 ([1779033703, 3144134277, 1013904242, 2773480762, 1359893119, 2600822924, 528734635, 1541459225] : List Int), Zc 5 1 v48 ((D ++ ([0] : List UInt8)).length) ((D ++ ([0] : List UInt8)).flatMap ZH), Zc 5 1 (.slice (some ⟨b21, 0, none⟩) 1 1) 1 (([128] : List UInt8).flatMap ZH), Zc 5 1 (.slice (some ⟨b43, 0, none⟩) 1 1) 1 (([0] : List UInt8).flatMap ZH)] w49 := H50.cast (by simp only [List.length_append, List.flatMap_append] <;> rfl)
  obtain ⟨a51, c52, rfl⟩ := Ze (H53.at 3 rfl)
  refine kq _ _ ?_
  clear kq Kq
  refine wv 4 (.slice a51 ((D ++ ([0] : List UInt8)).length) c52) ?_
  apply Zu
  apply Zw
  have H54 : Sat w [Z7 w (fun _ => False), ZT .u8 b2 40 32 (List.replicate 32 (0 : Int)), ZT .u32 b7 144 8 ([1779033703, 3144134277, 1013904242, 2773480762, 1359893119, 2600822924, 528734635, 1541459225] : List Int), (Z3t a51 (D ++ ([0] : List UInt8)) c52), Zc 5 1 (.slice (some ⟨b21, 0, none⟩) 1 1) 1 (([128] : List UInt8).flatMap ZH)] w49 := H53.pick [0, 1, 2, 3, 4] (by decide)
  refine ZE ?_ _ ⟨(j + 1), a51, c52, (D ++ ([0] : List UInt8)), (show ((.slice a51 ((D ++ ([0] : List UInt8)).length) c52) : Value) = _ by first | rfl | go_num), (by unfold padN; omega), (by rw [hD]; exact Zb8 s j), H54, rfl⟩ (by omega)
  exact zs
 have g55 := Z03 b37
 have g56 := of_decide_eq_true g55
 refine Z1a _ b37 ?_
 apply zxb
 apply ztn
 apply zsl
 refine wv 24 (.slice sa s.length sc) ?_
 refine wv 25 (.int .i64 ((s.length : Int))) ?_
 refine wv 26 (.int .u64 ((s.length : Int))) ?_ (hr := Z0I (z := (s.length : Int)) (by kernel_rfl) (Z3o (by omega)))
 refine wv 27 (.int .u64 (Z2f .u64 (s.length : Int) 3)) ?_ (hr := Z97 rfl rfl (by decide))
 refine wv 5 (.int .u64 (Z2f .u64 (s.length : Int) 3)) ?_
 apply znt
 apply Zf
 apply Zf
 refine Zo 5 (.int .u64 (((s.length : Int) * 8))) (show ((.int .u64 (Z2f .u64 (s.length : Int) 3)) : Value) = _ by rw [shl3 hl]) ?_
 apply Zt
 refine wv 28 (.int .i64 (0)) ?_
 apply znt
 apply ZA
 obtain ⟨P, hP⟩ : ∃ P, P = D := ⟨_, rfl⟩
 have hPl : P.length % 64 = 56 := by rw [hP]; omega
 have hP2 : P = padP s := by rw [hP, hD]; unfold padP; rw [show j = padN s.length by unfold padN; omega]
 have hPn : P.length ≤ s.length + 100 := by rw [hP, hDl]; omega
 refine ZW ([4, 6] ++ List.range' 28 13) (fun F_ W_ m_ => ∃ (q : Nat) (a : Option Addr) (c : Nat) (D : List UInt8), F_ 28 = (.int .i64 ((q : Int))) ∧ F_ 4 = (.slice a D.length c) ∧ (q ≤ 8) ∧ (D = P ++ ZaL ((s.length : Int) * 8) q) ∧ Sat w [Z7 w (fun _ => False), ZT .u8 b2 40 32 (List.replicate 32 (0 : Int)), ZT .u32 b7 144 8 ([1779033703, 3144134277, 1013904242, 2773480762, 1359893119, 2600822924, 528734635, 1541459225] : List Int), (Z3t a D c), Zc 5 1 (.slice (some ⟨b21, 0, none⟩) 1 1) 1 (([128] : List UInt8).flatMap ZH)] W_ ∧ m_ = 8 - q) _ ⟨0, a, c, D, (show ((.int .i64 (0)) : Value) = _ by first | rfl | go_num), (by first | rfl | go_num), (Nat.zero_le _), (by rw [hP]; exact (List.append_nil _).symm), H34, rfl⟩ ?_
 rintro g59 w60 _ ⟨q, a, c, D, v62, v63, hq, hD, H61, rfl⟩
 refine Zo 28 _ v62 ?_
 refine Zo 4 _ v63 ?_
 have hDl : D.length = P.length + q := by rw [hD, List.length_append, ZaM]
 apply zsl
 refine wv 29 (.bool (decide ((q : Int) < 8))) ?_
 apply znt
 apply Zf
 refine (ZC (decide ((q : Int) < 8))).elim (fun b65 => ?_) (fun b65 => ?_)
 ·have g66 := of_decide_eq_true b65
  refine Z1q _ b65 ?_
  apply ZF
  apply ztn
  apply Zf
  apply ZA
  apply zsl
  refine wv 30 (.int .i64 ((q : Int))) ?_
  refine wv 6 (.int .i64 ((q : Int))) ?_
  apply znt
  apply Zt
  refine wv 31 (.slice a D.length c) ?_
  refine wv 32 (.int .u64 (((s.length : Int) * 8))) ?_
  refine wv 33 (.int .i64 ((q : Int))) ?_
  refine zwi 34 (8 * (q : Int)) ?_
  refine zwi 35 (56 - (8 * (q : Int))) ?_
  refine wv 36 (.int .u64 (((s.length : Int) * 8) / 2 ^ (min (56 - (8 * (q : Int))).toNat 64))) ?_ (hr := Z8r rfl rfl (by omega) rfl (Int.le_of_lt (Int.pow_pos (by decide))))
  refine wv 37 (.int .u8 (IntKind.u8.wrap (((s.length : Int) * 8) / 2 ^ (min (56 - (8 * (q : Int))).toNat 64)))) ?_
  refine zwd fun Kq kq => ?_
  refine Z3U 5 1 1 (.int .u8 (0)) [(0, (.int .u8 (IntKind.u8.wrap (((s.length : Int) * 8) / 2 ^ (min (56 - (8 * (q : Int))).toNat 64)))))] ([(.int .u8 (IntKind.u8.wrap (((s.length : Int) * 8) / 2 ^ (min (56 - (8 * (q : Int))).toNat 64))))] : List Value) H61 ?_
  intro b69 w70 H71
  have H72 := H71.ct 5 rfl (Zc 5 1 (.slice (some ⟨b69, 0, none⟩) 1 1) 1 ([UInt8.ofNat (IntKind.u8.wrap (((s.length : Int) * 8) / 2 ^ (min (56 - (8 * (q : Int))).toNat 64))).toNat].flatMap ZH)) (by rw [Z5t (Z1P _)])
  refine kq _ _ ?_
  clear kq Kq
  refine zwd fun Kq kq => ?_
  refine Z0n (T := 38) (e := 5) (size := 1) (bytes := 1) rfl H72 (by kernel_rfl) 3 5 rfl rfl rfl rfl (Z0e ZH Z1b [UInt8.ofNat (IntKind.u8.wrap (((s.length : Int) * 8) / 2 ^ (min (56 - (8 * (q : Int))).toNat 64))).toNat]) (by omega) (by omega) ?_
  intro v74 w75 H76
  have H79 := H76.ct 3 rfl (Zc 5 1 v74 ((D ++ [UInt8.ofNat (IntKind.u8.wrap (((s.length : Int) * 8) / 2 ^ (min (56 - (8 * (q : Int))).toNat 64))).toNat]).length) ((D ++ [UInt8.ofNat (IntKind.u8.wrap (((s.length : Int) * 8) / 2 ^ (min (56 - (8 * (q : Int))).toNat 64))).toNat]).flatMap ZH)) ja
  obtain ⟨a77, c78, rfl⟩ := Ze (H79.at 3 rfl)
  refine kq _ _ ?_
  clear kq Kq
  refine wv 4 (.slice a77 ((D ++ [UInt8.ofNat (IntKind.u8.wrap (((s.length : Int) * 8) / 2 ^ (min (56 - (8 * (q : Int))).toNat 64))).toNat]).length) c78) ?_
  apply Zu
  apply Zw
  apply ztn
  apply Zt
  refine zwi 40 ((q : Int) + 1) ?_
  refine wv 28 (.int .i64 ((q : Int) + 1)) ?_
  apply Zu
  have H80 := H79.pk [0, 1, 2, 3, 4]
  refine ZE ?_ _ ⟨(q + 1), a77, c78, (D ++ [UInt8.ofNat (IntKind.u8.wrap (((s.length : Int) * 8) / 2 ^ (min (56 - (8 * (q : Int))).toNat 64))).toNat]), (show ((.int .i64 ((q : Int) + 1)) : Value) = _ by first | rfl | go_num | exact congrArg (Value.int .i64) (by omega)), (show ((.slice a77 ((D ++ [UInt8.ofNat (IntKind.u8.wrap (((s.length : Int) * 8) / 2 ^ (min (56 - (8 * (q : Int))).toNat 64))).toNat]).length) c78) : Value) = _ by first | rfl | go_num | exact congrArg (Value.int .i64) (by omega)), (by omega), (by rw [hD]; exact (List.append_assoc _ _ _).trans (congrArg (P ++ ·) (Z9H _ q).symm)), H80, rfl⟩ (by omega)
  exact zs
 have g81 := of_decide_eq_false b65
 refine Z1a _ b65 ?_
 apply zxb
 apply ztn
 apply zsl
 refine zwd fun Kq kq => ?_
 refine zdq 41 (Z7C w60) H61 ?_
 intro w84 H85
 refine kq _ _ ?_
 clear kq Kq
 refine zwd fun Kq kq => ?_
 refine zda (Z0Z) H85 ?_
 intro b88 w89 (H90 : Sat w [Z7 w (fun _ => False), ZT .u8 b2 40 32 (List.replicate 32 (0 : Int)), ZT .u32 b7 144 8 ([1779033703, 3144134277, 1013904242, 2773480762, 1359893119, 2600822924, 528734635, 1541459225] : List Int), (Z3t a D c), Zc 5 1 (.slice (some ⟨b21, 0, none⟩) 1 1) 1 (([128] : List UInt8).flatMap ZH), Z3 b88 142 (Z0Z)] w89)
 have H91 : Sat w [Z7 w (fun _ => False), ZT .u8 b2 40 32 (List.replicate 32 (0 : Int)), ZT .u32 b7 144 8 ([1779033703, 3144134277, 1013904242, 2773480762, 1359893119, 2600822924, 528734635, 1541459225] : List Int), (Z3t a D c), Zc 5 1 (.slice (some ⟨b21, 0, none⟩) 1 1) 1 (([128] : List UInt8).flatMap ZH), ZT .u32 b88 142 64 (List.replicate 64 (0 : Int))] w89 := Sat.toW H90 5 .u32 (List.replicate 64 (0 : Int)) (by kernel_rfl) (by first | rfl | simp)
 refine kq _ _ ?_
 clear kq Kq
 refine zwd fun Kq kq => ?_
 refine Z0m .u32 (B := kR) rfl H91 5 rfl rfl rfl (by kernel_rfl) (by kernel_rfl) (by decide) (by first | rfl | simp) ?_
 intro w93 (H94 : Sat w [Z7 w (fun _ => False), ZT .u8 b2 40 32 (List.replicate 32 (0 : Int)), ZT .u32 b7 144 8 ([1779033703, 3144134277, 1013904242, 2773480762, 1359893119, 2600822924, 528734635, 1541459225] : List Int), (Z3t a D c), Zc 5 1 (.slice (some ⟨b21, 0, none⟩) 1 1) 1 (([128] : List UInt8).flatMap ZH), ZT .u32 b88 142 64 kR] w93)
 refine kq _ _ ?_
 clear kq Kq
 apply znt
 apply Zf
 apply ZA
 have hDm : D = padR s := by unfold padR; rw [hD, ← hP2, show q = 8 by omega]
 obtain ⟨nb, hnb⟩ : ∃ nb, nb = D.length / 64 := ⟨_, rfl⟩
 have hml : D.length = 64 * nb := by omega
 have H95 : Sat w [Z7 w (fun _ => False), ZT .u8 b2 40 32 (List.replicate 32 (0 : Int)), ZT .u32 b7 144 8 ([1779033703, 3144134277, 1013904242, 2773480762, 1359893119, 2600822924, 528734635, 1541459225] : List Int), ZX (.slice a D.length c) D, Zc 5 1 (.slice (some ⟨b21, 0, none⟩) 1 1) 1 (([128] : List UInt8).flatMap ZH), ZT .u32 b88 142 64 kR] w93 := H94.conv 3 rfl (fun h => Z1H (ListAt.row (enc := ZH) (sz := 1) Z0u (by decide) h)) (fun b hb => hb.2)
 refine ZW [4, 42, 43, 44, 45, 46, 47, 48, 49, 50] (fun F_ W_ m_ => ∃ (b : Nat) (a : Option Addr) (c : Nat) (E : List UInt8) (HH : List Int), F_ 4 = (.slice a E.length c) ∧ (b ≤ nb) ∧ (E = D.drop (64 * b)) ∧ (HH = Zcv D b) ∧ Sat w [Z7 w (fun _ => False), ZT .u8 b2 40 32 (List.replicate 32 (0 : Int)), ZT .u32 b7 144 8 HH, ZX (.slice a E.length c) E, Zc 5 1 (.slice (some ⟨b21, 0, none⟩) 1 1) 1 (([128] : List UInt8).flatMap ZH), ZT .u32 b88 142 64 kR] W_ ∧ m_ = nb - b) _ ⟨0, a, c, D, ([1779033703, 3144134277, 1013904242, 2773480762, 1359893119, 2600822924, 528734635, 1541459225] : List Int), (by first | rfl | go_num), (Nat.zero_le _), rfl, rfl, H95, rfl⟩ ?_
 rintro g96 w97 _ ⟨b, a, c, E, HH, v99, hb, hE, hHH, H98, rfl⟩
 refine Zo 4 _ v99 ?_
 have hEl0 : E.length = 64 * nb - 64 * b := by rw [hE, List.length_drop, hml]
 apply Zf
 apply zsl
 refine wv 42 (.slice a E.length c) ?_
 refine wv 43 (.int .i64 ((E.length : Int))) ?_
 refine wv 44 (.bool (decide ((E.length : Int) > 0))) ?_
 apply znt
 refine (ZC (decide ((E.length : Int) > 0))).elim (fun b101 => ?_) (fun b101 => ?_)
 ·have g102 := of_decide_eq_true b101
  refine Z1q _ b101 ?_
  apply ZF
  apply ztn
  apply Zf
  apply ZA
  have hHl : HH.length = 8 := Z0S (H98.at 2 rfl)
  apply Zt
  refine wv 47 (.agg ⟨(HH.map (Value.int .u32))⟩) ?_ (hr := Z28 rfl (by kernel_rfl) (by kernel_rfl) (by decide) (H98.at 2 rfl))
  refine wv 48 (.agg ⟨(kR.map (Value.int .u32))⟩) ?_ (hr := Z28 rfl (by kernel_rfl) (by kernel_rfl) (by decide) (H98.at 5 rfl))
  refine wv 49 (.slice a E.length c) ?_
  refine zwd fun Kq kq => ?_
  refine zdq 50 (mix_at w97 (.slice a E.length c) E (ListAt.ofTxt (H98.at 3 rfl)) (by omega) HH hHl) H98 ?_
  intro w105 H106
  refine kq _ _ ?_
  clear kq Kq
  refine zwd fun Kq kq => ?_
  refine Z0m .u32 (B := (Z9S HH E)) rfl H106 2 rfl rfl rfl (by kernel_rfl) (by kernel_rfl) (by decide) (by exact (ZaS _ _).trans hHl) ?_
  intro w109 (H110 : Sat w [Z7 w (fun _ => False), ZT .u8 b2 40 32 (List.replicate 32 (0 : Int)), ZT .u32 b7 144 8 (Z9S HH E), ZX (.slice a E.length c) E, Zc 5 1 (.slice (some ⟨b21, 0, none⟩) 1 1) 1 (([128] : List UInt8).flatMap ZH), ZT .u32 b88 142 64 kR] w109)
  refine kq _ _ ?_
  clear kq Kq
  apply Zu
  apply Zw
  apply ztn
  apply Zt
  refine wv 45 (.slice a E.length c) ?_
  refine wv 46 (.slice (if c = 64 then a else a.map (·.add (64 * 1))) (E.length - 64) (c - 64)) ?_ (hr := Z4W (E := 5) (q := 64) (by kernel_rfl) (by kernel_rfl) rfl rfl rfl (by omega))
  refine wv 4 (.slice (if c = 64 then a else a.map (·.add (64 * 1))) (E.length - 64) (c - 64)) ?_
  apply Zu
  have hEl : E.length - 64 = (E.drop 64).length := by rw [List.length_drop]
  have H111 : Sat w [Z7 w (fun _ => False), ZT .u8 b2 40 32 (List.replicate 32 (0 : Int)), ZT .u32 b7 144 8 (Z9S HH E), ZX (.slice (if c = 64 then a else a.map (·.add (64 * 1))) (E.length - 64) (c - 64)) (E.drop 64), Zc 5 1 (.slice (some ⟨b21, 0, none⟩) 1 1) 1 (([128] : List UInt8).flatMap ZH), ZT .u32 b88 142 64 kR] w109 := H110.conv 3 rfl (fun h => Zac (by omega) h) (fun b hb => Z8K hb)
  rw [hEl] at H111
  refine ZE ?_ _ ⟨(b + 1), (if c = 64 then a else a.map (·.add (64 * 1))), (c - 64), (E.drop 64), (Z9S HH E), (show ((.slice (if c = 64 then a else a.map (·.add (64 * 1))) (E.length - 64) (c - 64)) : Value) = _ by rw [hEl]), (by omega), (by rw [hE, List.drop_drop, show 64 * (b + 1) = 64 * b + 64 by omega]), (by rw [ZaD, ← hHH, ← hE]), H111, rfl⟩ (by omega)
  exact zs
 have g112 := of_decide_eq_false b101
 refine Z1a _ b101 ?_
 apply zxb
 apply ztn
 apply zsl
 refine zwd fun Kq kq => ?_
 refine zda (hc Zx) H98 ?_
 intro b115 w116 (H117 : Sat w [Z7 w (fun _ => False), ZT .u8 b2 40 32 (List.replicate 32 (0 : Int)), ZT .u32 b7 144 8 HH, ZX (.slice a E.length c) E, Zc 5 1 (.slice (some ⟨b21, 0, none⟩) 1 1) 1 (([128] : List UInt8).flatMap ZH), ZT .u32 b88 142 64 kR, Z3 b115 40 (hc Zx)] w116)
 have H118 : Sat w [Z7 w (fun _ => False), ZT .u8 b2 40 32 (List.replicate 32 (0 : Int)), ZT .u32 b7 144 8 HH, ZX (.slice a E.length c) E, Zc 5 1 (.slice (some ⟨b21, 0, none⟩) 1 1) 1 (([128] : List UInt8).flatMap ZH), ZT .u32 b88 142 64 kR, ZT .u8 b115 40 32 (List.replicate 32 (0 : Int))] w116 := Sat.toW H117 6 .u8 (List.replicate 32 (0 : Int)) (by kernel_rfl) (by exact Z0S (H117.at 1 rfl))
 refine kq _ _ ?_
 clear kq Kq
 apply znt
 apply Zf
 apply zsl
 refine wv 51 (.agg ⟨(HH.map (Value.int .u32))⟩) ?_ (hr := Z28 rfl (by kernel_rfl) (by kernel_rfl) (by decide) (H118.at 2 rfl))
 refine wv 52 (.int .i64 (0)) ?_
 apply znt
 apply ZA
 have hHl2 : HH.length = 8 := Z0S (H118.at 2 rfl)
 refine ZW ([9, 10, 11] ++ List.range' 52 20) (fun F_ W_ m_ => ∃ (i : Nat) (O : List Int), F_ 52 = (.int .i64 ((i : Int))) ∧ (i ≤ 8) ∧ (O = oOf HH i) ∧ Sat w [Z7 w (fun _ => False), ZT .u8 b2 40 32 (List.replicate 32 (0 : Int)), ZT .u32 b7 144 8 HH, ZX (.slice a E.length c) E, Zc 5 1 (.slice (some ⟨b21, 0, none⟩) 1 1) 1 (([128] : List UInt8).flatMap ZH), ZT .u32 b88 142 64 kR, ZT .u8 b115 40 32 O] W_ ∧ m_ = 8 - i) _ ⟨0, (List.replicate 32 (0 : Int)), (show ((.int .i64 (0)) : Value) = _ by first | rfl | go_num), (Nat.zero_le _), rfl, H118, rfl⟩ ?_
 rintro g119 w120 _ ⟨i, O, v122, hi, hO, H121, rfl⟩
 refine Zo 52 _ v122 ?_
 apply zsl
 refine wv 53 (.bool (decide ((i : Int) < 8))) ?_
 apply znt
 apply Zf
 refine (ZC (decide ((i : Int) < 8))).elim (fun b124 => ?_) (fun b124 => ?_)
 ·have g125 := of_decide_eq_true b124
  refine Z1q _ b124 ?_
  apply ZF
  apply ztn
  apply Zf
  apply ZA
  apply zsl
  refine wv 54 (.int .i64 ((i : Int))) ?_
  refine wv 55 (.int .u32 (HH.getD i 0)) ?_ (hr := Z8q (E := 141) (q := i) (by kernel_rfl) hHl2 (by kernel_rfl) (by kernel_rfl) rfl rfl rfl (by omega))
  refine wv 9 (.int .i64 ((i : Int))) ?_
  refine wv 10 (.int .u32 (HH.getD i 0)) ?_
  apply Z0N
  refine wv 56 (.int .i64 (0)) ?_
  apply znt
  apply ZA
  refine ZW ([11] ++ List.range' 56 15) (fun F_ W_ m_ => ∃ (j : Nat) (O2 : List Int), F_ 56 = (.int .i64 ((j : Int))) ∧ (j ≤ 4) ∧ (O2 = oIn (HH.getD i 0) i O j) ∧ Sat w [Z7 w (fun _ => False), ZT .u8 b2 40 32 (List.replicate 32 (0 : Int)), ZT .u32 b7 144 8 HH, ZX (.slice a E.length c) E, Zc 5 1 (.slice (some ⟨b21, 0, none⟩) 1 1) 1 (([128] : List UInt8).flatMap ZH), ZT .u32 b88 142 64 kR, ZT .u8 b115 40 32 O2] W_ ∧ m_ = 4 - j) _ ⟨0, O, (show ((.int .i64 (0)) : Value) = _ by first | rfl | go_num), (Nat.zero_le _), rfl, H121, rfl⟩ ?_
  rintro g127 w128 _ ⟨j, O2, v130, hj, hO2, H129, rfl⟩
  refine Zo 56 _ v130 ?_
  apply zsl
  refine wv 57 (.bool (decide ((j : Int) < 4))) ?_
  apply znt
  apply Zf
  refine (ZC (decide ((j : Int) < 4))).elim (fun b132 => ?_) (fun b132 => ?_)
  ·have g133 := of_decide_eq_true b132
   refine Z1q _ b132 ?_
   apply ZF
   apply ztn
   apply Zf
   apply ZA
   apply zsl
   refine wv 58 (.int .i64 ((j : Int))) ?_
   refine wv 11 (.int .i64 ((j : Int))) ?_
   apply znt
   apply Zt
   refine wv 59 (.int .i64 ((i : Int))) ?_
   refine zwi 60 (4 * (i : Int)) ?_
   refine wv 61 (.int .i64 ((j : Int))) ?_
   refine zwi 62 ((4 * (i : Int)) + (j : Int)) ?_
   refine wv 63 (.int .u32 (HH.getD i 0)) ?_
   refine wv 64 (.int .i64 ((j : Int))) ?_
   refine zwi 65 (8 * (j : Int)) ?_
   refine zwi 66 (24 - (8 * (j : Int))) ?_
   refine wv 67 (.int .u32 ((HH.getD i 0) / 2 ^ (min (24 - (8 * (j : Int))).toNat 32))) ?_ (hr := Z8r rfl rfl (by omega) rfl (Int.le_of_lt (Int.pow_pos (by decide))))
   refine wv 68 (.int .u8 (IntKind.u8.wrap ((HH.getD i 0) / 2 ^ (min (24 - (8 * (j : Int))).toNat 32)))) ?_
   refine wv 69 (.pointer (some ⟨b115, 0 + ((4 * (i : Int)) + (j : Int)).toNat * 1, none⟩)) ?_ (hr := Z0q (E := 5) (N := 32) (by kernel_rfl) (by kernel_rfl) (Nat.le_of_ble_eq_true rfl) rfl rfl (by omega) (by omega))
   refine zwd fun Kq kq => ?_
   refine Z41 .u8 rfl H129 6 rfl rfl rfl (by kernel_rfl) (show 0 + ((4 * (i : Int)) + (j : Int)).toNat * 1 = ((4 * i) + j) by omega) (show ((4 * i) + j) < 32 by omega) ?_
   intro w136 H137
   refine kq _ _ ?_
   clear kq Kq
   apply Zu
   apply Zw
   apply ztn
   apply Zt
   refine zwi 70 ((j : Int) + 1) ?_
   refine wv 56 (.int .i64 ((j : Int) + 1)) ?_
   apply Zu
   refine ZE ?_ _ ⟨(j + 1), (O2.set ((4 * i) + j) (IntKind.u8.wrap ((HH.getD i 0) / 2 ^ (min (24 - (8 * (j : Int))).toNat 32)))), (show ((.int .i64 ((j : Int) + 1)) : Value) = _ by first | rfl | go_num | exact congrArg (Value.int .i64) (by omega)), (by omega), (by rw [hO2]; rfl), H137, rfl⟩ (by omega)
   exact zs
  have g138 := of_decide_eq_false b132
  refine Z1a _ b132 ?_
  apply zxb
  apply Zw
  apply ztn
  apply Zt
  refine zwi 71 ((i : Int) + 1) ?_
  refine wv 52 (.int .i64 ((i : Int) + 1)) ?_
  apply Zu
  refine ZE ?_ _ ⟨(i + 1), O2, (show ((.int .i64 ((i : Int) + 1)) : Value) = _ by first | rfl | go_num | exact congrArg (Value.int .i64) (by omega)), (by omega), (by rw [hO2, show j = 4 by omega, ZaX, hO]; rfl), H129, rfl⟩ (by omega)
  exact zs
 have g140 := of_decide_eq_false b124
 refine Z1a _ b124 ?_
 apply zxb
 apply ztn
 apply zsl
 refine wv 72 (.agg ⟨(O.map (Value.int .u8))⟩) ?_ (hr := Z28 rfl (by kernel_rfl) (by kernel_rfl) (by decide) (H121.at 6 rfl))
 refine zwd fun Kq kq => ?_
 refine Z0m .u8 (B := O) rfl H121 1 rfl rfl rfl (by kernel_rfl) (by kernel_rfl) (by decide) (by exact Z0S (H121.at 6 rfl)) ?_
 intro w143 H144
 refine kq _ _ ?_
 clear kq Kq
 apply znt
 apply Zz
 have hAL_ : O.length = 32 := Z0S (H144.at 1 rfl)
 have H145 := Sat.offW H144 1 rfl
 refine Z1x rfl (Z02 (vs := (O.map (Value.int .u8))) rfl (by kernel_rfl) (by rw [List.length_map, hAL_]; kernel_rfl) (by rw [List.length_map, hAL_]; decide) (H145.at 1 rfl) (List.take_length)) ?_
 have hfin : O = Zcg s := by unfold Zcg; rw [← hDm, ← hnb, hO, hHH, show i = 8 by omega, show b = nb by omega]
 exact ⟨by rw [hfin, Z8B], H145.upd 0 rfl [] (fun _ h => h.elim)⟩
end Go.Proofs.YtgigjkjdmalmaaaGreat
