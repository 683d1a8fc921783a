/- WHAT IS PROVED: contracts and plain laws of ShaP. Conditions: stated with each. -/
import Derived.Test.YtenihpghfdcpkaaGreatT05
import Derived.Test.YtenihpghfdcpkaaGreatT06
import Derived.Test.YtenihpghfdcpkaaGreatT21
set_option maxHeartbeats 4000000
set_option maxRecDepth 100000
namespace Go.Proofs.YtenihpghfdcpkaaGreat
open Go.RowKit
abbrev kShaP_0 : List Value := ([(.int .u32 (0)), (.int .u32 (0)), (.int .u32 (0)), (.int .u32 (0)), (.int .u32 (0)), (.int .u32 (0)), (.int .u32 (0)), (.int .u32 (0)), (.int .u32 (0)), (.int .u32 (0)), (.int .u32 (0)), (.int .u32 (0)), (.int .u32 (0)), (.int .u32 (0)), (.int .u32 (0)), (.int .u32 (0)), (.int .u32 (0)), (.int .u32 (0)), (.int .u32 (0)), (.int .u32 (0)), (.int .u32 (0)), (.int .u32 (0)), (.int .u32 (0)), (.int .u32 (0))] : List Value) ++ ([(.int .u32 (0)), (.int .u32 (0)), (.int .u32 (0)), (.int .u32 (0)), (.int .u32 (0)), (.int .u32 (0)), (.int .u32 (0)), (.int .u32 (0)), (.int .u32 (0)), (.int .u32 (0)), (.int .u32 (0)), (.int .u32 (0)), (.int .u32 (0)), (.int .u32 (0)), (.int .u32 (0)), (.int .u32 (0)), (.int .u32 (0)), (.int .u32 (0)), (.int .u32 (0)), (.int .u32 (0)), (.int .u32 (0)), (.int .u32 (0)), (.int .u32 (0)), (.int .u32 (0))] : List Value) ++ ([(.int .u32 (0)), (.int .u32 (0)), (.int .u32 (0)), (.int .u32 (0)), (.int .u32 (0)), (.int .u32 (0)), (.int .u32 (0)), (.int .u32 (0)), (.int .u32 (0)), (.int .u32 (0)), (.int .u32 (0)), (.int .u32 (0)), (.int .u32 (0)), (.int .u32 (0)), (.int .u32 (0)), (.int .u32 (0))] : List Value)
abbrev kShaP_1 : List Value := ([(.int .u32 (0)), (.int .u32 (0)), (.int .u32 (0)), (.int .u32 (0)), (.int .u32 (0)), (.int .u32 (0)), (.int .u32 (0)), (.int .u32 (0))] : List Value)
abbrev kShaP_2 (p0 : Option Addr) (p1 : List UInt8) (p2 : Nat) : Ck := rowC 5 1 (.slice p0 p1.length p2) p1.length (p1.flatMap encB)
theorem word_any (w : World) (sa : Option Addr) (sc : Nat) (s : List UInt8) (hs : ListAt encB 1 w (.slice sa s.length sc) s) (hl : 4 ≤ s.length) :
  Calls Tryz.prog 230 #[(.slice sa s.length sc)] w fun e w' => e = .returned (.int .u32 (wordV s)) ∧ Upd [] w w' := by
 have H := Sat.start0 w
 refine calls_fr Tryz.func230 rfl 25 rfl (Nat.le_of_ble_eq_true rfl) ?_
 refine zsl <| wv 2 (.int .u32 (0)) <| znt <| w_seq <| zqs H ?_
 refine qv 3 (.slice sa s.length sc) ?_
 obtain ⟨g1, o2, c3, e4⟩ := list_shape (ListAt.now H 0 rfl hs) (show 0 < s.length by omega)
 refine qv 4 (.pointer (some ⟨g1, o2 + ((0 : Int)).toNat * 1, none⟩)) ?_ (hr := fun _ H' => (e_indexAddrW (E := 5) (by kernel_rfl) (by kernel_rfl) (Nat.le_of_ble_eq_true rfl) rfl e4 rfl (by omega) (by omega)))
 refine qv 5 (.int .u8 (((s.getD 0 0).toNat : Int))) ?_ (hr := fun _ H' => (zl1 (list_cell (by have q := (ListAt.now H' 0 rfl hs); rw [e4] at q; exact q) (show 0 < s.length by omega) (show o2 + ((0 : Int)).toNat * 1 = o2 + 0 by omega))))
 refine qv 6 (.int .u32 (IntKind.u32.wrap (((s.getD 0 0).toNat : Int)))) <| qv 7 (.int .u32 (bShl .u32 (IntKind.u32.wrap (((s.getD 0 0).toNat : Int))) 24)) ?_ (hr := fun _ H' => (e_shl rfl rfl (by decide)))
 refine qv 8 (.slice sa s.length sc) <| qv 9 (.pointer (some ⟨g1, o2 + ((1 : Int)).toNat * 1, none⟩)) ?_ (hr := fun _ H' => (e_indexAddrW (E := 5) (by kernel_rfl) (by kernel_rfl) (Nat.le_of_ble_eq_true rfl) rfl e4 rfl (by omega) (by omega)))
 refine qv 10 (.int .u8 (((s.getD 1 0).toNat : Int))) ?_ (hr := fun _ H' => (zl1 (list_cell (by have q := (ListAt.now H' 0 rfl hs); rw [e4] at q; exact q) (show 1 < s.length by omega) (show o2 + ((1 : Int)).toNat * 1 = o2 + 1 by omega))))
 refine qv 11 (.int .u32 (IntKind.u32.wrap (((s.getD 1 0).toNat : Int)))) <| qv 12 (.int .u32 (bShl .u32 (IntKind.u32.wrap (((s.getD 1 0).toNat : Int))) 16)) ?_ (hr := fun _ H' => (e_shl rfl rfl (by decide)))
 refine qv 13 (.int .u32 (bOr .u32 (bShl .u32 (IntKind.u32.wrap (((s.getD 0 0).toNat : Int))) 24) (bShl .u32 (IntKind.u32.wrap (((s.getD 1 0).toNat : Int))) 16))) <| qv 14 (.slice sa s.length sc) <| qv 15 (.pointer (some ⟨g1, o2 + ((2 : Int)).toNat * 1, none⟩)) ?_ (hr := fun _ H' => (e_indexAddrW (E := 5) (by kernel_rfl) (by kernel_rfl) (Nat.le_of_ble_eq_true rfl) rfl e4 rfl (by omega) (by omega)))
 refine qv 16 (.int .u8 (((s.getD 2 0).toNat : Int))) ?_ (hr := fun _ H' => (zl1 (list_cell (by have q := (ListAt.now H' 0 rfl hs); rw [e4] at q; exact q) (show 2 < s.length by omega) (show o2 + ((2 : Int)).toNat * 1 = o2 + 2 by omega))))
 refine qv 17 (.int .u32 (IntKind.u32.wrap (((s.getD 2 0).toNat : Int)))) <| qv 18 (.int .u32 (bShl .u32 (IntKind.u32.wrap (((s.getD 2 0).toNat : Int))) 8)) ?_ (hr := fun _ H' => (e_shl rfl rfl (by decide)))
 refine qv 19 (.int .u32 (bOr .u32 (bOr .u32 (bShl .u32 (IntKind.u32.wrap (((s.getD 0 0).toNat : Int))) 24) (bShl .u32 (IntKind.u32.wrap (((s.getD 1 0).toNat : Int))) 16)) (bShl .u32 (IntKind.u32.wrap (((s.getD 2 0).toNat : Int))) 8))) <| qv 20 (.slice sa s.length sc) <| qv 21 (.pointer (some ⟨g1, o2 + ((3 : Int)).toNat * 1, none⟩)) ?_ (hr := fun _ H' => (e_indexAddrW (E := 5) (by kernel_rfl) (by kernel_rfl) (Nat.le_of_ble_eq_true rfl) rfl e4 rfl (by omega) (by omega)))
 refine qv 22 (.int .u8 (((s.getD 3 0).toNat : Int))) ?_ (hr := fun _ H' => (zl1 (list_cell (by have q := (ListAt.now H' 0 rfl hs); rw [e4] at q; exact q) (show 3 < s.length by omega) (show o2 + ((3 : Int)).toNat * 1 = o2 + 3 by omega))))
 refine qv 23 (.int .u32 (IntKind.u32.wrap (((s.getD 3 0).toNat : Int)))) <| qv 24 (.int .u32 (bOr .u32 (bOr .u32 (bOr .u32 (bShl .u32 (IntKind.u32.wrap (((s.getD 0 0).toNat : Int))) 24) (bShl .u32 (IntKind.u32.wrap (((s.getD 1 0).toNat : Int))) 16)) (bShl .u32 (IntKind.u32.wrap (((s.getD 2 0).toNat : Int))) 8)) (IntKind.u32.wrap (((s.getD 3 0).toNat : Int))))) <| qv 2 (.int .u32 (bOr .u32 (bOr .u32 (bOr .u32 (bShl .u32 (IntKind.u32.wrap (((s.getD 0 0).toNat : Int))) 24) (bShl .u32 (IntKind.u32.wrap (((s.getD 1 0).toNat : Int))) 16)) (bShl .u32 (IntKind.u32.wrap (((s.getD 2 0).toNat : Int))) 8)) (IntKind.u32.wrap (((s.getD 3 0).toNat : Int))))) <| q_end fun w5 H6 => ?_
 refine ztn <| w_ret <| ze1 (.int .u32 (bOr .u32 (bOr .u32 (bOr .u32 (bShl .u32 (IntKind.u32.wrap (((s.getD 0 0).toNat : Int))) 24) (bShl .u32 (IntKind.u32.wrap (((s.getD 1 0).toNat : Int))) 16)) (bShl .u32 (IntKind.u32.wrap (((s.getD 2 0).toNat : Int))) 8)) (IntKind.u32.wrap (((s.getD 3 0).toNat : Int))))) ?_
 exact ⟨rfl, H6.upd 0 rfl [] (fun _ h => h.elim)⟩
theorem word_at (w : World) (v : Value) (s : List UInt8) (hs : ListAt encB 1 w v s) (hl : 4 ≤ s.length) : Calls Tryz.prog 230 #[v] w fun e w' => e = .returned (.int .u32 (wordV s)) ∧ Upd [] w w' := by
 obtain ⟨a, c, rfl⟩ := SliceOf.len hs
 exact word_any w a c s hs hl
theorem rot_any (w : World) (x k n : Int) (hk : bAnd .u64 (IntKind.u64.wrap k) 31 = 32 - n) (hn : 1 ≤ n ∧ n ≤ 31) :
  Calls Tryz.prog 216 #[(.int .u32 (x)), (.int .i64 (k))] w fun e w' => e = .returned (.int .u32 (rotV x n)) ∧ Upd [] w w' := by
 have H := Sat.start0 w
 refine calls_fr Tryz.func216 rfl 17 rfl (Nat.le_of_ble_eq_true rfl) ?_
 refine zsl <| wv 4 (.int .u32 (0)) <| znsl <| wv 6 (.int .i64 (k)) <| wv 7 (.int .u64 (IntKind.u64.wrap (k))) <| wv 8 (.int .u64 (bAnd .u64 (IntKind.u64.wrap (k)) 31)) <| wv 5 (.int .u64 (bAnd .u64 (IntKind.u64.wrap (k)) 31)) <| znt <| w_seq <| wp_know 5 (.int .u64 ((32 - n))) (show ((.int .u64 (bAnd .u64 (IntKind.u64.wrap (k)) 31)) : Value) = _ by rw [hk]) ?_
 refine w_lit <| wv 9 (.int .u32 (x)) <| wv 10 (.int .u64 ((32 - n))) <| wv 11 (.int .u32 (bShl .u32 x (32 - n))) ?_ (hr := e_shl rfl rfl (by omega))
 refine wv 12 (.int .u32 (x)) <| wv 13 (.int .u64 ((32 - n))) <| wv 14 (.int .u64 (32 - (32 - n))) ?_ (hr := e_int (z := 32 - (32 - n)) (by kernel_rfl) (wrap_u64 (by omega)))
 refine wv 15 (.int .u32 (x / 2 ^ (min (32 - (32 - n)).toNat 32))) ?_ (hr := e_shr rfl rfl (by omega) rfl (Int.le_of_lt (Int.pow_pos (by decide))))
 refine wv 16 (.int .u32 (bOr .u32 (bShl .u32 x (32 - n)) (x / 2 ^ (min (32 - (32 - n)).toNat 32)))) <| wv 4 (.int .u32 (bOr .u32 (bShl .u32 x (32 - n)) (x / 2 ^ (min (32 - (32 - n)).toNat 32)))) <| znt <| w_ret <| ze1 (.int .u32 (bOr .u32 (bShl .u32 x (32 - n)) (x / 2 ^ (min (32 - (32 - n)).toNat 32)))) ?_
 exact ⟨by rw [rot_flip x n (32 - n) rfl], H.upd 0 rfl [] (fun _ h => h.elim)⟩
theorem roundsP_any (w : World) :
  Calls Tryz.prog 196 #[] w fun e w' => e = .returned (.agg ⟨kR.map (Value.int .u32)⟩) ∧ Upd [] w w' := by
 have H := Sat.start0 w
 refine calls_fr Tryz.func196 rfl 2 rfl (Nat.le_of_ble_eq_true rfl) ?_
 refine zsl <| zwd fun Kq kq => zda (kShaP_0) H ?_
 intro b2 w3 (H4 : Sat w [restC w (fun _ => False), cellC b2 199 (kShaP_0)] w3)
 have H5 : Sat w [restC w (fun _ => False), rowW .u32 b2 199 64 (List.replicate 64 (0 : Int))] w3 := Sat.toW H4 1 .u32 (List.replicate 64 (0 : Int)) (by kernel_rfl) (by first | rfl | simp)
 refine kq _ _ <| znsl <| wv 1 (.agg ⟨(([(.int .u32 (1116352408)), (.int .u32 (1899447441)), (.int .u32 (3049323471)), (.int .u32 (3921009573)), (.int .u32 (961987163)), (.int .u32 (1508970993)), (.int .u32 (2453635748)), (.int .u32 (2870763221)), (.int .u32 (3624381080)), (.int .u32 (310598401)), (.int .u32 (607225278)), (.int .u32 (1426881987)), (.int .u32 (1925078388)), (.int .u32 (2162078206)), (.int .u32 (2614888103)), (.int .u32 (3248222580)), (.int .u32 (3835390401)), (.int .u32 (4022224774)), (.int .u32 (264347078)), (.int .u32 (604807628)), (.int .u32 (770255983)), (.int .u32 (1249150122)), (.int .u32 (1555081692)), (.int .u32 (1996064986))] : List Value) ++ ([(.int .u32 (2554220882)), (.int .u32 (2821834349)), (.int .u32 (2952996808)), (.int .u32 (3210313671)), (.int .u32 (3336571891)), (.int .u32 (3584528711)), (.int .u32 (113926993)), (.int .u32 (338241895)), (.int .u32 (666307205)), (.int .u32 (773529912)), (.int .u32 (1294757372)), (.int .u32 (1396182291)), (.int .u32 (1695183700)), (.int .u32 (1986661051)), (.int .u32 (2177026350)), (.int .u32 (2456956037)), (.int .u32 (2730485921)), (.int .u32 (2820302411)), (.int .u32 (3259730800)), (.int .u32 (3345764771)), (.int .u32 (3516065817)), (.int .u32 (3600352804)), (.int .u32 (4094571909)), (.int .u32 (275423344))] : List Value) ++ ([(.int .u32 (430227734)), (.int .u32 (506948616)), (.int .u32 (659060556)), (.int .u32 (883997877)), (.int .u32 (958139571)), (.int .u32 (1322822218)), (.int .u32 (1537002063)), (.int .u32 (1747873779)), (.int .u32 (1955562222)), (.int .u32 (2024104815)), (.int .u32 (2227730452)), (.int .u32 (2361852424)), (.int .u32 (2428436474)), (.int .u32 (2756734187)), (.int .u32 (3204031479)), (.int .u32 (3329325298))] : List Value))⟩) <| zwd fun Kq kq => d_storeWA .u32 (B := ([1116352408, 1899447441, 3049323471, 3921009573, 961987163, 1508970993, 2453635748, 2870763221, 3624381080, 310598401, 607225278, 1426881987, 1925078388, 2162078206, 2614888103, 3248222580, 3835390401, 4022224774, 264347078, 604807628, 770255983, 1249150122, 1555081692, 1996064986, 2554220882, 2821834349, 2952996808, 3210313671, 3336571891, 3584528711, 113926993, 338241895, 666307205, 773529912, 1294757372, 1396182291, 1695183700, 1986661051, 2177026350, 2456956037, 2730485921, 2820302411, 3259730800, 3345764771, 3516065817, 3600352804, 4094571909, 275423344, 430227734, 506948616, 659060556, 883997877, 958139571, 1322822218, 1537002063, 1747873779, 1955562222, 2024104815, 2227730452, 2361852424, 2428436474, 2756734187, 3204031479, 3329325298] : List Int)) rfl H5 1 rfl rfl rfl (by kernel_rfl) (by kernel_rfl) (by decide) (by first | rfl | simp) fun w7 H8 => ?_
 refine kq _ _ <| znt <| w_ret ?_
 have hAL_ : ([1116352408, 1899447441, 3049323471, 3921009573, 961987163, 1508970993, 2453635748, 2870763221, 3624381080, 310598401, 607225278, 1426881987, 1925078388, 2162078206, 2614888103, 3248222580, 3835390401, 4022224774, 264347078, 604807628, 770255983, 1249150122, 1555081692, 1996064986, 2554220882, 2821834349, 2952996808, 3210313671, 3336571891, 3584528711, 113926993, 338241895, 666307205, 773529912, 1294757372, 1396182291, 1695183700, 1986661051, 2177026350, 2456956037, 2730485921, 2820302411, 3259730800, 3345764771, 3516065817, 3600352804, 4094571909, 275423344, 430227734, 506948616, 659060556, 883997877, 958139571, 1322822218, 1537002063, 1747873779, 1955562222, 2024104815, 2227730452, 2361852424, 2428436474, 2756734187, 3204031479, 3329325298] : List Int).length = 64 := rowW_len (H8.at 1 rfl)
 have H9 : Sat w [restC w (fun _ => False), cellC b2 199 (([1116352408, 1899447441, 3049323471, 3921009573, 961987163, 1508970993, 2453635748, 2870763221, 3624381080, 310598401, 607225278, 1426881987, 1925078388, 2162078206, 2614888103, 3248222580, 3835390401, 4022224774, 264347078, 604807628, 770255983, 1249150122, 1555081692, 1996064986, 2554220882, 2821834349, 2952996808, 3210313671, 3336571891, 3584528711, 113926993, 338241895, 666307205, 773529912, 1294757372, 1396182291, 1695183700, 1986661051, 2177026350, 2456956037, 2730485921, 2820302411, 3259730800, 3345764771, 3516065817, 3600352804, 4094571909, 275423344, 430227734, 506948616, 659060556, 883997877, 958139571, 1322822218, 1537002063, 1747873779, 1955562222, 2024104815, 2227730452, 2361852424, 2428436474, 2756734187, 3204031479, 3329325298] : List Int).map (Value.int .u32))] w7 := Sat.offW H8 1 rfl
 refine end1 rfl (res_cellN (vs := (([1116352408, 1899447441, 3049323471, 3921009573, 961987163, 1508970993, 2453635748, 2870763221, 3624381080, 310598401, 607225278, 1426881987, 1925078388, 2162078206, 2614888103, 3248222580, 3835390401, 4022224774, 264347078, 604807628, 770255983, 1249150122, 1555081692, 1996064986, 2554220882, 2821834349, 2952996808, 3210313671, 3336571891, 3584528711, 113926993, 338241895, 666307205, 773529912, 1294757372, 1396182291, 1695183700, 1986661051, 2177026350, 2456956037, 2730485921, 2820302411, 3259730800, 3345764771, 3516065817, 3600352804, 4094571909, 275423344, 430227734, 506948616, 659060556, 883997877, 958139571, 1322822218, 1537002063, 1747873779, 1955562222, 2024104815, 2227730452, 2361852424, 2428436474, 2756734187, 3204031479, 3329325298] : List Int).map (Value.int .u32))) rfl (by kernel_rfl) (by rw [List.length_map, hAL_]; kernel_rfl) (by rw [List.length_map, hAL_]; decide) (H9.at 1 rfl) (List.take_length)) ?_
 exact ⟨rfl, H9.upd 0 rfl [] (fun _ h => h.elim)⟩
theorem spread_any (w : World) (sa : Option Addr) (sc : Nat) (s : List UInt8) (hs : ListAt encB 1 w (.slice sa s.length sc) s) (hl : 64 ≤ s.length) :
  Calls Tryz.prog 215 #[(.slice sa s.length sc)] w fun e w' => e = .returned (.agg ⟨(wOq s).map (Value.int .u32)⟩) ∧ Upd [] w w' := by
 have H := Sat.start0 w
 refine calls_fr Tryz.func215 rfl 65 rfl (Nat.le_of_ble_eq_true rfl) ?_
 refine zsl <| zwd fun Kq kq => zda (kShaP_0) H ?_
 intro b2 w3 (H4 : Sat w [restC w (fun _ => False), cellC b2 199 (kShaP_0)] w3)
 have H5 : Sat w [restC w (fun _ => False), rowW .u32 b2 199 64 (List.replicate 64 (0 : Int))] w3 := Sat.toW H4 1 .u32 (List.replicate 64 (0 : Int)) (by kernel_rfl) (by first | rfl | simp)
 refine kq _ _ <| znsl <| zwd fun Kq kq => zda (kShaP_0) H5 ?_
 intro b7 w8 (H9 : Sat w [restC w (fun _ => False), rowW .u32 b2 199 64 (List.replicate 64 (0 : Int)), cellC b7 199 (kShaP_0)] w8)
 have H10 : Sat w [restC w (fun _ => False), rowW .u32 b2 199 64 (List.replicate 64 (0 : Int)), rowW .u32 b7 199 64 (List.replicate 64 (0 : Int))] w8 := Sat.toW H9 2 .u32 (List.replicate 64 (0 : Int)) (by kernel_rfl) (by exact rowW_len (H9.at 1 rfl))
 refine kq _ _ <| znt <| w_seq <| zsl <| wv 10 (.int .i64 (0)) <| znt <| w_block <| wp_round ([4] ++ List.range' 10 11) (fun F_ W_ m_ => ∃ (i : Nat) (A : List Int), F_ 10 = (.int .i64 ((i : Int))) ∧ (i ≤ 16) ∧ (A = wLq s i) ∧ Sat w [restC w (fun _ => False), rowW .u32 b2 199 64 (List.replicate 64 (0 : Int)), rowW .u32 b7 199 64 A] W_ ∧ m_ = 16 - i) _ ⟨0, (List.replicate 64 (0 : Int)), (show ((.int .i64 (0)) : Value) = _ by first | rfl | go_num), (Nat.zero_le _), rfl, H10, rfl⟩ ?_
 rintro g11 w12 _ ⟨i, A, v14, hi, hA, H13, rfl⟩
 refine wp_know 10 _ v14 ?_
 refine zsl <| wv 11 (.bool (decide ((i : Int) < 16))) <| znt <| w_seq ?_
 refine (bsplit (decide ((i : Int) < 16))).elim (fun b16 => ?_) (fun b16 => ?_)
 ·have g17 := of_decide_eq_true b16
  refine zwkt _ b16 ?_
  refine w_skip <| ztn <| w_seq <| w_block <| zsl <| wv 12 (.int .i64 ((i : Int))) <| wv 4 (.int .i64 ((i : Int))) <| znt <| w_lit <| wv 13 (.int .i64 ((i : Int))) ?_
  refine wv 14 (.slice sa s.length sc) <| wv 15 (.int .i64 ((i : Int))) <| zwi 16 (4 * (i : Int)) <| wv 17 (.slice (if sc = (4 * i) then sa else sa.map (·.add ((4 * i) * 1))) (s.length - (4 * i)) (sc - (4 * i))) ?_ (hr := e_sliceLoG (E := 5) (q := (4 * i)) (by kernel_rfl) (by kernel_rfl) rfl rfl rfl (by omega))
  refine zwd fun Kq kq => zdq 18 (word_at w12 (.slice (if sc = (4 * i) then sa else sa.map (·.add ((4 * i) * 1))) (s.length - (4 * i)) (sc - (4 * i))) (s.drop (4 * i)) (ListAt.dropG (k := (4 * i)) (ListAt.now H13 0 rfl hs) (by omega)) (by simp only [List.length_drop]; omega)) H13 fun w20 H21 => ?_
  refine kq _ _ <| wv 19 (.pointer (some ⟨b7, 0 + ((i : Int)).toNat * 1, none⟩)) ?_ (hr := e_indexAddrA (E := 198) (N := 64) (by kernel_rfl) (by kernel_rfl) (Nat.le_of_ble_eq_true rfl) rfl rfl (by omega) (by omega))
  refine zwd fun Kq kq => d_storeW .u32 rfl H21 2 rfl rfl rfl (by kernel_rfl) (show 0 + ((i : Int)).toNat * 1 = i by omega) (show i < 64 by omega) fun w24 H25 => ?_
  refine kq _ _ <| w_nil <| blk_normal <| ztn <| w_lit <| zwi 20 ((i : Int) + 1) <| wv 10 (.int .i64 ((i : Int) + 1)) <| w_nil <| round_back ?_ _ ⟨(i + 1), (A.set i (wordV (s.drop (4 * i)))), (show ((.int .i64 ((i : Int) + 1)) : Value) = _ by first | rfl | go_num | exact congrArg (Value.int .i64) (by omega)), (by omega), (by rw [hA]; rfl), H25, rfl⟩ (by omega)
  exact zs
 have g26 := of_decide_eq_false b16
 refine zwkf _ b16 ?_
 refine zxb <| ztn <| w_seq <| zsl <| wv 5 (.int .i64 (16)) <| znt <| w_block ?_
 obtain rfl : i = 16 := by omega
 refine wp_round ([5, 6, 7, 8, 9] ++ List.range' 21 43) (fun F_ W_ m_ => ∃ (j : Nat) (B : List Int), F_ 5 = (.int .i64 (((j : Int) + 16))) ∧ (j ≤ 48) ∧ (B = wEx A j) ∧ Sat w [restC w (fun _ => False), rowW .u32 b2 199 64 (List.replicate 64 (0 : Int)), rowW .u32 b7 199 64 B] W_ ∧ m_ = 48 - j) _ ⟨0, A, (show ((.int .i64 (16)) : Value) = _ by first | rfl | go_num), (Nat.zero_le _), rfl, H13, rfl⟩ ?_
 rintro g28 w29 _ ⟨j, B, v31, hj, hB, H30, rfl⟩
 refine wp_know 5 _ v31 ?_
 refine w_seq <| zsl <| wv 21 (.int .i64 (((j : Int) + 16))) <| wv 22 (.bool (decide (((j : Int) + 16) < 64))) <| znt ?_
 refine (bsplit (decide (((j : Int) + 16) < 64))).elim (fun b33 => ?_) (fun b33 => ?_)
 ·have g34 := of_decide_eq_true b33
  refine zwkt _ b33 ?_
  refine w_skip <| ztn <| w_seq <| w_block <| w_seq <| zqs H30 ?_
  refine qv 25 (.int .i64 (((j : Int) + 16))) <| qv 26 (.int .i64 (((j : Int) + 16) - 15)) ?_ (hr := fun _ H' => (e_int (z := ((j : Int) + 16) - 15) (by kernel_rfl) (IntWalk.i64_in _ (by omega))))
  refine qv 27 (.pointer (some ⟨b7, 0 + (((j : Int) + 16) - 15).toNat * 1, none⟩)) ?_ (hr := fun _ H' => (e_indexAddrA (E := 198) (N := 64) (by kernel_rfl) (by kernel_rfl) (Nat.le_of_ble_eq_true rfl) rfl rfl (by omega) (by omega)))
  refine qv 28 (.int .u32 (B.getD ((j + 16) - 15) 0)) ?_ (hr := fun _ H' => (zl1 (rowW_cell (H'.at 2 rfl) (show ((j + 16) - 15) < 64 by omega) (show 0 + (((j : Int) + 16) - 15).toNat * 1 = ((j + 16) - 15) by omega))))
  refine qv 29 (.int .i64 (((j : Int) + 16))) <| qv 30 (.int .i64 (((j : Int) + 16) - 2)) ?_ (hr := fun _ H' => (e_int (z := ((j : Int) + 16) - 2) (by kernel_rfl) (IntWalk.i64_in _ (by omega))))
  refine qv 31 (.pointer (some ⟨b7, 0 + (((j : Int) + 16) - 2).toNat * 1, none⟩)) ?_ (hr := fun _ H' => (e_indexAddrA (E := 198) (N := 64) (by kernel_rfl) (by kernel_rfl) (Nat.le_of_ble_eq_true rfl) rfl rfl (by omega) (by omega)))
  refine qv 32 (.int .u32 (B.getD ((j + 16) - 2) 0)) ?_ (hr := fun _ H' => (zl1 (rowW_cell (H'.at 2 rfl) (show ((j + 16) - 2) < 64 by omega) (show 0 + (((j : Int) + 16) - 2).toNat * 1 = ((j + 16) - 2) by omega))))
  refine qv 6 (.int .u32 (B.getD ((j + 16) - 15) 0)) <| qv 7 (.int .u32 (B.getD ((j + 16) - 2) 0)) <| q_end fun w36 H37 => ?_
  refine ztn <| zsl <| wv 33 (.int .u32 (B.getD ((j + 16) - 15) 0)) <| zwd fun Kq kq => zdq 34 (rot_any w36 (B.getD ((j + 16) - 15) 0) (-7) 7 (by decide) (by decide)) H37 fun w39 H40 => ?_
  refine kq _ _ <| wv 35 (.int .u32 (B.getD ((j + 16) - 15) 0)) <| zwd fun Kq kq => zdq 36 (rot_any w39 (B.getD ((j + 16) - 15) 0) (-18) 18 (by decide) (by decide)) H40 fun w43 H44 => ?_
  refine kq _ _ <| wv 37 (.int .u32 (bXor .u32 (rotV (B.getD ((j + 16) - 15) 0) 7) (rotV (B.getD ((j + 16) - 15) 0) 18))) <| wv 38 (.int .u32 (B.getD ((j + 16) - 15) 0)) <| wv 39 (.int .u32 ((B.getD ((j + 16) - 15) 0) / 8)) ?_ (hr := e_shr rfl rfl (by decide) (by decide) (by decide))
  refine wv 40 (.int .u32 (bXor .u32 (bXor .u32 (rotV (B.getD ((j + 16) - 15) 0) 7) (rotV (B.getD ((j + 16) - 15) 0) 18)) ((B.getD ((j + 16) - 15) 0) / 8))) <| wv 8 (.int .u32 (bXor .u32 (bXor .u32 (rotV (B.getD ((j + 16) - 15) 0) 7) (rotV (B.getD ((j + 16) - 15) 0) 18)) ((B.getD ((j + 16) - 15) 0) / 8))) <| znsl <| wv 41 (.int .u32 (B.getD ((j + 16) - 2) 0)) <| zwd fun Kq kq => d_call (d := 42) rfl (by kernel_rfl) (rot_any w43 (B.getD ((j + 16) - 2) 0) (-17) 17 (by decide) (by decide)) ?_
  rintro _ w47 ⟨rfl, u49⟩
  have H48 := H44.keepU u49
  refine ⟨_, rfl, ?_⟩
  refine kq _ _ <| wv 43 (.int .u32 (B.getD ((j + 16) - 2) 0)) <| zwd fun Kq kq => zdq 44 (rot_any w47 (B.getD ((j + 16) - 2) 0) (-19) 19 (by decide) (by decide)) H48 fun w51 H52 => ?_
  refine kq _ _ <| wv 45 (.int .u32 (bXor .u32 (rotV (B.getD ((j + 16) - 2) 0) 17) (rotV (B.getD ((j + 16) - 2) 0) 19))) <| wv 46 (.int .u32 (B.getD ((j + 16) - 2) 0)) <| wv 47 (.int .u32 ((B.getD ((j + 16) - 2) 0) / 1024)) ?_ (hr := e_shr rfl rfl (by decide) (by decide) (by decide))
  refine wv 48 (.int .u32 (bXor .u32 (bXor .u32 (rotV (B.getD ((j + 16) - 2) 0) 17) (rotV (B.getD ((j + 16) - 2) 0) 19)) ((B.getD ((j + 16) - 2) 0) / 1024))) <| wv 9 (.int .u32 (bXor .u32 (bXor .u32 (rotV (B.getD ((j + 16) - 2) 0) 17) (rotV (B.getD ((j + 16) - 2) 0) 19)) ((B.getD ((j + 16) - 2) 0) / 1024))) <| znt <| k_start H52 [restC w (fun _ => False), rowW .u32 b2 199 64 (List.replicate 64 (0 : Int)), rowW .u32 b7 199 64 B] [15] 16 rfl (by kernel_rfl) (fun Hx => (Hx.pk [0, 1, 2])) fun w54 H55 S56 => ?_
  refine zkp 0 S56 49 (.int .i64 (((j : Int) + 16))) <| zkp 1 S56 50 (.int .i64 (((j : Int) + 16))) <| zkp 2 S56 51 (.int .i64 (((j : Int) + 16) - 16)) ?_ (he := fun _ => (e_int (z := ((j : Int) + 16) - 16) (by kernel_rfl) (IntWalk.i64_in _ (by omega))))
  refine zkp 3 S56 52 (.pointer (some ⟨b7, 0 + (((j : Int) + 16) - 16).toNat * 1, none⟩)) ?_ (he := fun _ => (e_indexAddrA (E := 198) (N := 64) (by kernel_rfl) (by kernel_rfl) (Nat.le_of_ble_eq_true rfl) rfl rfl (by omega) (by omega)))
  refine zkv 4 S56 53 (.int .u32 (B.getD ((j + 16) - 16) 0)) ?_ (he := fun _ H' => (zl1 (rowW_cell (H'.at 2 rfl) (show ((j + 16) - 16) < 64 by omega) (show 0 + (((j : Int) + 16) - 16).toNat * 1 = ((j + 16) - 16) by omega))))
  refine zkp 5 S56 54 (.int .u32 (bXor .u32 (bXor .u32 (rotV (B.getD ((j + 16) - 15) 0) 7) (rotV (B.getD ((j + 16) - 15) 0) 18)) ((B.getD ((j + 16) - 15) 0) / 8))) <| zkp 6 S56 55 (.int .u32 (IntKind.u32.wrap ((B.getD ((j + 16) - 16) 0) + (bXor .u32 (bXor .u32 (rotV (B.getD ((j + 16) - 15) 0) 7) (rotV (B.getD ((j + 16) - 15) 0) 18)) ((B.getD ((j + 16) - 15) 0) / 8))))) <| zkp 7 S56 56 (.int .i64 (((j : Int) + 16))) <| zkp 8 S56 57 (.int .i64 (((j : Int) + 16) - 7)) ?_ (he := fun _ => (e_int (z := ((j : Int) + 16) - 7) (by kernel_rfl) (IntWalk.i64_in _ (by omega))))
  refine zkp 9 S56 58 (.pointer (some ⟨b7, 0 + (((j : Int) + 16) - 7).toNat * 1, none⟩)) ?_ (he := fun _ => (e_indexAddrA (E := 198) (N := 64) (by kernel_rfl) (by kernel_rfl) (Nat.le_of_ble_eq_true rfl) rfl rfl (by omega) (by omega)))
  refine zkv 10 S56 59 (.int .u32 (B.getD ((j + 16) - 7) 0)) ?_ (he := fun _ H' => (zl1 (rowW_cell (H'.at 2 rfl) (show ((j + 16) - 7) < 64 by omega) (show 0 + (((j : Int) + 16) - 7).toNat * 1 = ((j + 16) - 7) by omega))))
  refine zkp 11 S56 60 (.int .u32 (IntKind.u32.wrap ((IntKind.u32.wrap ((B.getD ((j + 16) - 16) 0) + (bXor .u32 (bXor .u32 (rotV (B.getD ((j + 16) - 15) 0) 7) (rotV (B.getD ((j + 16) - 15) 0) 18)) ((B.getD ((j + 16) - 15) 0) / 8)))) + (B.getD ((j + 16) - 7) 0)))) <| zkp 12 S56 61 (.int .u32 (bXor .u32 (bXor .u32 (rotV (B.getD ((j + 16) - 2) 0) 17) (rotV (B.getD ((j + 16) - 2) 0) 19)) ((B.getD ((j + 16) - 2) 0) / 1024))) <| zkp 13 S56 62 (.int .u32 (IntKind.u32.wrap ((IntKind.u32.wrap ((IntKind.u32.wrap ((B.getD ((j + 16) - 16) 0) + (bXor .u32 (bXor .u32 (rotV (B.getD ((j + 16) - 15) 0) 7) (rotV (B.getD ((j + 16) - 15) 0) 18)) ((B.getD ((j + 16) - 15) 0) / 8)))) + (B.getD ((j + 16) - 7) 0))) + (bXor .u32 (bXor .u32 (rotV (B.getD ((j + 16) - 2) 0) 17) (rotV (B.getD ((j + 16) - 2) 0) 19)) ((B.getD ((j + 16) - 2) 0) / 1024))))) <| zkp 14 S56 63 (.pointer (some ⟨b7, 0 + (((j : Int) + 16)).toNat * 1, none⟩)) ?_ (he := fun _ => (e_indexAddrA (E := 198) (N := 64) (by kernel_rfl) (by kernel_rfl) (Nat.le_of_ble_eq_true rfl) rfl rfl (by omega) (by omega)))
  refine k_brk 15 (Sat w [restC w (fun _ => False), rowW .u32 b2 199 64 (List.replicate 64 (0 : Int))]) rfl (by kernel_rfl) (wants0 rfl) rfl (fun Kq kq => ?_)
  refine d_storeW .u32 rfl H55 2 rfl rfl rfl (by kernel_rfl) (show 0 + (((j : Int) + 16)).toNat * 1 = (j + 16) by omega) (show (j + 16) < 64 by omega) ?_
  intro w58 H59
  have S60 := H59.pk [0, 1]
  refine kq _ _ S60 <| zhf <| blk_normal <| ztn <| w_lit <| wv 23 (.int .i64 (((j : Int) + 16))) <| zwi 24 (((j : Int) + 16) + 1) <| wv 5 (.int .i64 (((j : Int) + 16) + 1)) <| w_nil <| round_back ?_ _ ⟨(j + 1), (B.set (j + 16) (IntKind.u32.wrap ((IntKind.u32.wrap ((IntKind.u32.wrap ((B.getD ((j + 16) - 16) 0) + (bXor .u32 (bXor .u32 (rotV (B.getD ((j + 16) - 15) 0) 7) (rotV (B.getD ((j + 16) - 15) 0) 18)) ((B.getD ((j + 16) - 15) 0) / 8)))) + (B.getD ((j + 16) - 7) 0))) + (bXor .u32 (bXor .u32 (rotV (B.getD ((j + 16) - 2) 0) 17) (rotV (B.getD ((j + 16) - 2) 0) 19)) ((B.getD ((j + 16) - 2) 0) / 1024))))), (show ((.int .i64 (((j : Int) + 16) + 1)) : Value) = _ by first | rfl | go_num | exact congrArg (Value.int .i64) (by omega)), (by omega), (by rw [hB]; rfl), H59, rfl⟩ (by omega)
  exact zs
 have g61 := of_decide_eq_false b33
 refine zwkf _ b33 ?_
 refine zxb <| ztn <| zsl <| wv 64 (.agg ⟨(B.map (Value.int .u32))⟩) ?_ (hr := e_loadWA rfl (by kernel_rfl) (by kernel_rfl) (by decide) (H30.at 2 rfl))
 refine zwd fun Kq kq => d_storeWA .u32 (B := B) rfl H30 1 rfl rfl rfl (by kernel_rfl) (by kernel_rfl) (by decide) (by exact rowW_len (H30.at 2 rfl)) fun w64 H65 => ?_
 refine kq _ _ <| znt <| w_ret ?_
 have hAL_ : B.length = 64 := rowW_len (H65.at 1 rfl)
 have H66 : Sat w [restC w (fun _ => False), cellC b2 199 (B.map (Value.int .u32)), rowW .u32 b7 199 64 B] w64 := Sat.offW H65 1 rfl
 refine end1 rfl (res_cellN (vs := (B.map (Value.int .u32))) rfl (by kernel_rfl) (by rw [List.length_map, hAL_]; kernel_rfl) (by rw [List.length_map, hAL_]; decide) (H66.at 1 rfl) (List.take_length)) ?_
 have hww : B = wOq s := by rw [hB, hA, show j = 48 by omega]; rfl
 exact ⟨by rw [hww], H66.upd 0 rfl [] (fun _ h => h.elim)⟩
theorem spread_at (w : World) (v : Value) (s : List UInt8) (hs : ListAt encB 1 w v s) (hl : 64 ≤ s.length) : Calls Tryz.prog 215 #[v] w fun e w' => e = .returned (.agg ⟨(wOq s).map (Value.int .u32)⟩) ∧ Upd [] w w' := by
 obtain ⟨a, c, rfl⟩ := SliceOf.len hs
 exact spread_any w a c s hs hl
theorem wEx_len (A : List Int) (j : Nat) : (wEx A j).length = A.length := by
 induction j with
 | zero => rfl
 | succ j ih => simp [wEx, exS, ih]
theorem wLq_len (s : List UInt8) (i : Nat) : (wLq s i).length = 64 := by
 induction i with
 | zero => rfl
 | succ i ih => simp [wLq, ih]
theorem wOq_len (s : List UInt8) : (wOq s).length = 64 := (wEx_len _ _).trans (wLq_len s 16)
theorem mix_any (w : World) (sa : Option Addr) (sc : Nat) (s : List UInt8) (hs : ListAt encB 1 w (.slice sa s.length sc) s) (hl : 64 ≤ s.length) (HH : List Int) (hH : HH.length = 8) :
  Calls Tryz.prog 197 #[(.agg ⟨(HH.map (Value.int .u32))⟩), (.agg ⟨(kR.map (Value.int .u32))⟩), (.slice sa s.length sc)] w fun e w' => e = .returned (.agg ⟨(mixV HH s).map (Value.int .u32)⟩) ∧ Upd [] w w' := by
 have H := Sat.start0 w
 refine calls_fr Tryz.func197 rfl 118 rfl (Nat.le_of_ble_eq_true rfl) ?_
 refine zsl <| zwd fun Kq kq => zdb (HH.map (Value.int .u32)) H ?_
 intro b2 w3 (H4 : Sat w [restC w (fun _ => False), cellC b2 201 (HH.map (Value.int .u32))] w3)
 have H5 : Sat w [restC w (fun _ => False), rowW .u32 b2 201 8 HH] w3 := Sat.toW H4 1 .u32 HH (by kernel_rfl) (by exact hH)
 refine kq _ _ <| zwd fun Kq kq => zdb (kR.map (Value.int .u32)) H5 ?_
 intro b7 w8 (H9 : Sat w [restC w (fun _ => False), rowW .u32 b2 201 8 HH, cellC b7 199 (kR.map (Value.int .u32))] w8)
 have H10 : Sat w [restC w (fun _ => False), rowW .u32 b2 201 8 HH, rowW .u32 b7 199 64 kR] w8 := Sat.toW H9 2 .u32 kR (by kernel_rfl) (by first | rfl | simp)
 refine kq _ _ <| zwd fun Kq kq => zda (kShaP_1) H10 ?_
 intro b12 w13 (H14 : Sat w [restC w (fun _ => False), rowW .u32 b2 201 8 HH, rowW .u32 b7 199 64 kR, cellC b12 201 (kShaP_1)] w13)
 have H15 : Sat w [restC w (fun _ => False), rowW .u32 b2 201 8 HH, rowW .u32 b7 199 64 kR, rowW .u32 b12 201 8 ([0, 0, 0, 0, 0, 0, 0, 0] : List Int)] w13 := Sat.toW H14 3 .u32 ([0, 0, 0, 0, 0, 0, 0, 0] : List Int) (by kernel_rfl) (by first | rfl | simp)
 refine kq _ _ <| znt ?_
 refine wp_meetR [7, 8, 17, 18, 19] (fun G_ W_ => ∃ (bq7 bq8 : Nat), G_ 7 = (pt bq7 0) ∧ G_ 8 = (pt bq8 0) ∧ Sat w [restC w (fun _ => False), rowW .u32 b2 201 8 HH, rowW .u32 b7 199 64 kR, rowW .u32 b12 201 8 ([0, 0, 0, 0, 0, 0, 0, 0] : List Int), rowW .u32 bq7 199 64 (wOq s), rowW .u32 bq8 201 8 HH] W_) ?_ ?_
 ·refine h_start H15 [restC w (fun _ => False), rowW .u32 b2 201 8 HH, rowW .u32 b7 199 64 kR, rowW .u32 b12 201 8 ([0, 0, 0, 0, 0, 0, 0, 0] : List Int)] 7 rfl (by kernel_rfl) (fun Hx => (Hx.pk [0, 1, 2, 3])) ?_
  intro w17 H18 S19
  refine hv0 0 S19 17 (.slice sa s.length sc) <| hv0 2 S19 19 (.agg ⟨(HH.map (Value.int .u32))⟩) ?_ (he := fun _ H' => (e_loadWA rfl (by kernel_rfl) (by kernel_rfl) (by decide) (H'.at 1 rfl)))
  refine h_do3 1 3 4 rfl rfl rfl (by kernel_rfl) (wants0 rfl) (wants0 rfl) (wants0 rfl) (fun Kq kq => ?_) (fun Kq kq => ?_) (fun Kq kq => ?_)
  ·refine zdq 18 (spread_at w17 (.slice sa s.length sc) s (ListAt.now H18 0 rfl hs) hl) H18 ?_
   intro w21 H22
   have S24 := H22.pk [0, 1, 2, 3]
   refine kq _ _ S24 ?_
   refine h_do2 3 4 rfl rfl (by kernel_rfl) (wants0 rfl) (wants0 rfl) (fun Kq kq => ?_) (fun Kq kq => ?_)
   ·refine zda (kShaP_0) H22 ?_
    intro b26 w27 (H28 : Sat w [restC w (fun _ => False), rowW .u32 b2 201 8 HH, rowW .u32 b7 199 64 kR, rowW .u32 b12 201 8 ([0, 0, 0, 0, 0, 0, 0, 0] : List Int), cellC b26 199 (kShaP_0)] w27)
    have H29 : Sat w [restC w (fun _ => False), rowW .u32 b2 201 8 HH, rowW .u32 b7 199 64 kR, rowW .u32 b12 201 8 ([0, 0, 0, 0, 0, 0, 0, 0] : List Int), rowW .u32 b26 199 64 (List.replicate 64 (0 : Int))] w27 := Sat.toW H28 4 .u32 (List.replicate 64 (0 : Int)) (by kernel_rfl) (by first | rfl | simp)
    have S30 := H29.pk [0, 1, 2, 3]
    refine kq _ _ S30 <| zhd0 4 fun Kq kq => ?_
    refine zda (kShaP_1) H29 ?_
    intro b32 w33 (H34 : Sat w [restC w (fun _ => False), rowW .u32 b2 201 8 HH, rowW .u32 b7 199 64 kR, rowW .u32 b12 201 8 ([0, 0, 0, 0, 0, 0, 0, 0] : List Int), rowW .u32 b26 199 64 (List.replicate 64 (0 : Int)), cellC b32 201 (kShaP_1)] w33)
    have H35 : Sat w [restC w (fun _ => False), rowW .u32 b2 201 8 HH, rowW .u32 b7 199 64 kR, rowW .u32 b12 201 8 ([0, 0, 0, 0, 0, 0, 0, 0] : List Int), rowW .u32 b26 199 64 (List.replicate 64 (0 : Int)), rowW .u32 b32 201 8 ([0, 0, 0, 0, 0, 0, 0, 0] : List Int)] w33 := Sat.toW H34 5 .u32 ([0, 0, 0, 0, 0, 0, 0, 0] : List Int) (by kernel_rfl) (by exact rowW_len (H34.at 3 rfl))
    have S36 := H35.pk [0, 1, 2, 3]
    refine kq _ _ S36 <| zhd0 5 fun Kq kq => ?_
    refine d_storeWA .u32 (B := (wOq s)) rfl H35 4 rfl rfl rfl (by kernel_rfl) (by kernel_rfl) (by decide) (by exact wOq_len s) ?_
    intro w38 H39
    have S40 := H39.pk [0, 1, 2, 3]
    refine kq _ _ S40 <| zhd0 6 fun Kq kq => ?_
    refine d_storeWA .u32 (B := HH) rfl H39 5 rfl rfl rfl (by kernel_rfl) (by kernel_rfl) (by decide) (by exact hH) ?_
    intro w42 H43
    have S44 := H43.pk [0, 1, 2, 3]
    refine kq _ _ S44 <| zhf <| meetR_at ?_ ⟨b26, b32, rfl, rfl, (H43.pk [0, 1, 2, 3, 4, 5])⟩
    exact zs
   refine zda (kShaP_1) H22 ?_
   intro b45 w46 (H47 : Sat w [restC w (fun _ => False), rowW .u32 b2 201 8 HH, rowW .u32 b7 199 64 kR, rowW .u32 b12 201 8 ([0, 0, 0, 0, 0, 0, 0, 0] : List Int), cellC b45 201 (kShaP_1)] w46)
   have H48 : Sat w [restC w (fun _ => False), rowW .u32 b2 201 8 HH, rowW .u32 b7 199 64 kR, rowW .u32 b12 201 8 ([0, 0, 0, 0, 0, 0, 0, 0] : List Int), rowW .u32 b45 201 8 ([0, 0, 0, 0, 0, 0, 0, 0] : List Int)] w46 := Sat.toW H47 4 .u32 ([0, 0, 0, 0, 0, 0, 0, 0] : List Int) (by kernel_rfl) (by exact rowW_len (H47.at 3 rfl))
   have S49 := H48.pk [0, 1, 2, 3]
   refine kq _ _ S49 <| zhd0 3 fun Kq kq => ?_
   refine zda (kShaP_0) H48 ?_
   intro b51 w52 (H53 : Sat w [restC w (fun _ => False), rowW .u32 b2 201 8 HH, rowW .u32 b7 199 64 kR, rowW .u32 b12 201 8 ([0, 0, 0, 0, 0, 0, 0, 0] : List Int), rowW .u32 b45 201 8 ([0, 0, 0, 0, 0, 0, 0, 0] : List Int), cellC b51 199 (kShaP_0)] w52)
   have H54 : Sat w [restC w (fun _ => False), rowW .u32 b2 201 8 HH, rowW .u32 b7 199 64 kR, rowW .u32 b12 201 8 ([0, 0, 0, 0, 0, 0, 0, 0] : List Int), rowW .u32 b45 201 8 ([0, 0, 0, 0, 0, 0, 0, 0] : List Int), rowW .u32 b51 199 64 (List.replicate 64 (0 : Int))] w52 := Sat.toW H53 5 .u32 (List.replicate 64 (0 : Int)) (by kernel_rfl) (by first | rfl | simp)
   have S55 := H54.pk [0, 1, 2, 3]
   refine kq _ _ S55 <| zhd0 5 fun Kq kq => ?_
   refine d_storeWA .u32 (B := (wOq s)) rfl H54 5 rfl rfl rfl (by kernel_rfl) (by kernel_rfl) (by decide) (by exact wOq_len s) ?_
   intro w57 H58
   have S59 := H58.pk [0, 1, 2, 3]
   refine kq _ _ S59 <| zhd0 6 fun Kq kq => ?_
   refine d_storeWA .u32 (B := HH) rfl H58 4 rfl rfl rfl (by kernel_rfl) (by kernel_rfl) (by decide) (by exact hH) ?_
   intro w61 H62
   have S63 := H62.pk [0, 1, 2, 3]
   refine kq _ _ S63 <| zhf <| meetR_at ?_ ⟨b51, b45, rfl, rfl, (H62.pk [0, 1, 2, 3, 5, 4])⟩
   exact zs
  ·refine zda (kShaP_0) H18 ?_
   intro b64 w65 (H66 : Sat w [restC w (fun _ => False), rowW .u32 b2 201 8 HH, rowW .u32 b7 199 64 kR, rowW .u32 b12 201 8 ([0, 0, 0, 0, 0, 0, 0, 0] : List Int), cellC b64 199 (kShaP_0)] w65)
   have H67 : Sat w [restC w (fun _ => False), rowW .u32 b2 201 8 HH, rowW .u32 b7 199 64 kR, rowW .u32 b12 201 8 ([0, 0, 0, 0, 0, 0, 0, 0] : List Int), rowW .u32 b64 199 64 (List.replicate 64 (0 : Int))] w65 := Sat.toW H66 4 .u32 (List.replicate 64 (0 : Int)) (by kernel_rfl) (by first | rfl | simp)
   have S68 := H67.pk [0, 1, 2, 3]
   refine kq _ _ S68 ?_
   refine h_do2 1 4 rfl rfl (by kernel_rfl) (wants0 rfl) (wants0 rfl) (fun Kq kq => ?_) (fun Kq kq => ?_)
   ·refine d_call (d := 18) rfl (by kernel_rfl) (spread_at w65 (.slice sa s.length sc) s (ListAt.now H67 0 rfl hs) hl) ?_
    rintro _ w70 ⟨rfl, u72⟩
    have H71 := H67.keepU u72
    refine ⟨_, rfl, ?_⟩
    have S73 := H71.pk [0, 1, 2, 3]
    refine kq _ _ S73 <| zhd0 4 fun Kq kq => ?_
    refine zda (kShaP_1) H71 ?_
    intro b75 w76 (H77 : Sat w [restC w (fun _ => False), rowW .u32 b2 201 8 HH, rowW .u32 b7 199 64 kR, rowW .u32 b12 201 8 ([0, 0, 0, 0, 0, 0, 0, 0] : List Int), rowW .u32 b64 199 64 (List.replicate 64 (0 : Int)), cellC b75 201 (kShaP_1)] w76)
    have H78 : Sat w [restC w (fun _ => False), rowW .u32 b2 201 8 HH, rowW .u32 b7 199 64 kR, rowW .u32 b12 201 8 ([0, 0, 0, 0, 0, 0, 0, 0] : List Int), rowW .u32 b64 199 64 (List.replicate 64 (0 : Int)), rowW .u32 b75 201 8 ([0, 0, 0, 0, 0, 0, 0, 0] : List Int)] w76 := Sat.toW H77 5 .u32 ([0, 0, 0, 0, 0, 0, 0, 0] : List Int) (by kernel_rfl) (by exact rowW_len (H77.at 3 rfl))
    have S79 := H78.pk [0, 1, 2, 3]
    refine kq _ _ S79 <| zhd0 5 fun Kq kq => ?_
    refine d_storeWA .u32 (B := (wOq s)) rfl H78 4 rfl rfl rfl (by kernel_rfl) (by kernel_rfl) (by decide) (by exact wOq_len s) ?_
    intro w81 H82
    have S83 := H82.pk [0, 1, 2, 3]
    refine kq _ _ S83 <| zhd0 6 fun Kq kq => ?_
    refine d_storeWA .u32 (B := HH) rfl H82 5 rfl rfl rfl (by kernel_rfl) (by kernel_rfl) (by decide) (by exact hH) ?_
    intro w85 H86
    have S87 := H86.pk [0, 1, 2, 3]
    refine kq _ _ S87 <| zhf <| meetR_at ?_ ⟨b64, b75, rfl, rfl, (H86.pk [0, 1, 2, 3, 4, 5])⟩
    exact zs
   refine zda (kShaP_1) H67 ?_
   intro b88 w89 (H90 : Sat w [restC w (fun _ => False), rowW .u32 b2 201 8 HH, rowW .u32 b7 199 64 kR, rowW .u32 b12 201 8 ([0, 0, 0, 0, 0, 0, 0, 0] : List Int), rowW .u32 b64 199 64 (List.replicate 64 (0 : Int)), cellC b88 201 (kShaP_1)] w89)
   have H91 : Sat w [restC w (fun _ => False), rowW .u32 b2 201 8 HH, rowW .u32 b7 199 64 kR, rowW .u32 b12 201 8 ([0, 0, 0, 0, 0, 0, 0, 0] : List Int), rowW .u32 b64 199 64 (List.replicate 64 (0 : Int)), rowW .u32 b88 201 8 ([0, 0, 0, 0, 0, 0, 0, 0] : List Int)] w89 := Sat.toW H90 5 .u32 ([0, 0, 0, 0, 0, 0, 0, 0] : List Int) (by kernel_rfl) (by exact rowW_len (H90.at 3 rfl))
   have S92 := H91.pk [0, 1, 2, 3]
   refine kq _ _ S92 <| zhd0 1 fun Kq kq => ?_
   refine d_call (d := 18) rfl (by kernel_rfl) (spread_at w89 (.slice sa s.length sc) s (ListAt.now H91 0 rfl hs) hl) ?_
   rintro _ w94 ⟨rfl, u96⟩
   have H95 := H91.keepU u96
   refine ⟨_, rfl, ?_⟩
   have S97 := H95.pk [0, 1, 2, 3]
   refine kq _ _ S97 <| zhd0 5 fun Kq kq => ?_
   refine d_storeWA .u32 (B := (wOq s)) rfl H95 4 rfl rfl rfl (by kernel_rfl) (by kernel_rfl) (by decide) (by exact wOq_len s) ?_
   intro w99 H100
   have S101 := H100.pk [0, 1, 2, 3]
   refine kq _ _ S101 <| zhd0 6 fun Kq kq => ?_
   refine d_storeWA .u32 (B := HH) rfl H100 5 rfl rfl rfl (by kernel_rfl) (by kernel_rfl) (by decide) (by exact hH) ?_
   intro w103 H104
   have S105 := H104.pk [0, 1, 2, 3]
   refine kq _ _ S105 <| zhf <| meetR_at ?_ ⟨b64, b88, rfl, rfl, (H104.pk [0, 1, 2, 3, 4, 5])⟩
   exact zs
  refine zda (kShaP_1) H18 ?_
  intro b106 w107 (H108 : Sat w [restC w (fun _ => False), rowW .u32 b2 201 8 HH, rowW .u32 b7 199 64 kR, rowW .u32 b12 201 8 ([0, 0, 0, 0, 0, 0, 0, 0] : List Int), cellC b106 201 (kShaP_1)] w107)
  have H109 : Sat w [restC w (fun _ => False), rowW .u32 b2 201 8 HH, rowW .u32 b7 199 64 kR, rowW .u32 b12 201 8 ([0, 0, 0, 0, 0, 0, 0, 0] : List Int), rowW .u32 b106 201 8 ([0, 0, 0, 0, 0, 0, 0, 0] : List Int)] w107 := Sat.toW H108 4 .u32 ([0, 0, 0, 0, 0, 0, 0, 0] : List Int) (by kernel_rfl) (by exact rowW_len (H108.at 3 rfl))
  have S110 := H109.pk [0, 1, 2, 3]
  refine kq _ _ S110 ?_
  refine h_do2 1 3 rfl rfl (by kernel_rfl) (wants0 rfl) (wants0 rfl) (fun Kq kq => ?_) (fun Kq kq => ?_)
  ·refine zdq 18 (spread_at w107 (.slice sa s.length sc) s (ListAt.now H109 0 rfl hs) hl) H109 ?_
   intro w112 H113
   have S115 := H113.pk [0, 1, 2, 3]
   refine kq _ _ S115 <| zhd0 3 fun Kq kq => ?_
   refine zda (kShaP_0) H113 ?_
   intro b117 w118 (H119 : Sat w [restC w (fun _ => False), rowW .u32 b2 201 8 HH, rowW .u32 b7 199 64 kR, rowW .u32 b12 201 8 ([0, 0, 0, 0, 0, 0, 0, 0] : List Int), rowW .u32 b106 201 8 ([0, 0, 0, 0, 0, 0, 0, 0] : List Int), cellC b117 199 (kShaP_0)] w118)
   have H120 : Sat w [restC w (fun _ => False), rowW .u32 b2 201 8 HH, rowW .u32 b7 199 64 kR, rowW .u32 b12 201 8 ([0, 0, 0, 0, 0, 0, 0, 0] : List Int), rowW .u32 b106 201 8 ([0, 0, 0, 0, 0, 0, 0, 0] : List Int), rowW .u32 b117 199 64 (List.replicate 64 (0 : Int))] w118 := Sat.toW H119 5 .u32 (List.replicate 64 (0 : Int)) (by kernel_rfl) (by first | rfl | simp)
   have S121 := H120.pk [0, 1, 2, 3]
   refine kq _ _ S121 <| zhd0 5 fun Kq kq => ?_
   refine d_storeWA .u32 (B := (wOq s)) rfl H120 5 rfl rfl rfl (by kernel_rfl) (by kernel_rfl) (by decide) (by exact wOq_len s) ?_
   intro w123 H124
   have S125 := H124.pk [0, 1, 2, 3]
   refine kq _ _ S125 <| zhd0 6 fun Kq kq => ?_
   refine d_storeWA .u32 (B := HH) rfl H124 4 rfl rfl rfl (by kernel_rfl) (by kernel_rfl) (by decide) (by exact hH) ?_
   intro w127 H128
   have S129 := H128.pk [0, 1, 2, 3]
   refine kq _ _ S129 <| zhf <| meetR_at ?_ ⟨b117, b106, rfl, rfl, (H128.pk [0, 1, 2, 3, 5, 4])⟩
   exact zs
  refine zda (kShaP_0) H109 ?_
  intro b130 w131 (H132 : Sat w [restC w (fun _ => False), rowW .u32 b2 201 8 HH, rowW .u32 b7 199 64 kR, rowW .u32 b12 201 8 ([0, 0, 0, 0, 0, 0, 0, 0] : List Int), rowW .u32 b106 201 8 ([0, 0, 0, 0, 0, 0, 0, 0] : List Int), cellC b130 199 (kShaP_0)] w131)
  have H133 : Sat w [restC w (fun _ => False), rowW .u32 b2 201 8 HH, rowW .u32 b7 199 64 kR, rowW .u32 b12 201 8 ([0, 0, 0, 0, 0, 0, 0, 0] : List Int), rowW .u32 b106 201 8 ([0, 0, 0, 0, 0, 0, 0, 0] : List Int), rowW .u32 b130 199 64 (List.replicate 64 (0 : Int))] w131 := Sat.toW H132 5 .u32 (List.replicate 64 (0 : Int)) (by kernel_rfl) (by first | rfl | simp)
  have S134 := H133.pk [0, 1, 2, 3]
  refine kq _ _ S134 <| zhd0 1 fun Kq kq => ?_
  refine zdq 18 (spread_at w131 (.slice sa s.length sc) s (ListAt.now H133 0 rfl hs) hl) H133 ?_
  intro w136 H137
  have S139 := H137.pk [0, 1, 2, 3]
  refine kq _ _ S139 <| zhd0 5 fun Kq kq => ?_
  refine d_storeWA .u32 (B := (wOq s)) rfl H137 5 rfl rfl rfl (by kernel_rfl) (by kernel_rfl) (by decide) (by exact wOq_len s) ?_
  intro w141 H142
  have S143 := H142.pk [0, 1, 2, 3]
  refine kq _ _ S143 <| zhd0 6 fun Kq kq => ?_
  refine d_storeWA .u32 (B := HH) rfl H142 4 rfl rfl rfl (by kernel_rfl) (by kernel_rfl) (by decide) (by exact hH) ?_
  intro w145 H146
  have S147 := H146.pk [0, 1, 2, 3]
  refine kq _ _ S147 <| zhf <| meetR_at ?_ ⟨b130, b106, rfl, rfl, (H146.pk [0, 1, 2, 3, 5, 4])⟩
  exact zs
 rintro f148 w149 ⟨bq7, bq8, v151, v152, H150⟩
 refine wp_know 7 _ v151 ?_
 refine wp_know 8 _ v152 ?_
 refine w_seq <| zsl <| wv 20 (.int .i64 (0)) <| znt <| w_block <| wp_round ([9, 10, 11, 12, 13, 14, 15] ++ List.range' 20 84) (fun F_ W_ m_ => ∃ (i : Nat) (V : List Int), F_ 20 = (.int .i64 ((i : Int))) ∧ (i ≤ 64) ∧ (V = vRu (wOq s) HH i) ∧ Sat w [restC w (fun _ => False), rowW .u32 b2 201 8 HH, rowW .u32 b7 199 64 kR, rowW .u32 b12 201 8 ([0, 0, 0, 0, 0, 0, 0, 0] : List Int), rowW .u32 bq7 199 64 (wOq s), rowW .u32 bq8 201 8 V] W_ ∧ m_ = 64 - i) _ ⟨0, HH, (show ((.int .i64 (0)) : Value) = _ by first | rfl | go_num), (Nat.zero_le _), rfl, H150, rfl⟩ ?_
 rintro g153 w154 _ ⟨i, V, v156, hi, hV, H155, rfl⟩
 refine wp_know 20 _ v156 ?_
 refine zsl <| wv 21 (.bool (decide ((i : Int) < 64))) <| znt <| w_seq ?_
 refine (bsplit (decide ((i : Int) < 64))).elim (fun b158 => ?_) (fun b158 => ?_)
 ·have g159 := of_decide_eq_true b158
  refine zwkt _ b158 ?_
  refine w_skip <| ztn <| w_seq <| w_block <| zsl <| wv 22 (.int .i64 ((i : Int))) <| wv 9 (.int .i64 ((i : Int))) <| znt <| w_seq <| zqs H155 ?_
  refine qv 23 (pt bq8 4) <| qv 24 (.int .u32 (V.getD 4 0)) ?_ (hr := fun _ H' => (zl1 (rowW_cell (H'.at 5 rfl) (show 4 < 8 by omega) (show 4 = 4 by omega))))
  refine qv 25 (pt bq8 0) <| qv 26 (.int .u32 (V.getD 0 0)) ?_ (hr := fun _ H' => (zl1 (rowW_cell (H'.at 5 rfl) (show 0 < 8 by omega) (show 0 = 0 by omega))))
  refine qv 10 (.int .u32 (V.getD 4 0)) <| qv 11 (.int .u32 (V.getD 0 0)) <| q_end fun w161 H162 => ?_
  refine ztn <| zsl <| wv 27 (.int .u32 (V.getD 4 0)) <| zwd fun Kq kq => zdq 28 (rot_any w161 (V.getD 4 0) (-6) 6 (by decide) (by decide)) H162 fun w164 H165 => ?_
  refine kq _ _ <| wv 29 (.int .u32 (V.getD 4 0)) <| zwd fun Kq kq => zdq 30 (rot_any w164 (V.getD 4 0) (-11) 11 (by decide) (by decide)) H165 fun w168 H169 => ?_
  refine kq _ _ <| wv 31 (.int .u32 (bXor .u32 (rotV (V.getD 4 0) 6) (rotV (V.getD 4 0) 11))) <| wv 32 (.int .u32 (V.getD 4 0)) <| zwd fun Kq kq => zdq 33 (rot_any w168 (V.getD 4 0) (-25) 25 (by decide) (by decide)) H169 fun w172 H173 => ?_
  refine kq _ _ <| wv 34 (.int .u32 (bXor .u32 (bXor .u32 (rotV (V.getD 4 0) 6) (rotV (V.getD 4 0) 11)) (rotV (V.getD 4 0) 25))) <| wv 12 (.int .u32 (bXor .u32 (bXor .u32 (rotV (V.getD 4 0) 6) (rotV (V.getD 4 0) 11)) (rotV (V.getD 4 0) 25))) <| znt <| w_seq <| zqs H173 ?_
  refine qv 35 (pt bq8 7) <| qv 36 (.int .u32 (V.getD 7 0)) ?_ (hr := fun _ H' => (zl1 (rowW_cell (H'.at 5 rfl) (show 7 < 8 by omega) (show 7 = 7 by omega))))
  refine qv 37 (.int .u32 (bXor .u32 (bXor .u32 (rotV (V.getD 4 0) 6) (rotV (V.getD 4 0) 11)) (rotV (V.getD 4 0) 25))) <| qv 38 (.int .u32 (IntKind.u32.wrap ((V.getD 7 0) + (bXor .u32 (bXor .u32 (rotV (V.getD 4 0) 6) (rotV (V.getD 4 0) 11)) (rotV (V.getD 4 0) 25))))) <| qv 39 (.int .u32 (V.getD 4 0)) <| qv 40 (pt bq8 5) <| qv 41 (.int .u32 (V.getD 5 0)) ?_ (hr := fun _ H' => (zl1 (rowW_cell (H'.at 5 rfl) (show 5 < 8 by omega) (show 5 = 5 by omega))))
  refine qv 42 (.int .u32 (bAnd .u32 (V.getD 4 0) (V.getD 5 0))) <| qv 43 (.int .u32 (V.getD 4 0)) <| qv 44 (.int .u32 (bXor .u32 4294967295 (V.getD 4 0))) <| qv 45 (pt bq8 6) <| qv 46 (.int .u32 (V.getD 6 0)) ?_ (hr := fun _ H' => (zl1 (rowW_cell (H'.at 5 rfl) (show 6 < 8 by omega) (show 6 = 6 by omega))))
  refine qv 47 (.int .u32 (bAnd .u32 (bXor .u32 4294967295 (V.getD 4 0)) (V.getD 6 0))) <| qv 48 (.int .u32 (bXor .u32 (bAnd .u32 (V.getD 4 0) (V.getD 5 0)) (bAnd .u32 (bXor .u32 4294967295 (V.getD 4 0)) (V.getD 6 0)))) <| qv 49 (.int .u32 (IntKind.u32.wrap ((IntKind.u32.wrap ((V.getD 7 0) + (bXor .u32 (bXor .u32 (rotV (V.getD 4 0) 6) (rotV (V.getD 4 0) 11)) (rotV (V.getD 4 0) 25)))) + (bXor .u32 (bAnd .u32 (V.getD 4 0) (V.getD 5 0)) (bAnd .u32 (bXor .u32 4294967295 (V.getD 4 0)) (V.getD 6 0)))))) <| qv 50 (.int .i64 ((i : Int))) <| qv 51 (.pointer (some ⟨b7, 0 + ((i : Int)).toNat * 1, none⟩)) ?_ (hr := fun _ H' => (e_indexAddrA (E := 198) (N := 64) (by kernel_rfl) (by kernel_rfl) (Nat.le_of_ble_eq_true rfl) rfl rfl (by omega) (by omega)))
  refine qv 52 (.int .u32 (kR.getD i 0)) ?_ (hr := fun _ H' => (zl1 (rowW_cell (H'.at 2 rfl) (show i < 64 by omega) (show 0 + ((i : Int)).toNat * 1 = i by omega))))
  refine qv 53 (.int .u32 (IntKind.u32.wrap ((IntKind.u32.wrap ((IntKind.u32.wrap ((V.getD 7 0) + (bXor .u32 (bXor .u32 (rotV (V.getD 4 0) 6) (rotV (V.getD 4 0) 11)) (rotV (V.getD 4 0) 25)))) + (bXor .u32 (bAnd .u32 (V.getD 4 0) (V.getD 5 0)) (bAnd .u32 (bXor .u32 4294967295 (V.getD 4 0)) (V.getD 6 0))))) + (kR.getD i 0)))) <| qv 54 (.int .i64 ((i : Int))) <| qv 55 (.pointer (some ⟨bq7, 0 + ((i : Int)).toNat * 1, none⟩)) ?_ (hr := fun _ H' => (e_indexAddrA (E := 198) (N := 64) (by kernel_rfl) (by kernel_rfl) (Nat.le_of_ble_eq_true rfl) rfl rfl (by omega) (by omega)))
  refine qv 56 (.int .u32 ((wOq s).getD i 0)) ?_ (hr := fun _ H' => (zl1 (rowW_cell (H'.at 4 rfl) (show i < 64 by omega) (show 0 + ((i : Int)).toNat * 1 = i by omega))))
  refine qv 57 (.int .u32 (IntKind.u32.wrap ((IntKind.u32.wrap ((IntKind.u32.wrap ((IntKind.u32.wrap ((V.getD 7 0) + (bXor .u32 (bXor .u32 (rotV (V.getD 4 0) 6) (rotV (V.getD 4 0) 11)) (rotV (V.getD 4 0) 25)))) + (bXor .u32 (bAnd .u32 (V.getD 4 0) (V.getD 5 0)) (bAnd .u32 (bXor .u32 4294967295 (V.getD 4 0)) (V.getD 6 0))))) + (kR.getD i 0))) + ((wOq s).getD i 0)))) <| qv 13 (.int .u32 (IntKind.u32.wrap ((IntKind.u32.wrap ((IntKind.u32.wrap ((IntKind.u32.wrap ((V.getD 7 0) + (bXor .u32 (bXor .u32 (rotV (V.getD 4 0) 6) (rotV (V.getD 4 0) 11)) (rotV (V.getD 4 0) 25)))) + (bXor .u32 (bAnd .u32 (V.getD 4 0) (V.getD 5 0)) (bAnd .u32 (bXor .u32 4294967295 (V.getD 4 0)) (V.getD 6 0))))) + (kR.getD i 0))) + ((wOq s).getD i 0)))) <| q_end fun w175 H176 => ?_
  refine ztn <| zsl <| wv 58 (.int .u32 (V.getD 0 0)) <| zwd fun Kq kq => zdq 59 (rot_any w175 (V.getD 0 0) (-2) 2 (by decide) (by decide)) H176 fun w178 H179 => ?_
  refine kq _ _ <| wv 60 (.int .u32 (V.getD 0 0)) <| zwd fun Kq kq => zdq 61 (rot_any w178 (V.getD 0 0) (-13) 13 (by decide) (by decide)) H179 fun w182 H183 => ?_
  refine kq _ _ <| wv 62 (.int .u32 (bXor .u32 (rotV (V.getD 0 0) 2) (rotV (V.getD 0 0) 13))) <| wv 63 (.int .u32 (V.getD 0 0)) <| zwd fun Kq kq => zdq 64 (rot_any w182 (V.getD 0 0) (-22) 22 (by decide) (by decide)) H183 fun w186 H187 => ?_
  refine kq _ _ <| wv 65 (.int .u32 (bXor .u32 (bXor .u32 (rotV (V.getD 0 0) 2) (rotV (V.getD 0 0) 13)) (rotV (V.getD 0 0) 22))) <| wv 14 (.int .u32 (bXor .u32 (bXor .u32 (rotV (V.getD 0 0) 2) (rotV (V.getD 0 0) 13)) (rotV (V.getD 0 0) 22))) <| znsl <| wv 66 (.int .u32 (bXor .u32 (bXor .u32 (rotV (V.getD 0 0) 2) (rotV (V.getD 0 0) 13)) (rotV (V.getD 0 0) 22))) <| wv 67 (.int .u32 (V.getD 0 0)) <| wv 68 (pt bq8 1) <| zw1 69 (.int .u32 (V.getD 1 0)) (rowW_cell (H187.at 5 rfl) (show 1 < 8 by omega) (show 1 = 1 by omega)) <| wv 70 (.int .u32 (bAnd .u32 (V.getD 0 0) (V.getD 1 0))) <| wv 71 (.int .u32 (V.getD 0 0)) ?_
  refine wv 72 (pt bq8 2) <| zw1 73 (.int .u32 (V.getD 2 0)) (rowW_cell (H187.at 5 rfl) (show 2 < 8 by omega) (show 2 = 2 by omega)) <| wv 74 (.int .u32 (bAnd .u32 (V.getD 0 0) (V.getD 2 0))) <| wv 75 (.int .u32 (bXor .u32 (bAnd .u32 (V.getD 0 0) (V.getD 1 0)) (bAnd .u32 (V.getD 0 0) (V.getD 2 0)))) <| wv 76 (pt bq8 1) <| zw1 77 (.int .u32 (V.getD 1 0)) (rowW_cell (H187.at 5 rfl) (show 1 < 8 by omega) (show 1 = 1 by omega)) <| wv 78 (pt bq8 2) <| zw1 79 (.int .u32 (V.getD 2 0)) (rowW_cell (H187.at 5 rfl) (show 2 < 8 by omega) (show 2 = 2 by omega)) <| wv 80 (.int .u32 (bAnd .u32 (V.getD 1 0) (V.getD 2 0))) <| wv 81 (.int .u32 (bXor .u32 (bXor .u32 (bAnd .u32 (V.getD 0 0) (V.getD 1 0)) (bAnd .u32 (V.getD 0 0) (V.getD 2 0))) (bAnd .u32 (V.getD 1 0) (V.getD 2 0)))) ?_
  refine wv 82 (.int .u32 (IntKind.u32.wrap ((bXor .u32 (bXor .u32 (rotV (V.getD 0 0) 2) (rotV (V.getD 0 0) 13)) (rotV (V.getD 0 0) 22)) + (bXor .u32 (bXor .u32 (bAnd .u32 (V.getD 0 0) (V.getD 1 0)) (bAnd .u32 (V.getD 0 0) (V.getD 2 0))) (bAnd .u32 (V.getD 1 0) (V.getD 2 0)))))) <| wv 15 (.int .u32 (IntKind.u32.wrap ((bXor .u32 (bXor .u32 (rotV (V.getD 0 0) 2) (rotV (V.getD 0 0) 13)) (rotV (V.getD 0 0) 22)) + (bXor .u32 (bXor .u32 (bAnd .u32 (V.getD 0 0) (V.getD 1 0)) (bAnd .u32 (V.getD 0 0) (V.getD 2 0))) (bAnd .u32 (V.getD 1 0) (V.getD 2 0)))))) <| znt <| w_lit <| wv 83 (.int .u32 (IntKind.u32.wrap ((IntKind.u32.wrap ((IntKind.u32.wrap ((IntKind.u32.wrap ((V.getD 7 0) + (bXor .u32 (bXor .u32 (rotV (V.getD 4 0) 6) (rotV (V.getD 4 0) 11)) (rotV (V.getD 4 0) 25)))) + (bXor .u32 (bAnd .u32 (V.getD 4 0) (V.getD 5 0)) (bAnd .u32 (bXor .u32 4294967295 (V.getD 4 0)) (V.getD 6 0))))) + (kR.getD i 0))) + ((wOq s).getD i 0)))) <| wv 84 (.int .u32 (IntKind.u32.wrap ((bXor .u32 (bXor .u32 (rotV (V.getD 0 0) 2) (rotV (V.getD 0 0) 13)) (rotV (V.getD 0 0) 22)) + (bXor .u32 (bXor .u32 (bAnd .u32 (V.getD 0 0) (V.getD 1 0)) (bAnd .u32 (V.getD 0 0) (V.getD 2 0))) (bAnd .u32 (V.getD 1 0) (V.getD 2 0)))))) <| wv 85 (.int .u32 (IntKind.u32.wrap ((IntKind.u32.wrap ((IntKind.u32.wrap ((IntKind.u32.wrap ((IntKind.u32.wrap ((V.getD 7 0) + (bXor .u32 (bXor .u32 (rotV (V.getD 4 0) 6) (rotV (V.getD 4 0) 11)) (rotV (V.getD 4 0) 25)))) + (bXor .u32 (bAnd .u32 (V.getD 4 0) (V.getD 5 0)) (bAnd .u32 (bXor .u32 4294967295 (V.getD 4 0)) (V.getD 6 0))))) + (kR.getD i 0))) + ((wOq s).getD i 0))) + (IntKind.u32.wrap ((bXor .u32 (bXor .u32 (rotV (V.getD 0 0) 2) (rotV (V.getD 0 0) 13)) (rotV (V.getD 0 0) 22)) + (bXor .u32 (bXor .u32 (bAnd .u32 (V.getD 0 0) (V.getD 1 0)) (bAnd .u32 (V.getD 0 0) (V.getD 2 0))) (bAnd .u32 (V.getD 1 0) (V.getD 2 0)))))))) <| wv 86 (pt bq8 0) <| zw1 87 (.int .u32 (V.getD 0 0)) (rowW_cell (H187.at 5 rfl) (show 0 < 8 by omega) (show 0 = 0 by omega)) <| wv 88 (pt bq8 1) ?_
  refine zw1 89 (.int .u32 (V.getD 1 0)) (rowW_cell (H187.at 5 rfl) (show 1 < 8 by omega) (show 1 = 1 by omega)) <| wv 90 (pt bq8 2) <| zw1 91 (.int .u32 (V.getD 2 0)) (rowW_cell (H187.at 5 rfl) (show 2 < 8 by omega) (show 2 = 2 by omega)) <| wv 92 (pt bq8 3) <| zw1 93 (.int .u32 (V.getD 3 0)) (rowW_cell (H187.at 5 rfl) (show 3 < 8 by omega) (show 3 = 3 by omega)) <| wv 94 (.int .u32 (IntKind.u32.wrap ((IntKind.u32.wrap ((IntKind.u32.wrap ((IntKind.u32.wrap ((V.getD 7 0) + (bXor .u32 (bXor .u32 (rotV (V.getD 4 0) 6) (rotV (V.getD 4 0) 11)) (rotV (V.getD 4 0) 25)))) + (bXor .u32 (bAnd .u32 (V.getD 4 0) (V.getD 5 0)) (bAnd .u32 (bXor .u32 4294967295 (V.getD 4 0)) (V.getD 6 0))))) + (kR.getD i 0))) + ((wOq s).getD i 0)))) <| wv 95 (.int .u32 (IntKind.u32.wrap ((V.getD 3 0) + (IntKind.u32.wrap ((IntKind.u32.wrap ((IntKind.u32.wrap ((IntKind.u32.wrap ((V.getD 7 0) + (bXor .u32 (bXor .u32 (rotV (V.getD 4 0) 6) (rotV (V.getD 4 0) 11)) (rotV (V.getD 4 0) 25)))) + (bXor .u32 (bAnd .u32 (V.getD 4 0) (V.getD 5 0)) (bAnd .u32 (bXor .u32 4294967295 (V.getD 4 0)) (V.getD 6 0))))) + (kR.getD i 0))) + ((wOq s).getD i 0)))))) <| wv 96 (pt bq8 4) <| zw1 97 (.int .u32 (V.getD 4 0)) (rowW_cell (H187.at 5 rfl) (show 4 < 8 by omega) (show 4 = 4 by omega)) <| wv 98 (pt bq8 5) ?_
  refine zw1 99 (.int .u32 (V.getD 5 0)) (rowW_cell (H187.at 5 rfl) (show 5 < 8 by omega) (show 5 = 5 by omega)) <| wv 100 (pt bq8 6) <| zw1 101 (.int .u32 (V.getD 6 0)) (rowW_cell (H187.at 5 rfl) (show 6 < 8 by omega) (show 6 = 6 by omega)) <| wv 102 (.agg ⟨([(.int .u32 (IntKind.u32.wrap ((IntKind.u32.wrap ((IntKind.u32.wrap ((IntKind.u32.wrap ((IntKind.u32.wrap ((V.getD 7 0) + (bXor .u32 (bXor .u32 (rotV (V.getD 4 0) 6) (rotV (V.getD 4 0) 11)) (rotV (V.getD 4 0) 25)))) + (bXor .u32 (bAnd .u32 (V.getD 4 0) (V.getD 5 0)) (bAnd .u32 (bXor .u32 4294967295 (V.getD 4 0)) (V.getD 6 0))))) + (kR.getD i 0))) + ((wOq s).getD i 0))) + (IntKind.u32.wrap ((bXor .u32 (bXor .u32 (rotV (V.getD 0 0) 2) (rotV (V.getD 0 0) 13)) (rotV (V.getD 0 0) 22)) + (bXor .u32 (bXor .u32 (bAnd .u32 (V.getD 0 0) (V.getD 1 0)) (bAnd .u32 (V.getD 0 0) (V.getD 2 0))) (bAnd .u32 (V.getD 1 0) (V.getD 2 0)))))))), (.int .u32 (V.getD 0 0)), (.int .u32 (V.getD 1 0)), (.int .u32 (V.getD 2 0)), (.int .u32 (IntKind.u32.wrap ((V.getD 3 0) + (IntKind.u32.wrap ((IntKind.u32.wrap ((IntKind.u32.wrap ((IntKind.u32.wrap ((V.getD 7 0) + (bXor .u32 (bXor .u32 (rotV (V.getD 4 0) 6) (rotV (V.getD 4 0) 11)) (rotV (V.getD 4 0) 25)))) + (bXor .u32 (bAnd .u32 (V.getD 4 0) (V.getD 5 0)) (bAnd .u32 (bXor .u32 4294967295 (V.getD 4 0)) (V.getD 6 0))))) + (kR.getD i 0))) + ((wOq s).getD i 0)))))), (.int .u32 (V.getD 4 0)), (.int .u32 (V.getD 5 0)), (.int .u32 (V.getD 6 0))] : List Value)⟩) <| zwd fun Kq kq => d_storeWA .u32 (B := ([IntKind.u32.wrap ((IntKind.u32.wrap ((IntKind.u32.wrap ((IntKind.u32.wrap ((IntKind.u32.wrap ((V.getD 7 0) + (bXor .u32 (bXor .u32 (rotV (V.getD 4 0) 6) (rotV (V.getD 4 0) 11)) (rotV (V.getD 4 0) 25)))) + (bXor .u32 (bAnd .u32 (V.getD 4 0) (V.getD 5 0)) (bAnd .u32 (bXor .u32 4294967295 (V.getD 4 0)) (V.getD 6 0))))) + (kR.getD i 0))) + ((wOq s).getD i 0))) + (IntKind.u32.wrap ((bXor .u32 (bXor .u32 (rotV (V.getD 0 0) 2) (rotV (V.getD 0 0) 13)) (rotV (V.getD 0 0) 22)) + (bXor .u32 (bXor .u32 (bAnd .u32 (V.getD 0 0) (V.getD 1 0)) (bAnd .u32 (V.getD 0 0) (V.getD 2 0))) (bAnd .u32 (V.getD 1 0) (V.getD 2 0)))))), V.getD 0 0, V.getD 1 0, V.getD 2 0, IntKind.u32.wrap ((V.getD 3 0) + (IntKind.u32.wrap ((IntKind.u32.wrap ((IntKind.u32.wrap ((IntKind.u32.wrap ((V.getD 7 0) + (bXor .u32 (bXor .u32 (rotV (V.getD 4 0) 6) (rotV (V.getD 4 0) 11)) (rotV (V.getD 4 0) 25)))) + (bXor .u32 (bAnd .u32 (V.getD 4 0) (V.getD 5 0)) (bAnd .u32 (bXor .u32 4294967295 (V.getD 4 0)) (V.getD 6 0))))) + (kR.getD i 0))) + ((wOq s).getD i 0)))), V.getD 4 0, V.getD 5 0, V.getD 6 0] : List Int)) rfl H187 5 rfl rfl rfl (by kernel_rfl) (by kernel_rfl) (by decide) (by first | rfl | simp) fun w190 H191 => ?_
  refine kq _ _ <| w_nil <| blk_normal <| ztn <| w_lit <| zwi 103 ((i : Int) + 1) <| wv 20 (.int .i64 ((i : Int) + 1)) <| w_nil <| round_back ?_ _ ⟨(i + 1), ([IntKind.u32.wrap ((IntKind.u32.wrap ((IntKind.u32.wrap ((IntKind.u32.wrap ((IntKind.u32.wrap ((V.getD 7 0) + (bXor .u32 (bXor .u32 (rotV (V.getD 4 0) 6) (rotV (V.getD 4 0) 11)) (rotV (V.getD 4 0) 25)))) + (bXor .u32 (bAnd .u32 (V.getD 4 0) (V.getD 5 0)) (bAnd .u32 (bXor .u32 4294967295 (V.getD 4 0)) (V.getD 6 0))))) + (kR.getD i 0))) + ((wOq s).getD i 0))) + (IntKind.u32.wrap ((bXor .u32 (bXor .u32 (rotV (V.getD 0 0) 2) (rotV (V.getD 0 0) 13)) (rotV (V.getD 0 0) 22)) + (bXor .u32 (bXor .u32 (bAnd .u32 (V.getD 0 0) (V.getD 1 0)) (bAnd .u32 (V.getD 0 0) (V.getD 2 0))) (bAnd .u32 (V.getD 1 0) (V.getD 2 0)))))), V.getD 0 0, V.getD 1 0, V.getD 2 0, IntKind.u32.wrap ((V.getD 3 0) + (IntKind.u32.wrap ((IntKind.u32.wrap ((IntKind.u32.wrap ((IntKind.u32.wrap ((V.getD 7 0) + (bXor .u32 (bXor .u32 (rotV (V.getD 4 0) 6) (rotV (V.getD 4 0) 11)) (rotV (V.getD 4 0) 25)))) + (bXor .u32 (bAnd .u32 (V.getD 4 0) (V.getD 5 0)) (bAnd .u32 (bXor .u32 4294967295 (V.getD 4 0)) (V.getD 6 0))))) + (kR.getD i 0))) + ((wOq s).getD i 0)))), V.getD 4 0, V.getD 5 0, V.getD 6 0] : List Int), (show ((.int .i64 ((i : Int) + 1)) : Value) = _ by first | rfl | go_num | exact congrArg (Value.int .i64) (by omega)), (by omega), (by rw [hV]; rfl), H191, rfl⟩ (by omega)
  exact zs
 have g192 := of_decide_eq_false b158
 refine zwkf _ b158 ?_
 refine zxb <| ztn <| w_seq <| zsl <| wv 104 (.int .i64 (0)) <| znt <| w_block ?_
 have hvv : V = vRu (wOq s) HH 64 := by rw [hV, show i = 64 by omega]
 refine wp_round ([16] ++ List.range' 104 13) (fun F_ W_ m_ => ∃ (i : Nat) (X : List Int), F_ 104 = (.int .i64 ((i : Int))) ∧ (i ≤ 8) ∧ (X = hAd V HH i) ∧ Sat w [restC w (fun _ => False), rowW .u32 b2 201 8 X, rowW .u32 b7 199 64 kR, rowW .u32 b12 201 8 ([0, 0, 0, 0, 0, 0, 0, 0] : List Int), rowW .u32 bq7 199 64 (wOq s), rowW .u32 bq8 201 8 V] W_ ∧ m_ = 8 - i) _ ⟨0, HH, (show ((.int .i64 (0)) : Value) = _ by first | rfl | go_num), (Nat.zero_le _), rfl, H155, rfl⟩ ?_
 rintro g194 w195 _ ⟨i, X, v197, hi, hX, H196, rfl⟩
 refine wp_know 104 _ v197 ?_
 refine zsl <| wv 105 (.bool (decide ((i : Int) < 8))) <| znt <| w_seq ?_
 refine (bsplit (decide ((i : Int) < 8))).elim (fun b199 => ?_) (fun b199 => ?_)
 ·have g200 := of_decide_eq_true b199
  refine zwkt _ b199 ?_
  refine w_skip <| ztn <| w_seq <| w_block <| zsl <| wv 106 (.int .i64 ((i : Int))) <| wv 16 (.int .i64 ((i : Int))) <| znt <| k_start H196 [restC w (fun _ => False), rowW .u32 b2 201 8 X, rowW .u32 b7 199 64 kR, rowW .u32 b12 201 8 ([0, 0, 0, 0, 0, 0, 0, 0] : List Int), rowW .u32 bq7 199 64 (wOq s), rowW .u32 bq8 201 8 V] [9] 10 rfl (by kernel_rfl) (fun Hx => (Hx.pk [0, 1, 2, 3, 4, 5])) fun w202 H203 S204 => ?_
  refine zkp 0 S204 107 (.int .i64 ((i : Int))) <| zkp 1 S204 108 (.int .i64 ((i : Int))) <| zkp 2 S204 109 (.pointer (some ⟨b2, 0 + ((i : Int)).toNat * 1, none⟩)) ?_ (he := fun _ => (e_indexAddrA (E := 198) (N := 8) (by kernel_rfl) (by kernel_rfl) (Nat.le_of_ble_eq_true rfl) rfl rfl (by omega) (by omega)))
  refine zkv 3 S204 110 (.int .u32 (X.getD i 0)) ?_ (he := fun _ H' => (zl1 (rowW_cell (H'.at 1 rfl) (show i < 8 by omega) (show 0 + ((i : Int)).toNat * 1 = i by omega))))
  refine zkp 4 S204 111 (.int .i64 ((i : Int))) <| zkp 5 S204 112 (.pointer (some ⟨bq8, 0 + ((i : Int)).toNat * 1, none⟩)) ?_ (he := fun _ => (e_indexAddrA (E := 198) (N := 8) (by kernel_rfl) (by kernel_rfl) (Nat.le_of_ble_eq_true rfl) rfl rfl (by omega) (by omega)))
  refine zkv 6 S204 113 (.int .u32 (V.getD i 0)) ?_ (he := fun _ H' => (zl1 (rowW_cell (H'.at 5 rfl) (show i < 8 by omega) (show 0 + ((i : Int)).toNat * 1 = i by omega))))
  refine zkp 7 S204 114 (.int .u32 (IntKind.u32.wrap ((X.getD i 0) + (V.getD i 0)))) <| zkp 8 S204 115 (.pointer (some ⟨b2, 0 + ((i : Int)).toNat * 1, none⟩)) ?_ (he := fun _ => (e_indexAddrA (E := 198) (N := 8) (by kernel_rfl) (by kernel_rfl) (Nat.le_of_ble_eq_true rfl) rfl rfl (by omega) (by omega)))
  refine k_brk 9 (Sat w [restC w (fun _ => False), rowW .u32 b7 199 64 kR, rowW .u32 b12 201 8 ([0, 0, 0, 0, 0, 0, 0, 0] : List Int), rowW .u32 bq7 199 64 (wOq s), rowW .u32 bq8 201 8 V]) rfl (by kernel_rfl) (wants0 rfl) rfl (fun Kq kq => ?_)
  refine d_storeW .u32 rfl H203 1 rfl rfl rfl (by kernel_rfl) (show 0 + ((i : Int)).toNat * 1 = i by omega) (show i < 8 by omega) ?_
  intro w206 H207
  have S208 := H207.pk [0, 2, 3, 4, 5]
  refine kq _ _ S208 <| zhf <| blk_normal <| ztn <| w_lit <| zwi 116 ((i : Int) + 1) <| wv 104 (.int .i64 ((i : Int) + 1)) <| w_nil <| round_back ?_ _ ⟨(i + 1), (X.set i (IntKind.u32.wrap ((X.getD i 0) + (V.getD i 0)))), (show ((.int .i64 ((i : Int) + 1)) : Value) = _ by first | rfl | go_num | exact congrArg (Value.int .i64) (by omega)), (by omega), (by rw [hX]; rfl), H207, rfl⟩ (by omega)
  exact zs
 have g209 := of_decide_eq_false b199
 refine zwkf _ b199 ?_
 refine zxb <| ztn <| zsl <| wv 117 (.agg ⟨(X.map (Value.int .u32))⟩) ?_ (hr := e_loadWA rfl (by kernel_rfl) (by kernel_rfl) (by decide) (H196.at 1 rfl))
 refine zwd fun Kq kq => d_storeWA .u32 (B := X) rfl H196 3 rfl rfl rfl (by kernel_rfl) (by kernel_rfl) (by decide) (by exact rowW_len (H196.at 1 rfl)) fun w212 H213 => ?_
 refine kq _ _ <| znt <| w_ret ?_
 have hAL_ : X.length = 8 := rowW_len (H213.at 3 rfl)
 have H214 := Sat.offW H213 3 rfl
 refine end1 rfl (res_cellN (vs := (X.map (Value.int .u32))) rfl (by kernel_rfl) (by rw [List.length_map, hAL_]; kernel_rfl) (by rw [List.length_map, hAL_]; decide) (H214.at 3 rfl) (List.take_length)) ?_
 have hm : X = mixV HH s := by unfold mixV; rw [hX, hvv, show i = 8 by omega]
 exact ⟨by rw [hm], H214.upd 0 rfl [] (fun _ h => h.elim)⟩
theorem mix_at (w : World) (v : Value) (s : List UInt8) (hs : ListAt encB 1 w v s) (hl : 64 ≤ s.length) (HH : List Int) (hH : HH.length = 8) : Calls Tryz.prog 197 #[.agg ⟨HH.map (Value.int .u32)⟩, .agg ⟨kR.map (Value.int .u32)⟩, v] w fun e w' => e = .returned (.agg ⟨(mixV HH s).map (Value.int .u32)⟩) ∧ Upd [] w w' := by
 obtain ⟨a, c, rfl⟩ := SliceOf.len hs
 exact mix_any w a c s hs hl HH hH
theorem pSum_any (w : World) (sa : Option Addr) (sc : Nat) (s : List UInt8) (hs : ListAt encB 1 w (.slice sa s.length sc) s) (hl : s.length ≤ 1000000) :
  Calls Tryz.prog 159 #[(.slice sa s.length sc)] w fun e w' => e = .returned (.agg ⟨hc (shaR s)⟩) ∧ Upd [] w w' := by
 have H := Sat.start0 w
 refine calls_fr Tryz.func159 rfl 73 rfl (Nat.le_of_ble_eq_true rfl) ?_
 refine zsl <| zwd fun Kq kq => zda (hc hash0) H ?_
 intro b2 w3 (H4 : Sat w [restC w (fun _ => False), cellC b2 61 (hc hash0)] w3)
 have H5 : Sat w [restC w (fun _ => False), rowW .u8 b2 61 32 (List.replicate 32 (0 : Int))] w3 := Sat.toW H4 1 .u8 (List.replicate 32 (0 : Int)) (by kernel_rfl) (by first | rfl | simp)
 refine kq _ _ <| znsl <| wv 12 (.agg ⟨([(.int .u32 (1779033703)), (.int .u32 (3144134277)), (.int .u32 (1013904242)), (.int .u32 (2773480762)), (.int .u32 (1359893119)), (.int .u32 (2600822924)), (.int .u32 (528734635)), (.int .u32 (1541459225))] : List Value)⟩) <| zwd fun Kq kq => zda (kShaP_1) H5 ?_
 intro b7 w8 (H9 : Sat w [restC w (fun _ => False), rowW .u8 b2 61 32 (List.replicate 32 (0 : Int)), cellC b7 201 (kShaP_1)] w8)
 have H10 : Sat w [restC w (fun _ => False), rowW .u8 b2 61 32 (List.replicate 32 (0 : Int)), rowW .u32 b7 201 8 ([0, 0, 0, 0, 0, 0, 0, 0] : List Int)] w8 := Sat.toW H9 2 .u32 ([0, 0, 0, 0, 0, 0, 0, 0] : List Int) (by kernel_rfl) (by first | rfl | simp)
 refine kq _ _ <| zwd fun Kq kq => d_storeWA .u32 (B := ([1779033703, 3144134277, 1013904242, 2773480762, 1359893119, 2600822924, 528734635, 1541459225] : List Int)) rfl H10 2 rfl rfl rfl (by kernel_rfl) (by kernel_rfl) (by decide) (by first | rfl | simp) fun w12 H13 => ?_
 refine kq _ _ <| znsl <| wv 13 (.slice sa s.length sc) <| zwd fun Kq kq => d_appendNilL (T := 84) (e := 5) (size := 1) (bytes := 1) rfl H13 (by kernel_rfl) encB_len encB_one (ListAt.now H13 0 rfl hs) rfl rfl (by omega) (by omega) fun v15 w16 H17 => ?_
 obtain ⟨a18, c19, rfl⟩ := ownsRow_shape (H17.at 3 rfl)
 refine kq _ _ <| zwd fun Kq kq => zdbs 5 1 1 (.int .u8 (0)) [(0, (.int .u8 (128)))] ([(.int .u8 (128))] : List Value) H17 ?_
 intro b21 w22 (H23 : Sat w [restC w (fun _ => False), rowW .u8 b2 61 32 (List.replicate 32 (0 : Int)), rowW .u32 b7 201 8 ([1779033703, 3144134277, 1013904242, 2773480762, 1359893119, 2600822924, 528734635, 1541459225] : List Int), (kShaP_2 a18 s c19), rowC 5 1 (.slice (some ⟨b21, 0, none⟩) 1 1) 1 ([(.int .u8 (128))] : List Value)] w22)
 have H24 : Sat w [restC w (fun _ => False), rowW .u8 b2 61 32 (List.replicate 32 (0 : Int)), rowW .u32 b7 201 8 ([1779033703, 3144134277, 1013904242, 2773480762, 1359893119, 2600822924, 528734635, 1541459225] : List Int), (kShaP_2 a18 s c19), rowC 5 1 (.slice (some ⟨b21, 0, none⟩) 1 1) 1 (([128] : List UInt8).flatMap encB)] w22 := H23.cast (by rw [(show ([.int .u8 128] : List Value) = ([128] : List UInt8).flatMap encB by kernel_rfl)])
 refine kq _ _ <| zwd fun Kq kq => d_append (T := 84) (e := 5) (size := 1) (bytes := 1) rfl H24 (by kernel_rfl) 3 4 rfl rfl rfl rfl (flat_one encB encB_one ([128] : List UInt8)) (by omega) (by omega) ?_
 intro v26 w27 (H28 : Sat w [restC w (fun _ => False), rowW .u8 b2 61 32 (List.replicate 32 (0 : Int)), rowW .u32 b7 201 8 ([1779033703, 3144134277, 1013904242, 2773480762, 1359893119, 2600822924, 528734635, 1541459225] : List Int), rowC 5 1 v26 (s.length + 1) ((s.flatMap encB) ++ (([128] : List UInt8).flatMap encB)), rowC 5 1 (.slice (some ⟨b21, 0, none⟩) 1 1) 1 (([128] : List UInt8).flatMap encB)] w27)
 have H31 : Sat w [restC w (fun _ => False), rowW .u8 b2 61 32 (List.replicate 32 (0 : Int)), rowW .u32 b7 201 8 ([1779033703, 3144134277, 1013904242, 2773480762, 1359893119, 2600822924, 528734635, 1541459225] : List Int), rowC 5 1 v26 ((s ++ ([128] : List UInt8)).length) ((s ++ ([128] : List UInt8)).flatMap encB), rowC 5 1 (.slice (some ⟨b21, 0, none⟩) 1 1) 1 (([128] : List UInt8).flatMap encB)] w27 := H28.cast (by simp only [List.length_append, List.flatMap_append] <;> rfl)
 obtain ⟨a29, c30, rfl⟩ := ownsRow_shape (H31.at 3 rfl)
 refine kq _ _ <| wv 4 (.slice a29 ((s ++ ([128] : List UInt8)).length) c30) <| znt <| w_seq <| w_block ?_
 have hD0 : (s ++ ([128] : List UInt8)) = s ++ [128] ++ List.replicate 0 0 := (List.append_nil _).symm
 refine wp_round [4, 17, 18, 19, 20, 21, 22, 23] (fun F_ W_ m_ => ∃ (j : Nat) (a : Option Addr) (c : Nat) (D : List UInt8), F_ 4 = (.slice a D.length c) ∧ (j ≤ padN s.length) ∧ (D = s ++ [128] ++ List.replicate j 0) ∧ Sat w [restC w (fun _ => False), rowW .u8 b2 61 32 (List.replicate 32 (0 : Int)), rowW .u32 b7 201 8 ([1779033703, 3144134277, 1013904242, 2773480762, 1359893119, 2600822924, 528734635, 1541459225] : List Int), (kShaP_2 a D c), rowC 5 1 (.slice (some ⟨b21, 0, none⟩) 1 1) 1 (([128] : List UInt8).flatMap encB)] W_ ∧ m_ = 64 - j) _ ⟨0, a29, c30, (s ++ ([128] : List UInt8)), (by first | rfl | go_num), (Nat.zero_le _), hD0, H31, rfl⟩ ?_
 rintro g32 w33 _ ⟨j, a, c, D, v35, hj, hD, H34, rfl⟩
 refine wp_know 4 _ v35 ?_
 have hDl : D.length = s.length + 1 + j := by rw [hD]; simp; omega
 have hj2 : j ≤ (119 - s.length % 64) % 64 := hj
 refine w_seq <| zsl <| wv 17 (.slice a D.length c) <| wv 18 (.int .i64 ((D.length : Int))) <| wv 19 (.int .i64 ((D.length : Int) % 64)) ?_ (hr := e_rem (by kernel_rfl) (by omega) (by omega))
 refine wv 20 (.bool (!(decide (((D.length : Int) % 64) = 56)))) <| znt ?_
 refine (bsplit (!(decide (((D.length : Int) % 64) = 56)))).elim (fun b37 => ?_) (fun b37 => ?_)
 ·have g38 := bnot_true b37
  have g39 := of_decide_eq_false g38
  refine zwkt _ b37 ?_
  refine w_skip <| ztn <| w_block <| w_lit <| wv 21 (.slice a D.length c) <| zwd fun Kq kq => zdbs 5 1 1 (.int .u8 (0)) [(0, (.int .u8 (0)))] ([(.int .u8 (0))] : List Value) H34 ?_
  intro b43 w44 (H45 : Sat w [restC w (fun _ => False), rowW .u8 b2 61 32 (List.replicate 32 (0 : Int)), rowW .u32 b7 201 8 ([1779033703, 3144134277, 1013904242, 2773480762, 1359893119, 2600822924, 528734635, 1541459225] : List Int), (kShaP_2 a D c), rowC 5 1 (.slice (some ⟨b21, 0, none⟩) 1 1) 1 (([128] : List UInt8).flatMap encB), rowC 5 1 (.slice (some ⟨b43, 0, none⟩) 1 1) 1 ([(.int .u8 (0))] : List Value)] w44)
  have H46 : Sat w [restC w (fun _ => False), rowW .u8 b2 61 32 (List.replicate 32 (0 : Int)), rowW .u32 b7 201 8 ([1779033703, 3144134277, 1013904242, 2773480762, 1359893119, 2600822924, 528734635, 1541459225] : List Int), (kShaP_2 a D c), rowC 5 1 (.slice (some ⟨b21, 0, none⟩) 1 1) 1 (([128] : List UInt8).flatMap encB), rowC 5 1 (.slice (some ⟨b43, 0, none⟩) 1 1) 1 (([0] : List UInt8).flatMap encB)] w44 := H45.cast (by rw [(show ([.int .u8 0] : List Value) = ([0] : List UInt8).flatMap encB by kernel_rfl)])
  refine kq _ _ <| zwd fun Kq kq => d_append (T := 84) (e := 5) (size := 1) (bytes := 1) rfl H46 (by kernel_rfl) 3 5 rfl rfl rfl rfl (flat_one encB encB_one ([0] : List UInt8)) (by omega) (by omega) fun v48 w49 H50 => ?_
  have H53 : Sat w [restC w (fun _ => False), rowW .u8 b2 61 32 (List.replicate 32 (0 : Int)), rowW .u32 b7 201 8 ([1779033703, 3144134277, 1013904242, 2773480762, 1359893119, 2600822924, 528734635, 1541459225] : List Int), rowC 5 1 v48 ((D ++ ([0] : List UInt8)).length) ((D ++ ([0] : List UInt8)).flatMap encB), rowC 5 1 (.slice (some ⟨b21, 0, none⟩) 1 1) 1 (([128] : List UInt8).flatMap encB), rowC 5 1 (.slice (some ⟨b43, 0, none⟩) 1 1) 1 (([0] : List UInt8).flatMap encB)] w49 := H50.cast (by simp only [List.length_append, List.flatMap_append] <;> rfl)
  obtain ⟨a51, c52, rfl⟩ := ownsRow_shape (H53.at 3 rfl)
  refine kq _ _ <| wv 4 (.slice a51 ((D ++ ([0] : List UInt8)).length) c52) <| w_nil <| blk_normal ?_
  have H54 : Sat w [restC w (fun _ => False), rowW .u8 b2 61 32 (List.replicate 32 (0 : Int)), rowW .u32 b7 201 8 ([1779033703, 3144134277, 1013904242, 2773480762, 1359893119, 2600822924, 528734635, 1541459225] : List Int), (kShaP_2 a51 (D ++ ([0] : List UInt8)) c52), rowC 5 1 (.slice (some ⟨b21, 0, none⟩) 1 1) 1 (([128] : List UInt8).flatMap encB)] w49 := H53.pick [0, 1, 2, 3, 4] (by decide)
  refine round_back ?_ _ ⟨(j + 1), a51, c52, (D ++ ([0] : List UInt8)), (show ((.slice a51 ((D ++ ([0] : List UInt8)).length) c52) : Value) = _ by first | rfl | go_num), (by unfold padN; omega), (by rw [hD]; exact pad_step s j), H54, rfl⟩ (by omega)
  exact zs
 have g55 := bnot_false b37
 have g56 := of_decide_eq_true g55
 refine zwkf _ b37 ?_
 refine zxb <| ztn <| zsl <| wv 24 (.slice sa s.length sc) <| wv 25 (.int .i64 ((s.length : Int))) <| wv 26 (.int .u64 ((s.length : Int))) ?_ (hr := e_int (z := (s.length : Int)) (by kernel_rfl) (wrap_u64 (by omega)))
 refine wv 27 (.int .u64 (bShl .u64 (s.length : Int) 3)) ?_ (hr := e_shl rfl rfl (by decide))
 refine wv 5 (.int .u64 (bShl .u64 (s.length : Int) 3)) <| znt <| w_seq <| w_seq <| wp_know 5 (.int .u64 (((s.length : Int) * 8))) (show ((.int .u64 (bShl .u64 (s.length : Int) 3)) : Value) = _ by rw [shl3 hl]) ?_
 refine w_lit <| wv 28 (.int .i64 (0)) <| znt <| w_block ?_
 obtain ⟨P, hP⟩ : ∃ P, P = D := ⟨_, rfl⟩
 have hPl : P.length % 64 = 56 := by rw [hP]; omega
 have hP2 : P = padP s := by rw [hP, hD]; unfold padP; rw [show j = padN s.length by unfold padN; omega]
 have hPn : P.length ≤ s.length + 100 := by rw [hP, hDl]; omega
 refine wp_round ([4, 6] ++ List.range' 28 13) (fun F_ W_ m_ => ∃ (q : Nat) (a : Option Addr) (c : Nat) (D : List UInt8), F_ 28 = (.int .i64 ((q : Int))) ∧ F_ 4 = (.slice a D.length c) ∧ (q ≤ 8) ∧ (D = P ++ lenB ((s.length : Int) * 8) q) ∧ Sat w [restC w (fun _ => False), rowW .u8 b2 61 32 (List.replicate 32 (0 : Int)), rowW .u32 b7 201 8 ([1779033703, 3144134277, 1013904242, 2773480762, 1359893119, 2600822924, 528734635, 1541459225] : List Int), (kShaP_2 a D c), rowC 5 1 (.slice (some ⟨b21, 0, none⟩) 1 1) 1 (([128] : List UInt8).flatMap encB)] W_ ∧ m_ = 8 - q) _ ⟨0, a, c, D, (show ((.int .i64 (0)) : Value) = _ by first | rfl | go_num), (by first | rfl | go_num), (Nat.zero_le _), (by rw [hP]; exact (List.append_nil _).symm), H34, rfl⟩ ?_
 rintro g59 w60 _ ⟨q, a, c, D, v62, v63, hq, hD, H61, rfl⟩
 refine wp_know 28 _ v62 ?_
 refine wp_know 4 _ v63 ?_
 have hDl : D.length = P.length + q := by rw [hD, List.length_append, lenB_len]
 refine zsl <| wv 29 (.bool (decide ((q : Int) < 8))) <| znt <| w_seq ?_
 refine (bsplit (decide ((q : Int) < 8))).elim (fun b65 => ?_) (fun b65 => ?_)
 ·have g66 := of_decide_eq_true b65
  refine zwkt _ b65 ?_
  refine w_skip <| ztn <| w_seq <| w_block <| zsl <| wv 30 (.int .i64 ((q : Int))) <| wv 6 (.int .i64 ((q : Int))) <| znt <| w_lit <| wv 31 (.slice a D.length c) ?_
  refine wv 32 (.int .u64 (((s.length : Int) * 8))) <| wv 33 (.int .i64 ((q : Int))) <| zwi 34 (8 * (q : Int)) <| zwi 35 (56 - (8 * (q : Int))) <| wv 36 (.int .u64 (((s.length : Int) * 8) / 2 ^ (min (56 - (8 * (q : Int))).toNat 64))) ?_ (hr := e_shr rfl rfl (by omega) rfl (Int.le_of_lt (Int.pow_pos (by decide))))
  refine wv 37 (.int .u8 (IntKind.u8.wrap (((s.length : Int) * 8) / 2 ^ (min (56 - (8 * (q : Int))).toNat 64)))) <| zwd fun Kq kq => zdbs 5 1 1 (.int .u8 (0)) [(0, (.int .u8 (IntKind.u8.wrap (((s.length : Int) * 8) / 2 ^ (min (56 - (8 * (q : Int))).toNat 64)))))] ([(.int .u8 (IntKind.u8.wrap (((s.length : Int) * 8) / 2 ^ (min (56 - (8 * (q : Int))).toNat 64))))] : List Value) H61 ?_
  intro b69 w70 (H71 : Sat w [restC w (fun _ => False), rowW .u8 b2 61 32 (List.replicate 32 (0 : Int)), rowW .u32 b7 201 8 ([1779033703, 3144134277, 1013904242, 2773480762, 1359893119, 2600822924, 528734635, 1541459225] : List Int), (kShaP_2 a D c), rowC 5 1 (.slice (some ⟨b21, 0, none⟩) 1 1) 1 (([128] : List UInt8).flatMap encB), rowC 5 1 (.slice (some ⟨b69, 0, none⟩) 1 1) 1 ([(.int .u8 (IntKind.u8.wrap (((s.length : Int) * 8) / 2 ^ (min (56 - (8 * (q : Int))).toNat 64))))] : List Value)] w70)
  have H72 : Sat w [restC w (fun _ => False), rowW .u8 b2 61 32 (List.replicate 32 (0 : Int)), rowW .u32 b7 201 8 ([1779033703, 3144134277, 1013904242, 2773480762, 1359893119, 2600822924, 528734635, 1541459225] : List Int), (kShaP_2 a D c), rowC 5 1 (.slice (some ⟨b21, 0, none⟩) 1 1) 1 (([128] : List UInt8).flatMap encB), rowC 5 1 (.slice (some ⟨b69, 0, none⟩) 1 1) 1 ([UInt8.ofNat (IntKind.u8.wrap (((s.length : Int) * 8) / 2 ^ (min (56 - (8 * (q : Int))).toNat 64))).toNat].flatMap encB)] w70 := H71.cast (by rw [byte_enc (wrap_u8_rng _)])
  refine kq _ _ <| zwd fun Kq kq => d_append (T := 84) (e := 5) (size := 1) (bytes := 1) rfl H72 (by kernel_rfl) 3 5 rfl rfl rfl rfl (flat_one encB encB_one [UInt8.ofNat (IntKind.u8.wrap (((s.length : Int) * 8) / 2 ^ (min (56 - (8 * (q : Int))).toNat 64))).toNat]) (by omega) (by omega) fun v74 w75 H76 => ?_
  have H79 : Sat w [restC w (fun _ => False), rowW .u8 b2 61 32 (List.replicate 32 (0 : Int)), rowW .u32 b7 201 8 ([1779033703, 3144134277, 1013904242, 2773480762, 1359893119, 2600822924, 528734635, 1541459225] : List Int), rowC 5 1 v74 ((D ++ [UInt8.ofNat (IntKind.u8.wrap (((s.length : Int) * 8) / 2 ^ (min (56 - (8 * (q : Int))).toNat 64))).toNat]).length) ((D ++ [UInt8.ofNat (IntKind.u8.wrap (((s.length : Int) * 8) / 2 ^ (min (56 - (8 * (q : Int))).toNat 64))).toNat]).flatMap encB), rowC 5 1 (.slice (some ⟨b21, 0, none⟩) 1 1) 1 (([128] : List UInt8).flatMap encB), rowC 5 1 (.slice (some ⟨b69, 0, none⟩) 1 1) 1 ([UInt8.ofNat (IntKind.u8.wrap (((s.length : Int) * 8) / 2 ^ (min (56 - (8 * (q : Int))).toNat 64))).toNat].flatMap encB)] w75 := H76.cast (by simp only [List.length_append, List.flatMap_append] <;> rfl)
  obtain ⟨a77, c78, rfl⟩ := ownsRow_shape (H79.at 3 rfl)
  refine kq _ _ <| wv 4 (.slice a77 ((D ++ [UInt8.ofNat (IntKind.u8.wrap (((s.length : Int) * 8) / 2 ^ (min (56 - (8 * (q : Int))).toNat 64))).toNat]).length) c78) <| w_nil <| blk_normal <| ztn <| w_lit <| zwi 40 ((q : Int) + 1) <| wv 28 (.int .i64 ((q : Int) + 1)) <| w_nil ?_
  have H80 := H79.pk [0, 1, 2, 3, 4]
  refine round_back ?_ _ ⟨(q + 1), a77, c78, (D ++ [UInt8.ofNat (IntKind.u8.wrap (((s.length : Int) * 8) / 2 ^ (min (56 - (8 * (q : Int))).toNat 64))).toNat]), (show ((.int .i64 ((q : Int) + 1)) : Value) = _ by first | rfl | go_num | exact congrArg (Value.int .i64) (by omega)), (show ((.slice a77 ((D ++ [UInt8.ofNat (IntKind.u8.wrap (((s.length : Int) * 8) / 2 ^ (min (56 - (8 * (q : Int))).toNat 64))).toNat]).length) c78) : Value) = _ by first | rfl | go_num | exact congrArg (Value.int .i64) (by omega)), (by omega), (by rw [hD]; exact (List.append_assoc _ _ _).trans (congrArg (P ++ ·) (len_stepP _ q).symm)), H80, rfl⟩ (by omega)
  exact zs
 have g81 := of_decide_eq_false b65
 refine zwkf _ b65 ?_
 refine zxb <| ztn <| zsl <| zwd fun Kq kq => zdq 41 (roundsP_any w60) H61 fun w84 H85 => ?_
 refine kq _ _ <| zwd fun Kq kq => zda (kShaP_0) H85 ?_
 intro b88 w89 (H90 : Sat w [restC w (fun _ => False), rowW .u8 b2 61 32 (List.replicate 32 (0 : Int)), rowW .u32 b7 201 8 ([1779033703, 3144134277, 1013904242, 2773480762, 1359893119, 2600822924, 528734635, 1541459225] : List Int), (kShaP_2 a D c), rowC 5 1 (.slice (some ⟨b21, 0, none⟩) 1 1) 1 (([128] : List UInt8).flatMap encB), cellC b88 199 (kShaP_0)] w89)
 have H91 : Sat w [restC w (fun _ => False), rowW .u8 b2 61 32 (List.replicate 32 (0 : Int)), rowW .u32 b7 201 8 ([1779033703, 3144134277, 1013904242, 2773480762, 1359893119, 2600822924, 528734635, 1541459225] : List Int), (kShaP_2 a D c), rowC 5 1 (.slice (some ⟨b21, 0, none⟩) 1 1) 1 (([128] : List UInt8).flatMap encB), rowW .u32 b88 199 64 (List.replicate 64 (0 : Int))] w89 := Sat.toW H90 5 .u32 (List.replicate 64 (0 : Int)) (by kernel_rfl) (by first | rfl | simp)
 refine kq _ _ <| zwd fun Kq kq => d_storeWA .u32 (B := kR) rfl H91 5 rfl rfl rfl (by kernel_rfl) (by kernel_rfl) (by decide) (by first | rfl | simp) ?_
 intro w93 (H94 : Sat w [restC w (fun _ => False), rowW .u8 b2 61 32 (List.replicate 32 (0 : Int)), rowW .u32 b7 201 8 ([1779033703, 3144134277, 1013904242, 2773480762, 1359893119, 2600822924, 528734635, 1541459225] : List Int), (kShaP_2 a D c), rowC 5 1 (.slice (some ⟨b21, 0, none⟩) 1 1) 1 (([128] : List UInt8).flatMap encB), rowW .u32 b88 199 64 kR] w93)
 refine kq _ _ <| znt <| w_seq <| w_block ?_
 have hDm : D = padR s := by unfold padR; rw [hD, ← hP2, show q = 8 by omega]
 obtain ⟨nb, hnb⟩ : ∃ nb, nb = D.length / 64 := ⟨_, rfl⟩
 have hml : D.length = 64 * nb := by omega
 have H95 : Sat w [restC w (fun _ => False), rowW .u8 b2 61 32 (List.replicate 32 (0 : Int)), rowW .u32 b7 201 8 ([1779033703, 3144134277, 1013904242, 2773480762, 1359893119, 2600822924, 528734635, 1541459225] : List Int), txtC (.slice a D.length c) D, rowC 5 1 (.slice (some ⟨b21, 0, none⟩) 1 1) 1 (([128] : List UInt8).flatMap encB), rowW .u32 b88 199 64 kR] w93 := H94.conv 3 rfl (fun h => list_bytes (ListAt.row (enc := encB) (sz := 1) encB_len (by decide) h)) (fun b hb => hb.2)
 refine wp_round [4, 42, 43, 44, 45, 46, 47, 48, 49, 50] (fun F_ W_ m_ => ∃ (b : Nat) (a : Option Addr) (c : Nat) (E : List UInt8) (HH : List Int), F_ 4 = (.slice a E.length c) ∧ (b ≤ nb) ∧ (E = D.drop (64 * b)) ∧ (HH = hAll D b) ∧ Sat w [restC w (fun _ => False), rowW .u8 b2 61 32 (List.replicate 32 (0 : Int)), rowW .u32 b7 201 8 HH, txtC (.slice a E.length c) E, rowC 5 1 (.slice (some ⟨b21, 0, none⟩) 1 1) 1 (([128] : List UInt8).flatMap encB), rowW .u32 b88 199 64 kR] W_ ∧ m_ = nb - b) _ ⟨0, a, c, D, ([1779033703, 3144134277, 1013904242, 2773480762, 1359893119, 2600822924, 528734635, 1541459225] : List Int), (by first | rfl | go_num), (Nat.zero_le _), rfl, rfl, H95, rfl⟩ ?_
 rintro g96 w97 _ ⟨b, a, c, E, HH, v99, hb, hE, hHH, H98, rfl⟩
 refine wp_know 4 _ v99 ?_
 have hEl0 : E.length = 64 * nb - 64 * b := by rw [hE, List.length_drop, hml]
 refine w_seq <| zsl <| wv 42 (.slice a E.length c) <| wv 43 (.int .i64 ((E.length : Int))) <| wv 44 (.bool (decide ((E.length : Int) > 0))) <| znt ?_
 refine (bsplit (decide ((E.length : Int) > 0))).elim (fun b101 => ?_) (fun b101 => ?_)
 ·have g102 := of_decide_eq_true b101
  refine zwkt _ b101 ?_
  refine w_skip <| ztn <| w_seq <| w_block ?_
  have hHl : HH.length = 8 := rowW_len (H98.at 2 rfl)
  refine w_lit <| wv 47 (.agg ⟨(HH.map (Value.int .u32))⟩) ?_ (hr := e_loadWA rfl (by kernel_rfl) (by kernel_rfl) (by decide) (H98.at 2 rfl))
  refine wv 48 (.agg ⟨(kR.map (Value.int .u32))⟩) ?_ (hr := e_loadWA rfl (by kernel_rfl) (by kernel_rfl) (by decide) (H98.at 5 rfl))
  refine wv 49 (.slice a E.length c) <| zwd fun Kq kq => zdq 50 (mix_at w97 (.slice a E.length c) E (ListAt.ofTxt (H98.at 3 rfl)) (by omega) HH hHl) H98 fun w105 H106 => ?_
  refine kq _ _ <| zwd fun Kq kq => d_storeWA .u32 (B := (mixV HH E)) rfl H106 2 rfl rfl rfl (by kernel_rfl) (by kernel_rfl) (by decide) (by exact (mixV_len _ _).trans hHl) ?_
  intro w109 (H110 : Sat w [restC w (fun _ => False), rowW .u8 b2 61 32 (List.replicate 32 (0 : Int)), rowW .u32 b7 201 8 (mixV HH E), txtC (.slice a E.length c) E, rowC 5 1 (.slice (some ⟨b21, 0, none⟩) 1 1) 1 (([128] : List UInt8).flatMap encB), rowW .u32 b88 199 64 kR] w109)
  refine kq _ _ <| w_nil <| blk_normal <| ztn <| w_lit <| wv 45 (.slice a E.length c) <| wv 46 (.slice (if c = 64 then a else a.map (·.add (64 * 1))) (E.length - 64) (c - 64)) ?_ (hr := e_sliceLoG (E := 5) (q := 64) (by kernel_rfl) (by kernel_rfl) rfl rfl rfl (by omega))
  refine wv 4 (.slice (if c = 64 then a else a.map (·.add (64 * 1))) (E.length - 64) (c - 64)) <| w_nil ?_
  have hEl : E.length - 64 = (E.drop 64).length := by rw [List.length_drop]
  have H111 : Sat w [restC w (fun _ => False), rowW .u8 b2 61 32 (List.replicate 32 (0 : Int)), rowW .u32 b7 201 8 (mixV HH E), txtC (.slice (if c = 64 then a else a.map (·.add (64 * 1))) (E.length - 64) (c - 64)) (E.drop 64), rowC 5 1 (.slice (some ⟨b21, 0, none⟩) 1 1) 1 (([128] : List UInt8).flatMap encB), rowW .u32 b88 199 64 kR] w109 := H110.conv 3 rfl (fun h => txtC_drop (by omega) h) (fun b hb => txtC_dropF hb)
  rw [hEl] at H111
  refine round_back ?_ _ ⟨(b + 1), (if c = 64 then a else a.map (·.add (64 * 1))), (c - 64), (E.drop 64), (mixV HH E), (show ((.slice (if c = 64 then a else a.map (·.add (64 * 1))) (E.length - 64) (c - 64)) : Value) = _ by rw [hEl]), (by omega), (by rw [hE, List.drop_drop, show 64 * (b + 1) = 64 * b + 64 by omega]), (by rw [hAll_mix, ← hHH, ← hE]), H111, rfl⟩ (by omega)
  exact zs
 have g112 := of_decide_eq_false b101
 refine zwkf _ b101 ?_
 refine zxb <| ztn <| zsl <| zwd fun Kq kq => zda (hc hash0) H98 ?_
 intro b115 w116 (H117 : Sat w [restC w (fun _ => False), rowW .u8 b2 61 32 (List.replicate 32 (0 : Int)), rowW .u32 b7 201 8 HH, txtC (.slice a E.length c) E, rowC 5 1 (.slice (some ⟨b21, 0, none⟩) 1 1) 1 (([128] : List UInt8).flatMap encB), rowW .u32 b88 199 64 kR, cellC b115 61 (hc hash0)] w116)
 have H118 : Sat w [restC w (fun _ => False), rowW .u8 b2 61 32 (List.replicate 32 (0 : Int)), rowW .u32 b7 201 8 HH, txtC (.slice a E.length c) E, rowC 5 1 (.slice (some ⟨b21, 0, none⟩) 1 1) 1 (([128] : List UInt8).flatMap encB), rowW .u32 b88 199 64 kR, rowW .u8 b115 61 32 (List.replicate 32 (0 : Int))] w116 := Sat.toW H117 6 .u8 (List.replicate 32 (0 : Int)) (by kernel_rfl) (by exact rowW_len (H117.at 1 rfl))
 refine kq _ _ <| znt <| w_seq <| zsl <| wv 51 (.agg ⟨(HH.map (Value.int .u32))⟩) ?_ (hr := e_loadWA rfl (by kernel_rfl) (by kernel_rfl) (by decide) (H118.at 2 rfl))
 refine wv 52 (.int .i64 (0)) <| znt <| w_block ?_
 have hHl2 : HH.length = 8 := rowW_len (H118.at 2 rfl)
 refine wp_round ([9, 10, 11] ++ List.range' 52 20) (fun F_ W_ m_ => ∃ (i : Nat) (O : List Int), F_ 52 = (.int .i64 ((i : Int))) ∧ (i ≤ 8) ∧ (O = oOf HH i) ∧ Sat w [restC w (fun _ => False), rowW .u8 b2 61 32 (List.replicate 32 (0 : Int)), rowW .u32 b7 201 8 HH, txtC (.slice a E.length c) E, rowC 5 1 (.slice (some ⟨b21, 0, none⟩) 1 1) 1 (([128] : List UInt8).flatMap encB), rowW .u32 b88 199 64 kR, rowW .u8 b115 61 32 O] W_ ∧ m_ = 8 - i) _ ⟨0, (List.replicate 32 (0 : Int)), (show ((.int .i64 (0)) : Value) = _ by first | rfl | go_num), (Nat.zero_le _), rfl, H118, rfl⟩ ?_
 rintro g119 w120 _ ⟨i, O, v122, hi, hO, H121, rfl⟩
 refine wp_know 52 _ v122 ?_
 refine zsl <| wv 53 (.bool (decide ((i : Int) < 8))) <| znt <| w_seq ?_
 refine (bsplit (decide ((i : Int) < 8))).elim (fun b124 => ?_) (fun b124 => ?_)
 ·have g125 := of_decide_eq_true b124
  refine zwkt _ b124 ?_
  refine w_skip <| ztn <| w_seq <| w_block <| zsl <| wv 54 (.int .i64 ((i : Int))) <| wv 55 (.int .u32 (HH.getD i 0)) ?_ (hr := e_indexArr (E := 198) (q := i) (by kernel_rfl) hHl2 (by kernel_rfl) (by kernel_rfl) rfl rfl rfl (by omega))
  refine wv 9 (.int .i64 ((i : Int))) <| wv 10 (.int .u32 (HH.getD i 0)) <| znsl <| wv 56 (.int .i64 (0)) <| znt <| w_block <| wp_round ([11] ++ List.range' 56 15) (fun F_ W_ m_ => ∃ (j : Nat) (O2 : List Int), F_ 56 = (.int .i64 ((j : Int))) ∧ (j ≤ 4) ∧ (O2 = oIn (HH.getD i 0) i O j) ∧ Sat w [restC w (fun _ => False), rowW .u8 b2 61 32 (List.replicate 32 (0 : Int)), rowW .u32 b7 201 8 HH, txtC (.slice a E.length c) E, rowC 5 1 (.slice (some ⟨b21, 0, none⟩) 1 1) 1 (([128] : List UInt8).flatMap encB), rowW .u32 b88 199 64 kR, rowW .u8 b115 61 32 O2] W_ ∧ m_ = 4 - j) _ ⟨0, O, (show ((.int .i64 (0)) : Value) = _ by first | rfl | go_num), (Nat.zero_le _), rfl, H121, rfl⟩ ?_
  rintro g127 w128 _ ⟨j, O2, v130, hj, hO2, H129, rfl⟩
  refine wp_know 56 _ v130 ?_
  refine zsl <| wv 57 (.bool (decide ((j : Int) < 4))) <| znt <| w_seq ?_
  refine (bsplit (decide ((j : Int) < 4))).elim (fun b132 => ?_) (fun b132 => ?_)
  ·have g133 := of_decide_eq_true b132
   refine zwkt _ b132 ?_
   refine w_skip <| ztn <| w_seq <| w_block <| zsl <| wv 58 (.int .i64 ((j : Int))) <| wv 11 (.int .i64 ((j : Int))) <| znt <| w_lit <| wv 59 (.int .i64 ((i : Int))) ?_
   refine zwi 60 (4 * (i : Int)) <| wv 61 (.int .i64 ((j : Int))) <| zwi 62 ((4 * (i : Int)) + (j : Int)) <| wv 63 (.int .u32 (HH.getD i 0)) <| wv 64 (.int .i64 ((j : Int))) <| zwi 65 (8 * (j : Int)) <| zwi 66 (24 - (8 * (j : Int))) <| wv 67 (.int .u32 ((HH.getD i 0) / 2 ^ (min (24 - (8 * (j : Int))).toNat 32))) ?_ (hr := e_shr rfl rfl (by omega) rfl (Int.le_of_lt (Int.pow_pos (by decide))))
   refine wv 68 (.int .u8 (IntKind.u8.wrap ((HH.getD i 0) / 2 ^ (min (24 - (8 * (j : Int))).toNat 32)))) <| wv 69 (.pointer (some ⟨b115, 0 + ((4 * (i : Int)) + (j : Int)).toNat * 1, none⟩)) ?_ (hr := e_indexAddrA (E := 5) (N := 32) (by kernel_rfl) (by kernel_rfl) (Nat.le_of_ble_eq_true rfl) rfl rfl (by omega) (by omega))
   refine zwd fun Kq kq => d_storeW .u8 rfl H129 6 rfl rfl rfl (by kernel_rfl) (show 0 + ((4 * (i : Int)) + (j : Int)).toNat * 1 = ((4 * i) + j) by omega) (show ((4 * i) + j) < 32 by omega) fun w136 H137 => ?_
   refine kq _ _ <| w_nil <| blk_normal <| ztn <| w_lit <| zwi 70 ((j : Int) + 1) <| wv 56 (.int .i64 ((j : Int) + 1)) <| w_nil <| round_back ?_ _ ⟨(j + 1), (O2.set ((4 * i) + j) (IntKind.u8.wrap ((HH.getD i 0) / 2 ^ (min (24 - (8 * (j : Int))).toNat 32)))), (show ((.int .i64 ((j : Int) + 1)) : Value) = _ by first | rfl | go_num | exact congrArg (Value.int .i64) (by omega)), (by omega), (by rw [hO2]; rfl), H137, rfl⟩ (by omega)
   exact zs
  have g138 := of_decide_eq_false b132
  refine zwkf _ b132 ?_
  refine zxb <| blk_normal <| ztn <| w_lit <| zwi 71 ((i : Int) + 1) <| wv 52 (.int .i64 ((i : Int) + 1)) <| w_nil <| round_back ?_ _ ⟨(i + 1), O2, (show ((.int .i64 ((i : Int) + 1)) : Value) = _ by first | rfl | go_num | exact congrArg (Value.int .i64) (by omega)), (by omega), (by rw [hO2, show j = 4 by omega, oIn_four, hO]; rfl), H129, rfl⟩ (by omega)
  exact zs
 have g140 := of_decide_eq_false b124
 refine zwkf _ b124 ?_
 refine zxb <| ztn <| zsl <| wv 72 (.agg ⟨(O.map (Value.int .u8))⟩) ?_ (hr := e_loadWA rfl (by kernel_rfl) (by kernel_rfl) (by decide) (H121.at 6 rfl))
 refine zwd fun Kq kq => d_storeWA .u8 (B := O) rfl H121 1 rfl rfl rfl (by kernel_rfl) (by kernel_rfl) (by decide) (by exact rowW_len (H121.at 6 rfl)) fun w143 H144 => ?_
 refine kq _ _ <| znt <| w_ret ?_
 have hAL_ : O.length = 32 := rowW_len (H144.at 1 rfl)
 have H145 := Sat.offW H144 1 rfl
 refine end1 rfl (res_cellN (vs := (O.map (Value.int .u8))) rfl (by kernel_rfl) (by rw [List.length_map, hAL_]; kernel_rfl) (by rw [List.length_map, hAL_]; decide) (H145.at 1 rfl) (List.take_length)) ?_
 have hfin : O = sumR s := by unfold sumR; rw [← hDm, ← hnb, hO, hHH, show i = 8 by omega, show b = nb by omega]
 exact ⟨by rw [hfin, shaR_cells], H145.upd 0 rfl [] (fun _ h => h.elim)⟩
end Go.Proofs.YtenihpghfdcpkaaGreat
