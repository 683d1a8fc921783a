/- WHAT IS PROVED: contracts and plain laws of SortUS, NumsS. Conditions: stated with each. -/
import Derived.Test.YtenihpghfdcpkaaGreatV05
import Derived.Test.YtenihpghfdcpkaaGreatV06
import Derived.Test.YtenihpghfdcpkaaGreatV10
import Derived.Test.YtenihpghfdcpkaaGreatV11
set_option maxHeartbeats 4000000
set_option maxRecDepth 100000
namespace Go.Proofs.YtenihpghfdcpkaaGreat
open Go.RowKit
theorem pdqSU_any (w : World) (g n c : Nat) (lim : Int) (A : List Int) (hT : (rowU g n c A).ok w) (hn12 : n ≤ 12) :
  Calls Tryz.prog 205 #[(.slice (some ⟨g, 0, none⟩) n c), (.int .i64 (0)), (.int .i64 ((n : Int))), (.int .i64 (lim))] w fun e w' => ∃ B : List Int, e = .returned (.tuple #[]) ∧ B.length = n ∧ B.Perm A ∧ Srt ltU 0 B.length B ∧ Sat w [rowU g n c B, restC w (rowU g n c A).fp] w' := by
 have H := Sat.start1 hT
 have hl := rowU_len hT
 have hw := swU
 have hn : n ≤ 1000000000000 := by omega
 refine calls_fr Tryz.func205 rfl 134 rfl (Nat.le_of_ble_eq_true rfl) ?_
 refine zsl <| wv 8 (.bool true) <| znsl <| wv 9 (.bool true) <| znt <| w_block <| wp_round ([1, 2, 3] ++ List.range' 8 126) (fun F_ W_ m_ => ∃ (z_ : Nat), F_ 1 = (.int .i64 (0)) ∧ F_ 2 = (.int .i64 ((n : Int))) ∧ F_ 3 = (.int .i64 (lim)) ∧ F_ 8 = (.bool true) ∧ F_ 9 = (.bool true) ∧ (True) ∧ Sat w [rowU g n c A, restC w (rowU g n c A).fp] W_ ∧ m_ = z_) _ ⟨0, (show ((.int .i64 (0)) : Value) = _ by first | rfl | go_num), (show ((.int .i64 ((n : Int))) : Value) = _ by first | rfl | go_num), (show ((.int .i64 (lim)) : Value) = _ by first | rfl | go_num), (by first | rfl | go_num), (by first | rfl | go_num), trivial, H, rfl⟩ ?_
 rintro g1 w2 _ ⟨z_, v4, v5, v6, v7, v8, ht_, H3, rfl⟩
 refine wp_know 1 _ v4 ?_
 refine wp_know 2 _ v5 ?_
 refine wp_know 3 _ v6 ?_
 refine wp_know 8 _ v7 ?_
 refine wp_know 9 _ v8 ?_
 refine w_block <| zsl <| wv 19 (.int .i64 ((n : Int))) <| wv 20 (.int .i64 (0)) <| zwi 21 ((n : Int) - 0) <| wv 10 (.int .i64 ((n : Int) - 0)) <| znt <| w_seq <| zsl <| wv 22 (.int .i64 ((n : Int) - 0)) ?_
 refine wv 23 (.bool (decide (((n : Int) - 0) ≤ 12))) <| znt ?_
 have b10 : (decide (((n : Int) - 0) ≤ 12)) = true := by exact decide_eq_true (by omega)
 have g11 := of_decide_eq_true b10
 refine zwkt _ b10 ?_
 refine zsl <| wv 24 (.slice (some ⟨g, 0, none⟩) n c) <| wv 25 (.int .i64 (0)) <| wv 26 (.int .i64 ((n : Int))) <| zwd fun Kq kq => zdc 27 (insertionU_any w2 g n c 0 n A (H3.at 0 rfl) hn (by omega)) ?_
 rintro _ w14 ⟨B13, rfl, l15, S16, h18, T17⟩
 have H20 := (Sat.turn1 (L' := [rowU g n c B13]) (R := [restC w (rowU g n c A).fp]) H3 0 [1] (by decide) rfl rfl T17).pk [0, 1]
 refine ⟨_, rfl, ?_⟩
 refine kq _ _ <| znt <| w_ret <| then_ret <| blk_ret <| back_ret <| blk_ret <| end0 rfl  ?_
 exact ⟨B13, rfl, l15, S16.perm, by have q := h18; rw [← l15] at q; exact q, H20⟩
theorem blenS_any (w : World) (x : Int) (hx : 0 ≤ x ∧ x ≤ 18446744073709551615) : Calls Tryz.prog 102 #[.int .u64 x] w fun e w' => e = .returned (.int .i64 (Lib.bitLen x.toNat)) ∧ Upd [] w w' :=
 (Go.Proofs.Any.bits_Len bitsL x w hx.1 hx.2).mono fun _ _ ⟨he, hw⟩ => ⟨he, hw ▸ Upd.refl _ _⟩
theorem sortSU_any (w : World) (g n c : Nat) (A : List Int) (hT : (rowU g n c A).ok w) (hn : n ≤ 12) :
  Calls Tryz.prog 178 #[(.slice (some ⟨g, 0, none⟩) n c)] w fun e w' => ∃ B : List Int, e = .returned (.tuple #[]) ∧ B.length = n ∧ B.Perm A ∧ Srt ltU 0 B.length B ∧ Sat w [rowU g n c B, restC w (rowU g n c A).fp] w' := by
 have H := Sat.start1 hT
 have hl := rowU_len hT
 have hw := swU
 refine calls_fr Tryz.func178 rfl 11 rfl (Nat.le_of_ble_eq_true rfl) ?_
 refine zsl <| wv 3 (.slice (some ⟨g, 0, none⟩) n c) <| wv 4 (.int .i64 ((n : Int))) <| wv 2 (.int .i64 ((n : Int))) <| znt <| w_lit <| wv 5 (.slice (some ⟨g, 0, none⟩) n c) <| wv 6 (.int .i64 ((n : Int))) <| wv 7 (.int .i64 ((n : Int))) <| wv 8 (.int .u64 ((n : Int))) ?_ (hr := e_int (z := (n : Int)) (by kernel_rfl) (wrap_u64 (by omega)))
 refine zwd fun Kq kq => zdq 9 (blenS_any w (n : Int) (by omega)) H fun w2 H3 => ?_
 refine kq _ _ <| zwd fun Kq kq => zdc 10 (pdqSU_any w2 g n c (Lib.bitLen (n : Int).toNat : Int) A (H3.at 0 rfl) hn) ?_
 rintro _ w7 ⟨B6, rfl, l8, S9, s10, T11⟩
 have H12 := Sat.turn1 (L' := [rowU g n c B6]) (R := [restC w (rowU g n c A).fp]) H3 0 [1] (by decide) rfl rfl T11
 refine ⟨_, rfl, ?_⟩
 refine kq _ _ <| w_nil <| end_normal ?_
 refine end0 rfl  ?_
 exact ⟨B6, rfl, l8, S9, s10, H12⟩
theorem heap_keep {w w' : World} {b T : Nat} {v : Value} (h : (restC w fun _ => False).ok w') (hb : (cellC b T [v]).ok w) : (cellC b T [v]).ok w' := (h b (heap_lt hb) (fun h => h)).trans hb
theorem valuesU_any0 (w : World) (va : Option Addr) (vn vc : Nat) :
  Calls Tryz.prog 126 #[(.slice va vn vc)] w fun e w' => ∃ b, e = .returned (.func (.func 179) #[] #[.pointer (some ⟨b, 0, none⟩)]) ∧ (cellC b 109 [(.slice va vn vc)]).ok w' ∧ Upd [] w w' ∧ w.heap.size ≤ b := by
 have H := Sat.start0 w
 refine calls_fr Tryz.func126 rfl 4 rfl (Nat.le_of_ble_eq_true rfl) ?_
 refine zsl <| zwd fun Kq kq => zdb ([(.slice va vn vc)] : List Value) H fun b2 w3 H4 => ?_
 refine kq _ _ <| wv 2 (Go.Value.nilFunc) <| znsl <| wv 3 (.func (.func 179) #[] #[(pt b2 0)]) <| wv 2 (.func (.func 179) #[] #[(pt b2 0)]) <| znt <| w_ret <| ze1 (.func (.func 179) #[] #[(pt b2 0)]) ?_
 exact ⟨b2, rfl, H4.at 1 rfl, H4.upd 0 rfl [] (fun _ h => h.elim), H4.fresh 0 rfl (fun _ h => h) 1 rfl rfl b2 rfl⟩
theorem valuesU_any (w : World) (v : Value) (hv : ∃ a n c, v = .slice a n c) : Calls Tryz.prog 126 #[v] w fun e w' => ∃ b, e = .returned (.func (.func 179) #[] #[.pointer (some ⟨b, 0, none⟩)]) ∧ (cellC b 109 [v]).ok w' ∧ Upd [] w w' ∧ w.heap.size ≤ b := by
 obtain ⟨a, n, c, rfl⟩ := hv
 exact valuesU_any0 w a n c
theorem collectU_any (w : World) (b : Nat) (v : Value) (xs : List Int) (hb : (cellC b 109 [v]).ok w) (hv : ListAt encU 1 w v xs) (hx : xs.length ≤ 12) :
  Calls Tryz.prog 177 #[(.func (.func 179) #[] #[(.pointer (some ⟨b, 0, none⟩))])] w fun e w' => ∃ u, e = .returned u ∧ (rowC 25 1 u xs.length (xs.flatMap encU)).ok w' ∧ Upd [] w w' ∧ ∀ b, u.ownBlock = some b → w.heap.size ≤ b := by
 have H := Sat.start0 w
 refine calls_fr Tryz.func177 rfl 5 rfl (Nat.le_of_ble_eq_true rfl) ?_
 refine zsl <| wv 2 (.slice none 0 0) <| znsl <| wv 3 (.func (.func 179) #[] #[(pt b 0)]) <| zwd fun Kq kq => zdc 4 (appendSeqU_any w b v xs ((heap_keep (H.at 0 rfl) hb)) (ListAt.now H 0 rfl hv) (by omega)) ?_
 rintro _ w2 ⟨u3, rfl, k4, p5, q6⟩
 have H7 := H.addU p5 k4 q6
 obtain ⟨a8, c9, rfl⟩ := ownsRow_shape (H7.at 1 rfl)
 refine ⟨_, rfl, ?_⟩
 refine kq _ _ <| wv 2 (.slice a8 xs.length c9) <| znt <| w_ret <| ze1 (.slice a8 xs.length c9) ?_
 exact ⟨_, rfl, H7.at 1 rfl, H7.upd 0 rfl [] (fun _ h => h.elim), H7.fresh 0 rfl (fun _ h => h) 1 rfl rfl⟩
theorem sortedU_any (w : World) (b : Nat) (v : Value) (xs : List Int) (hb : (cellC b 109 [v]).ok w) (hv : ListAt encU 1 w v xs) (hx : xs.length ≤ 12) (h0 : 0 < xs.length) :
  Calls Tryz.prog 125 #[(.func (.func 179) #[] #[(.pointer (some ⟨b, 0, none⟩))])] w fun e w' => ∃ u B, e = .returned u ∧ (rowC 25 1 u B.length (B.flatMap encU)).ok w' ∧ Upd [] w w' ∧ (∀ k, u.ownBlock = some k → w.heap.size ≤ k) ∧ B.Perm xs ∧ Srt ltU 0 B.length B := by
 have H := Sat.start0 w
 refine calls_fr Tryz.func125 rfl 9 rfl (Nat.le_of_ble_eq_true rfl) ?_
 refine zsl <| wv 2 (.slice none 0 0) <| znsl <| wv 4 (.func (.func 179) #[] #[(pt b 0)]) <| zwd fun Kq kq => zdc 5 (collectU_any w b v xs (heap_keep (H.at 0 rfl) hb) (ListAt.now H 0 rfl hv) (by omega)) ?_
 rintro _ w2 ⟨u3, rfl, k4, p5, q6⟩
 have H7 := H.addU p5 k4 q6
 obtain ⟨a8, c9, rfl⟩ := ownsRow_shape (H7.at 1 rfl)
 refine ⟨_, rfl, ?_⟩
 refine kq _ _ <| wv 3 (.slice a8 xs.length c9) <| znt <| w_seq ?_
 obtain ⟨g10, c11, e12⟩ := row_shape (H7.at 1 rfl) (by omega)
 obtain rfl : a8 = some ⟨g10, 0, none⟩ := by cases e12; rfl
 have H13 := H7
 refine w_lit <| wv 6 (.slice (some ⟨g10, 0, none⟩) xs.length c9) <| zwd fun Kq kq => zdc 7 (sortSU_any w2 g10 xs.length c9 xs (H13.at 1 rfl) (by omega)) ?_
 rintro _ w16 ⟨B15, rfl, l17, p18, s19, T20⟩
 have H21 := (Sat.turn1 (L' := [rowU g10 xs.length c9 B15]) (R := [restC w (fun _ => False)]) H13 1 [0] (by decide) rfl rfl T20).pk [1, 0]
 refine ⟨_, rfl, ?_⟩
 refine kq _ _ <| znsl <| wv 8 (.slice (some ⟨g10, 0, none⟩) xs.length c9) <| wv 2 (.slice (some ⟨g10, 0, none⟩) xs.length c9) <| znt <| w_ret <| ze1 (.slice (some ⟨g10, 0, none⟩) xs.length c9) ?_
 exact ⟨_, B15, rfl, (by have q := H21.at 1 rfl; have e : (xs.length : Nat) = B15.length := l17.symm; unfold rowU at q; rw [e] at q ⊢; exact q), H21.upd 0 rfl [] (fun _ h => h.elim), H21.fresh 0 rfl (fun _ h => h) 1 rfl rfl, p18, s19⟩
theorem medC_any0 (w : World) (va : Option Addr) (vc : Nat) (xs : List Int) (hxs : ListAt encU 1 w (.slice va xs.length vc) xs) (hx : xs.length ≤ 12) :
  Calls Tryz.prog 99 #[(.slice va xs.length vc)] w fun e w' => e = .returned (.tuple #[.int .u64 (medV xs), .bool (decide (xs.length % 2 = 1))]) ∧ Upd [] w w' := by
 have H := Sat.start0 w
 refine calls_fr Tryz.func99 rfl 18 rfl (Nat.le_of_ble_eq_true rfl) ?_
 refine zsl <| wv 2 (.int .u64 (0)) <| wv 3 (.bool false) <| znt <| w_seq <| zsl <| wv 5 (.slice va xs.length vc) <| wv 6 (.int .i64 ((xs.length : Int))) <| wv 7 (.int .i64 ((xs.length : Int) % 2)) ?_ (hr := e_rem (by kernel_rfl) (by omega) (by omega))
 refine wv 8 (.bool (decide (((xs.length : Int) % 2) = 0))) <| znt ?_
 refine (bsplit (decide (((xs.length : Int) % 2) = 0))).elim (fun b1 => ?_) (fun b1 => ?_)
 ·have g2 := of_decide_eq_true b1
  refine zwkt _ b1 ?_
  refine zsl <| wv 2 (.int .u64 (0)) <| wv 3 (.bool false) <| znt <| w_ret <| then_ret <| ze2 (.int .u64 (0)) (.bool false) ?_
  exact ⟨by rw [medV_even (by omega), decide_eq_false (show ¬ xs.length % 2 = 1 by omega)], H.upd 0 rfl [] (fun _ h => h.elim)⟩
 have g4 := of_decide_eq_false b1
 refine zwkf _ b1 ?_
 refine w_skip <| ztn <| zsl <| wv 9 (.slice va xs.length vc) <| zwd fun Kq kq => zdc 10 (valuesU_any w (.slice va xs.length vc) ⟨_, _, _, rfl⟩) ?_
 rintro _ w8 ⟨b7, rfl, k9, p10, q11⟩
 have H12 := H.addU p10 k9 (fun _ h => h ▸ q11)
 refine ⟨_, rfl, ?_⟩
 refine kq _ _ <| zwd fun Kq kq => zdc 11 (sortedU_any w8 b7 (.slice va xs.length vc) xs (H12.at 1 rfl) (ListAt.now H12 0 rfl hxs) (by omega) (by omega)) ?_
 rintro _ w14 ⟨u15, B19, rfl, k16, p17, q18, p20, s21⟩
 have H22 := H12.addU p17 k16 q18
 obtain ⟨a23, c24, rfl⟩ := ownsRow_shape (H22.at 2 rfl)
 refine ⟨_, rfl, ?_⟩
 have hlB19 : B19.length = xs.length := p20.length_eq
 refine kq _ _ <| wv 4 (.slice a23 B19.length c24) <| znsl <| wv 12 (.slice a23 B19.length c24) <| wv 13 (.slice a23 B19.length c24) <| wv 14 (.int .i64 ((B19.length : Int))) <| wv 15 (.int .i64 ((B19.length : Int) / 2)) ?_ (hr := e_quo (by kernel_rfl) (by omega) (by omega) (IntWalk.i64_in _ (by omega)))
 obtain ⟨g25, c26, e27⟩ := row_shape (H22.at 2 rfl) (by omega)
 obtain ⟨x28, h29⟩ := get_at (show ((B19.length : Int) / 2).toNat < B19.length by omega)
 refine wv 16 (.pointer (some ⟨g25, 0 + ((B19.length : Int) / 2).toNat * 1, none⟩)) ?_ (hr := e_indexAddrV (E := 25) (by kernel_rfl) (by kernel_rfl) (Nat.le_of_ble_eq_true rfl) rfl e27 rfl (by omega) (by omega))
 refine zw1 17 (.int .u64 (x28)) (rows_cell (H22.at 2 rfl) e27 encU_len h29 0 rfl (show 0 + ((B19.length : Int) / 2).toNat * 1 = ((B19.length : Int) / 2).toNat * 1 + 0 by omega) (by kernel_rfl)) <| wv 2 (.int .u64 (x28)) <| wv 3 (.bool true) <| znt <| w_ret <| ze2 (.int .u64 (x28)) (.bool true) ?_
 have hm : medV xs = x28 := (medV_perm p20).symm.trans (medV_eq (by omega) (srt_le s21 (by rw [show B19.length / 2 = ((B19.length : Int) / 2).toNat by omega]; exact h29)))
 exact ⟨by rw [hm, decide_eq_true (show xs.length % 2 = 1 by omega)], H22.upd 0 rfl [] (fun _ h => h.elim)⟩
theorem medC_any (w : World) (v : Value) (xs : List Int) (hxs : ListAt encU 1 w v xs) (hx : xs.length ≤ 12) : Calls Tryz.prog 99 #[v] w fun e w' => e = .returned (.tuple #[.int .u64 (medV xs), .bool (decide (xs.length % 2 = 1))]) ∧ Upd [] w w' := by
 obtain ⟨a, c, rfl⟩ := hxs.len
 exact medC_any0 w a c xs hxs hx
theorem medR_any0 (w : World) (va : Option Addr) (vc : Nat) (xs : List Int) (hxs : ListAt encU 1 w (.slice va xs.length vc) xs) (hx : xs.length ≤ 12) :
  Calls Tryz.prog 65 #[(.slice va xs.length vc)] w fun e w' => e = .returned (.tuple #[.int .u64 (medV xs), .bool (decide (xs.length % 2 = 1))]) ∧ Upd [] w w' := by
 have H := Sat.start0 w
 refine calls_fr Tryz.func65 rfl 64 rfl (Nat.le_of_ble_eq_true rfl) ?_
 refine zsl <| wv 2 (.int .u64 (0)) <| wv 3 (.bool false) <| znt <| w_seq <| zsl <| wv 8 (.slice va xs.length vc) <| wv 9 (.int .i64 ((xs.length : Int))) <| wv 10 (.int .i64 ((xs.length : Int) % 2)) ?_ (hr := e_rem (by kernel_rfl) (by omega) (by omega))
 refine wv 11 (.bool (decide (((xs.length : Int) % 2) = 0))) <| znt ?_
 refine (bsplit (decide (((xs.length : Int) % 2) = 0))).elim (fun b1 => ?_) (fun b1 => ?_)
 ·have g2 := of_decide_eq_true b1
  refine zwkt _ b1 ?_
  refine zsl <| wv 2 (.int .u64 (0)) <| wv 3 (.bool false) <| znt <| w_ret <| then_ret <| ze2 (.int .u64 (0)) (.bool false) ?_
  exact ⟨by rw [medV_even (by omega), decide_eq_false (show ¬ xs.length % 2 = 1 by omega)], H.upd 0 rfl [] (fun _ h => h.elim)⟩
 have g4 := of_decide_eq_false b1
 refine zwkf _ b1 ?_
 refine w_skip <| ztn <| w_seq <| zsl <| wv 12 (.slice va xs.length vc) <| wv 13 (.int .i64 ((xs.length : Int))) <| wv 14 (.int .i64 (0)) <| znt <| w_block <| wp_round ([2, 3, 4, 5, 6, 7] ++ List.range' 14 50) (fun F_ W_ m_ => ∃ (i : Nat), F_ 14 = (.int .i64 ((i : Int))) ∧ (i ≤ xs.length) ∧ (∀ j, j < i → NotMed xs j) ∧ Sat w [restC w (fun _ => False)] W_ ∧ m_ = xs.length + 1 - i) _ ⟨0, (show ((.int .i64 (0)) : Value) = _ by first | rfl | go_num), by omega, by intro j hj; omega, H, rfl⟩ ?_
 rintro g6 w7 _ ⟨i, v9, hi, hno, H8, rfl⟩
 refine wp_know 14 _ v9 ?_
 refine zsl <| wv 15 (.bool (decide ((i : Int) < (xs.length : Int)))) <| znt <| w_seq ?_
 refine (bsplit (decide ((i : Int) < (xs.length : Int)))).elim (fun b11 => ?_) (fun b11 => ?_)
 ·have g12 := of_decide_eq_true b11
  refine zwkt _ b11 ?_
  refine w_skip <| ztn <| w_seq <| w_block <| zsl <| wv 16 (.int .i64 ((i : Int))) <| wv 4 (.int .i64 ((i : Int))) <| znsl <| wv 5 (.int .i64 (0)) <| wv 6 (.int .i64 (0)) ?_
  refine znt <| w_seq <| zsl <| wv 17 (.slice va xs.length vc) <| wv 18 (.int .i64 ((xs.length : Int))) <| wv 19 (.int .i64 (0)) <| znt <| w_block <| wp_round ([5, 6, 7] ++ List.range' 19 26) (fun F_ W_ m_ => ∃ (k : Nat), F_ 19 = (.int .i64 ((k : Int))) ∧ F_ 5 = (.int .i64 ((((xs.take k).countP (fun x => decide (x < xs.getD i 0)) : Nat) : Int))) ∧ F_ 6 = (.int .i64 ((((xs.take k).countP (fun x => decide (x = xs.getD i 0)) : Nat) : Int))) ∧ (k ≤ xs.length) ∧ Sat w [restC w (fun _ => False)] W_ ∧ m_ = xs.length + 1 - k) _ ⟨0, (show ((.int .i64 (0)) : Value) = _ by first | rfl | go_num), (show ((.int .i64 (0)) : Value) = _ by first | rfl | go_num), (show ((.int .i64 (0)) : Value) = _ by first | rfl | go_num), by omega, H8, rfl⟩ ?_
  rintro g14 w15 _ ⟨k, v17, v18, v19, hk, H16, rfl⟩
  refine wp_know 19 _ v17 ?_
  refine wp_know 5 _ v18 ?_
  refine wp_know 6 _ v19 ?_
  refine zsl <| wv 20 (.bool (decide ((k : Int) < (xs.length : Int)))) <| znt <| w_seq ?_
  refine (bsplit (decide ((k : Int) < (xs.length : Int)))).elim (fun b21 => ?_) (fun b21 => ?_)
  ·have g22 := of_decide_eq_true b21
   refine zwkt _ b21 ?_
   refine w_skip <| ztn <| w_seq <| w_block <| zsl <| wv 21 (.int .i64 ((k : Int))) <| wv 7 (.int .i64 ((k : Int))) <| znt <| w_seq <| w_seq ?_
   refine zqs H16 ?_
   refine qv 22 (.slice va xs.length vc) <| qv 23 (.int .i64 ((k : Int))) ?_
   obtain ⟨g24, o25, c26, e27, R28⟩ := SliceOf.atD hxs 0 (show k < xs.length by omega)
   refine qv 24 (.pointer (some ⟨g24, o25 + ((k : Int)).toNat * 1, none⟩)) ?_ (hr := fun _ H' => (e_indexAddrW (E := 25) (by kernel_rfl) (by kernel_rfl) (Nat.le_of_ble_eq_true rfl) rfl e27 rfl (by omega) (by omega)))
   refine qv 25 (.int .u64 ((xs.getD k 0))) ?_ (hr := fun _ H' => (zl1 (H'.cellR 0 rfl (cells_at R28 0 (by kernel_rfl) (show o25 + ((k : Int)).toNat * 1 = o25 + k * 1 + 0 by omega)) (fun h => h))))
   refine qv 26 (.slice va xs.length vc) <| qv 27 (.int .i64 ((i : Int))) ?_
   obtain ⟨g29, o30, c31, e32, R33⟩ := SliceOf.atD hxs 0 (show i < xs.length by omega)
   refine qv 28 (.pointer (some ⟨g29, o30 + ((i : Int)).toNat * 1, none⟩)) ?_ (hr := fun _ H' => (e_indexAddrW (E := 25) (by kernel_rfl) (by kernel_rfl) (Nat.le_of_ble_eq_true rfl) rfl e32 rfl (by omega) (by omega)))
   refine qv 29 (.int .u64 ((xs.getD i 0))) ?_ (hr := fun _ H' => (zl1 (H'.cellR 0 rfl (cells_at R33 0 (by kernel_rfl) (show o30 + ((i : Int)).toNat * 1 = o30 + i * 1 + 0 by omega)) (fun h => h))))
   refine qv 30 (.bool (decide ((xs.getD k 0) < (xs.getD i 0)))) <| q_end fun w34 H35 => ?_
   apply ztn
   refine (bsplit (decide ((xs.getD k 0) < (xs.getD i 0)))).elim (fun b36 => ?_) (fun b36 => ?_)
   ·have g37 := of_decide_eq_true b36
    refine zwkt _ b36 ?_
    refine w_lit <| wv 31 (.int .i64 ((((xs.take k).countP (fun x => decide (x < xs.getD i 0)) : Nat) : Int))) <| wv 32 (.int .i64 ((((xs.take k).countP (fun x => decide (x < xs.getD i 0)) : Nat) : Int) + 1)) ?_ (hr := e_int (z := (((xs.take k).countP (fun x => decide (x < xs.getD i 0)) : Nat) : Int) + 1) (by kernel_rfl) (IntWalk.i64_in _ (by have q1 := cnt_take_le (fun x => decide (x < xs.getD i 0)) xs k; have q2 := cnt_take_le (fun x => decide (x = xs.getD i 0)) xs k; omega)))
    refine wv 5 (.int .i64 ((((xs.take k).countP (fun x => decide (x < xs.getD i 0)) : Nat) : Int) + 1)) <| znt <| w_seq <| zqs H35 ?_
    refine qv 33 (.slice va xs.length vc) <| qv 34 (.int .i64 ((k : Int))) <| qv 35 (.pointer (some ⟨g24, o25 + ((k : Int)).toNat * 1, none⟩)) ?_ (hr := fun _ H' => (e_indexAddrW (E := 25) (by kernel_rfl) (by kernel_rfl) (Nat.le_of_ble_eq_true rfl) rfl e27 rfl (by omega) (by omega)))
    refine qv 36 (.int .u64 ((xs.getD k 0))) ?_ (hr := fun _ H' => (zl1 (H'.cellR 0 rfl (cells_at R28 0 (by kernel_rfl) (show o25 + ((k : Int)).toNat * 1 = o25 + k * 1 + 0 by omega)) (fun h => h))))
    refine qv 37 (.slice va xs.length vc) <| qv 38 (.int .i64 ((i : Int))) <| qv 39 (.pointer (some ⟨g29, o30 + ((i : Int)).toNat * 1, none⟩)) ?_ (hr := fun _ H' => (e_indexAddrW (E := 25) (by kernel_rfl) (by kernel_rfl) (Nat.le_of_ble_eq_true rfl) rfl e32 rfl (by omega) (by omega)))
    refine qv 40 (.int .u64 ((xs.getD i 0))) ?_ (hr := fun _ H' => (zl1 (H'.cellR 0 rfl (cells_at R33 0 (by kernel_rfl) (show o30 + ((i : Int)).toNat * 1 = o30 + i * 1 + 0 by omega)) (fun h => h))))
    refine qv 41 (.bool (decide ((xs.getD k 0) = (xs.getD i 0)))) <| q_end fun w39 H40 => ?_
    apply ztn
    refine (bsplit (decide ((xs.getD k 0) = (xs.getD i 0)))).elim (fun b41 => ?_) (fun b41 => ?_)
    ·have g42 := of_decide_eq_true b41
     refine zwkt _ b41 ?_
     refine w_lit <| wv 42 (.int .i64 ((((xs.take k).countP (fun x => decide (x = xs.getD i 0)) : Nat) : Int))) <| wv 43 (.int .i64 ((((xs.take k).countP (fun x => decide (x = xs.getD i 0)) : Nat) : Int) + 1)) ?_ (hr := e_int (z := (((xs.take k).countP (fun x => decide (x = xs.getD i 0)) : Nat) : Int) + 1) (by kernel_rfl) (IntWalk.i64_in _ (by have q1 := cnt_take_le (fun x => decide (x < xs.getD i 0)) xs k; have q2 := cnt_take_le (fun x => decide (x = xs.getD i 0)) xs k; omega)))
     refine wv 6 (.int .i64 ((((xs.take k).countP (fun x => decide (x = xs.getD i 0)) : Nat) : Int) + 1)) <| w_nil <| blk_normal <| ztn <| w_lit <| wv 44 (.int .i64 ((k : Int) + 1)) ?_ (hr := e_int (z := (k : Int) + 1) (by kernel_rfl) (IntWalk.i64_in _ (by have q1 := cnt_take_le (fun x => decide (x < xs.getD i 0)) xs k; have q2 := cnt_take_le (fun x => decide (x = xs.getD i 0)) xs k; omega)))
     refine wv 19 (.int .i64 ((k : Int) + 1)) <| w_nil <| round_back ?_ _ ⟨(k + 1), rfl, (show ((.int .i64 ((((xs.take k).countP (fun x => decide (x < xs.getD i 0)) : Nat) : Int) + 1)) : Value) = _ by have q := take_cnt (fun x => decide (x < xs.getD i 0)) xs k (by omega); simp only [b36, b41, if_true, if_false, Bool.false_eq_true] at q; first | (rw [q]; rfl) | (rw [q]; go_num)), (show ((.int .i64 ((((xs.take k).countP (fun x => decide (x = xs.getD i 0)) : Nat) : Int) + 1)) : Value) = _ by have q := take_cnt (fun x => decide (x = xs.getD i 0)) xs k (by omega); simp only [b36, b41, if_true, if_false, Bool.false_eq_true] at q; first | (rw [q]; rfl) | (rw [q]; go_num)), by omega, H40, rfl⟩ (by omega)
     exact zs
    have g44 := of_decide_eq_false b41
    refine zwkf _ b41 ?_
    refine w_skip <| blk_normal <| ztn <| w_lit <| wv 44 (.int .i64 ((k : Int) + 1)) ?_ (hr := e_int (z := (k : Int) + 1) (by kernel_rfl) (IntWalk.i64_in _ (by have q1 := cnt_take_le (fun x => decide (x < xs.getD i 0)) xs k; have q2 := cnt_take_le (fun x => decide (x = xs.getD i 0)) xs k; omega)))
    refine wv 19 (.int .i64 ((k : Int) + 1)) <| w_nil <| round_back ?_ _ ⟨(k + 1), rfl, (show ((.int .i64 ((((xs.take k).countP (fun x => decide (x < xs.getD i 0)) : Nat) : Int) + 1)) : Value) = _ by have q := take_cnt (fun x => decide (x < xs.getD i 0)) xs k (by omega); simp only [b36, b41, if_true, if_false, Bool.false_eq_true] at q; first | (rw [q]; rfl) | (rw [q]; go_num)), (show ((.int .i64 ((((xs.take k).countP (fun x => decide (x = xs.getD i 0)) : Nat) : Int))) : Value) = _ by have q := take_cnt (fun x => decide (x = xs.getD i 0)) xs k (by omega); simp only [b36, b41, if_true, if_false, Bool.false_eq_true] at q; first | (rw [q]; rfl) | (rw [q]; go_num)), by omega, H40, rfl⟩ (by omega)
    exact zs
   have g46 := of_decide_eq_false b36
   refine zwkf _ b36 ?_
   refine w_skip <| ztn <| w_seq <| zqs H35 ?_
   refine qv 33 (.slice va xs.length vc) <| qv 34 (.int .i64 ((k : Int))) <| qv 35 (.pointer (some ⟨g24, o25 + ((k : Int)).toNat * 1, none⟩)) ?_ (hr := fun _ H' => (e_indexAddrW (E := 25) (by kernel_rfl) (by kernel_rfl) (Nat.le_of_ble_eq_true rfl) rfl e27 rfl (by omega) (by omega)))
   refine qv 36 (.int .u64 ((xs.getD k 0))) ?_ (hr := fun _ H' => (zl1 (H'.cellR 0 rfl (cells_at R28 0 (by kernel_rfl) (show o25 + ((k : Int)).toNat * 1 = o25 + k * 1 + 0 by omega)) (fun h => h))))
   refine qv 37 (.slice va xs.length vc) <| qv 38 (.int .i64 ((i : Int))) <| qv 39 (.pointer (some ⟨g29, o30 + ((i : Int)).toNat * 1, none⟩)) ?_ (hr := fun _ H' => (e_indexAddrW (E := 25) (by kernel_rfl) (by kernel_rfl) (Nat.le_of_ble_eq_true rfl) rfl e32 rfl (by omega) (by omega)))
   refine qv 40 (.int .u64 ((xs.getD i 0))) ?_ (hr := fun _ H' => (zl1 (H'.cellR 0 rfl (cells_at R33 0 (by kernel_rfl) (show o30 + ((i : Int)).toNat * 1 = o30 + i * 1 + 0 by omega)) (fun h => h))))
   refine qv 41 (.bool (decide ((xs.getD k 0) = (xs.getD i 0)))) <| q_end fun w48 H49 => ?_
   apply ztn
   refine (bsplit (decide ((xs.getD k 0) = (xs.getD i 0)))).elim (fun b50 => ?_) (fun b50 => ?_)
   ·have g51 := of_decide_eq_true b50
    refine zwkt _ b50 ?_
    refine w_lit <| wv 42 (.int .i64 ((((xs.take k).countP (fun x => decide (x = xs.getD i 0)) : Nat) : Int))) <| wv 43 (.int .i64 ((((xs.take k).countP (fun x => decide (x = xs.getD i 0)) : Nat) : Int) + 1)) ?_ (hr := e_int (z := (((xs.take k).countP (fun x => decide (x = xs.getD i 0)) : Nat) : Int) + 1) (by kernel_rfl) (IntWalk.i64_in _ (by have q1 := cnt_take_le (fun x => decide (x < xs.getD i 0)) xs k; have q2 := cnt_take_le (fun x => decide (x = xs.getD i 0)) xs k; omega)))
    refine wv 6 (.int .i64 ((((xs.take k).countP (fun x => decide (x = xs.getD i 0)) : Nat) : Int) + 1)) <| w_nil <| blk_normal <| ztn <| w_lit <| wv 44 (.int .i64 ((k : Int) + 1)) ?_ (hr := e_int (z := (k : Int) + 1) (by kernel_rfl) (IntWalk.i64_in _ (by have q1 := cnt_take_le (fun x => decide (x < xs.getD i 0)) xs k; have q2 := cnt_take_le (fun x => decide (x = xs.getD i 0)) xs k; omega)))
    refine wv 19 (.int .i64 ((k : Int) + 1)) <| w_nil <| round_back ?_ _ ⟨(k + 1), rfl, (show ((.int .i64 ((((xs.take k).countP (fun x => decide (x < xs.getD i 0)) : Nat) : Int))) : Value) = _ by have q := take_cnt (fun x => decide (x < xs.getD i 0)) xs k (by omega); simp only [b36, b50, if_true, if_false, Bool.false_eq_true] at q; first | (rw [q]; rfl) | (rw [q]; go_num)), (show ((.int .i64 ((((xs.take k).countP (fun x => decide (x = xs.getD i 0)) : Nat) : Int) + 1)) : Value) = _ by have q := take_cnt (fun x => decide (x = xs.getD i 0)) xs k (by omega); simp only [b36, b50, if_true, if_false, Bool.false_eq_true] at q; first | (rw [q]; rfl) | (rw [q]; go_num)), by omega, H49, rfl⟩ (by omega)
    exact zs
   have g53 := of_decide_eq_false b50
   refine zwkf _ b50 ?_
   refine w_skip <| blk_normal <| ztn <| w_lit <| wv 44 (.int .i64 ((k : Int) + 1)) ?_ (hr := e_int (z := (k : Int) + 1) (by kernel_rfl) (IntWalk.i64_in _ (by have q1 := cnt_take_le (fun x => decide (x < xs.getD i 0)) xs k; have q2 := cnt_take_le (fun x => decide (x = xs.getD i 0)) xs k; omega)))
   refine wv 19 (.int .i64 ((k : Int) + 1)) <| w_nil <| round_back ?_ _ ⟨(k + 1), rfl, (show ((.int .i64 ((((xs.take k).countP (fun x => decide (x < xs.getD i 0)) : Nat) : Int))) : Value) = _ by have q := take_cnt (fun x => decide (x < xs.getD i 0)) xs k (by omega); simp only [b36, b50, if_true, if_false, Bool.false_eq_true] at q; first | (rw [q]; rfl) | (rw [q]; go_num)), (show ((.int .i64 ((((xs.take k).countP (fun x => decide (x = xs.getD i 0)) : Nat) : Int))) : Value) = _ by have q := take_cnt (fun x => decide (x = xs.getD i 0)) xs k (by omega); simp only [b36, b50, if_true, if_false, Bool.false_eq_true] at q; first | (rw [q]; rfl) | (rw [q]; go_num)), by omega, H49, rfl⟩ (by omega)
   exact zs
  have g55 := of_decide_eq_false b21
  refine zwkf _ b21 ?_
  refine zxb <| ztn <| w_seq ?_
  have e5 : xs.take k = xs := List.take_of_length_le (by omega)
  have c1 := cLt_le xs (xs.getD i 0)
  have c2 := cEq_le xs (xs.getD i 0)
  refine wp_know 5 (.int .i64 (((cLt xs (xs.getD i 0) : Nat) : Int))) (show ((.int .i64 ((((xs.take k).countP (fun x => decide (x < xs.getD i 0)) : Nat) : Int))) : Value) = _ by rw [e5]; rfl) ?_
  refine wp_know 6 (.int .i64 (((cEq xs (xs.getD i 0) : Nat) : Int))) (show ((.int .i64 ((((xs.take k).countP (fun x => decide (x = xs.getD i 0)) : Nat) : Int))) : Value) = _ by rw [e5]; rfl) ?_
  refine w_lit <| wv 45 (.int .i64 (((cLt xs (xs.getD i 0) : Nat) : Int))) <| wv 46 (.slice va xs.length vc) <| wv 47 (.int .i64 ((xs.length : Int))) <| wv 48 (.int .i64 ((xs.length : Int) / 2)) ?_ (hr := e_quo (by kernel_rfl) (by omega) (by omega) (IntWalk.i64_in _ (by omega)))
  refine wv 49 (.bool (decide (((cLt xs (xs.getD i 0) : Nat) : Int) ≤ ((xs.length : Int) / 2)))) <| wv 50 (.bool (decide (((cLt xs (xs.getD i 0) : Nat) : Int) ≤ ((xs.length : Int) / 2)))) ?_
  refine (bsplit (decide (((cLt xs (xs.getD i 0) : Nat) : Int) ≤ ((xs.length : Int) / 2)))).elim (fun b57 => ?_) (fun b57 => ?_)
  ·have g58 := of_decide_eq_true b57
   refine wl_know 50 (.bool true) (congrArg Value.bool b57) ?_
   refine wy 5 50 true 51 (.slice va xs.length vc) <| wy 5 50 true 52 (.int .i64 ((xs.length : Int))) <| wy 5 50 true 53 (.int .i64 ((xs.length : Int) / 2)) ?_ (hr := e_quo (by kernel_rfl) (by omega) (by omega) (IntWalk.i64_in _ (by omega)))
   refine wy 5 50 true 54 (.int .i64 (((cLt xs (xs.getD i 0) : Nat) : Int))) <| wy 5 50 true 55 (.int .i64 (((cEq xs (xs.getD i 0) : Nat) : Int))) <| wy 5 50 true 56 (.int .i64 (((cLt xs (xs.getD i 0) : Nat) : Int) + ((cEq xs (xs.getD i 0) : Nat) : Int))) ?_ (hr := e_int (z := ((cLt xs (xs.getD i 0) : Nat) : Int) + ((cEq xs (xs.getD i 0) : Nat) : Int)) (by kernel_rfl) (IntWalk.i64_in _ (by omega)))
   refine wy 5 50 true 57 (.bool (decide (((xs.length : Int) / 2) < (((cLt xs (xs.getD i 0) : Nat) : Int) + ((cEq xs (xs.getD i 0) : Nat) : Int))))) <| wv 58 (.bool (decide (((xs.length : Int) / 2) < (((cLt xs (xs.getD i 0) : Nat) : Int) + ((cEq xs (xs.getD i 0) : Nat) : Int))))) <| znt ?_
   refine (bsplit (decide (((xs.length : Int) / 2) < (((cLt xs (xs.getD i 0) : Nat) : Int) + ((cEq xs (xs.getD i 0) : Nat) : Int))))).elim (fun b60 => ?_) (fun b60 => ?_)
   ·have g61 := of_decide_eq_true b60
    refine zwkt _ b60 ?_
    refine zsl <| wv 59 (.slice va xs.length vc) <| wv 60 (.int .i64 ((i : Int))) ?_
    obtain ⟨g63, o64, c65, e66, R67⟩ := SliceOf.atD hxs 0 (show i < xs.length by omega)
    refine wv 61 (.pointer (some ⟨g63, o64 + ((i : Int)).toNat * 1, none⟩)) ?_ (hr := e_indexAddrW (E := 25) (by kernel_rfl) (by kernel_rfl) (Nat.le_of_ble_eq_true rfl) rfl e66 rfl (by omega) (by omega))
    refine zw1 62 (.int .u64 ((xs.getD i 0))) (H16.cellR 0 rfl (cells_at R67 0 (by kernel_rfl) (show o64 + ((i : Int)).toNat * 1 = o64 + i * 1 + 0 by omega)) (fun h => h)) <| wv 2 (.int .u64 ((xs.getD i 0))) <| wv 3 (.bool true) <| znt <| w_ret <| blk_ret <| then_ret <| back_ret <| blk_ret <| then_ret ?_
    refine ze2 (.int .u64 ((xs.getD i 0))) (.bool true) ?_
    simp only [decide_eq_true_eq, Bool.and_eq_true] at *
    exact ⟨by rw [medV_at (j := i) (by omega) (by omega) (by omega) (by omega), decide_eq_true (show xs.length % 2 = 1 by omega)], H16.upd 0 rfl [] (fun _ h => h.elim)⟩
   have g68 := of_decide_eq_false b60
   refine zwkf _ b60 ?_
   refine w_skip <| blk_normal <| ztn <| w_lit <| zwi 63 ((i : Int) + 1) <| wv 14 (.int .i64 ((i : Int) + 1)) <| w_nil <| round_back ?_ _ ⟨(i + 1), rfl, by omega, notMed_step hno (by unfold NotMed; rintro ⟨q1, q2⟩; simp only [decide_eq_true_eq, decide_eq_false_iff_not, Bool.and_eq_false_iff] at *; omega), H16, rfl⟩ (by omega)
   exact zs
  have g70 := of_decide_eq_false b57
  refine wl_know 50 (.bool false) (congrArg Value.bool b57) ?_
  iterate 7 refine wn 5 50 true ?_
  refine wv 58 (.bool false) <| znt <| wp_iff rfl ?_
  refine w_skip <| blk_normal <| ztn <| w_lit <| zwi 63 ((i : Int) + 1) <| wv 14 (.int .i64 ((i : Int) + 1)) <| w_nil <| round_back ?_ _ ⟨(i + 1), rfl, by omega, notMed_step hno (by unfold NotMed; rintro ⟨q1, q2⟩; simp only [decide_eq_true_eq, decide_eq_false_iff_not, Bool.and_eq_false_iff] at *; omega), H16, rfl⟩ (by omega)
  exact zs
 have g72 := of_decide_eq_false b11
 refine zwkf _ b11 ?_
 refine zxb <| ztn <| zsl <| wv 2 (.int .u64 (0)) <| wv 3 (.bool false) <| znt <| w_ret <| ze2 (.int .u64 (0)) (.bool false) ?_
 exact (medV_no (xs := xs) (by omega) (fun j hj => hno j (by omega))).elim
theorem medR_any (w : World) (v : Value) (xs : List Int) (hxs : ListAt encU 1 w v xs) (hx : xs.length ≤ 12) : Calls Tryz.prog 65 #[v] w fun e w' => e = .returned (.tuple #[.int .u64 (medV xs), .bool (decide (xs.length % 2 = 1))]) ∧ Upd [] w w' := by
 obtain ⟨a, c, rfl⟩ := hxs.len
 exact medR_any0 w a c xs hxs hx
end Go.Proofs.YtenihpghfdcpkaaGreat
