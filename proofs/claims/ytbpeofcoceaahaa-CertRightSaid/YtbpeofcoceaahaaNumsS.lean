/- WHAT IS PROVED: lists of times: contracts. Conditions: stated with each. -/
import Derived.Test.YtbpeofcoceaahaaSortUA
import Derived.Test.YtbpeofcoceaahaaLaid10
import Derived.Test.YtbpeofcoceaahaaBits
import Derived.Test.YtbpeofcoceaahaaCollU
import Derived.Test.YtbpeofcoceaahaaListAt
import Derived.Test.YtbpeofcoceaahaaMedMath
import Derived.Test.YtbpeofcoceaahaaMinMax
namespace Go.Proofs.Ytbpeofcoceaahaa
open Go.RowKit

set_option maxRecDepth 100000 in
set_option maxHeartbeats 400000 in
theorem pdqSU_any (w : World) (g n c : Nat) (lim : Int) (A : List Int) (hT : (rowU g n c A).ok w) (hn12 : n ≤ 12) :
    Calls Try.prog 80 #[(.slice (some ⟨g, 0, none⟩) n c), (.int .i64 (0)), (.int .i64 ((n : Int))), (.int .i64 (lim))] w fun e w' => ∃ B : List Int, e = .returned (.tuple #[]) ∧ B.length = n ∧ B.Perm A ∧ Srt ltU 0 B.length B ∧ Sat w [rowU g n c B, restC w (rowU g n c A).fp] w' := by
  have H : Sat w [rowU g n c A, restC w (rowU g n c A).fp] w := Sat.start1 hT
  have hl := rowU_len hT
  have hw := swU
  have hn : n ≤ 1000000000000 := by omega
  refine calls_fr Try.func80 rfl 134 rfl (Nat.le_of_ble_eq_true rfl) ?_
  refine w_seq ?_
  refine w_lit ?_
  refine wl_pure (wants0 rfl) (d := 8) (v := (.bool true)) rfl (by kernel_rfl) ?_
  refine w_nil ?_
  refine then_normal ?_
  refine w_seq ?_
  refine w_lit ?_
  refine wl_pure (wants0 rfl) (d := 9) (v := (.bool true)) rfl (by kernel_rfl) ?_
  refine w_nil ?_
  refine then_normal ?_
  refine w_block ?_
  refine wp_round [1, 2, 3, 8, 9, 10, 11, 12, 13, 14, 15, 16, 17, 18, 19, 20, 21, 22, 23, 24, 25, 26, 27, 28, 29, 30, 31, 32, 33, 34, 35, 36, 37, 38, 39, 40, 41, 42, 43, 44, 45, 46, 47, 48, 49, 50, 51, 52, 53, 54, 55, 56, 57, 58, 59, 60, 61, 62, 63, 64, 65, 66, 67, 68, 69, 70, 71, 72, 73, 74, 75, 76, 77, 78, 79, 80, 81, 82, 83, 84, 85, 86, 87, 88, 89, 90, 91, 92, 93, 94, 95, 96, 97, 98, 99, 100, 101, 102, 103, 104, 105, 106, 107, 108, 109, 110, 111, 112, 113, 114, 115, 116, 117, 118, 119, 120, 121, 122, 123, 124, 125, 126, 127, 128, 129, 130, 131, 132, 133] (fun F_ W_ m_ => ∃ (z_ : Nat), F_ 1 = (.int .i64 (0)) ∧ F_ 2 = (.int .i64 ((n : Int))) ∧ F_ 3 = (.int .i64 (lim)) ∧ F_ 8 = (.bool true) ∧ F_ 9 = (.bool true) ∧ (True) ∧ Sat w [rowU g n c A, restC w (rowU g n c A).fp] W_ ∧ m_ = z_) _ ⟨0, (show ((.int .i64 (0)) : Value) = _ by first | rfl | go_num), (show ((.int .i64 ((n : Int))) : Value) = _ by first | rfl | go_num), (show ((.int .i64 (lim)) : Value) = _ by first | rfl | go_num), (by first | rfl | go_num), (by first | rfl | go_num), trivial, H, rfl⟩ ?_
  rintro g1 w2 _ ⟨z_, v4, v5, v6, v7, v8, ht_, H3, rfl⟩
  refine wp_know 1 _ v4 ?_
  refine wp_know 2 _ v5 ?_
  refine wp_know 3 _ v6 ?_
  refine wp_know 8 _ v7 ?_
  refine wp_know 9 _ v8 ?_
  refine w_block ?_
  refine w_seq ?_
  refine w_lit ?_
  refine wl_pure (wants0 rfl) (d := 19) (v := (.int .i64 ((n : Int)))) rfl (by kernel_rfl) ?_
  refine wl_pure (wants0 rfl) (d := 20) (v := (.int .i64 (0))) rfl (by kernel_rfl) ?_
  refine wl_pure (wants0 rfl) (d := 21) (v := (.int .i64 ((n : Int) - 0))) rfl (e_int (z := (n : Int) - 0) (by kernel_rfl) (IntWalk.i64_in _ (by omega))) ?_
  refine wl_pure (wants0 rfl) (d := 10) (v := (.int .i64 ((n : Int) - 0))) rfl (by kernel_rfl) ?_
  refine w_nil ?_
  refine then_normal ?_
  refine w_seq ?_
  refine w_seq ?_
  refine w_lit ?_
  refine wl_pure (wants0 rfl) (d := 22) (v := (.int .i64 ((n : Int) - 0))) rfl (by kernel_rfl) ?_
  refine wl_pure (wants0 rfl) (d := 23) (v := (.bool (decide (((n : Int) - 0) ≤ 12)))) rfl (by kernel_rfl) ?_
  refine w_nil ?_
  refine then_normal ?_
  have b10 : (decide (((n : Int) - 0) ≤ 12)) = true := by exact decide_eq_true (by omega)
  refine wp_know 23 (.bool true) (congrArg Value.bool b10) ?_
  have g11 := of_decide_eq_true b10
  refine wp_ift rfl ?_
  refine w_seq ?_
  refine w_lit ?_
  refine wl_pure (wants0 rfl) (d := 24) (v := (.slice (some ⟨g, 0, none⟩) n c)) rfl (by kernel_rfl) ?_
  refine wl_pure (wants0 rfl) (d := 25) (v := (.int .i64 (0))) rfl (by kernel_rfl) ?_
  refine wl_pure (wants0 rfl) (d := 26) (v := (.int .i64 ((n : Int)))) rfl (by kernel_rfl) ?_
  refine wl_do (wants0 rfl) (fun K12 hK12 => ?_)
  refine d_call (d := 27) rfl (by kernel_rfl) (insertionU_any w2 g n c 0 n A (H3.at 0 rfl) hn (by omega)) ?_
  rintro _ w14 ⟨B13, rfl, l15, S16, h18, T17⟩
  have H20 : Sat w [rowU g n c B13, restC w (rowU g n c A).fp] w14 := (Sat.turn1 (L' := [rowU g n c B13]) (R := [restC w (rowU g n c A).fp]) H3 0 [1] (by decide) rfl rfl T17).pick [0, 1] (by decide)
  refine ⟨_, rfl, ?_⟩
  refine hK12 _ _ ?_
  clear hK12 K12
  refine w_nil ?_
  refine then_normal ?_
  refine w_ret ?_
  refine then_ret ?_
  refine blk_ret ?_
  refine back_ret ?_
  refine blk_ret ?_
  refine end0 rfl  ?_
  exact ⟨B13, rfl, l15, S16.perm, by have q := h18; rw [← l15] at q; exact q, H20⟩
theorem blenS_any (w : World) (x : Int) (hx : 0 ≤ x ∧ x ≤ 18446744073709551615) : Calls Try.prog 78 #[.int .u64 x] w fun e w' => e = .returned (.int .i64 (Lib.bitLen x.toNat)) ∧ Upd [] w w' :=
  (Go.Proofs.Any.bits_Len bitsL x w hx.1 hx.2).mono fun _ _ ⟨he, hw⟩ => ⟨he, hw ▸ Upd.refl _ _⟩
set_option maxRecDepth 100000 in
set_option maxHeartbeats 400000 in
theorem sortSU_any (w : World) (g n c : Nat) (A : List Int) (hT : (rowU g n c A).ok w) (hn : n ≤ 12) :
    Calls Try.prog 58 #[(.slice (some ⟨g, 0, none⟩) n c)] w fun e w' => ∃ B : List Int, e = .returned (.tuple #[]) ∧ B.length = n ∧ B.Perm A ∧ Srt ltU 0 B.length B ∧ Sat w [rowU g n c B, restC w (rowU g n c A).fp] w' := by
  have H : Sat w [rowU g n c A, restC w (rowU g n c A).fp] w := Sat.start1 hT
  have hl := rowU_len hT
  have hw := swU
  refine calls_fr Try.func58 rfl 11 rfl (Nat.le_of_ble_eq_true rfl) ?_
  refine w_seq ?_
  refine w_lit ?_
  refine wl_pure (wants0 rfl) (d := 3) (v := (.slice (some ⟨g, 0, none⟩) n c)) rfl (by kernel_rfl) ?_
  refine wl_pure (wants0 rfl) (d := 4) (v := (.int .i64 ((n : Int)))) rfl (by kernel_rfl) ?_
  refine wl_pure (wants0 rfl) (d := 2) (v := (.int .i64 ((n : Int)))) rfl (by kernel_rfl) ?_
  refine w_nil ?_
  refine then_normal ?_
  refine w_lit ?_
  refine wl_pure (wants0 rfl) (d := 5) (v := (.slice (some ⟨g, 0, none⟩) n c)) rfl (by kernel_rfl) ?_
  refine wl_pure (wants0 rfl) (d := 6) (v := (.int .i64 ((n : Int)))) rfl (by kernel_rfl) ?_
  refine wl_pure (wants0 rfl) (d := 7) (v := (.int .i64 ((n : Int)))) rfl (by kernel_rfl) ?_
  refine wl_pure (wants0 rfl) (d := 8) (v := (.int .u64 ((n : Int)))) rfl (e_int (z := (n : Int)) (by kernel_rfl) (wrap_u64 (by omega))) ?_
  refine wl_do (wants0 rfl) (fun K1 hK1 => ?_)
  refine d_call (d := 9) rfl (by kernel_rfl) (blenS_any w (n : Int) (by omega)) ?_
  rintro _ w2 ⟨rfl, u4⟩
  have H3 := H.keepU u4
  refine ⟨_, rfl, ?_⟩
  refine hK1 _ _ ?_
  clear hK1 K1
  refine wl_do (wants0 rfl) (fun K5 hK5 => ?_)
  refine d_call (d := 10) rfl (by kernel_rfl) (pdqSU_any w2 g n c (Lib.bitLen (n : Int).toNat : Int) A (H3.at 0 rfl) hn) ?_
  rintro _ w7 ⟨B6, rfl, l8, S9, s10, T11⟩
  have H12 : Sat w [rowU g n c B6, restC w (rowU g n c A).fp] w7 := Sat.turn1 (L' := [rowU g n c B6]) (R := [restC w (rowU g n c A).fp]) H3 0 [1] (by decide) rfl rfl T11
  refine ⟨_, rfl, ?_⟩
  refine hK5 _ _ ?_
  clear hK5 K5
  refine w_nil ?_
  refine end_normal ?_
  refine end0 rfl  ?_
  exact ⟨B6, rfl, l8, S9, s10, H12⟩

end Go.Proofs.Ytbpeofcoceaahaa
namespace Go.Proofs.Ytbpeofcoceaahaa
open Go.RowKit
def withinV (v n : Int) : Int := if n < 1 then 0 else v % n
theorem within_lim (v n : Int) (h : 1 ≤ n) : 0 ≤ withinV v n ∧ withinV v n < n := by
  unfold withinV; rw [if_neg (by omega)]
  exact ⟨Int.emod_nonneg _ (by omega), Int.emod_lt_of_pos _ (by omega)⟩
theorem take_eq_step {xs ys : List Int} {i : Nat} (h : xs.take i = ys.take i) (h1 : i < xs.length) (h2 : i < ys.length) (e : xs.getD i 0 = ys.getD i 0) : xs.take (i + 1) = ys.take (i + 1) := by
  rw [List.getD_eq_getElem?_getD, List.getElem?_eq_getElem h1, List.getD_eq_getElem?_getD, List.getElem?_eq_getElem h2] at e
  rw [List.take_add_one, List.take_add_one, h, List.getElem?_eq_getElem h1, List.getElem?_eq_getElem h2]
  simp only [Option.getD_some] at e
  rw [e]
theorem heap_keep {w w' : World} {b T : Nat} {v : Value} (h : (restC w fun _ => False).ok w') (hb : (cellC b T [v]).ok w) : (cellC b T [v]).ok w' := (h b (heap_lt hb) (fun h => h)).trans hb

set_option maxRecDepth 100000 in
set_option maxHeartbeats 400000 in
theorem valuesU_any0 (w : World) (va : Option Addr) (vn vc : Nat) :
    Calls Try.prog 36 #[(.slice va vn vc)] w fun e w' => ∃ b, e = .returned (.func (.func 59) #[] #[.pointer (some ⟨b, 0, none⟩)]) ∧ (cellC b 22 [(.slice va vn vc)]).ok w' ∧ Upd [] w w' ∧ w.heap.size ≤ b := by
  have H := Sat.start0 w
  refine calls_fr Try.func36 rfl 4 rfl (Nat.le_of_ble_eq_true rfl) ?_
  refine w_seq ?_
  refine w_lit ?_
  refine wl_do (wants0 rfl) (fun K1 hK1 => ?_)
  refine d_box (vs := ([(.slice va vn vc)] : List Value)) rfl H rfl rfl ?_
  intro b2 w3 (H4 : Sat w [restC w (fun _ => False), cellC b2 22 ([(.slice va vn vc)] : List Value)] w3)
  refine hK1 _ _ ?_
  clear hK1 K1
  refine wl_pure (wants0 rfl) (d := 2) (v := (Go.Value.nilFunc)) rfl (by kernel_rfl) ?_
  refine w_nil ?_
  refine then_normal ?_
  refine w_seq ?_
  refine w_lit ?_
  refine wl_pure (wants0 rfl) (d := 3) (v := (.func (.func 59) #[] #[(.pointer (some ⟨b2, 0, none⟩))])) rfl (by kernel_rfl) ?_
  refine wl_pure (wants0 rfl) (d := 2) (v := (.func (.func 59) #[] #[(.pointer (some ⟨b2, 0, none⟩))])) rfl (by kernel_rfl) ?_
  refine w_nil ?_
  refine then_normal ?_
  refine w_ret ?_
  refine end1 rfl (res_tmp (v := (.func (.func 59) #[] #[(.pointer (some ⟨b2, 0, none⟩))])) rfl) ?_
  exact ⟨b2, rfl, H4.at 1 rfl, H4.upd 0 rfl [] (fun _ h => h.elim), H4.fresh 0 rfl (fun _ h => h) 1 rfl rfl b2 rfl⟩
theorem valuesU_any (w : World) (v : Value) (hv : ∃ a n c, v = .slice a n c) : Calls Try.prog 36 #[v] w fun e w' => ∃ b, e = .returned (.func (.func 59) #[] #[.pointer (some ⟨b, 0, none⟩)]) ∧ (cellC b 22 [v]).ok w' ∧ Upd [] w w' ∧ w.heap.size ≤ b := by
  obtain ⟨a, n, c, rfl⟩ := hv
  exact valuesU_any0 w a n c

set_option maxRecDepth 100000 in
set_option maxHeartbeats 400000 in
theorem collectU_any (w : World) (b : Nat) (v : Value) (xs : List Int) (hb : (cellC b 22 [v]).ok w) (hv : ListAt encU 1 w v xs) (hx : xs.length ≤ 12) :
    Calls Try.prog 57 #[(.func (.func 59) #[] #[(.pointer (some ⟨b, 0, none⟩))])] w fun e w' => ∃ u, e = .returned u ∧ (rowC 23 1 u xs.length (xs.flatMap encU)).ok w' ∧ Upd [] w w' ∧ ∀ b, u.ownBlock = some b → w.heap.size ≤ b := by
  have H := Sat.start0 w
  refine calls_fr Try.func57 rfl 5 rfl (Nat.le_of_ble_eq_true rfl) ?_
  refine w_seq ?_
  refine w_lit ?_
  refine wl_pure (wants0 rfl) (d := 2) (v := (.slice none 0 0)) rfl (by kernel_rfl) ?_
  refine w_nil ?_
  refine then_normal ?_
  refine w_seq ?_
  refine w_lit ?_
  refine wl_pure (wants0 rfl) (d := 3) (v := (.func (.func 59) #[] #[(.pointer (some ⟨b, 0, none⟩))])) rfl (by kernel_rfl) ?_
  refine wl_do (wants0 rfl) (fun K1 hK1 => ?_)
  refine d_call (d := 4) rfl (by kernel_rfl) (appendSeqU_any w b v xs ((heap_keep (H.at 0 rfl) hb)) (ListAt.now H 0 rfl hv) (by omega)) ?_
  rintro _ w2 ⟨u3, rfl, k4, p5, q6⟩
  have H7 : Sat w [restC w (fun _ => False), rowC 23 1 u3 xs.length (xs.flatMap encU)] w2 := H.addU p5 k4 q6
  obtain ⟨a8, c9, rfl⟩ := ownsRow_shape (H7.at 1 rfl)
  refine ⟨_, rfl, ?_⟩
  refine hK1 _ _ ?_
  clear hK1 K1
  refine wl_pure (wants0 rfl) (d := 2) (v := (.slice a8 xs.length c9)) rfl (by kernel_rfl) ?_
  refine w_nil ?_
  refine then_normal ?_
  refine w_ret ?_
  refine end1 rfl (res_tmp (v := (.slice a8 xs.length c9)) rfl) ?_
  exact ⟨_, rfl, H7.at 1 rfl, H7.upd 0 rfl [] (fun _ h => h.elim), H7.fresh 0 rfl (fun _ h => h) 1 rfl rfl⟩

set_option maxRecDepth 100000 in
set_option maxHeartbeats 400000 in
theorem sortedU_any (w : World) (b : Nat) (v : Value) (xs : List Int) (hb : (cellC b 22 [v]).ok w) (hv : ListAt encU 1 w v xs) (hx : xs.length ≤ 12) (h0 : 0 < xs.length) :
    Calls Try.prog 35 #[(.func (.func 59) #[] #[(.pointer (some ⟨b, 0, none⟩))])] w fun e w' => ∃ u B, e = .returned u ∧ (rowC 23 1 u B.length (B.flatMap encU)).ok w' ∧ Upd [] w w' ∧ (∀ k, u.ownBlock = some k → w.heap.size ≤ k) ∧ B.Perm xs ∧ Srt ltU 0 B.length B := by
  have H := Sat.start0 w
  refine calls_fr Try.func35 rfl 9 rfl (Nat.le_of_ble_eq_true rfl) ?_
  refine w_seq ?_
  refine w_lit ?_
  refine wl_pure (wants0 rfl) (d := 2) (v := (.slice none 0 0)) rfl (by kernel_rfl) ?_
  refine w_nil ?_
  refine then_normal ?_
  refine w_seq ?_
  refine w_lit ?_
  refine wl_pure (wants0 rfl) (d := 4) (v := (.func (.func 59) #[] #[(.pointer (some ⟨b, 0, none⟩))])) rfl (by kernel_rfl) ?_
  refine wl_do (wants0 rfl) (fun K1 hK1 => ?_)
  refine d_call (d := 5) rfl (by kernel_rfl) (collectU_any w b v xs (heap_keep (H.at 0 rfl) hb) (ListAt.now H 0 rfl hv) (by omega)) ?_
  rintro _ w2 ⟨u3, rfl, k4, p5, q6⟩
  have H7 : Sat w [restC w (fun _ => False), rowC 23 1 u3 xs.length (xs.flatMap encU)] w2 := H.addU p5 k4 q6
  obtain ⟨a8, c9, rfl⟩ := ownsRow_shape (H7.at 1 rfl)
  refine ⟨_, rfl, ?_⟩
  refine hK1 _ _ ?_
  clear hK1 K1
  refine wl_pure (wants0 rfl) (d := 3) (v := (.slice a8 xs.length c9)) rfl (by kernel_rfl) ?_
  refine w_nil ?_
  refine then_normal ?_
  refine w_seq ?_
  obtain ⟨g10, c11, e12⟩ := row_shape (H7.at 1 rfl) (by omega)
  obtain rfl : a8 = some ⟨g10, 0, none⟩ := by cases e12; rfl
  have H13 : Sat w [restC w (fun _ => False), rowU g10 xs.length c9 xs] w2 := H7
  refine w_lit ?_
  refine wl_pure (wants0 rfl) (d := 6) (v := (.slice (some ⟨g10, 0, none⟩) xs.length c9)) rfl (by kernel_rfl) ?_
  refine wl_do (wants0 rfl) (fun K14 hK14 => ?_)
  refine d_call (d := 7) rfl (by kernel_rfl) (sortSU_any w2 g10 xs.length c9 xs (H13.at 1 rfl) (by omega)) ?_
  rintro _ w16 ⟨B15, rfl, l17, p18, s19, T20⟩
  have H21 : Sat w [restC w (fun _ => False), rowU g10 xs.length c9 B15] w16 := (Sat.turn1 (L' := [rowU g10 xs.length c9 B15]) (R := [restC w (fun _ => False)]) H13 1 [0] (by decide) rfl rfl T20).pick [1, 0] (by decide)
  refine ⟨_, rfl, ?_⟩
  refine hK14 _ _ ?_
  clear hK14 K14
  refine w_nil ?_
  refine then_normal ?_
  refine w_seq ?_
  refine w_lit ?_
  refine wl_pure (wants0 rfl) (d := 8) (v := (.slice (some ⟨g10, 0, none⟩) xs.length c9)) rfl (by kernel_rfl) ?_
  refine wl_pure (wants0 rfl) (d := 2) (v := (.slice (some ⟨g10, 0, none⟩) xs.length c9)) rfl (by kernel_rfl) ?_
  refine w_nil ?_
  refine then_normal ?_
  refine w_ret ?_
  refine end1 rfl (res_tmp (v := (.slice (some ⟨g10, 0, none⟩) xs.length c9)) rfl) ?_
  exact ⟨_, B15, rfl, (by have q := H21.at 1 rfl; have e : (xs.length : Nat) = B15.length := l17.symm; unfold rowU at q; rw [e] at q ⊢; exact q), H21.upd 0 rfl [] (fun _ h => h.elim), H21.fresh 0 rfl (fun _ h => h) 1 rfl rfl, p18, s19⟩

set_option maxRecDepth 100000 in
set_option maxHeartbeats 400000 in
theorem medC_any0 (w : World) (va : Option Addr) (vc : Nat) (xs : List Int) (hxs : ListAt encU 1 w (.slice va xs.length vc) xs) (hx : xs.length ≤ 12) :
    Calls Try.prog 12 #[(.slice va xs.length vc)] w fun e w' => e = .returned (.tuple #[.int .u64 (medV xs), .bool (decide (xs.length % 2 = 1))]) ∧ Upd [] w w' := by
  have H := Sat.start0 w
  refine calls_fr Try.func12 rfl 18 rfl (Nat.le_of_ble_eq_true rfl) ?_
  refine w_seq ?_
  refine w_lit ?_
  refine wl_pure (wants0 rfl) (d := 2) (v := (.int .u64 (0))) rfl (by kernel_rfl) ?_
  refine wl_pure (wants0 rfl) (d := 3) (v := (.bool false)) rfl (by kernel_rfl) ?_
  refine w_nil ?_
  refine then_normal ?_
  refine w_seq ?_
  refine w_seq ?_
  refine w_lit ?_
  refine wl_pure (wants0 rfl) (d := 5) (v := (.slice va xs.length vc)) rfl (by kernel_rfl) ?_
  refine wl_pure (wants0 rfl) (d := 6) (v := (.int .i64 ((xs.length : Int)))) rfl (by kernel_rfl) ?_
  refine wl_pure (wants0 rfl) (d := 7) (v := (.int .i64 ((xs.length : Int) % 2))) rfl (e_rem (by kernel_rfl) (by omega) (by omega)) ?_
  refine wl_pure (wants0 rfl) (d := 8) (v := (.bool (decide (((xs.length : Int) % 2) = 0)))) rfl (by kernel_rfl) ?_
  refine w_nil ?_
  refine then_normal ?_
  refine (bsplit (decide (((xs.length : Int) % 2) = 0))).elim (fun b1 => ?_) (fun b1 => ?_)
  · have g2 := of_decide_eq_true b1
    refine wp_know 8 (.bool true) (congrArg Value.bool b1) ?_
    have g3 := of_decide_eq_true b1
    refine wp_ift rfl ?_
    refine w_seq ?_
    refine w_lit ?_
    refine wl_pure (wants0 rfl) (d := 2) (v := (.int .u64 (0))) rfl (by kernel_rfl) ?_
    refine wl_pure (wants0 rfl) (d := 3) (v := (.bool false)) rfl (by kernel_rfl) ?_
    refine w_nil ?_
    refine then_normal ?_
    refine w_ret ?_
    refine then_ret ?_
    refine end2 rfl (res_tmp (v := (.int .u64 (0))) rfl) (res_tmp (v := (.bool false)) rfl) ?_
    exact ⟨by rw [medV_even (by omega), decide_eq_false (show ¬ xs.length % 2 = 1 by omega)], H.upd 0 rfl [] (fun _ h => h.elim)⟩
  · have g4 := of_decide_eq_false b1
    refine wp_know 8 (.bool false) (congrArg Value.bool b1) ?_
    have g5 := of_decide_eq_false b1
    refine wp_iff rfl ?_
    refine w_skip ?_
    refine then_normal ?_
    refine w_seq ?_
    refine w_lit ?_
    refine wl_pure (wants0 rfl) (d := 9) (v := (.slice va xs.length vc)) rfl (by kernel_rfl) ?_
    refine wl_do (wants0 rfl) (fun K6 hK6 => ?_)
    refine d_call (d := 10) rfl (by kernel_rfl) (valuesU_any w (.slice va xs.length vc) ⟨_, _, _, rfl⟩) ?_
    rintro _ w8 ⟨b7, rfl, k9, p10, q11⟩
    have H12 : Sat w [restC w (fun _ => False), cellC b7 22 ([(.slice va xs.length vc)] : List Value)] w8 := H.addU p10 k9 (fun _ h => h ▸ q11)
    refine ⟨_, rfl, ?_⟩
    refine hK6 _ _ ?_
    clear hK6 K6
    refine wl_do (wants0 rfl) (fun K13 hK13 => ?_)
    refine d_call (d := 11) rfl (by kernel_rfl) (sortedU_any w8 b7 (.slice va xs.length vc) xs (H12.at 1 rfl) (ListAt.now H12 0 rfl hxs) (by omega) (by omega)) ?_
    rintro _ w14 ⟨u15, B19, rfl, k16, p17, q18, p20, s21⟩
    have H22 : Sat w [restC w (fun _ => False), cellC b7 22 ([(.slice va xs.length vc)] : List Value), rowC 23 1 u15 B19.length (B19.flatMap encU)] w14 := H12.addU p17 k16 q18
    obtain ⟨a23, c24, rfl⟩ := ownsRow_shape (H22.at 2 rfl)
    refine ⟨_, rfl, ?_⟩
    have hlB19 : B19.length = xs.length := p20.length_eq
    refine hK13 _ _ ?_
    clear hK13 K13
    refine wl_pure (wants0 rfl) (d := 4) (v := (.slice a23 B19.length c24)) rfl (by kernel_rfl) ?_
    refine w_nil ?_
    refine then_normal ?_
    refine w_seq ?_
    refine w_lit ?_
    refine wl_pure (wants0 rfl) (d := 12) (v := (.slice a23 B19.length c24)) rfl (by kernel_rfl) ?_
    refine wl_pure (wants0 rfl) (d := 13) (v := (.slice a23 B19.length c24)) rfl (by kernel_rfl) ?_
    refine wl_pure (wants0 rfl) (d := 14) (v := (.int .i64 ((B19.length : Int)))) rfl (by kernel_rfl) ?_
    refine wl_pure (wants0 rfl) (d := 15) (v := (.int .i64 ((B19.length : Int) / 2))) rfl (e_quo (by kernel_rfl) (by omega) (by omega) (IntWalk.i64_in _ (by omega))) ?_
    obtain ⟨g25, c26, e27⟩ := row_shape (H22.at 2 rfl) (by omega)
    obtain ⟨x28, h29⟩ := get_at (show ((B19.length : Int) / 2).toNat < B19.length by omega)
    refine wl_pure (wants0 rfl) (d := 16) (v := (.pointer (some ⟨g25, 0 + ((B19.length : Int) / 2).toNat * 1, none⟩))) rfl (e_indexAddrV (E := 23) (by kernel_rfl) (by kernel_rfl) (Nat.le_of_ble_eq_true rfl) rfl e27 rfl (by omega) (by omega)) ?_
    refine wl_pure (wants0 rfl) (d := 17) (v := (.int .u64 (x28))) rfl (e_load1 rfl (by kernel_rfl) (rows_cell (H22.at 2 rfl) e27 encU_len h29 0 rfl (show 0 + ((B19.length : Int) / 2).toNat * 1 = ((B19.length : Int) / 2).toNat * 1 + 0 by omega) (by kernel_rfl))) ?_
    refine wl_pure (wants0 rfl) (d := 2) (v := (.int .u64 (x28))) rfl (by kernel_rfl) ?_
    refine wl_pure (wants0 rfl) (d := 3) (v := (.bool true)) rfl (by kernel_rfl) ?_
    refine w_nil ?_
    refine then_normal ?_
    refine w_ret ?_
    refine end2 rfl (res_tmp (v := (.int .u64 (x28))) rfl) (res_tmp (v := (.bool true)) rfl) ?_
    have hm : medV xs = x28 := (medV_perm p20).symm.trans (medV_eq (by omega) (srt_le s21 (by rw [show B19.length / 2 = ((B19.length : Int) / 2).toNat by omega]; exact h29)))
    exact ⟨by rw [hm, decide_eq_true (show xs.length % 2 = 1 by omega)], H22.upd 0 rfl [] (fun _ h => h.elim)⟩
theorem medC_any (w : World) (v : Value) (xs : List Int) (hxs : ListAt encU 1 w v xs) (hx : xs.length ≤ 12) : Calls Try.prog 12 #[v] w fun e w' => e = .returned (.tuple #[.int .u64 (medV xs), .bool (decide (xs.length % 2 = 1))]) ∧ Upd [] w w' := by
  obtain ⟨a, c, rfl⟩ := hxs.len
  exact medC_any0 w a c xs hxs hx

set_option maxRecDepth 100000 in
set_option maxHeartbeats 400000 in
theorem medR_any0 (w : World) (va : Option Addr) (vc : Nat) (xs : List Int) (hxs : ListAt encU 1 w (.slice va xs.length vc) xs) (hx : xs.length ≤ 12) :
    Calls Try.prog 16 #[(.slice va xs.length vc)] w fun e w' => e = .returned (.tuple #[.int .u64 (medV xs), .bool (decide (xs.length % 2 = 1))]) ∧ Upd [] w w' := by
  have H := Sat.start0 w
  
  refine calls_fr Try.func16 rfl 64 rfl (Nat.le_of_ble_eq_true rfl) ?_
  refine w_seq ?_
  refine w_lit ?_
  refine wl_pure (wants0 rfl) (d := 2) (v := (.int .u64 (0))) rfl (by kernel_rfl) ?_
  refine wl_pure (wants0 rfl) (d := 3) (v := (.bool false)) rfl (by kernel_rfl) ?_
  refine w_nil ?_
  refine then_normal ?_
  refine w_seq ?_
  refine w_seq ?_
  refine w_lit ?_
  refine wl_pure (wants0 rfl) (d := 8) (v := (.slice va xs.length vc)) rfl (by kernel_rfl) ?_
  refine wl_pure (wants0 rfl) (d := 9) (v := (.int .i64 ((xs.length : Int)))) rfl (by kernel_rfl) ?_
  refine wl_pure (wants0 rfl) (d := 10) (v := (.int .i64 ((xs.length : Int) % 2))) rfl (e_rem (by kernel_rfl) (by omega) (by omega)) ?_
  refine wl_pure (wants0 rfl) (d := 11) (v := (.bool (decide (((xs.length : Int) % 2) = 0)))) rfl (by kernel_rfl) ?_
  refine w_nil ?_
  refine then_normal ?_
  refine (bsplit (decide (((xs.length : Int) % 2) = 0))).elim (fun b1 => ?_) (fun b1 => ?_)
  · have g2 := of_decide_eq_true b1
    refine wp_know 11 (.bool true) (congrArg Value.bool b1) ?_
    have g3 := of_decide_eq_true b1
    refine wp_ift rfl ?_
    refine w_seq ?_
    refine w_lit ?_
    refine wl_pure (wants0 rfl) (d := 2) (v := (.int .u64 (0))) rfl (by kernel_rfl) ?_
    refine wl_pure (wants0 rfl) (d := 3) (v := (.bool false)) rfl (by kernel_rfl) ?_
    refine w_nil ?_
    refine then_normal ?_
    refine w_ret ?_
    refine then_ret ?_
    refine end2 rfl (res_tmp (v := (.int .u64 (0))) rfl) (res_tmp (v := (.bool false)) rfl) ?_
    exact ⟨by rw [medV_even (by omega), decide_eq_false (show ¬ xs.length % 2 = 1 by omega)], H.upd 0 rfl [] (fun _ h => h.elim)⟩
  · have g4 := of_decide_eq_false b1
    refine wp_know 11 (.bool false) (congrArg Value.bool b1) ?_
    have g5 := of_decide_eq_false b1
    refine wp_iff rfl ?_
    refine w_skip ?_
    refine then_normal ?_
    refine w_seq ?_
    refine w_seq ?_
    refine w_lit ?_
    refine wl_pure (wants0 rfl) (d := 12) (v := (.slice va xs.length vc)) rfl (by kernel_rfl) ?_
    refine wl_pure (wants0 rfl) (d := 13) (v := (.int .i64 ((xs.length : Int)))) rfl (by kernel_rfl) ?_
    refine wl_pure (wants0 rfl) (d := 14) (v := (.int .i64 (0))) rfl (by kernel_rfl) ?_
    refine w_nil ?_
    refine then_normal ?_
    refine w_block ?_
    refine wp_round [2, 3, 4, 5, 6, 7, 14, 15, 16, 17, 18, 19, 20, 21, 22, 23, 24, 25, 26, 27, 28, 29, 30, 31, 32, 33, 34, 35, 36, 37, 38, 39, 40, 41, 42, 43, 44, 45, 46, 47, 48, 49, 50, 51, 52, 53, 54, 55, 56, 57, 58, 59, 60, 61, 62, 63] (fun F_ W_ m_ => ∃ (i : Nat), F_ 14 = (.int .i64 ((i : Int))) ∧ (i ≤ xs.length) ∧ (∀ j, j < i → NotMed xs j) ∧ Sat w [restC w (fun _ => False)] W_ ∧ m_ = xs.length + 1 - i) _ ⟨0, (show ((.int .i64 (0)) : Value) = _ by first | rfl | go_num), by omega, by intro j hj; omega, H, rfl⟩ ?_
    rintro g6 w7 _ ⟨i, v9, hi, hno, H8, rfl⟩
    refine wp_know 14 _ v9 ?_
    refine w_seq ?_
    refine w_lit ?_
    refine wl_pure (wants0 rfl) (d := 15) (v := (.bool (decide ((i : Int) < (xs.length : Int))))) rfl (by kernel_rfl) ?_
    refine w_nil ?_
    refine then_normal ?_
    refine w_seq ?_
    refine (bsplit (decide ((i : Int) < (xs.length : Int)))).elim (fun b11 => ?_) (fun b11 => ?_)
    · have g12 := of_decide_eq_true b11
      refine wp_know 15 (.bool true) (congrArg Value.bool b11) ?_
      have g13 := of_decide_eq_true b11
      refine wp_ift rfl ?_
      refine w_skip ?_
      refine then_normal ?_
      refine w_seq ?_
      refine w_block ?_
      refine w_seq ?_
      refine w_lit ?_
      refine wl_pure (wants0 rfl) (d := 16) (v := (.int .i64 ((i : Int)))) rfl (by kernel_rfl) ?_
      refine wl_pure (wants0 rfl) (d := 4) (v := (.int .i64 ((i : Int)))) rfl (by kernel_rfl) ?_
      refine w_nil ?_
      refine then_normal ?_
      refine w_seq ?_
      refine w_lit ?_
      refine wl_pure (wants0 rfl) (d := 5) (v := (.int .i64 (0))) rfl (by kernel_rfl) ?_
      refine wl_pure (wants0 rfl) (d := 6) (v := (.int .i64 (0))) rfl (by kernel_rfl) ?_
      refine w_nil ?_
      refine then_normal ?_
      refine w_seq ?_
      refine w_seq ?_
      refine w_lit ?_
      refine wl_pure (wants0 rfl) (d := 17) (v := (.slice va xs.length vc)) rfl (by kernel_rfl) ?_
      refine wl_pure (wants0 rfl) (d := 18) (v := (.int .i64 ((xs.length : Int)))) rfl (by kernel_rfl) ?_
      refine wl_pure (wants0 rfl) (d := 19) (v := (.int .i64 (0))) rfl (by kernel_rfl) ?_
      refine w_nil ?_
      refine then_normal ?_
      refine w_block ?_
      refine wp_round [5, 6, 7, 19, 20, 21, 22, 23, 24, 25, 26, 27, 28, 29, 30, 31, 32, 33, 34, 35, 36, 37, 38, 39, 40, 41, 42, 43, 44] (fun F_ W_ m_ => ∃ (k : Nat), F_ 19 = (.int .i64 ((k : Int))) ∧ F_ 5 = (.int .i64 ((((xs.take k).countP (fun x => decide (x < xs.getD i 0)) : Nat) : Int))) ∧ F_ 6 = (.int .i64 ((((xs.take k).countP (fun x => decide (x = xs.getD i 0)) : Nat) : Int))) ∧ (k ≤ xs.length) ∧ Sat w [restC w (fun _ => False)] W_ ∧ m_ = xs.length + 1 - k) _ ⟨0, (show ((.int .i64 (0)) : Value) = _ by first | rfl | go_num), (show ((.int .i64 (0)) : Value) = _ by first | rfl | go_num), (show ((.int .i64 (0)) : Value) = _ by first | rfl | go_num), by omega, H8, rfl⟩ ?_
      rintro g14 w15 _ ⟨k, v17, v18, v19, hk, H16, rfl⟩
      refine wp_know 19 _ v17 ?_
      refine wp_know 5 _ v18 ?_
      refine wp_know 6 _ v19 ?_
      refine w_seq ?_
      refine w_lit ?_
      refine wl_pure (wants0 rfl) (d := 20) (v := (.bool (decide ((k : Int) < (xs.length : Int))))) rfl (by kernel_rfl) ?_
      refine w_nil ?_
      refine then_normal ?_
      refine w_seq ?_
      refine (bsplit (decide ((k : Int) < (xs.length : Int)))).elim (fun b21 => ?_) (fun b21 => ?_)
      · have g22 := of_decide_eq_true b21
        refine wp_know 20 (.bool true) (congrArg Value.bool b21) ?_
        have g23 := of_decide_eq_true b21
        refine wp_ift rfl ?_
        refine w_skip ?_
        refine then_normal ?_
        refine w_seq ?_
        refine w_block ?_
        refine w_seq ?_
        refine w_lit ?_
        refine wl_pure (wants0 rfl) (d := 21) (v := (.int .i64 ((k : Int)))) rfl (by kernel_rfl) ?_
        refine wl_pure (wants0 rfl) (d := 7) (v := (.int .i64 ((k : Int)))) rfl (by kernel_rfl) ?_
        refine w_nil ?_
        refine then_normal ?_
        refine w_seq ?_
        refine w_seq ?_
        refine q_start H16 (by kernel_rfl) (by kernel_rfl) ?_
        refine q_val (wants0 rfl) (d := 22) (v := (.slice va xs.length vc)) rfl (fun _ H' => (by kernel_rfl)) ?_
        refine q_val (wants0 rfl) (d := 23) (v := (.int .i64 ((k : Int)))) rfl (fun _ H' => (by kernel_rfl)) ?_
        obtain ⟨g24, o25, c26, e27, R28⟩ := SliceOf.atD hxs 0 (show k < xs.length by omega)
        refine q_val (wants0 rfl) (d := 24) (v := (.pointer (some ⟨g24, o25 + ((k : Int)).toNat * 1, none⟩))) rfl (fun _ H' => (e_indexAddrW (E := 23) (by kernel_rfl) (by kernel_rfl) (Nat.le_of_ble_eq_true rfl) rfl e27 rfl (by omega) (by omega))) ?_
        refine q_val (wants0 rfl) (d := 25) (v := (.int .u64 ((xs.getD k 0)))) rfl (fun _ H' => (e_load1 rfl (by kernel_rfl) (H'.cellR 0 rfl (cells_at R28 0 (by kernel_rfl) (show o25 + ((k : Int)).toNat * 1 = o25 + k * 1 + 0 by omega)) (fun h => h)))) ?_
        refine q_val (wants0 rfl) (d := 26) (v := (.slice va xs.length vc)) rfl (fun _ H' => (by kernel_rfl)) ?_
        refine q_val (wants0 rfl) (d := 27) (v := (.int .i64 ((i : Int)))) rfl (fun _ H' => (by kernel_rfl)) ?_
        obtain ⟨g29, o30, c31, e32, R33⟩ := SliceOf.atD hxs 0 (show i < xs.length by omega)
        refine q_val (wants0 rfl) (d := 28) (v := (.pointer (some ⟨g29, o30 + ((i : Int)).toNat * 1, none⟩))) rfl (fun _ H' => (e_indexAddrW (E := 23) (by kernel_rfl) (by kernel_rfl) (Nat.le_of_ble_eq_true rfl) rfl e32 rfl (by omega) (by omega))) ?_
        refine q_val (wants0 rfl) (d := 29) (v := (.int .u64 ((xs.getD i 0)))) rfl (fun _ H' => (e_load1 rfl (by kernel_rfl) (H'.cellR 0 rfl (cells_at R33 0 (by kernel_rfl) (show o30 + ((i : Int)).toNat * 1 = o30 + i * 1 + 0 by omega)) (fun h => h)))) ?_
        refine q_val (wants0 rfl) (d := 30) (v := (.bool (decide ((xs.getD k 0) < (xs.getD i 0))))) rfl (fun _ H' => (by kernel_rfl)) ?_
        refine q_end ?_
        intro w34 H35
        refine then_normal ?_
        refine (bsplit (decide ((xs.getD k 0) < (xs.getD i 0)))).elim (fun b36 => ?_) (fun b36 => ?_)
        · have g37 := of_decide_eq_true b36
          refine wp_know 30 (.bool true) (congrArg Value.bool b36) ?_
          have g38 := of_decide_eq_true b36
          refine wp_ift rfl ?_
          refine w_lit ?_
          refine wl_pure (wants0 rfl) (d := 31) (v := (.int .i64 ((((xs.take k).countP (fun x => decide (x < xs.getD i 0)) : Nat) : Int)))) rfl (by kernel_rfl) ?_
          refine wl_pure (wants0 rfl) (d := 32) (v := (.int .i64 ((((xs.take k).countP (fun x => decide (x < xs.getD i 0)) : Nat) : Int) + 1))) rfl (e_int (z := (((xs.take k).countP (fun x => decide (x < xs.getD i 0)) : Nat) : Int) + 1) (by kernel_rfl) (IntWalk.i64_in _ (by have q1 := cnt_take_le (fun x => decide (x < xs.getD i 0)) xs k; have q2 := cnt_take_le (fun x => decide (x = xs.getD i 0)) xs k; omega))) ?_
          refine wl_pure (wants0 rfl) (d := 5) (v := (.int .i64 ((((xs.take k).countP (fun x => decide (x < xs.getD i 0)) : Nat) : Int) + 1))) rfl (by kernel_rfl) ?_
          refine w_nil ?_
          refine then_normal ?_
          refine w_seq ?_
          refine q_start H35 (by kernel_rfl) (by kernel_rfl) ?_
          refine q_val (wants0 rfl) (d := 33) (v := (.slice va xs.length vc)) rfl (fun _ H' => (by kernel_rfl)) ?_
          refine q_val (wants0 rfl) (d := 34) (v := (.int .i64 ((k : Int)))) rfl (fun _ H' => (by kernel_rfl)) ?_
          refine q_val (wants0 rfl) (d := 35) (v := (.pointer (some ⟨g24, o25 + ((k : Int)).toNat * 1, none⟩))) rfl (fun _ H' => (e_indexAddrW (E := 23) (by kernel_rfl) (by kernel_rfl) (Nat.le_of_ble_eq_true rfl) rfl e27 rfl (by omega) (by omega))) ?_
          refine q_val (wants0 rfl) (d := 36) (v := (.int .u64 ((xs.getD k 0)))) rfl (fun _ H' => (e_load1 rfl (by kernel_rfl) (H'.cellR 0 rfl (cells_at R28 0 (by kernel_rfl) (show o25 + ((k : Int)).toNat * 1 = o25 + k * 1 + 0 by omega)) (fun h => h)))) ?_
          refine q_val (wants0 rfl) (d := 37) (v := (.slice va xs.length vc)) rfl (fun _ H' => (by kernel_rfl)) ?_
          refine q_val (wants0 rfl) (d := 38) (v := (.int .i64 ((i : Int)))) rfl (fun _ H' => (by kernel_rfl)) ?_
          refine q_val (wants0 rfl) (d := 39) (v := (.pointer (some ⟨g29, o30 + ((i : Int)).toNat * 1, none⟩))) rfl (fun _ H' => (e_indexAddrW (E := 23) (by kernel_rfl) (by kernel_rfl) (Nat.le_of_ble_eq_true rfl) rfl e32 rfl (by omega) (by omega))) ?_
          refine q_val (wants0 rfl) (d := 40) (v := (.int .u64 ((xs.getD i 0)))) rfl (fun _ H' => (e_load1 rfl (by kernel_rfl) (H'.cellR 0 rfl (cells_at R33 0 (by kernel_rfl) (show o30 + ((i : Int)).toNat * 1 = o30 + i * 1 + 0 by omega)) (fun h => h)))) ?_
          refine q_val (wants0 rfl) (d := 41) (v := (.bool (decide ((xs.getD k 0) = (xs.getD i 0))))) rfl (fun _ H' => (by kernel_rfl)) ?_
          refine q_end ?_
          intro w39 H40
          refine then_normal ?_
          refine (bsplit (decide ((xs.getD k 0) = (xs.getD i 0)))).elim (fun b41 => ?_) (fun b41 => ?_)
          · have g42 := of_decide_eq_true b41
            refine wp_know 41 (.bool true) (congrArg Value.bool b41) ?_
            have g43 := of_decide_eq_true b41
            refine wp_ift rfl ?_
            refine w_lit ?_
            refine wl_pure (wants0 rfl) (d := 42) (v := (.int .i64 ((((xs.take k).countP (fun x => decide (x = xs.getD i 0)) : Nat) : Int)))) rfl (by kernel_rfl) ?_
            refine wl_pure (wants0 rfl) (d := 43) (v := (.int .i64 ((((xs.take k).countP (fun x => decide (x = xs.getD i 0)) : Nat) : Int) + 1))) rfl (e_int (z := (((xs.take k).countP (fun x => decide (x = xs.getD i 0)) : Nat) : Int) + 1) (by kernel_rfl) (IntWalk.i64_in _ (by have q1 := cnt_take_le (fun x => decide (x < xs.getD i 0)) xs k; have q2 := cnt_take_le (fun x => decide (x = xs.getD i 0)) xs k; omega))) ?_
            refine wl_pure (wants0 rfl) (d := 6) (v := (.int .i64 ((((xs.take k).countP (fun x => decide (x = xs.getD i 0)) : Nat) : Int) + 1))) rfl (by kernel_rfl) ?_
            refine w_nil ?_
            refine blk_normal ?_
            refine then_normal ?_
            refine w_lit ?_
            refine wl_pure (wants0 rfl) (d := 44) (v := (.int .i64 ((k : Int) + 1))) rfl (e_int (z := (k : Int) + 1) (by kernel_rfl) (IntWalk.i64_in _ (by have q1 := cnt_take_le (fun x => decide (x < xs.getD i 0)) xs k; have q2 := cnt_take_le (fun x => decide (x = xs.getD i 0)) xs k; omega))) ?_
            refine wl_pure (wants0 rfl) (d := 19) (v := (.int .i64 ((k : Int) + 1))) rfl (by kernel_rfl) ?_
            refine w_nil ?_
            refine round_back ?_ _ ⟨(k + 1), (show ((.int .i64 ((k : Int) + 1)) : Value) = _ by first | rfl | go_num), (show ((.int .i64 ((((xs.take k).countP (fun x => decide (x < xs.getD i 0)) : Nat) : Int) + 1)) : Value) = _ by have q := take_cnt (fun x => decide (x < xs.getD i 0)) xs k (by omega); simp only [b36, if_true] at q; first | (rw [q]; rfl) | (rw [q]; go_num)), (show ((.int .i64 ((((xs.take k).countP (fun x => decide (x = xs.getD i 0)) : Nat) : Int) + 1)) : Value) = _ by have q := take_cnt (fun x => decide (x = xs.getD i 0)) xs k (by omega); simp only [b41, if_true] at q; first | (rw [q]; rfl) | (rw [q]; go_num)), by omega, H40, rfl⟩ (by omega)
            exact (same_upd rfl (same_upd rfl (same_upd rfl (same_upd rfl (same_upd rfl (same_upd rfl (same_upd rfl (same_upd rfl (same_upd rfl (same_upd rfl (same_upd rfl (same_upd rfl (same_upd rfl (same_upd rfl (same_upd rfl (same_upd rfl (same_upd rfl (same_upd rfl (same_upd rfl (same_upd rfl (same_upd rfl (same_upd rfl (same_upd rfl (same_upd rfl (same_upd rfl (same_upd rfl (same_upd rfl (same_upd rfl (same_upd rfl (same_upd rfl (same_upd rfl (same_upd rfl (same_upd rfl (same_upd rfl (same_upd rfl (same_ovr))))))))))))))))))))))))))))))))))))
          · have g44 := of_decide_eq_false b41
            refine wp_know 41 (.bool false) (congrArg Value.bool b41) ?_
            have g45 := of_decide_eq_false b41
            refine wp_iff rfl ?_
            refine w_skip ?_
            refine blk_normal ?_
            refine then_normal ?_
            refine w_lit ?_
            refine wl_pure (wants0 rfl) (d := 44) (v := (.int .i64 ((k : Int) + 1))) rfl (e_int (z := (k : Int) + 1) (by kernel_rfl) (IntWalk.i64_in _ (by have q1 := cnt_take_le (fun x => decide (x < xs.getD i 0)) xs k; have q2 := cnt_take_le (fun x => decide (x = xs.getD i 0)) xs k; omega))) ?_
            refine wl_pure (wants0 rfl) (d := 19) (v := (.int .i64 ((k : Int) + 1))) rfl (by kernel_rfl) ?_
            refine w_nil ?_
            refine round_back ?_ _ ⟨(k + 1), (show ((.int .i64 ((k : Int) + 1)) : Value) = _ by first | rfl | go_num), (show ((.int .i64 ((((xs.take k).countP (fun x => decide (x < xs.getD i 0)) : Nat) : Int) + 1)) : Value) = _ by have q := take_cnt (fun x => decide (x < xs.getD i 0)) xs k (by omega); simp only [b36, if_true] at q; first | (rw [q]; rfl) | (rw [q]; go_num)), (show ((.int .i64 ((((xs.take k).countP (fun x => decide (x = xs.getD i 0)) : Nat) : Int))) : Value) = _ by have q := take_cnt (fun x => decide (x = xs.getD i 0)) xs k (by omega); simp only [b41, if_false, Bool.false_eq_true] at q; first | (rw [q]; rfl) | (rw [q]; go_num)), by omega, H40, rfl⟩ (by omega)
            exact (same_upd rfl (same_upd rfl (same_upd rfl (same_upd rfl (same_upd rfl (same_upd rfl (same_upd rfl (same_upd rfl (same_upd rfl (same_upd rfl (same_upd rfl (same_upd rfl (same_upd rfl (same_upd rfl (same_upd rfl (same_upd rfl (same_upd rfl (same_upd rfl (same_upd rfl (same_upd rfl (same_upd rfl (same_upd rfl (same_upd rfl (same_upd rfl (same_upd rfl (same_upd rfl (same_upd rfl (same_upd rfl (same_upd rfl (same_upd rfl (same_upd rfl (same_upd rfl (same_ovr)))))))))))))))))))))))))))))))))
        · have g46 := of_decide_eq_false b36
          refine wp_know 30 (.bool false) (congrArg Value.bool b36) ?_
          have g47 := of_decide_eq_false b36
          refine wp_iff rfl ?_
          refine w_skip ?_
          refine then_normal ?_
          refine w_seq ?_
          refine q_start H35 (by kernel_rfl) (by kernel_rfl) ?_
          refine q_val (wants0 rfl) (d := 33) (v := (.slice va xs.length vc)) rfl (fun _ H' => (by kernel_rfl)) ?_
          refine q_val (wants0 rfl) (d := 34) (v := (.int .i64 ((k : Int)))) rfl (fun _ H' => (by kernel_rfl)) ?_
          refine q_val (wants0 rfl) (d := 35) (v := (.pointer (some ⟨g24, o25 + ((k : Int)).toNat * 1, none⟩))) rfl (fun _ H' => (e_indexAddrW (E := 23) (by kernel_rfl) (by kernel_rfl) (Nat.le_of_ble_eq_true rfl) rfl e27 rfl (by omega) (by omega))) ?_
          refine q_val (wants0 rfl) (d := 36) (v := (.int .u64 ((xs.getD k 0)))) rfl (fun _ H' => (e_load1 rfl (by kernel_rfl) (H'.cellR 0 rfl (cells_at R28 0 (by kernel_rfl) (show o25 + ((k : Int)).toNat * 1 = o25 + k * 1 + 0 by omega)) (fun h => h)))) ?_
          refine q_val (wants0 rfl) (d := 37) (v := (.slice va xs.length vc)) rfl (fun _ H' => (by kernel_rfl)) ?_
          refine q_val (wants0 rfl) (d := 38) (v := (.int .i64 ((i : Int)))) rfl (fun _ H' => (by kernel_rfl)) ?_
          refine q_val (wants0 rfl) (d := 39) (v := (.pointer (some ⟨g29, o30 + ((i : Int)).toNat * 1, none⟩))) rfl (fun _ H' => (e_indexAddrW (E := 23) (by kernel_rfl) (by kernel_rfl) (Nat.le_of_ble_eq_true rfl) rfl e32 rfl (by omega) (by omega))) ?_
          refine q_val (wants0 rfl) (d := 40) (v := (.int .u64 ((xs.getD i 0)))) rfl (fun _ H' => (e_load1 rfl (by kernel_rfl) (H'.cellR 0 rfl (cells_at R33 0 (by kernel_rfl) (show o30 + ((i : Int)).toNat * 1 = o30 + i * 1 + 0 by omega)) (fun h => h)))) ?_
          refine q_val (wants0 rfl) (d := 41) (v := (.bool (decide ((xs.getD k 0) = (xs.getD i 0))))) rfl (fun _ H' => (by kernel_rfl)) ?_
          refine q_end ?_
          intro w48 H49
          refine then_normal ?_
          refine (bsplit (decide ((xs.getD k 0) = (xs.getD i 0)))).elim (fun b50 => ?_) (fun b50 => ?_)
          · have g51 := of_decide_eq_true b50
            refine wp_know 41 (.bool true) (congrArg Value.bool b50) ?_
            have g52 := of_decide_eq_true b50
            refine wp_ift rfl ?_
            refine w_lit ?_
            refine wl_pure (wants0 rfl) (d := 42) (v := (.int .i64 ((((xs.take k).countP (fun x => decide (x = xs.getD i 0)) : Nat) : Int)))) rfl (by kernel_rfl) ?_
            refine wl_pure (wants0 rfl) (d := 43) (v := (.int .i64 ((((xs.take k).countP (fun x => decide (x = xs.getD i 0)) : Nat) : Int) + 1))) rfl (e_int (z := (((xs.take k).countP (fun x => decide (x = xs.getD i 0)) : Nat) : Int) + 1) (by kernel_rfl) (IntWalk.i64_in _ (by have q1 := cnt_take_le (fun x => decide (x < xs.getD i 0)) xs k; have q2 := cnt_take_le (fun x => decide (x = xs.getD i 0)) xs k; omega))) ?_
            refine wl_pure (wants0 rfl) (d := 6) (v := (.int .i64 ((((xs.take k).countP (fun x => decide (x = xs.getD i 0)) : Nat) : Int) + 1))) rfl (by kernel_rfl) ?_
            refine w_nil ?_
            refine blk_normal ?_
            refine then_normal ?_
            refine w_lit ?_
            refine wl_pure (wants0 rfl) (d := 44) (v := (.int .i64 ((k : Int) + 1))) rfl (e_int (z := (k : Int) + 1) (by kernel_rfl) (IntWalk.i64_in _ (by have q1 := cnt_take_le (fun x => decide (x < xs.getD i 0)) xs k; have q2 := cnt_take_le (fun x => decide (x = xs.getD i 0)) xs k; omega))) ?_
            refine wl_pure (wants0 rfl) (d := 19) (v := (.int .i64 ((k : Int) + 1))) rfl (by kernel_rfl) ?_
            refine w_nil ?_
            refine round_back ?_ _ ⟨(k + 1), (show ((.int .i64 ((k : Int) + 1)) : Value) = _ by first | rfl | go_num), (show ((.int .i64 ((((xs.take k).countP (fun x => decide (x < xs.getD i 0)) : Nat) : Int))) : Value) = _ by have q := take_cnt (fun x => decide (x < xs.getD i 0)) xs k (by omega); simp only [b36, if_false, Bool.false_eq_true] at q; first | (rw [q]; rfl) | (rw [q]; go_num)), (show ((.int .i64 ((((xs.take k).countP (fun x => decide (x = xs.getD i 0)) : Nat) : Int) + 1)) : Value) = _ by have q := take_cnt (fun x => decide (x = xs.getD i 0)) xs k (by omega); simp only [b50, if_true] at q; first | (rw [q]; rfl) | (rw [q]; go_num)), by omega, H49, rfl⟩ (by omega)
            exact (same_upd rfl (same_upd rfl (same_upd rfl (same_upd rfl (same_upd rfl (same_upd rfl (same_upd rfl (same_upd rfl (same_upd rfl (same_upd rfl (same_upd rfl (same_upd rfl (same_upd rfl (same_upd rfl (same_upd rfl (same_upd rfl (same_upd rfl (same_upd rfl (same_upd rfl (same_upd rfl (same_upd rfl (same_upd rfl (same_upd rfl (same_upd rfl (same_upd rfl (same_upd rfl (same_upd rfl (same_upd rfl (same_upd rfl (same_upd rfl (same_upd rfl (same_upd rfl (same_ovr)))))))))))))))))))))))))))))))))
          · have g53 := of_decide_eq_false b50
            refine wp_know 41 (.bool false) (congrArg Value.bool b50) ?_
            have g54 := of_decide_eq_false b50
            refine wp_iff rfl ?_
            refine w_skip ?_
            refine blk_normal ?_
            refine then_normal ?_
            refine w_lit ?_
            refine wl_pure (wants0 rfl) (d := 44) (v := (.int .i64 ((k : Int) + 1))) rfl (e_int (z := (k : Int) + 1) (by kernel_rfl) (IntWalk.i64_in _ (by have q1 := cnt_take_le (fun x => decide (x < xs.getD i 0)) xs k; have q2 := cnt_take_le (fun x => decide (x = xs.getD i 0)) xs k; omega))) ?_
            refine wl_pure (wants0 rfl) (d := 19) (v := (.int .i64 ((k : Int) + 1))) rfl (by kernel_rfl) ?_
            refine w_nil ?_
            refine round_back ?_ _ ⟨(k + 1), (show ((.int .i64 ((k : Int) + 1)) : Value) = _ by first | rfl | go_num), (show ((.int .i64 ((((xs.take k).countP (fun x => decide (x < xs.getD i 0)) : Nat) : Int))) : Value) = _ by have q := take_cnt (fun x => decide (x < xs.getD i 0)) xs k (by omega); simp only [b36, if_false, Bool.false_eq_true] at q; first | (rw [q]; rfl) | (rw [q]; go_num)), (show ((.int .i64 ((((xs.take k).countP (fun x => decide (x = xs.getD i 0)) : Nat) : Int))) : Value) = _ by have q := take_cnt (fun x => decide (x = xs.getD i 0)) xs k (by omega); simp only [b50, if_false, Bool.false_eq_true] at q; first | (rw [q]; rfl) | (rw [q]; go_num)), by omega, H49, rfl⟩ (by omega)
            exact (same_upd rfl (same_upd rfl (same_upd rfl (same_upd rfl (same_upd rfl (same_upd rfl (same_upd rfl (same_upd rfl (same_upd rfl (same_upd rfl (same_upd rfl (same_upd rfl (same_upd rfl (same_upd rfl (same_upd rfl (same_upd rfl (same_upd rfl (same_upd rfl (same_upd rfl (same_upd rfl (same_upd rfl (same_upd rfl (same_upd rfl (same_upd rfl (same_upd rfl (same_upd rfl (same_upd rfl (same_upd rfl (same_upd rfl (same_ovr))))))))))))))))))))))))))))))
      · have g55 := of_decide_eq_false b21
        refine wp_know 20 (.bool false) (congrArg Value.bool b21) ?_
        have g56 := of_decide_eq_false b21
        refine wp_iff rfl ?_
        refine w_exit ?_
        refine then_exit ?_
        refine back_exit ?_
        refine blk_hit ?_
        refine then_normal ?_
        refine w_seq ?_
        have e5 : xs.take k = xs := List.take_of_length_le (by omega)
        have c1 := cLt_le xs (xs.getD i 0)
        have c2 := cEq_le xs (xs.getD i 0)
        refine wp_know 5 (.int .i64 (((cLt xs (xs.getD i 0) : Nat) : Int))) (show ((.int .i64 ((((xs.take k).countP (fun x => decide (x < xs.getD i 0)) : Nat) : Int))) : Value) = _ by rw [e5]; rfl) ?_
        refine wp_know 6 (.int .i64 (((cEq xs (xs.getD i 0) : Nat) : Int))) (show ((.int .i64 ((((xs.take k).countP (fun x => decide (x = xs.getD i 0)) : Nat) : Int))) : Value) = _ by rw [e5]; rfl) ?_
        refine w_lit ?_
        refine wl_pure (wants0 rfl) (d := 45) (v := (.int .i64 (((cLt xs (xs.getD i 0) : Nat) : Int)))) rfl (by kernel_rfl) ?_
        refine wl_pure (wants0 rfl) (d := 46) (v := (.slice va xs.length vc)) rfl (by kernel_rfl) ?_
        refine wl_pure (wants0 rfl) (d := 47) (v := (.int .i64 ((xs.length : Int)))) rfl (by kernel_rfl) ?_
        refine wl_pure (wants0 rfl) (d := 48) (v := (.int .i64 ((xs.length : Int) / 2))) rfl (e_quo (by kernel_rfl) (by omega) (by omega) (IntWalk.i64_in _ (by omega))) ?_
        refine wl_pure (wants0 rfl) (d := 49) (v := (.bool (decide (((cLt xs (xs.getD i 0) : Nat) : Int) ≤ ((xs.length : Int) / 2))))) rfl (by kernel_rfl) ?_
        refine wl_pure (wants0 rfl) (d := 50) (v := (.bool (decide (((cLt xs (xs.getD i 0) : Nat) : Int) ≤ ((xs.length : Int) / 2))))) rfl (by kernel_rfl) ?_
        refine (bsplit (decide (((cLt xs (xs.getD i 0) : Nat) : Int) ≤ ((xs.length : Int) / 2)))).elim (fun b57 => ?_) (fun b57 => ?_)
        · have g58 := of_decide_eq_true b57
          refine wl_know 50 (.bool true) (congrArg Value.bool b57) ?_
          have g59 := of_decide_eq_true b57
          refine wl_pure (wantsY 5 50 true rfl (by kernel_rfl) rfl (by kernel_rfl)) (d := 51) (v := (.slice va xs.length vc)) rfl (by kernel_rfl) ?_
          refine wl_pure (wantsY 5 50 true rfl (by kernel_rfl) rfl (by kernel_rfl)) (d := 52) (v := (.int .i64 ((xs.length : Int)))) rfl (by kernel_rfl) ?_
          refine wl_pure (wantsY 5 50 true rfl (by kernel_rfl) rfl (by kernel_rfl)) (d := 53) (v := (.int .i64 ((xs.length : Int) / 2))) rfl (e_quo (by kernel_rfl) (by omega) (by omega) (IntWalk.i64_in _ (by omega))) ?_
          refine wl_pure (wantsY 5 50 true rfl (by kernel_rfl) rfl (by kernel_rfl)) (d := 54) (v := (.int .i64 (((cLt xs (xs.getD i 0) : Nat) : Int)))) rfl (by kernel_rfl) ?_
          refine wl_pure (wantsY 5 50 true rfl (by kernel_rfl) rfl (by kernel_rfl)) (d := 55) (v := (.int .i64 (((cEq xs (xs.getD i 0) : Nat) : Int)))) rfl (by kernel_rfl) ?_
          refine wl_pure (wantsY 5 50 true rfl (by kernel_rfl) rfl (by kernel_rfl)) (d := 56) (v := (.int .i64 (((cLt xs (xs.getD i 0) : Nat) : Int) + ((cEq xs (xs.getD i 0) : Nat) : Int)))) rfl (e_int (z := ((cLt xs (xs.getD i 0) : Nat) : Int) + ((cEq xs (xs.getD i 0) : Nat) : Int)) (by kernel_rfl) (IntWalk.i64_in _ (by omega))) ?_
          refine wl_pure (wantsY 5 50 true rfl (by kernel_rfl) rfl (by kernel_rfl)) (d := 57) (v := (.bool (decide (((xs.length : Int) / 2) < (((cLt xs (xs.getD i 0) : Nat) : Int) + ((cEq xs (xs.getD i 0) : Nat) : Int)))))) rfl (by kernel_rfl) ?_
          refine wl_pure (wants0 rfl) (d := 58) (v := (.bool (decide (((xs.length : Int) / 2) < (((cLt xs (xs.getD i 0) : Nat) : Int) + ((cEq xs (xs.getD i 0) : Nat) : Int)))))) rfl (by kernel_rfl) ?_
          refine w_nil ?_
          refine then_normal ?_
          refine (bsplit (decide (((xs.length : Int) / 2) < (((cLt xs (xs.getD i 0) : Nat) : Int) + ((cEq xs (xs.getD i 0) : Nat) : Int))))).elim (fun b60 => ?_) (fun b60 => ?_)
          · have g61 := of_decide_eq_true b60
            refine wp_know 58 (.bool true) (congrArg Value.bool b60) ?_
            have g62 := of_decide_eq_true b60
            refine wp_ift rfl ?_
            refine w_seq ?_
            refine w_lit ?_
            refine wl_pure (wants0 rfl) (d := 59) (v := (.slice va xs.length vc)) rfl (by kernel_rfl) ?_
            refine wl_pure (wants0 rfl) (d := 60) (v := (.int .i64 ((i : Int)))) rfl (by kernel_rfl) ?_
            obtain ⟨g63, o64, c65, e66, R67⟩ := SliceOf.atD hxs 0 (show i < xs.length by omega)
            refine wl_pure (wants0 rfl) (d := 61) (v := (.pointer (some ⟨g63, o64 + ((i : Int)).toNat * 1, none⟩))) rfl (e_indexAddrW (E := 23) (by kernel_rfl) (by kernel_rfl) (Nat.le_of_ble_eq_true rfl) rfl e66 rfl (by omega) (by omega)) ?_
            refine wl_pure (wants0 rfl) (d := 62) (v := (.int .u64 ((xs.getD i 0)))) rfl (e_load1 rfl (by kernel_rfl) (H16.cellR 0 rfl (cells_at R67 0 (by kernel_rfl) (show o64 + ((i : Int)).toNat * 1 = o64 + i * 1 + 0 by omega)) (fun h => h))) ?_
            refine wl_pure (wants0 rfl) (d := 2) (v := (.int .u64 ((xs.getD i 0)))) rfl (by kernel_rfl) ?_
            refine wl_pure (wants0 rfl) (d := 3) (v := (.bool true)) rfl (by kernel_rfl) ?_
            refine w_nil ?_
            refine then_normal ?_
            refine w_ret ?_
            refine blk_ret ?_
            refine then_ret ?_
            refine back_ret ?_
            refine blk_ret ?_
            refine then_ret ?_
            refine end2 rfl (res_tmp (v := (.int .u64 ((xs.getD i 0)))) rfl) (res_tmp (v := (.bool true)) rfl) ?_
            simp only [decide_eq_true_eq] at *
            exact ⟨by rw [medV_at (j := i) (by omega) (by omega) (by omega) (by omega), decide_eq_true (show xs.length % 2 = 1 by omega)], H16.upd 0 rfl [] (fun _ h => h.elim)⟩
          · have g68 := of_decide_eq_false b60
            refine wp_know 58 (.bool false) (congrArg Value.bool b60) ?_
            have g69 := of_decide_eq_false b60
            refine wp_iff rfl ?_
            refine w_skip ?_
            refine blk_normal ?_
            refine then_normal ?_
            refine w_lit ?_
            refine wl_pure (wants0 rfl) (d := 63) (v := (.int .i64 ((i : Int) + 1))) rfl (e_int (z := (i : Int) + 1) (by kernel_rfl) (IntWalk.i64_in _ (by omega))) ?_
            refine wl_pure (wants0 rfl) (d := 14) (v := (.int .i64 ((i : Int) + 1))) rfl (by kernel_rfl) ?_
            refine w_nil ?_
            refine round_back ?_ _ ⟨(i + 1), (show ((.int .i64 ((i : Int) + 1)) : Value) = _ by first | rfl | go_num), by omega, notMed_step hno (by unfold NotMed; rintro ⟨q1, q2⟩; simp only [decide_eq_true_eq, decide_eq_false_iff_not] at *; omega), H16, rfl⟩ (by omega)
            exact (same_upd rfl (same_upd rfl (same_upd rfl (same_upd rfl (same_upd rfl (same_upd rfl (same_upd rfl (same_upd rfl (same_upd rfl (same_upd rfl (same_upd rfl (same_upd rfl (same_upd rfl (same_upd rfl (same_upd rfl (same_upd rfl (same_upd rfl (same_upd rfl (same_upd rfl (same_upd rfl (same_upd rfl (same_upd rfl (same_upd rfl (same_upd rfl (same_upd rfl (same_ovr2 rfl (same_upd rfl (same_upd rfl (same_upd rfl (same_upd rfl (same_upd rfl (same_upd rfl (same_upd rfl (same_upd rfl (same_upd rfl (same_upd rfl (same_ovr)))))))))))))))))))))))))))))))))))))
        · have g70 := of_decide_eq_false b57
          refine wl_know 50 (.bool false) (congrArg Value.bool b57) ?_
          have g71 := of_decide_eq_false b57
          refine wl_pass (wantsN 5 50 true rfl (by kernel_rfl) rfl (by kernel_rfl)) rfl ?_
          refine wl_pass (wantsN 5 50 true rfl (by kernel_rfl) rfl (by kernel_rfl)) rfl ?_
          refine wl_pass (wantsN 5 50 true rfl (by kernel_rfl) rfl (by kernel_rfl)) rfl ?_
          refine wl_pass (wantsN 5 50 true rfl (by kernel_rfl) rfl (by kernel_rfl)) rfl ?_
          refine wl_pass (wantsN 5 50 true rfl (by kernel_rfl) rfl (by kernel_rfl)) rfl ?_
          refine wl_pass (wantsN 5 50 true rfl (by kernel_rfl) rfl (by kernel_rfl)) rfl ?_
          refine wl_pass (wantsN 5 50 true rfl (by kernel_rfl) rfl (by kernel_rfl)) rfl ?_
          refine wl_pure (wants0 rfl) (d := 58) (v := (.bool false)) rfl (by kernel_rfl) ?_
          refine w_nil ?_
          refine then_normal ?_
          refine wp_iff rfl ?_
          refine w_skip ?_
          refine blk_normal ?_
          refine then_normal ?_
          refine w_lit ?_
          refine wl_pure (wants0 rfl) (d := 63) (v := (.int .i64 ((i : Int) + 1))) rfl (e_int (z := (i : Int) + 1) (by kernel_rfl) (IntWalk.i64_in _ (by omega))) ?_
          refine wl_pure (wants0 rfl) (d := 14) (v := (.int .i64 ((i : Int) + 1))) rfl (by kernel_rfl) ?_
          refine w_nil ?_
          refine round_back ?_ _ ⟨(i + 1), (show ((.int .i64 ((i : Int) + 1)) : Value) = _ by first | rfl | go_num), by omega, notMed_step hno (by unfold NotMed; rintro ⟨q1, q2⟩; simp only [decide_eq_true_eq, decide_eq_false_iff_not] at *; omega), H16, rfl⟩ (by omega)
          exact (same_upd rfl (same_upd rfl (same_upd rfl (same_upd rfl (same_upd rfl (same_upd rfl (same_upd rfl (same_upd rfl (same_upd rfl (same_upd rfl (same_upd rfl (same_upd rfl (same_upd rfl (same_upd rfl (same_upd rfl (same_upd rfl (same_upd rfl (same_upd rfl (same_upd rfl (same_upd rfl (same_upd rfl (same_upd rfl (same_upd rfl (same_upd rfl (same_ovr2 rfl (same_upd rfl (same_upd rfl (same_upd rfl (same_upd rfl (same_upd rfl (same_upd rfl (same_upd rfl (same_upd rfl (same_upd rfl (same_upd rfl (same_ovr))))))))))))))))))))))))))))))))))))
    · have g72 := of_decide_eq_false b11
      refine wp_know 15 (.bool false) (congrArg Value.bool b11) ?_
      have g73 := of_decide_eq_false b11
      refine wp_iff rfl ?_
      refine w_exit ?_
      refine then_exit ?_
      refine back_exit ?_
      refine blk_hit ?_
      refine then_normal ?_
      refine w_seq ?_
      refine w_lit ?_
      refine wl_pure (wants0 rfl) (d := 2) (v := (.int .u64 (0))) rfl (by kernel_rfl) ?_
      refine wl_pure (wants0 rfl) (d := 3) (v := (.bool false)) rfl (by kernel_rfl) ?_
      refine w_nil ?_
      refine then_normal ?_
      refine w_ret ?_
      refine end2 rfl (res_tmp (v := (.int .u64 (0))) rfl) (res_tmp (v := (.bool false)) rfl) ?_
      exact (medV_no (xs := xs) (by omega) (fun j hj => hno j (by omega))).elim
theorem medR_any (w : World) (v : Value) (xs : List Int) (hxs : ListAt encU 1 w v xs) (hx : xs.length ≤ 12) : Calls Try.prog 16 #[v] w fun e w' => e = .returned (.tuple #[.int .u64 (medV xs), .bool (decide (xs.length % 2 = 1))]) ∧ Upd [] w w' := by
  obtain ⟨a, c, rfl⟩ := hxs.len
  exact medR_any0 w a c xs hxs hx

theorem med513 : medV [5, 1, 3] = 3 := medV_eq rfl ⟨by decide, by decide, by decide⟩
set_option maxRecDepth 100000 in
set_option maxHeartbeats 400000 in
theorem wakes_any (w : World) :
    Calls Try.prog 13 #[] w fun e w' => e = .returned (.bool true) ∧ Upd [] w w' := by
  have H := Sat.start0 w
  refine calls_fr Try.func13 rfl 13 rfl (Nat.le_of_ble_eq_true rfl) ?_
  refine w_seq ?_
  refine w_lit ?_
  refine wl_pure (wants0 rfl) (d := 0) (v := (.bool false)) rfl (by kernel_rfl) ?_
  refine w_nil ?_
  refine then_normal ?_
  refine w_seq ?_
  refine w_lit ?_
  refine wl_do (wants0 rfl) (fun K1 hK1 => ?_)
  refine d_buildSlice (e := 23) (size := 1) (bytes := 8) (z := (.int .u64 (0))) (pvs := [(0, (.int .u64 (5))), (1, (.int .u64 (1))), (2, (.int .u64 (3)))]) (vs := ([(.int .u64 (5)), (.int .u64 (1)), (.int .u64 (3))] : List Value)) rfl H (by kernel_rfl) (by kernel_rfl) (by kernel_rfl) (by kernel_rfl) (by kernel_rfl) rfl rfl ?_
  intro b2 w3 (H4 : Sat w [restC w (fun _ => False), rowC 23 1 (.slice (some ⟨b2, 0, none⟩) 3 3) 3 ([(.int .u64 (5)), (.int .u64 (1)), (.int .u64 (3))] : List Value)] w3)
  refine hK1 _ _ ?_
  clear hK1 K1
  refine wl_do (wants0 rfl) (fun K5 hK5 => ?_)
  refine d_call (d := 5) rfl (by kernel_rfl) (medC_any w3 (.slice (some ⟨b2, 0, none⟩) 3 3) ([(5 : Int), (1 : Int), (3 : Int)]) (ListAt.row (enc := encU) (sz := 1) (xs := [(5 : Int), (1 : Int), (3 : Int)]) encU_len (by decide) (H4.at 1 rfl)) (by decide)) ?_
  rintro _ w6 ⟨rfl, u8⟩
  have H7 := H4.keepU u8
  refine ⟨_, rfl, ?_⟩
  refine hK5 _ _ ?_
  clear hK5 K5
  refine wl_pure (wants0 rfl) (d := 3) (v := (.tuple #[(.int .u64 (medV ([(5 : Int), (1 : Int), (3 : Int)]))), (.bool (decide (([(5 : Int), (1 : Int), (3 : Int)]).length % 2 = 1)))])) rfl (by kernel_rfl) ?_
  refine wl_pure (wants0 rfl) (d := 6) (v := (.int .u64 (medV ([(5 : Int), (1 : Int), (3 : Int)])))) rfl (by kernel_rfl) ?_
  refine wl_pure (wants0 rfl) (d := 7) (v := (.bool (decide (([(5 : Int), (1 : Int), (3 : Int)]).length % 2 = 1)))) rfl (by kernel_rfl) ?_
  refine wl_pure (wants0 rfl) (d := 1) (v := (.int .u64 (medV ([(5 : Int), (1 : Int), (3 : Int)])))) rfl (by kernel_rfl) ?_
  refine wl_pure (wants0 rfl) (d := 2) (v := (.bool (decide (([(5 : Int), (1 : Int), (3 : Int)]).length % 2 = 1)))) rfl (by kernel_rfl) ?_
  refine w_nil ?_
  refine then_normal ?_
  refine w_seq ?_
  refine w_lit ?_
  refine wl_pure (wants0 rfl) (d := 8) (v := (.bool (decide (([(5 : Int), (1 : Int), (3 : Int)]).length % 2 = 1)))) rfl (by kernel_rfl) ?_
  refine wl_pure (wants0 rfl) (d := 9) (v := (.bool (decide (([(5 : Int), (1 : Int), (3 : Int)]).length % 2 = 1)))) rfl (by kernel_rfl) ?_
  have b9 : (decide (([(5 : Int), (1 : Int), (3 : Int)]).length % 2 = 1)) = true := by rfl
  refine wl_know 9 (.bool true) (congrArg Value.bool b9) ?_
  refine wl_pure (wantsY 1 9 true rfl (by kernel_rfl) rfl (by kernel_rfl)) (d := 10) (v := (.int .u64 (medV ([(5 : Int), (1 : Int), (3 : Int)])))) rfl (by kernel_rfl) ?_
  refine wl_pure (wantsY 1 9 true rfl (by kernel_rfl) rfl (by kernel_rfl)) (d := 11) (v := (.bool (decide ((medV ([(5 : Int), (1 : Int), (3 : Int)])) = 3)))) rfl (by kernel_rfl) ?_
  refine wl_pure (wants0 rfl) (d := 12) (v := (.bool (decide ((medV ([(5 : Int), (1 : Int), (3 : Int)])) = 3)))) rfl (by kernel_rfl) ?_
  refine wl_pure (wants0 rfl) (d := 0) (v := (.bool (decide ((medV ([(5 : Int), (1 : Int), (3 : Int)])) = 3)))) rfl (by kernel_rfl) ?_
  refine w_nil ?_
  refine then_normal ?_
  refine w_ret ?_
  refine end1 rfl (res_tmp (v := (.bool (decide ((medV ([(5 : Int), (1 : Int), (3 : Int)])) = 3)))) rfl) ?_
  exact ⟨by simp [med513], H7.upd 0 rfl [] (fun _ h => h.elim)⟩

set_option maxRecDepth 100000 in
set_option maxHeartbeats 400000 in
theorem within_any (w : World) (v n : Int) (hn : n ≤ 4611686018427387904) :
    Calls Try.prog 14 #[(.int .i64 (v)), (.int .i64 (n))] w fun e w' => e = .returned (.int .i64 (withinV v n)) ∧ Upd [] w w' := by
  have H := Sat.start0 w
  refine calls_fr Try.func14 rfl 17 rfl (Nat.le_of_ble_eq_true rfl) ?_
  refine w_seq ?_
  refine w_lit ?_
  refine wl_pure (wants0 rfl) (d := 4) (v := (.int .i64 (0))) rfl (by kernel_rfl) ?_
  refine w_nil ?_
  refine then_normal ?_
  refine w_seq ?_
  refine w_seq ?_
  refine w_lit ?_
  refine wl_pure (wants0 rfl) (d := 6) (v := (.int .i64 (n))) rfl (by kernel_rfl) ?_
  refine wl_pure (wants0 rfl) (d := 7) (v := (.bool (decide (n < 1)))) rfl (by kernel_rfl) ?_
  refine w_nil ?_
  refine then_normal ?_
  refine (bsplit (decide (n < 1))).elim (fun b1 => ?_) (fun b1 => ?_)
  · have g2 := of_decide_eq_true b1
    refine wp_know 7 (.bool true) (congrArg Value.bool b1) ?_
    refine wp_ift rfl ?_
    refine w_seq ?_
    refine w_lit ?_
    refine wl_pure (wants0 rfl) (d := 4) (v := (.int .i64 (0))) rfl (by kernel_rfl) ?_
    refine w_nil ?_
    refine then_normal ?_
    refine w_ret ?_
    refine then_ret ?_
    refine end1 rfl (res_tmp (v := (.int .i64 (0))) rfl) ?_
    exact ⟨by unfold withinV; rw [if_pos (of_decide_eq_true b1)], H.upd 0 rfl [] (fun _ h => h.elim)⟩
  · have g3 := of_decide_eq_false b1
    refine wp_know 7 (.bool false) (congrArg Value.bool b1) ?_
    refine wp_iff rfl ?_
    refine w_skip ?_
    refine then_normal ?_
    refine w_seq ?_
    refine w_lit ?_
    refine wl_pure (wants0 rfl) (d := 8) (v := (.int .i64 (v))) rfl (by kernel_rfl) ?_
    refine wl_pure (wants0 rfl) (d := 9) (v := (.int .i64 (n))) rfl (by kernel_rfl) ?_
    refine wl_pure (wants0 rfl) (d := 10) (v := (.int .i64 (Int.tmod v n))) rfl (e_tmod (by kernel_rfl) (by omega)) ?_
    refine wl_pure (wants0 rfl) (d := 5) (v := (.int .i64 (Int.tmod v n))) rfl (by kernel_rfl) ?_
    refine w_nil ?_
    refine then_normal ?_
    refine w_seq ?_
    refine w_seq ?_
    refine w_lit ?_
    refine wl_pure (wants0 rfl) (d := 11) (v := (.int .i64 (Int.tmod v n))) rfl (by kernel_rfl) ?_
    refine wl_pure (wants0 rfl) (d := 12) (v := (.bool (decide ((Int.tmod v n) < 0)))) rfl (by kernel_rfl) ?_
    refine w_nil ?_
    refine then_normal ?_
    refine (bsplit (decide ((Int.tmod v n) < 0))).elim (fun b4 => ?_) (fun b4 => ?_)
    · have g5 := of_decide_eq_true b4
      refine wp_know 12 (.bool true) (congrArg Value.bool b4) ?_
      refine wp_ift rfl ?_
      refine w_lit ?_
      refine wl_pure (wants0 rfl) (d := 13) (v := (.int .i64 (Int.tmod v n))) rfl (by kernel_rfl) ?_
      refine wl_pure (wants0 rfl) (d := 14) (v := (.int .i64 (n))) rfl (by kernel_rfl) ?_
      refine wl_pure (wants0 rfl) (d := 15) (v := (.int .i64 ((Int.tmod v n) + n))) rfl (e_int (z := (Int.tmod v n) + n) (by kernel_rfl) (IntWalk.i64_in _ (by have := tmod_lim v n (by omega); omega))) ?_
      refine wl_pure (wants0 rfl) (d := 5) (v := (.int .i64 ((Int.tmod v n) + n))) rfl (by kernel_rfl) ?_
      refine w_nil ?_
      refine then_normal ?_
      refine w_seq ?_
      refine w_lit ?_
      refine wl_pure (wants0 rfl) (d := 16) (v := (.int .i64 ((Int.tmod v n) + n))) rfl (by kernel_rfl) ?_
      refine wl_pure (wants0 rfl) (d := 4) (v := (.int .i64 ((Int.tmod v n) + n))) rfl (by kernel_rfl) ?_
      refine w_nil ?_
      refine then_normal ?_
      refine w_ret ?_
      refine end1 rfl (res_tmp (v := (.int .i64 ((Int.tmod v n) + n))) rfl) ?_
      exact ⟨by unfold withinV; rw [if_neg (of_decide_eq_false b1), tmod_emod v n (by have := of_decide_eq_false b1; omega), if_pos (of_decide_eq_true b4)], H.upd 0 rfl [] (fun _ h => h.elim)⟩
    · have g6 := of_decide_eq_false b4
      refine wp_know 12 (.bool false) (congrArg Value.bool b4) ?_
      refine wp_iff rfl ?_
      refine w_skip ?_
      refine then_normal ?_
      refine w_seq ?_
      refine w_lit ?_
      refine wl_pure (wants0 rfl) (d := 16) (v := (.int .i64 (Int.tmod v n))) rfl (by kernel_rfl) ?_
      refine wl_pure (wants0 rfl) (d := 4) (v := (.int .i64 (Int.tmod v n))) rfl (by kernel_rfl) ?_
      refine w_nil ?_
      refine then_normal ?_
      refine w_ret ?_
      refine end1 rfl (res_tmp (v := (.int .i64 (Int.tmod v n))) rfl) ?_
      exact ⟨by unfold withinV; rw [if_neg (of_decide_eq_false b1), tmod_emod v n (by have := of_decide_eq_false b1; omega), if_neg (of_decide_eq_false b4)], H.upd 0 rfl [] (fun _ h => h.elim)⟩

end Go.Proofs.Ytbpeofcoceaahaa
