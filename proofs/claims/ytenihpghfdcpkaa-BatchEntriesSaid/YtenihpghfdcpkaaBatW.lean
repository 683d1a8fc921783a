/- WHAT IS PROVED: the example of chapter 12. Conditions: stated with each. -/
import Derived.Test.YtenihpghfdcpkaaBatA
import Derived.Test.YtenihpghfdcpkaaSort12
import Derived.Test.YtenihpghfdcpkaaIter
namespace Go.Proofs.Ytenihpghfdcpkaa
open Go.RowKit

set_option maxRecDepth 100000 in
set_option maxHeartbeats 400000 in
theorem entries0_any (w : World) :
    Calls Try.prog 8 #[(.int .u64 (0)), (.map none), (.agg ⟨([(.int .i64 (0)), (.int .u64 (5)), (.slice none 0 0), (.slice none 0 0), (.slice none 0 0)] : List Value)⟩)] w fun e w' => e = .returned (.slice none 0 0) ∧ Upd [] w w' := by
  have H := Sat.start0 w
  refine calls_fr Try.func8 rfl 92 rfl (Nat.le_of_ble_eq_true rfl) ?_
  refine w_seq ?_
  refine w_lit ?_
  refine wl_do (wants0 rfl) (fun K1 hK1 => ?_)
  refine d_box (vs := ([(.int .i64 (0)), (.int .u64 (5)), (.slice none 0 0), (.slice none 0 0), (.slice none 0 0)] : List Value)) rfl H rfl rfl ?_
  intro b2 w3 (H4 : Sat w [restC w (fun _ => False), cellC b2 27 ([(.int .i64 (0)), (.int .u64 (5)), (.slice none 0 0), (.slice none 0 0), (.slice none 0 0)] : List Value)] w3)
  refine hK1 _ _ ?_
  clear hK1 K1
  refine wl_pure (wants0 rfl) (d := 6) (v := (.slice none 0 0)) rfl (by kernel_rfl) ?_
  refine w_nil ?_
  refine then_normal ?_
  refine w_seq ?_
  refine w_lit ?_
  refine wl_do (wants0 rfl) (fun K5 hK5 => ?_)
  refine d_makeMap nmV entV rfl H4 ?_
  intro b6 w7 (H8 : Sat w [restC w (fun _ => False), cellC b2 27 ([(.int .i64 (0)), (.int .u64 (5)), (.slice none 0 0), (.slice none 0 0), (.slice none 0 0)] : List Value), mapC b6 nmV entV []] w7)
  refine hK5 _ _ ?_
  clear hK5 K5
  refine wl_pure (wants0 rfl) (d := 7) (v := (.map (some b6))) rfl (by kernel_rfl) ?_
  refine w_nil ?_
  refine then_normal ?_
  refine w_seq ?_
  refine w_seq ?_
  refine w_lit ?_
  refine wl_pure (wants0 rfl) (d := 19) (v := (.pointer (some ⟨b2, 2, none⟩))) rfl (by kernel_rfl) ?_
  refine wl_pure (wants0 rfl) (d := 20) (v := (.slice none 0 0)) rfl (e_load1 rfl (by kernel_rfl) (H8.cell 1 rfl rfl)) ?_
  refine wl_pure (wants0 rfl) (d := 21) (v := (.int .i64 (0))) rfl (by kernel_rfl) ?_
  refine wl_pure (wants0 rfl) (d := 22) (v := (.int .i64 (0))) rfl (by kernel_rfl) ?_
  refine w_nil ?_
  refine then_normal ?_
  refine w_block ?_
  refine wp_round [9, 11, 12, 13, 14, 22, 23, 24, 25, 26, 27, 28, 29, 30, 31, 32, 33, 34, 35, 36, 37, 38, 39, 40, 41, 42, 43, 44, 45, 46, 47, 48, 49, 50, 51, 52, 53, 54, 55, 56, 57, 58, 59, 60, 61, 62, 63, 64, 65, 66, 67, 68, 69, 70, 71, 72, 73, 74, 75, 76, 77, 78] (fun F_ W_ m_ => ∃ (u_ : Unit), F_ 22 = (.int .i64 (0)) ∧ Sat w [restC w (fun _ => False), cellC b2 27 ([(.int .i64 (0)), (.int .u64 (5)), (.slice none 0 0), (.slice none 0 0), (.slice none 0 0)] : List Value), mapC b6 nmV entV []] W_ ∧ m_ = 1) _ ⟨(), (show ((.int .i64 (0)) : Value) = _ by first | rfl | go_num), H8, rfl⟩ ?_
  rintro g9 w10 _ ⟨u_, v12, H11, rfl⟩
  refine wp_know 22 _ v12 ?_
  refine w_seq ?_
  refine w_lit ?_
  refine wl_pure (wants0 rfl) (d := 23) (v := (.bool false)) rfl (by kernel_rfl) ?_
  refine w_nil ?_
  refine then_normal ?_
  refine w_seq ?_
  refine wp_iff rfl ?_
  refine w_exit ?_
  refine then_exit ?_
  refine back_exit ?_
  refine blk_hit ?_
  refine then_normal ?_
  refine w_seq ?_
  refine w_lit ?_
  refine wl_pure (wants0 rfl) (d := 15) (v := (.slice none 0 0)) rfl (by kernel_rfl) ?_
  refine w_nil ?_
  refine then_normal ?_
  refine w_seq ?_
  refine w_seq ?_
  refine w_lit ?_
  refine wl_pure (wants0 rfl) (d := 79) (v := (.map (some b6))) rfl (by kernel_rfl) ?_
  refine wl_do (wants0 rfl) (fun K14 hK14 => ?_)
  refine d_range (kt := 35) (et := 50) rfl H11 2 rfl (by kernel_rfl) rfl ?_
  intro r15 w16 (H17 : Sat w [restC w (fun _ => False), cellC b2 27 ([(.int .i64 (0)), (.int .u64 (5)), (.slice none 0 0), (.slice none 0 0), (.slice none 0 0)] : List Value), iterC r15 b6 nmV entV [] []] w16)
  refine hK14 _ _ ?_
  clear hK14 K14
  refine w_nil ?_
  refine then_normal ?_
  refine w_block ?_
  refine wp_round [15, 17, 81, 82, 83, 84, 85, 86, 87, 88] (fun F_ W_ m_ => ∃ (u_ : Unit), F_ 15 = (.slice none 0 0) ∧ Sat w [restC w (fun _ => False), cellC b2 27 ([(.int .i64 (0)), (.int .u64 (5)), (.slice none 0 0), (.slice none 0 0), (.slice none 0 0)] : List Value), iterC r15 b6 nmV entV [] []] W_ ∧ m_ = 1) _ ⟨(), (by first | rfl | go_num), H17, rfl⟩ ?_
  rintro g18 w19 _ ⟨u_, v21, H20, rfl⟩
  refine wp_know 15 _ v21 ?_
  refine w_seq ?_
  refine w_lit ?_
  refine wl_do (wants0 rfl) (fun K23 hK23 => ?_)
  refine d_next rfl H20 2 rfl rfl ?_ ?_
  · intro p24
    refine hK23 _ _ ?_
    clear hK23 K23
    refine wl_pure (wants0 rfl) (d := 82) (v := (.bool false)) rfl (by kernel_rfl) ?_
    refine w_nil ?_
    refine then_normal ?_
    refine w_seq ?_
    refine wp_iff rfl ?_
    refine w_exit ?_
    refine then_exit ?_
    refine back_exit ?_
    refine blk_hit ?_
    refine then_normal ?_
    refine w_seq ?_
    refine w_lit ?_
    refine wl_pure (wants0 rfl) (d := 89) (v := (.slice none 0 0)) rfl (by kernel_rfl) ?_
    refine wl_do (wants0 rfl) (fun K25 hK25 => ?_)
    refine d_call (d := 90) rfl (by kernel_rfl) (sort0_any none 0 (.func (.func 23) #[] #[]) w19) ?_
    rintro _ w26 ⟨rfl, hww26⟩
    subst hww26
    refine ⟨_, rfl, ?_⟩
    refine hK25 _ _ ?_
    clear hK25 K25
    refine w_nil ?_
    refine then_normal ?_
    refine w_seq ?_
    refine w_lit ?_
    refine wl_pure (wants0 rfl) (d := 91) (v := (.slice none 0 0)) rfl (by kernel_rfl) ?_
    refine wl_pure (wants0 rfl) (d := 6) (v := (.slice none 0 0)) rfl (by kernel_rfl) ?_
    refine w_nil ?_
    refine then_normal ?_
    refine w_ret ?_
    refine end1 rfl (res_tmp (v := (.slice none 0 0)) rfl) ?_
    exact ⟨rfl, H20.upd 0 rfl [] (fun _ h => h.elim)⟩
  · intro y27 t28 w29 p30 (H31 : Sat w [restC w (fun _ => False), cellC b2 27 ([(.int .i64 (0)), (.int .u64 (5)), (.slice none 0 0), (.slice none 0 0), (.slice none 0 0)] : List Value), iterC r15 b6 nmV entV [] ([] ++ [y27])] w29)
    refine hK23 _ _ ?_
    clear hK23 K23
    refine wl_pure (wants0 rfl) (d := 82) (v := (.bool true)) rfl (by kernel_rfl) ?_
    refine w_nil ?_
    refine then_normal ?_
    refine w_seq ?_
    refine wp_ift rfl ?_
    refine w_skip ?_
    refine then_normal ?_
    refine w_block ?_
    refine w_seq ?_
    simp at p30

set_option maxRecDepth 100000 in
set_option maxHeartbeats 400000 in
theorem nilBook_any (w : World) :
    Calls Try.prog 31 #[] w fun e w' => ∃ b mb r, e = .returned (.agg #[.pointer (some ⟨b, 0, none⟩), .pointer (some ⟨r, 0, none⟩)]) ∧ (sepC [cellC b 109 [.map (some mb)], mapC mb signedV (Value.int .i64) (marks []), cellC r 126 [.slice none 0 0]]).ok w' ∧ Upd [] w w' ∧ ∀ q_, (sepC [cellC b 109 [.map (some mb)], mapC mb signedV (Value.int .i64) (marks []), cellC r 126 [.slice none 0 0]]).fp q_ → w.heap.size ≤ q_ := by
  have H := Sat.start0 w
  refine calls_fr Try.func31 rfl 8 rfl (Nat.le_of_ble_eq_true rfl) ?_
  refine w_seq ?_
  refine w_lit ?_
  refine wl_do (wants0 rfl) (fun K1 hK1 => ?_)
  refine d_alloc (zs := ([(.pointer none), (.pointer none)] : List Value)) (z := (.agg ⟨([(.pointer none), (.pointer none)] : List Value)⟩)) rfl H (by kernel_rfl) (by kernel_rfl) ?_
  intro b2 w3 (H4 : Sat w [restC w (fun _ => False), cellC b2 61 ([(.pointer none), (.pointer none)] : List Value)] w3)
  refine hK1 _ _ ?_
  clear hK1 K1
  refine w_nil ?_
  refine then_normal ?_
  refine w_seq ?_
  refine w_lit ?_
  refine wl_do (wants0 rfl) (fun K5 hK5 => ?_)
  refine d_call (d := 4) rfl (by kernel_rfl) (new10_any w3) ?_
  rintro _ w6 ⟨b7, m8, r9, rfl, k10, p11, q12⟩
  have H13 : Sat w [restC w (fun _ => False), cellC b2 61 ([(.pointer none), (.pointer none)] : List Value), sepC [cellC b7 109 [.map (some m8)], mapC m8 signedV (Value.int .i64) (marks []), cellC r9 126 [.slice none 0 0]]] w6 := H4.addU p11 k10 q12
  have H14 : Sat w [restC w (fun _ => False), cellC b2 61 ([(.pointer none), (.pointer none)] : List Value), cellC b7 109 ([(.map (some m8))] : List Value), mapC m8 signedV (Value.int .i64) (marks ([] : List Signed)), cellC r9 126 ([(.slice none 0 0)] : List Value)] w6 := H13.open 2 rfl
  refine ⟨_, rfl, ?_⟩
  refine hK5 _ _ ?_
  clear hK5 K5
  refine wl_pure (wants0 rfl) (d := 3) (v := (.tuple #[(.agg ⟨([(.pointer (some ⟨b7, 0, none⟩)), (.pointer (some ⟨r9, 0, none⟩))] : List Value)⟩), (.bool true)])) rfl (by kernel_rfl) ?_
  refine wl_pure (wants0 rfl) (d := 5) (v := (.agg ⟨([(.pointer (some ⟨b7, 0, none⟩)), (.pointer (some ⟨r9, 0, none⟩))] : List Value)⟩)) rfl (by kernel_rfl) ?_
  refine wl_pure (wants0 rfl) (d := 6) (v := (.bool true)) rfl (by kernel_rfl) ?_
  refine wl_do (wants0 rfl) (fun K15 hK15 => ?_)
  refine d_alloc (zs := ([(.pointer none), (.pointer none)] : List Value)) (z := (.agg ⟨([(.pointer none), (.pointer none)] : List Value)⟩)) rfl H14 (by kernel_rfl) (by kernel_rfl) ?_
  intro b16 w17 (H18 : Sat w [restC w (fun _ => False), cellC b2 61 ([(.pointer none), (.pointer none)] : List Value), cellC b7 109 ([(.map (some m8))] : List Value), mapC m8 signedV (Value.int .i64) (marks ([] : List Signed)), cellC r9 126 ([(.slice none 0 0)] : List Value), cellC b16 61 ([(.pointer none), (.pointer none)] : List Value)] w17)
  refine hK15 _ _ ?_
  clear hK15 K15
  refine wl_do (wants0 rfl) (fun K19 hK19 => ?_)
  refine d_storeX (vs := ([(.pointer (some ⟨b7, 0, none⟩)), (.pointer (some ⟨r9, 0, none⟩))] : List Value)) (cs' := ([(.pointer (some ⟨b7, 0, none⟩)), (.pointer (some ⟨r9, 0, none⟩))] : List Value)) rfl H18 5 rfl rfl rfl rfl (by kernel_rfl) (Nat.le_of_ble_eq_true (by kernel_rfl)) (Nat.le_of_ble_eq_true (by kernel_rfl)) (by kernel_rfl) (by kernel_rfl) ?_
  intro w20 (H21 : Sat w [restC w (fun _ => False), cellC b2 61 ([(.pointer none), (.pointer none)] : List Value), cellC b7 109 ([(.map (some m8))] : List Value), mapC m8 signedV (Value.int .i64) (marks ([] : List Signed)), cellC r9 126 ([(.slice none 0 0)] : List Value), cellC b16 61 ([(.pointer (some ⟨b7, 0, none⟩)), (.pointer (some ⟨r9, 0, none⟩))] : List Value)] w20)
  refine hK19 _ _ ?_
  clear hK19 K19
  refine wl_pure (wants0 rfl) (d := 2) (v := (.bool true)) rfl (by kernel_rfl) ?_
  refine w_nil ?_
  refine then_normal ?_
  refine w_seq ?_
  refine w_lit ?_
  refine wl_pure (wants0 rfl) (d := 7) (v := (.agg ⟨([(.pointer (some ⟨b7, 0, none⟩)), (.pointer (some ⟨r9, 0, none⟩))] : List Value)⟩)) rfl (e_loadN (vs := ([(.pointer (some ⟨b7, 0, none⟩)), (.pointer (some ⟨r9, 0, none⟩))] : List Value)) rfl (by kernel_rfl) (by kernel_rfl) (by exact Nat.le_of_ble_eq_true (by kernel_rfl)) (H21.at 5 rfl) (by kernel_rfl)) ?_
  refine wl_do (wants0 rfl) (fun K23 hK23 => ?_)
  refine d_storeX (vs := ([(.pointer (some ⟨b7, 0, none⟩)), (.pointer (some ⟨r9, 0, none⟩))] : List Value)) (cs' := ([(.pointer (some ⟨b7, 0, none⟩)), (.pointer (some ⟨r9, 0, none⟩))] : List Value)) rfl H21 1 rfl rfl rfl rfl (by kernel_rfl) (Nat.le_of_ble_eq_true (by kernel_rfl)) (Nat.le_of_ble_eq_true (by kernel_rfl)) (by kernel_rfl) (by kernel_rfl) ?_
  intro w24 (H25 : Sat w [restC w (fun _ => False), cellC b2 61 ([(.pointer (some ⟨b7, 0, none⟩)), (.pointer (some ⟨r9, 0, none⟩))] : List Value), cellC b7 109 ([(.map (some m8))] : List Value), mapC m8 signedV (Value.int .i64) (marks ([] : List Signed)), cellC r9 126 ([(.slice none 0 0)] : List Value), cellC b16 61 ([(.pointer (some ⟨b7, 0, none⟩)), (.pointer (some ⟨r9, 0, none⟩))] : List Value)] w24)
  refine hK23 _ _ ?_
  clear hK23 K23
  refine w_nil ?_
  refine then_normal ?_
  refine w_ret ?_
  refine end1 rfl (res_cellN (vs := ([(.pointer (some ⟨b7, 0, none⟩)), (.pointer (some ⟨r9, 0, none⟩))] : List Value)) rfl (by kernel_rfl) (by kernel_rfl) (by exact Nat.le_of_ble_eq_true (by kernel_rfl)) (H25.at 1 rfl) (by kernel_rfl)) ?_
  exact ⟨b7, m8, r9, rfl, H25.fin [2, 3, 4] (by decide) rfl, H25.upd 0 rfl [] (fun _ h => h.elim), H25.freshS 0 rfl (fun _ h => h) [2, 3, 4] rfl rfl⟩

set_option maxRecDepth 100000 in
set_option maxHeartbeats 400000 in
theorem wakes_any (w : World) :
    Calls Try.prog 10 #[] w fun e w' => e = .returned (.bool true) ∧ Upd [] w w' := by
  have H := Sat.start0 w
  refine calls_fr Try.func10 rfl 13 rfl (Nat.le_of_ble_eq_true rfl) ?_
  refine w_seq ?_
  refine w_lit ?_
  refine wl_pure (wants0 rfl) (d := 0) (v := (.bool false)) rfl (by kernel_rfl) ?_
  refine w_nil ?_
  refine then_normal ?_
  refine w_seq ?_
  refine w_lit ?_
  refine wl_pure (wants0 rfl) (d := 1) (v := (.agg ⟨([(.int .i64 (0)), (.int .u64 (5)), (.slice none 0 0), (.slice none 0 0), (.slice none 0 0)] : List Value)⟩)) rfl (by kernel_rfl) ?_
  refine wl_do (wants0 rfl) (fun K1 hK1 => ?_)
  refine d_call (d := 2) rfl (by kernel_rfl) (entries0_any w) ?_
  rintro _ w2 ⟨rfl, u4⟩
  have H3 := H.keepU u4
  refine ⟨_, rfl, ?_⟩
  refine hK1 _ _ ?_
  clear hK1 K1
  refine wl_pure (wants0 rfl) (d := 3) (v := (.int .i64 (0))) rfl (by kernel_rfl) ?_
  refine wl_pure (wants0 rfl) (d := 4) (v := (.bool true)) rfl (by kernel_rfl) ?_
  refine wl_pure (wants0 rfl) (d := 5) (v := (.bool true)) rfl (by kernel_rfl) ?_
  refine wl_pure (wantsY 4 5 true rfl (by kernel_rfl) rfl (by kernel_rfl)) (d := 6) (v := (.agg ⟨([(.int .i64 (1)), (.int .i64 (1))] : List Value)⟩)) rfl (by kernel_rfl) ?_
  refine wl_do (wantsY 4 5 true rfl (by kernel_rfl) rfl (by kernel_rfl)) (fun K5 hK5 => ?_)
  refine d_call (d := 7) rfl (by kernel_rfl) (nilBook_any w2) ?_
  rintro _ w6 ⟨b7, m8, r9, rfl, k10, p11, q12⟩
  have H13 : Sat w [restC w (fun _ => False), sepC [cellC b7 109 [.map (some m8)], mapC m8 signedV (Value.int .i64) (marks []), cellC r9 126 [.slice none 0 0]]] w6 := H3.addU p11 k10 q12
  have H14 : Sat w [restC w (fun _ => False), cellC b7 109 ([(.map (some m8))] : List Value), mapC m8 signedV (Value.int .i64) (marks ([] : List Signed)), cellC r9 126 ([(.slice none 0 0)] : List Value)] w6 := H13.open 1 rfl
  refine ⟨_, rfl, ?_⟩
  refine hK5 _ _ ?_
  clear hK5 K5
  refine wl_pure (wantsY 4 5 true rfl (by kernel_rfl) rfl (by kernel_rfl)) (d := 8) (v := (.pointer (some ⟨b7, 0, none⟩))) rfl (by kernel_rfl) ?_
  refine wl_pure (wantsY 4 5 true rfl (by kernel_rfl) rfl (by kernel_rfl)) (d := 9) (v := (.agg ⟨([(.int .i64 (0)), (.slice none 0 0)] : List Value)⟩)) rfl (by kernel_rfl) ?_
  refine wl_do (wantsY 4 5 true rfl (by kernel_rfl) rfl (by kernel_rfl)) (fun K15 hK15 => ?_)
  refine d_call (d := 10) rfl (by kernel_rfl) (wRightTomb_any w6 (1 : Int) (1 : Int) (by omega) b7 m8 ([] : List Signed) (H14.at 1 rfl) (H14.at 2 rfl) (0 : Int) none 0 ([] : List DenyD) ListAt.nil (by simp) (by simp)) ?_
  rintro _ w16 ⟨rfl, u18⟩
  have H17 := H14.keepU u18
  refine ⟨_, rfl, ?_⟩
  refine hK15 _ _ ?_
  clear hK15 K15
  refine wl_pure (wantsY 4 5 true rfl (by kernel_rfl) rfl (by kernel_rfl)) (d := 11) (v := (.bool (!(rightTb (1 : Int) ([] : List Signed) (0 : Int) ([] : List DenyD))))) rfl (by kernel_rfl) ?_
  refine wl_pure (wants0 rfl) (d := 12) (v := (.bool (!(rightTb (1 : Int) ([] : List Signed) (0 : Int) ([] : List DenyD))))) rfl (by kernel_rfl) ?_
  refine wl_pure (wants0 rfl) (d := 0) (v := (.bool (!(rightTb (1 : Int) ([] : List Signed) (0 : Int) ([] : List DenyD))))) rfl (by kernel_rfl) ?_
  refine w_nil ?_
  refine then_normal ?_
  refine w_ret ?_
  refine end1 rfl (res_tmp (v := (.bool (!(rightTb (1 : Int) ([] : List Signed) (0 : Int) ([] : List DenyD))))) rfl) ?_
  exact ⟨rfl, H17.upd 0 rfl [] (fun _ h => h.elim)⟩

end Go.Proofs.Ytenihpghfdcpkaa
