/- WHAT IS PROVED: slices' sort, its functions: contracts. Conditions: stated with each. -/
import Derived.Test.YtbpeofcoceaahaaSortUF
namespace Go.Proofs.Ytbpeofcoceaahaa
open Go.RowKit

def PdqUAt (d : Nat) : Prop := ∀ (w : World) (g n c a b : Nat) (lim : Int) (A : List Int), b - a ≤ d → (rowU g n c A).ok w → n ≤ 1000000000000 → a ≤ b ∧ b ≤ n → Low ltU a b A → Calls Try.prog 80 #[(.slice (some ⟨g, 0, none⟩) n c), (.int .i64 ((a : Int))), (.int .i64 ((b : Int))), (.int .i64 (lim))] w fun e w' => ∃ B : List Int, e = .returned (.tuple #[]) ∧ B.length = n ∧ SegP a b A B ∧ Srt ltU a b B ∧ Sat w [rowU g n c B, restC w (rowU g n c A).fp] w'
set_option maxRecDepth 100000 in
set_option maxHeartbeats 2000000 in
theorem pdqU_step (w : World) (d : Nat) (ih : ∀ e, e < d → PdqUAt e) (g n c a b : Nat) (lim : Int) (A : List Int) (hd : b - a ≤ d) (hT : (rowU g n c A).ok w) (hn : n ≤ 1000000000000) (hab : a ≤ b ∧ b ≤ n) (hLow : Low ltU a b A) :
    Calls Try.prog 80 #[(.slice (some ⟨g, 0, none⟩) n c), (.int .i64 ((a : Int))), (.int .i64 ((b : Int))), (.int .i64 (lim))] w fun e w' => ∃ B : List Int, e = .returned (.tuple #[]) ∧ B.length = n ∧ SegP a b A B ∧ Srt ltU a b B ∧ Sat w [rowU g n c B, restC w (rowU g n c A).fp] w' := by
  have H : Sat w [rowU g n c A, restC w (rowU g n c A).fp] w := Sat.start1 hT
  have hl := rowU_len hT
  have hw := swU
  refine calls_fr Try.func80 rfl 134 rfl (Nat.le_of_ble_eq_true rfl) ?_
  refine w_seq ?_
  refine w_lit ?_
  refine wl_pure (wants0 rfl) (d := 8) (v := (.bool true)) rfl (by kernel_rfl) ?_
  refine w_nil ?_
  refine then_normal ?_
  refine w_seq ?_
  refine w_lit ?_
  refine wl_pure (wants0 rfl) (d := 9) (v := (.bool true)) rfl (by kernel_rfl) ?_
  refine w_nil ?_
  refine then_normal ?_
  refine w_block ?_
  refine wp_round [1, 2, 3, 8, 9, 10, 11, 12, 13, 14, 15, 16, 17, 18, 19, 20, 21, 22, 23, 24, 25, 26, 27, 28, 29, 30, 31, 32, 33, 34, 35, 36, 37, 38, 39, 40, 41, 42, 43, 44, 45, 46, 47, 48, 49, 50, 51, 52, 53, 54, 55, 56, 57, 58, 59, 60, 61, 62, 63, 64, 65, 66, 67, 68, 69, 70, 71, 72, 73, 74, 75, 76, 77, 78, 79, 80, 81, 82, 83, 84, 85, 86, 87, 88, 89, 90, 91, 92, 93, 94, 95, 96, 97, 98, 99, 100, 101, 102, 103, 104, 105, 106, 107, 108, 109, 110, 111, 112, 113, 114, 115, 116, 117, 118, 119, 120, 121, 122, 123, 124, 125, 126, 127, 128, 129, 130, 131, 132, 133] (fun F_ W_ m_ => ∃ (p q : Nat) (l : Int) (wb wp : Bool) (B : List Int), F_ 1 = (.int .i64 ((p : Int))) ∧ F_ 2 = (.int .i64 ((q : Int))) ∧ F_ 3 = (.int .i64 (l)) ∧ F_ 8 = (.bool (wb)) ∧ F_ 9 = (.bool (wp)) ∧ (Pdq ltU a b p q A B) ∧ (B.length = n) ∧ Sat w [rowU g n c B, restC w (rowU g n c A).fp] W_ ∧ m_ = q - p) _ ⟨a, b, lim, true, true, A, (show ((.int .i64 ((a : Int))) : Value) = _ by first | rfl | go_num), (show ((.int .i64 ((b : Int))) : Value) = _ by first | rfl | go_num), (show ((.int .i64 (lim)) : Value) = _ by first | rfl | go_num), (by first | rfl | go_num), (by first | rfl | go_num), (Pdq.start hab.1), hl, H, rfl⟩ ?_
  rintro g1 w2 _ ⟨p, q, l, wb, wp, B, v4, v5, v6, v7, v8, hP, hlB, H3, rfl⟩
  refine wp_know 1 _ v4 ?_
  refine wp_know 2 _ v5 ?_
  refine wp_know 3 _ v6 ?_
  refine wp_know 8 _ v7 ?_
  refine wp_know 9 _ v8 ?_
  have hpq := hP.ab
  refine w_block ?_
  refine w_seq ?_
  refine w_lit ?_
  refine wl_pure (wants0 rfl) (d := 19) (v := (.int .i64 ((q : Int)))) rfl (by kernel_rfl) ?_
  refine wl_pure (wants0 rfl) (d := 20) (v := (.int .i64 ((p : Int)))) rfl (by kernel_rfl) ?_
  refine wl_pure (wants0 rfl) (d := 21) (v := (.int .i64 ((q : Int) - (p : Int)))) rfl (e_int (z := (q : Int) - (p : Int)) (by kernel_rfl) (IntWalk.i64_in _ (by omega))) ?_
  refine wl_pure (wants0 rfl) (d := 10) (v := (.int .i64 ((q : Int) - (p : Int)))) rfl (by kernel_rfl) ?_
  refine w_nil ?_
  refine then_normal ?_
  refine w_seq ?_
  refine w_seq ?_
  refine w_lit ?_
  refine wl_pure (wants0 rfl) (d := 22) (v := (.int .i64 ((q : Int) - (p : Int)))) rfl (by kernel_rfl) ?_
  refine wl_pure (wants0 rfl) (d := 23) (v := (.bool (decide (((q : Int) - (p : Int)) ≤ 12)))) rfl (by kernel_rfl) ?_
  refine w_nil ?_
  refine then_normal ?_
  refine (bsplit (decide (((q : Int) - (p : Int)) ≤ 12))).elim (fun b10 => ?_) (fun b10 => ?_)
  · have g11 := of_decide_eq_true b10
    refine wp_know 23 (.bool true) (congrArg Value.bool b10) ?_
    have g12 := of_decide_eq_true b10
    refine wp_ift rfl ?_
    refine w_seq ?_
    refine w_lit ?_
    refine wl_pure (wants0 rfl) (d := 24) (v := (.slice (some ⟨g, 0, none⟩) n c)) rfl (by kernel_rfl) ?_
    refine wl_pure (wants0 rfl) (d := 25) (v := (.int .i64 ((p : Int)))) rfl (by kernel_rfl) ?_
    refine wl_pure (wants0 rfl) (d := 26) (v := (.int .i64 ((q : Int)))) rfl (by kernel_rfl) ?_
    refine wl_do (wants0 rfl) (fun K13 hK13 => ?_)
    refine d_call (d := 27) rfl (by kernel_rfl) (insertionU_any w2 g n c p q B (H3.at 0 rfl) hn (by omega)) ?_
    rintro _ w15 ⟨B14, rfl, l16, S17, h19, T18⟩
    have H21 : Sat w [rowU g n c B14, restC w (rowU g n c A).fp] w15 := (Sat.turn1 (L' := [rowU g n c B14]) (R := [restC w (rowU g n c A).fp]) H3 0 [1] (by decide) rfl rfl T18).pick [0, 1] (by decide)
    refine ⟨_, rfl, ?_⟩
    refine hK13 _ _ ?_
    clear hK13 K13
    refine w_nil ?_
    refine then_normal ?_
    refine w_ret ?_
    refine then_ret ?_
    refine blk_ret ?_
    refine back_ret ?_
    refine blk_ret ?_
    refine end0 rfl  ?_
    exact ⟨B14, rfl, l16, (hP.turn S17).seg, (hP.turn S17).done h19, H21⟩
  · have g22 := of_decide_eq_false b10
    refine wp_know 23 (.bool false) (congrArg Value.bool b10) ?_
    have g23 := of_decide_eq_false b10
    refine wp_iff rfl ?_
    refine w_skip ?_
    refine then_normal ?_
    refine w_seq ?_
    refine w_seq ?_
    refine w_lit ?_
    refine wl_pure (wants0 rfl) (d := 28) (v := (.int .i64 (l))) rfl (by kernel_rfl) ?_
    refine wl_pure (wants0 rfl) (d := 29) (v := (.bool (decide (l = 0)))) rfl (by kernel_rfl) ?_
    refine w_nil ?_
    refine then_normal ?_
    refine (bsplit (decide (l = 0))).elim (fun b24 => ?_) (fun b24 => ?_)
    · have g25 := of_decide_eq_true b24
      refine wp_know 29 (.bool true) (congrArg Value.bool b24) ?_
      have g26 := of_decide_eq_true b24
      refine wp_ift rfl ?_
      refine w_seq ?_
      refine w_lit ?_
      refine wl_pure (wants0 rfl) (d := 30) (v := (.slice (some ⟨g, 0, none⟩) n c)) rfl (by kernel_rfl) ?_
      refine wl_pure (wants0 rfl) (d := 31) (v := (.int .i64 ((p : Int)))) rfl (by kernel_rfl) ?_
      refine wl_pure (wants0 rfl) (d := 32) (v := (.int .i64 ((q : Int)))) rfl (by kernel_rfl) ?_
      refine wl_do (wants0 rfl) (fun K27 hK27 => ?_)
      refine d_call (d := 33) rfl (by kernel_rfl) (heapU_any w2 g n c p q B (H3.at 0 rfl) hn (by omega) (by omega)) ?_
      rintro _ w29 ⟨B28, rfl, l30, S31, h33, T32⟩
      have H35 : Sat w [rowU g n c B28, restC w (rowU g n c A).fp] w29 := (Sat.turn1 (L' := [rowU g n c B28]) (R := [restC w (rowU g n c A).fp]) H3 0 [1] (by decide) rfl rfl T32).pick [0, 1] (by decide)
      refine ⟨_, rfl, ?_⟩
      refine hK27 _ _ ?_
      clear hK27 K27
      refine w_nil ?_
      refine then_normal ?_
      refine w_ret ?_
      refine then_ret ?_
      refine blk_ret ?_
      refine back_ret ?_
      refine blk_ret ?_
      refine end0 rfl  ?_
      exact ⟨B28, rfl, l30, (hP.turn S31).seg, (hP.turn S31).done h33, H35⟩
    · have g36 := of_decide_eq_false b24
      refine wp_know 29 (.bool false) (congrArg Value.bool b24) ?_
      have g37 := of_decide_eq_false b24
      refine wp_iff rfl ?_
      refine w_skip ?_
      refine then_normal ?_
      have hlen : p + 12 < q := by omega
      refine wp_meetR [3, 34, 35, 36, 37, 38, 39, 40, 41] (fun G_ W_ => ∃ (B2 : List Int) (l2 : Int), G_ 3 = (.int .i64 (l2)) ∧ (Pdq ltU a b p q A B2) ∧ (B2.length = n) ∧ Sat w [rowU g n c B2, restC w (rowU g n c A).fp] W_) ?_ ?_
      · refine w_seq ?_
        refine w_lit ?_
        refine wl_pure (wants0 rfl) (d := 34) (v := (.bool (wb))) rfl (by kernel_rfl) ?_
        refine wl_pure (wants0 rfl) (d := 35) (v := (.bool (!(wb)))) rfl (by kernel_rfl) ?_
        refine w_nil ?_
        refine then_normal ?_
        refine (bsplit (!(wb))).elim (fun b39 => ?_) (fun b39 => ?_)
        · have g40 := bnot_true b39
          refine wp_know 35 (.bool true) (congrArg Value.bool b39) ?_
          have g41 := bnot_true b39
          refine wp_ift rfl ?_
          refine w_seq ?_
          refine w_lit ?_
          refine wl_pure (wants0 rfl) (d := 36) (v := (.slice (some ⟨g, 0, none⟩) n c)) rfl (by kernel_rfl) ?_
          refine wl_pure (wants0 rfl) (d := 37) (v := (.int .i64 ((p : Int)))) rfl (by kernel_rfl) ?_
          refine wl_pure (wants0 rfl) (d := 38) (v := (.int .i64 ((q : Int)))) rfl (by kernel_rfl) ?_
          refine wl_do (wants0 rfl) (fun K42 hK42 => ?_)
          refine d_call (d := 39) rfl (by kernel_rfl) (breakU_any w2 g n c p q B (H3.at 0 rfl) hn (by omega) (by omega)) ?_
          rintro _ w44 ⟨B43, rfl, l45, S46, T47⟩
          have H49 : Sat w [rowU g n c B43, restC w (rowU g n c A).fp] w44 := (Sat.turn1 (L' := [rowU g n c B43]) (R := [restC w (rowU g n c A).fp]) H3 0 [1] (by decide) rfl rfl T47).pick [0, 1] (by decide)
          refine ⟨_, rfl, ?_⟩
          refine hK42 _ _ ?_
          clear hK42 K42
          refine w_nil ?_
          refine then_normal ?_
          refine w_lit ?_
          refine wl_pure (wants0 rfl) (d := 40) (v := (.int .i64 (l))) rfl (by kernel_rfl) ?_
          refine wl_pure (wants0 rfl) (d := 41) (v := (.int .i64 (IntKind.i64.wrap (l - 1)))) rfl (by kernel_rfl) ?_
          refine wl_pure (wants0 rfl) (d := 3) (v := (.int .i64 (IntKind.i64.wrap (l - 1)))) rfl (by kernel_rfl) ?_
          refine w_nil ?_
          refine meetR_at ?_ ⟨B43, (IntKind.i64.wrap (l - 1)), rfl, (hP.turn S46), l45, H49⟩
          exact (same_upd rfl (same_upd rfl (same_upd rfl (same_upd rfl (same_upd rfl (same_upd rfl (same_upd rfl (same_upd rfl (same_upd rfl (same_upd rfl (same_refl)))))))))))
        · have g50 := bnot_false b39
          refine wp_know 35 (.bool false) (congrArg Value.bool b39) ?_
          have g51 := bnot_false b39
          refine wp_iff rfl ?_
          refine w_skip ?_
          refine meetR_at ?_ ⟨B, l, rfl, hP, hlB, H3⟩
          exact (same_upd rfl (same_upd rfl (same_upd rfl (same_refl))))
      · rintro f52 w53 ⟨B2, l2, v55, hP2, hlB2, H54⟩
        refine wp_know 3 _ v55 ?_
        refine w_seq ?_
        refine w_lit ?_
        refine wl_pure (wants0 rfl) (d := 43) (v := (.slice (some ⟨g, 0, none⟩) n c)) rfl (by kernel_rfl) ?_
        refine wl_pure (wants0 rfl) (d := 44) (v := (.int .i64 ((p : Int)))) rfl (by kernel_rfl) ?_
        refine wl_pure (wants0 rfl) (d := 45) (v := (.int .i64 ((q : Int)))) rfl (by kernel_rfl) ?_
        refine wl_do (wants0 rfl) (fun K56 hK56 => ?_)
        refine d_call (d := 46) rfl (by kernel_rfl) (chooseU_any w53 g n c p q B2 (H54.at 0 rfl) hn (by omega) (by omega)) ?_
        rintro _ w57 ⟨p58, q59, rfl, h60, T61⟩
        have H62 : Sat w [rowU g n c B2, restC w (rowU g n c A).fp] w57 := (Sat.turn1 (L' := [rowU g n c B2]) (R := [restC w (rowU g n c A).fp]) H54 0 [1] (by decide) rfl rfl T61).pick [0, 1] (by decide)
        refine ⟨_, rfl, ?_⟩
        refine hK56 _ _ ?_
        clear hK56 K56
        refine wl_pure (wants0 rfl) (d := 42) (v := (.tuple #[(.int .i64 ((p58 : Int))), (.int .i64 (q59))])) rfl (by kernel_rfl) ?_
        refine wl_pure (wants0 rfl) (d := 47) (v := (.int .i64 ((p58 : Int)))) rfl (by kernel_rfl) ?_
        refine wl_pure (wants0 rfl) (d := 48) (v := (.int .i64 (q59))) rfl (by kernel_rfl) ?_
        refine wl_pure (wants0 rfl) (d := 11) (v := (.int .i64 ((p58 : Int)))) rfl (by kernel_rfl) ?_
        refine wl_pure (wants0 rfl) (d := 12) (v := (.int .i64 (q59))) rfl (by kernel_rfl) ?_
        refine w_nil ?_
        refine then_normal ?_
        refine wp_meetR [11, 12, 49, 50, 51, 52, 53, 54, 55, 56, 57, 58, 59, 60] (fun G_ W_ => ∃ (B3 : List Int) (pv : Nat) (h2 : Int), G_ 11 = (.int .i64 ((pv : Int))) ∧ G_ 12 = (.int .i64 (h2)) ∧ (p ≤ pv ∧ pv < q) ∧ (Pdq ltU a b p q A B3) ∧ (B3.length = n) ∧ Sat w [rowU g n c B3, restC w (rowU g n c A).fp] W_) ?_ ?_
        · refine w_seq ?_
          refine w_lit ?_
          refine wl_pure (wants0 rfl) (d := 49) (v := (.int .i64 (q59))) rfl (by kernel_rfl) ?_
          refine wl_pure (wants0 rfl) (d := 50) (v := (.bool (decide (q59 = 2)))) rfl (by kernel_rfl) ?_
          refine w_nil ?_
          refine then_normal ?_
          refine (bsplit (decide (q59 = 2))).elim (fun b64 => ?_) (fun b64 => ?_)
          · have g65 := of_decide_eq_true b64
            refine wp_know 50 (.bool true) (congrArg Value.bool b64) ?_
            have g66 := of_decide_eq_true b64
            refine wp_ift rfl ?_
            refine w_seq ?_
            refine w_lit ?_
            refine wl_pure (wants0 rfl) (d := 51) (v := (.slice (some ⟨g, 0, none⟩) n c)) rfl (by kernel_rfl) ?_
            refine wl_pure (wants0 rfl) (d := 52) (v := (.int .i64 ((p : Int)))) rfl (by kernel_rfl) ?_
            refine wl_pure (wants0 rfl) (d := 53) (v := (.int .i64 ((q : Int)))) rfl (by kernel_rfl) ?_
            refine wl_do (wants0 rfl) (fun K67 hK67 => ?_)
            refine d_call (d := 54) rfl (by kernel_rfl) (reverseU_any w57 g n c p q B2 (H62.at 0 rfl) hn (by omega)) ?_
            rintro _ w69 ⟨B68, rfl, l70, S71, T72⟩
            have H74 : Sat w [rowU g n c B68, restC w (rowU g n c A).fp] w69 := (Sat.turn1 (L' := [rowU g n c B68]) (R := [restC w (rowU g n c A).fp]) H62 0 [1] (by decide) rfl rfl T72).pick [0, 1] (by decide)
            refine ⟨_, rfl, ?_⟩
            refine hK67 _ _ ?_
            clear hK67 K67
            refine w_nil ?_
            refine then_normal ?_
            refine w_seq ?_
            refine w_lit ?_
            refine wl_pure (wants0 rfl) (d := 55) (v := (.int .i64 ((q : Int)))) rfl (by kernel_rfl) ?_
            refine wl_pure (wants0 rfl) (d := 56) (v := (.int .i64 ((q : Int) - 1))) rfl (e_int (z := (q : Int) - 1) (by kernel_rfl) (IntWalk.i64_in _ (by omega))) ?_
            refine wl_pure (wants0 rfl) (d := 57) (v := (.int .i64 ((p58 : Int)))) rfl (by kernel_rfl) ?_
            refine wl_pure (wants0 rfl) (d := 58) (v := (.int .i64 ((p : Int)))) rfl (by kernel_rfl) ?_
            refine wl_pure (wants0 rfl) (d := 59) (v := (.int .i64 ((p58 : Int) - (p : Int)))) rfl (e_int (z := (p58 : Int) - (p : Int)) (by kernel_rfl) (IntWalk.i64_in _ (by omega))) ?_
            refine wl_pure (wants0 rfl) (d := 60) (v := (.int .i64 (((q : Int) - 1) - ((p58 : Int) - (p : Int))))) rfl (e_int (z := ((q : Int) - 1) - ((p58 : Int) - (p : Int))) (by kernel_rfl) (IntWalk.i64_in _ (by omega))) ?_
            refine wl_pure (wants0 rfl) (d := 11) (v := (.int .i64 (((q : Int) - 1) - ((p58 : Int) - (p : Int))))) rfl (by kernel_rfl) ?_
            refine w_nil ?_
            refine then_normal ?_
            refine w_lit ?_
            refine wl_pure (wants0 rfl) (d := 12) (v := (.int .i64 (1))) rfl (by kernel_rfl) ?_
            refine w_nil ?_
            refine meetR_at ?_ ⟨B68, ((q - 1) - (p58 - p)), 1, (show ((.int .i64 (((q : Int) - 1) - ((p58 : Int) - (p : Int)))) : Value) = _ by first | rfl | go_num), rfl, (by omega), (hP2.turn S71), l70, H74⟩
            exact (same_upd rfl (same_upd rfl (same_upd rfl (same_upd rfl (same_upd rfl (same_upd rfl (same_upd rfl (same_upd rfl (same_upd rfl (same_upd rfl (same_upd rfl (same_upd rfl (same_upd rfl (same_upd rfl (same_upd rfl (same_refl))))))))))))))))
          · have g75 := of_decide_eq_false b64
            refine wp_know 50 (.bool false) (congrArg Value.bool b64) ?_
            have g76 := of_decide_eq_false b64
            refine wp_iff rfl ?_
            refine w_skip ?_
            refine meetR_at ?_ ⟨B2, p58, q59, (show ((.int .i64 ((p58 : Int))) : Value) = _ by first | rfl | go_num), rfl, (by omega), hP2, hlB2, H62⟩
            exact (same_upd rfl (same_upd rfl (same_upd rfl (same_refl))))
        · rintro f77 w78 ⟨B3, pv, h2, v80, v81, hpv, hP3, hlB3, H79⟩
          refine wp_know 11 _ v80 ?_
          refine wp_know 12 _ v81 ?_
          refine wp_meetR [61, 62, 63, 64, 65, 66, 67, 68, 69, 70, 71, 72] (fun G_ W_ => ∃ (B4 : List Int), (Pdq ltU a b p q A B4) ∧ (B4.length = n) ∧ Sat w [rowU g n c B4, restC w (rowU g n c A).fp] W_) ?_ ?_
          · refine w_seq ?_
            refine w_lit ?_
            refine wl_pure (wants0 rfl) (d := 61) (v := (.bool (wb))) rfl (by kernel_rfl) ?_
            refine wl_pure (wants0 rfl) (d := 62) (v := (.bool (wb))) rfl (by kernel_rfl) ?_
            refine (bsplit (wb)).elim (fun b83 => ?_) (fun b83 => ?_)
            · refine wl_know 62 (.bool true) (congrArg Value.bool b83) ?_
              refine wl_pure (wantsY 1 62 true rfl (by kernel_rfl) rfl (by kernel_rfl)) (d := 63) (v := (.bool (wp))) rfl (by kernel_rfl) ?_
              refine wl_pure (wants0 rfl) (d := 64) (v := (.bool (wp))) rfl (by kernel_rfl) ?_
              refine wl_pure (wants0 rfl) (d := 65) (v := (.bool (wp))) rfl (by kernel_rfl) ?_
              refine (bsplit (wp)).elim (fun b84 => ?_) (fun b84 => ?_)
              · refine wl_know 65 (.bool true) (congrArg Value.bool b84) ?_
                refine wl_pure (wantsY 4 65 true rfl (by kernel_rfl) rfl (by kernel_rfl)) (d := 66) (v := (.int .i64 (h2))) rfl (by kernel_rfl) ?_
                refine wl_pure (wantsY 4 65 true rfl (by kernel_rfl) rfl (by kernel_rfl)) (d := 67) (v := (.bool (decide (h2 = 1)))) rfl (by kernel_rfl) ?_
                refine wl_pure (wants0 rfl) (d := 68) (v := (.bool (decide (h2 = 1)))) rfl (by kernel_rfl) ?_
                refine w_nil ?_
                refine then_normal ?_
                refine (bsplit (decide (h2 = 1))).elim (fun b85 => ?_) (fun b85 => ?_)
                · have g86 := of_decide_eq_true b85
                  refine wp_know 68 (.bool true) (congrArg Value.bool b85) ?_
                  have g87 := of_decide_eq_true b85
                  refine wp_ift rfl ?_
                  refine w_seq ?_
                  refine w_lit ?_
                  refine wl_pure (wants0 rfl) (d := 69) (v := (.slice (some ⟨g, 0, none⟩) n c)) rfl (by kernel_rfl) ?_
                  refine wl_pure (wants0 rfl) (d := 70) (v := (.int .i64 ((p : Int)))) rfl (by kernel_rfl) ?_
                  refine wl_pure (wants0 rfl) (d := 71) (v := (.int .i64 ((q : Int)))) rfl (by kernel_rfl) ?_
                  refine wl_do (wants0 rfl) (fun K88 hK88 => ?_)
                  refine d_call (d := 72) rfl (by kernel_rfl) (partialU_any w78 g n c p q B3 (H79.at 0 rfl) hn (by omega) (by omega) (hP3.low hLow)) ?_
                  rintro _ w90 ⟨B89, q94, rfl, l91, S92, h95, T93⟩
                  have H97 : Sat w [rowU g n c B89, restC w (rowU g n c A).fp] w90 := (Sat.turn1 (L' := [rowU g n c B89]) (R := [restC w (rowU g n c A).fp]) H79 0 [1] (by decide) rfl rfl T93).pick [0, 1] (by decide)
                  refine ⟨_, rfl, ?_⟩
                  refine hK88 _ _ ?_
                  clear hK88 K88
                  refine w_nil ?_
                  refine then_normal ?_
                  refine (bsplit (q94)).elim (fun b98 => ?_) (fun b98 => ?_)
                  · refine wp_know 72 (.bool true) (congrArg Value.bool b98) ?_
                    refine wp_ift rfl ?_
                    refine w_ret ?_
                    refine meet_ret ?_
                    refine blk_ret ?_
                    refine back_ret ?_
                    refine blk_ret ?_
                    refine end0 rfl  ?_
                    exact ⟨B89, rfl, l91, (hP3.turn S92).seg, (hP3.turn S92).done (h95 b98), H97⟩
                  · refine wp_know 72 (.bool false) (congrArg Value.bool b98) ?_
                    refine wp_iff rfl ?_
                    refine w_skip ?_
                    refine meetR_at ?_ ⟨B89, (hP3.turn S92), l91, H97⟩
                    exact (same_upd rfl (same_upd rfl (same_upd rfl (same_upd rfl (same_upd rfl (same_upd rfl (same_upd rfl (same_upd rfl (same_upd rfl (same_upd rfl (same_upd rfl (same_upd rfl (same_upd rfl (same_upd rfl (same_upd rfl (same_upd rfl (same_refl)))))))))))))))))
                · have g99 := of_decide_eq_false b85
                  refine wp_know 68 (.bool false) (congrArg Value.bool b85) ?_
                  have g100 := of_decide_eq_false b85
                  refine wp_iff rfl ?_
                  refine w_skip ?_
                  refine meetR_at ?_ ⟨B3, hP3, hlB3, H79⟩
                  exact (same_upd rfl (same_upd rfl (same_upd rfl (same_upd rfl (same_upd rfl (same_upd rfl (same_upd rfl (same_upd rfl (same_upd rfl (same_upd rfl (same_upd rfl (same_refl))))))))))))
              · refine wl_know 65 (.bool false) (congrArg Value.bool b84) ?_
                refine wl_pass (wantsN 4 65 true rfl (by kernel_rfl) rfl (by kernel_rfl)) rfl ?_
                refine wl_pass (wantsN 4 65 true rfl (by kernel_rfl) rfl (by kernel_rfl)) rfl ?_
                refine wl_pure (wants0 rfl) (d := 68) (v := (.bool false)) rfl (by kernel_rfl) ?_
                refine w_nil ?_
                refine then_normal ?_
                refine wp_iff rfl ?_
                refine w_skip ?_
                refine meetR_at ?_ ⟨B3, hP3, hlB3, H79⟩
                exact (same_upd rfl (same_upd rfl (same_upd rfl (same_upd rfl (same_upd rfl (same_upd rfl (same_upd rfl (same_upd rfl (same_upd rfl (same_upd rfl (same_refl)))))))))))
            · refine wl_know 62 (.bool false) (congrArg Value.bool b83) ?_
              refine wl_pass (wantsN 1 62 true rfl (by kernel_rfl) rfl (by kernel_rfl)) rfl ?_
              refine wl_pure (wants0 rfl) (d := 64) (v := (.bool false)) rfl (by kernel_rfl) ?_
              refine wl_pure (wants0 rfl) (d := 65) (v := (.bool false)) rfl (by kernel_rfl) ?_
              refine wl_pass (wantsN 4 65 true rfl (by kernel_rfl) rfl (by kernel_rfl)) rfl ?_
              refine wl_pass (wantsN 4 65 true rfl (by kernel_rfl) rfl (by kernel_rfl)) rfl ?_
              refine wl_pure (wants0 rfl) (d := 68) (v := (.bool false)) rfl (by kernel_rfl) ?_
              refine w_nil ?_
              refine then_normal ?_
              refine wp_iff rfl ?_
              refine w_skip ?_
              refine meetR_at ?_ ⟨B3, hP3, hlB3, H79⟩
              exact (same_upd rfl (same_upd rfl (same_upd rfl (same_upd rfl (same_upd rfl (same_upd rfl (same_upd rfl (same_upd rfl (same_upd rfl (same_refl))))))))))
          · rintro f101 w102 ⟨B4, hP4, hlB4, H103⟩
            refine w_seq ?_
            refine w_seq ?_
            refine q_start H103 (by kernel_rfl) (by kernel_rfl) ?_
            refine q_val (wants0 rfl) (d := 73) (v := (.int .i64 ((p : Int)))) rfl (fun _ H' => (by kernel_rfl)) ?_
            refine q_val (wants0 rfl) (d := 74) (v := (.bool (decide ((p : Int) > 0)))) rfl (fun _ H' => (by kernel_rfl)) ?_
            refine q_val (wants0 rfl) (d := 75) (v := (.bool (decide ((p : Int) > 0)))) rfl (fun _ H' => (by kernel_rfl)) ?_
            refine (bsplit (decide ((p : Int) > 0))).elim (fun b104 => ?_) (fun b104 => ?_)
            · have g105 := of_decide_eq_true b104
              refine q_know 75 (.bool true) (congrArg Value.bool b104) ?_
              have g106 := of_decide_eq_true b104
              refine q_val (wantsY 2 75 true rfl (by kernel_rfl) rfl (by kernel_rfl)) (d := 76) (v := (.slice (some ⟨g, 0, none⟩) n c)) rfl (fun _ H' => (by kernel_rfl)) ?_
              refine q_val (wantsY 2 75 true rfl (by kernel_rfl) rfl (by kernel_rfl)) (d := 77) (v := (.int .i64 ((p : Int)))) rfl (fun _ H' => (by kernel_rfl)) ?_
              refine q_val (wantsY 2 75 true rfl (by kernel_rfl) rfl (by kernel_rfl)) (d := 78) (v := (.int .i64 ((p : Int) - 1))) rfl (fun _ H' => (e_int (z := (p : Int) - 1) (by kernel_rfl) (IntWalk.i64_in _ (by omega)))) ?_
              refine q_val (wantsY 2 75 true rfl (by kernel_rfl) rfl (by kernel_rfl)) (d := 79) (v := (.pointer (some ⟨g, 0 + ((p : Int) - 1).toNat * 1, none⟩))) rfl (fun _ H' => (e_indexAddr (E := 23) (by kernel_rfl) (by kernel_rfl) (Nat.le_of_ble_eq_true rfl) rfl rfl (by omega) (by omega))) ?_
              obtain ⟨x107, h108⟩ := get_at (show (p - 1) < B4.length by omega)
              refine q_val (wantsY 2 75 true rfl (by kernel_rfl) rfl (by kernel_rfl)) (d := 80) (v := (.int .u64 (x107))) rfl (fun _ H' => (e_load1 rfl (by kernel_rfl) (rowU_cell (H'.at 0 rfl) h108 (show 0 + ((p : Int) - 1).toNat * 1 = (p - 1) by omega)))) ?_
              refine q_val (wantsY 2 75 true rfl (by kernel_rfl) rfl (by kernel_rfl)) (d := 81) (v := (.slice (some ⟨g, 0, none⟩) n c)) rfl (fun _ H' => (by kernel_rfl)) ?_
              refine q_val (wantsY 2 75 true rfl (by kernel_rfl) rfl (by kernel_rfl)) (d := 82) (v := (.int .i64 ((pv : Int)))) rfl (fun _ H' => (by kernel_rfl)) ?_
              refine q_val (wantsY 2 75 true rfl (by kernel_rfl) rfl (by kernel_rfl)) (d := 83) (v := (.pointer (some ⟨g, 0 + ((pv : Int)).toNat * 1, none⟩))) rfl (fun _ H' => (e_indexAddr (E := 23) (by kernel_rfl) (by kernel_rfl) (Nat.le_of_ble_eq_true rfl) rfl rfl (by omega) (by omega))) ?_
              obtain ⟨x109, h110⟩ := get_at (show pv < B4.length by omega)
              refine q_val (wantsY 2 75 true rfl (by kernel_rfl) rfl (by kernel_rfl)) (d := 84) (v := (.int .u64 (x109))) rfl (fun _ H' => (e_load1 rfl (by kernel_rfl) (rowU_cell (H'.at 0 rfl) h110 (show 0 + ((pv : Int)).toNat * 1 = pv by omega)))) ?_
              refine q_call (wantsY 2 75 true rfl (by kernel_rfl) rfl (by kernel_rfl)) (d := 85) (v := (.bool (ltU x107 x109))) rfl (fun _ _ => by kernel_rfl) (fun w' H' => (lessU_any w' x107 x109).mono fun _ _ h => ⟨h.1, H'.keepU h.2⟩) ?_
              refine q_val (wantsY 2 75 true rfl (by kernel_rfl) rfl (by kernel_rfl)) (d := 86) (v := (.bool (!(ltU x107 x109)))) rfl (fun _ H' => (by kernel_rfl)) ?_
              refine q_val (wants0 rfl) (d := 87) (v := (.bool (!(ltU x107 x109)))) rfl (fun _ H' => (by kernel_rfl)) ?_
              refine q_end ?_
              intro w111 H112
              refine then_normal ?_
              refine (bsplit (!(ltU x107 x109))).elim (fun b113 => ?_) (fun b113 => ?_)
              · have g114 := bnot_true b113
                refine wp_know 87 (.bool true) (congrArg Value.bool b113) ?_
                have g115 := bnot_true b113
                refine wp_ift rfl ?_
                refine w_seq ?_
                refine w_lit ?_
                refine wl_pure (wants0 rfl) (d := 88) (v := (.slice (some ⟨g, 0, none⟩) n c)) rfl (by kernel_rfl) ?_
                refine wl_pure (wants0 rfl) (d := 89) (v := (.int .i64 ((p : Int)))) rfl (by kernel_rfl) ?_
                refine wl_pure (wants0 rfl) (d := 90) (v := (.int .i64 ((q : Int)))) rfl (by kernel_rfl) ?_
                refine wl_pure (wants0 rfl) (d := 91) (v := (.int .i64 ((pv : Int)))) rfl (by kernel_rfl) ?_
                refine wl_do (wants0 rfl) (fun K116 hK116 => ?_)
                refine d_call (d := 92) rfl (by kernel_rfl) (parteqU_any w111 g n c p q pv B4 (H112.at 0 rfl) hn (by omega)) ?_
                rintro _ w118 ⟨B117, m122, y123, rfl, l119, S120, h124, h125, h126, h127, T121⟩
                have H129 : Sat w [rowU g n c B117, restC w (rowU g n c A).fp] w118 := (Sat.turn1 (L' := [rowU g n c B117]) (R := [restC w (rowU g n c A).fp]) H112 0 [1] (by decide) rfl rfl T121).pick [0, 1] (by decide)
                refine ⟨_, rfl, ?_⟩
                refine hK116 _ _ ?_
                clear hK116 K116
                refine wl_pure (wants0 rfl) (d := 13) (v := (.int .i64 ((m122 : Int)))) rfl (by kernel_rfl) ?_
                refine w_nil ?_
                refine then_normal ?_
                refine w_seq ?_
                have hge : AllIn (fun x => ltU x y123 = false) p q B4 := by
                  intro k x hk1 hk2 hx
                  have q1 : x109 = y123 := Option.some.inj (h110.symm.trans h127)
                  subst q1
                  rcases hP4.low hLow with q2 | q2
                  · omega
                  · exact hw.neg _ _ _ (q2 (p - 1) k _ _ (by omega) (by omega) hk1 hk2 h108 hx) (bnot_true b113)
                have hPe := (hP4.turn S120).equal hw h124.1 h124.2 h125 h126 (S120.all (Nat.le_refl _) (Nat.le_refl _) hge)
                refine w_lit ?_
                refine wl_pure (wants0 rfl) (d := 93) (v := (.int .i64 ((m122 : Int)))) rfl (by kernel_rfl) ?_
                refine wl_pure (wants0 rfl) (d := 1) (v := (.int .i64 ((m122 : Int)))) rfl (by kernel_rfl) ?_
                refine w_nil ?_
                refine then_normal ?_
                refine w_exit ?_
                refine then_exit ?_
                refine blk_hit ?_
                refine round_back ?_ _ ⟨m122, q, l2, (wb), (wp), B117, (show ((.int .i64 ((m122 : Int))) : Value) = _ by first | rfl | go_num), (show ((.int .i64 ((q : Int))) : Value) = _ by first | rfl | go_num), (show ((.int .i64 (l2)) : Value) = _ by first | rfl | go_num), (show ((.bool (wb)) : Value) = _ by first | rfl | go_num), (show ((.bool (wp)) : Value) = _ by first | rfl | go_num), hPe, l119, H129, rfl⟩ (by omega)
                exact (same_upd rfl (same_upd rfl (same_upd rfl (same_upd rfl (same_upd rfl (same_upd rfl (same_upd rfl (same_upd rfl (same_upd rfl (same_upd rfl (same_upd rfl (same_upd rfl (same_upd rfl (same_upd rfl (same_upd rfl (same_upd rfl (same_upd rfl (same_upd rfl (same_upd rfl (same_upd rfl (same_upd rfl (same_upd rfl (same_upd rfl (same_upd rfl (same_upd rfl (same_ovr2 rfl (same_upd rfl (same_upd rfl (same_ovr2 rfl (same_upd rfl (same_upd rfl (same_upd rfl (same_upd rfl (same_upd rfl (same_upd rfl (same_upd rfl (same_upd rfl (same_upd rfl (same_upd rfl (same_ovr2 rfl (same_upd rfl (same_upd rfl (same_upd rfl (same_upd rfl (same_upd rfl (same_upd rfl (same_upd rfl (same_upd rfl (same_upd rfl (same_upd rfl (same_upd rfl (same_upd rfl (same_upd rfl (same_upd rfl (same_upd rfl (same_ovr))))))))))))))))))))))))))))))))))))))))))))))))))))))))
              · have g130 := bnot_false b113
                refine wp_know 87 (.bool false) (congrArg Value.bool b113) ?_
                have g131 := bnot_false b113
                refine wp_iff rfl ?_
                refine w_skip ?_
                refine then_normal ?_
                refine w_seq ?_
                refine w_lit ?_
                refine wl_pure (wants0 rfl) (d := 95) (v := (.slice (some ⟨g, 0, none⟩) n c)) rfl (by kernel_rfl) ?_
                refine wl_pure (wants0 rfl) (d := 96) (v := (.int .i64 ((p : Int)))) rfl (by kernel_rfl) ?_
                refine wl_pure (wants0 rfl) (d := 97) (v := (.int .i64 ((q : Int)))) rfl (by kernel_rfl) ?_
                refine wl_pure (wants0 rfl) (d := 98) (v := (.int .i64 ((pv : Int)))) rfl (by kernel_rfl) ?_
                refine wl_do (wants0 rfl) (fun K132 hK132 => ?_)
                refine d_call (d := 99) rfl (by kernel_rfl) (partU_any w111 g n c p q pv B4 (H112.at 0 rfl) hn (by omega)) ?_
                rintro _ w134 ⟨B133, m138, q139, y140, rfl, l135, S136, h141, h142, h143, T137⟩
                have H145 : Sat w [rowU g n c B133, restC w (rowU g n c A).fp] w134 := (Sat.turn1 (L' := [rowU g n c B133]) (R := [restC w (rowU g n c A).fp]) H112 0 [1] (by decide) rfl rfl T137).pick [0, 1] (by decide)
                refine ⟨_, rfl, ?_⟩
                refine hK132 _ _ ?_
                clear hK132 K132
                refine wl_pure (wants0 rfl) (d := 94) (v := (.tuple #[(.int .i64 ((m138 : Int))), (.bool (q139))])) rfl (by kernel_rfl) ?_
                refine wl_pure (wants0 rfl) (d := 100) (v := (.int .i64 ((m138 : Int)))) rfl (by kernel_rfl) ?_
                refine wl_pure (wants0 rfl) (d := 101) (v := (.bool (q139))) rfl (by kernel_rfl) ?_
                refine wl_pure (wants0 rfl) (d := 14) (v := (.int .i64 ((m138 : Int)))) rfl (by kernel_rfl) ?_
                refine wl_pure (wants0 rfl) (d := 15) (v := (.bool (q139))) rfl (by kernel_rfl) ?_
                refine w_nil ?_
                refine then_normal ?_
                refine w_seq ?_
                refine w_lit ?_
                refine wl_pure (wants0 rfl) (d := 102) (v := (.bool (q139))) rfl (by kernel_rfl) ?_
                refine wl_pure (wants0 rfl) (d := 9) (v := (.bool (q139))) rfl (by kernel_rfl) ?_
                refine w_nil ?_
                refine then_normal ?_
                refine w_seq ?_
                refine w_lit ?_
                refine wl_pure (wants0 rfl) (d := 103) (v := (.int .i64 ((m138 : Int)))) rfl (by kernel_rfl) ?_
                refine wl_pure (wants0 rfl) (d := 104) (v := (.int .i64 ((p : Int)))) rfl (by kernel_rfl) ?_
                refine wl_pure (wants0 rfl) (d := 105) (v := (.int .i64 ((m138 : Int) - (p : Int)))) rfl (e_int (z := (m138 : Int) - (p : Int)) (by kernel_rfl) (IntWalk.i64_in _ (by omega))) ?_
                refine wl_pure (wants0 rfl) (d := 106) (v := (.int .i64 ((q : Int)))) rfl (by kernel_rfl) ?_
                refine wl_pure (wants0 rfl) (d := 107) (v := (.int .i64 ((m138 : Int)))) rfl (by kernel_rfl) ?_
                refine wl_pure (wants0 rfl) (d := 108) (v := (.int .i64 ((q : Int) - (m138 : Int)))) rfl (e_int (z := (q : Int) - (m138 : Int)) (by kernel_rfl) (IntWalk.i64_in _ (by omega))) ?_
                refine wl_pure (wants0 rfl) (d := 16) (v := (.int .i64 ((m138 : Int) - (p : Int)))) rfl (by kernel_rfl) ?_
                refine wl_pure (wants0 rfl) (d := 17) (v := (.int .i64 ((q : Int) - (m138 : Int)))) rfl (by kernel_rfl) ?_
                refine w_nil ?_
                refine then_normal ?_
                refine w_seq ?_
                refine w_lit ?_
                refine wl_pure (wants0 rfl) (d := 109) (v := (.int .i64 ((q : Int) - (p : Int)))) rfl (by kernel_rfl) ?_
                refine wl_pure (wants0 rfl) (d := 110) (v := (.int .i64 (((q : Int) - (p : Int)) / 8))) rfl (e_quo (by kernel_rfl) (by omega) (by omega) (IntWalk.i64_in _ (by omega))) ?_
                refine wl_pure (wants0 rfl) (d := 18) (v := (.int .i64 (((q : Int) - (p : Int)) / 8))) rfl (by kernel_rfl) ?_
                refine w_nil ?_
                refine then_normal ?_
                refine w_seq ?_
                refine w_lit ?_
                refine wl_pure (wants0 rfl) (d := 111) (v := (.int .i64 ((m138 : Int) - (p : Int)))) rfl (by kernel_rfl) ?_
                refine wl_pure (wants0 rfl) (d := 112) (v := (.int .i64 ((q : Int) - (m138 : Int)))) rfl (by kernel_rfl) ?_
                refine wl_pure (wants0 rfl) (d := 113) (v := (.bool (decide (((m138 : Int) - (p : Int)) < ((q : Int) - (m138 : Int)))))) rfl (by kernel_rfl) ?_
                refine w_nil ?_
                refine then_normal ?_
                refine (bsplit (decide (((m138 : Int) - (p : Int)) < ((q : Int) - (m138 : Int))))).elim (fun b146 => ?_) (fun b146 => ?_)
                · have g147 := of_decide_eq_true b146
                  refine wp_know 113 (.bool true) (congrArg Value.bool b146) ?_
                  have g148 := of_decide_eq_true b146
                  refine wp_ift rfl ?_
                  refine w_seq ?_
                  refine w_lit ?_
                  refine wl_pure (wants0 rfl) (d := 114) (v := (.int .i64 ((m138 : Int) - (p : Int)))) rfl (by kernel_rfl) ?_
                  refine wl_pure (wants0 rfl) (d := 115) (v := (.int .i64 (((q : Int) - (p : Int)) / 8))) rfl (by kernel_rfl) ?_
                  refine wl_pure (wants0 rfl) (d := 116) (v := (.bool (decide (((m138 : Int) - (p : Int)) ≥ (((q : Int) - (p : Int)) / 8))))) rfl (by kernel_rfl) ?_
                  refine wl_pure (wants0 rfl) (d := 8) (v := (.bool (decide (((m138 : Int) - (p : Int)) ≥ (((q : Int) - (p : Int)) / 8))))) rfl (by kernel_rfl) ?_
                  refine w_nil ?_
                  refine then_normal ?_
                  refine w_seq ?_
                  refine w_lit ?_
                  refine wl_pure (wants0 rfl) (d := 117) (v := (.slice (some ⟨g, 0, none⟩) n c)) rfl (by kernel_rfl) ?_
                  refine wl_pure (wants0 rfl) (d := 118) (v := (.int .i64 ((p : Int)))) rfl (by kernel_rfl) ?_
                  refine wl_pure (wants0 rfl) (d := 119) (v := (.int .i64 ((m138 : Int)))) rfl (by kernel_rfl) ?_
                  refine wl_pure (wants0 rfl) (d := 120) (v := (.int .i64 (l2))) rfl (by kernel_rfl) ?_
                  refine wl_do (wants0 rfl) (fun K149 hK149 => ?_)
                  refine wo_know 3 (.int .i64 ((l2 : Int))) (show ((.int .i64 (l2)) : Value) = _ by first | rfl | go_num) ?_
                  refine d_call (d := 121) rfl (by kernel_rfl) (ih (m138 - p) (by omega) w134 g n c p m138 (l2 : Int) B133 (Nat.le_refl _) (H145.at 0 rfl) hn (by omega) (((hP4.turn S136).low hLow).sub (by omega))) ?_
                  rintro _ w151 ⟨B150, rfl, l152, S153, s154, T155⟩
                  have H156 : Sat w [rowU g n c B150, restC w (rowU g n c A).fp] w151 := (Sat.turn1 (L' := [rowU g n c B150]) (R := [restC w (rowU g n c A).fp]) H145 0 [1] (by decide) rfl rfl T155).pick [0, 1] (by decide)
                  refine ⟨_, rfl, ?_⟩
                  refine hK149 _ _ ?_
                  clear hK149 K149
                  refine w_nil ?_
                  refine then_normal ?_
                  have hpm : B150[m138]? = some y140 := by rw [S153.out (.inr (Nat.le_refl _))]; exact h142
                  have hPn := ((hP4.turn S136).turn (S153.mono (Nat.le_refl _) (by omega))).lower hw h141.1 h141.2 hpm (h143.left S153) s154
                  refine w_lit ?_
                  refine wl_pure (wants0 rfl) (d := 122) (v := (.int .i64 ((m138 : Int)))) rfl (by kernel_rfl) ?_
                  refine wl_pure (wants0 rfl) (d := 123) (v := (.int .i64 ((m138 : Int) + 1))) rfl (e_int (z := (m138 : Int) + 1) (by kernel_rfl) (IntWalk.i64_in _ (by omega))) ?_
                  refine wl_pure (wants0 rfl) (d := 1) (v := (.int .i64 ((m138 : Int) + 1))) rfl (by kernel_rfl) ?_
                  refine w_nil ?_
                  refine blk_normal ?_
                  refine round_back ?_ _ ⟨(m138 + 1), q, (l2 : Int), (decide (((m138 : Int) - (p : Int)) ≥ (((q : Int) - (p : Int)) / 8))), (q139), B150, (show ((.int .i64 ((m138 : Int) + 1)) : Value) = _ by first | rfl | go_num), (show ((.int .i64 ((q : Int))) : Value) = _ by first | rfl | go_num), (show ((.int .i64 ((l2 : Int))) : Value) = _ by first | rfl | go_num), (show ((.bool (decide (((m138 : Int) - (p : Int)) ≥ (((q : Int) - (p : Int)) / 8)))) : Value) = _ by first | rfl | go_num), (show ((.bool (q139)) : Value) = _ by first | rfl | go_num), hPn, l152, H156, rfl⟩ (by omega)
                  exact (same_upd rfl (same_upd rfl (same_upd rfl (same_upd rfl (same_upd rfl (same_upd rfl (same_upd rfl (same_upd rfl (same_upd rfl (same_upd rfl (same_upd rfl (same_upd rfl (same_upd rfl (same_upd rfl (same_upd rfl (same_upd rfl (same_upd rfl (same_upd rfl (same_upd rfl (same_upd rfl (same_upd rfl (same_upd rfl (same_upd rfl (same_upd rfl (same_upd rfl (same_upd rfl (same_upd rfl (same_upd rfl (same_upd rfl (same_upd rfl (same_upd rfl (same_upd rfl (same_upd rfl (same_upd rfl (same_upd rfl (same_upd rfl (same_upd rfl (same_upd rfl (same_upd rfl (same_upd rfl (same_upd rfl (same_upd rfl (same_upd rfl (same_upd rfl (same_upd rfl (same_upd rfl (same_upd rfl (same_upd rfl (same_upd rfl (same_upd rfl (same_upd rfl (same_upd rfl (same_upd rfl (same_upd rfl (same_upd rfl (same_upd rfl (same_upd rfl (same_ovr2 rfl (same_upd rfl (same_upd rfl (same_ovr2 rfl (same_upd rfl (same_upd rfl (same_upd rfl (same_upd rfl (same_upd rfl (same_upd rfl (same_upd rfl (same_upd rfl (same_upd rfl (same_upd rfl (same_ovr2 rfl (same_upd rfl (same_upd rfl (same_upd rfl (same_upd rfl (same_upd rfl (same_upd rfl (same_upd rfl (same_upd rfl (same_upd rfl (same_upd rfl (same_upd rfl (same_upd rfl (same_upd rfl (same_upd rfl (same_upd rfl (same_ovr))))))))))))))))))))))))))))))))))))))))))))))))))))))))))))))))))))))))))))))))))))))))
                · have g157 := of_decide_eq_false b146
                  refine wp_know 113 (.bool false) (congrArg Value.bool b146) ?_
                  have g158 := of_decide_eq_false b146
                  refine wp_iff rfl ?_
                  refine w_seq ?_
                  refine w_lit ?_
                  refine wl_pure (wants0 rfl) (d := 124) (v := (.int .i64 ((q : Int) - (m138 : Int)))) rfl (by kernel_rfl) ?_
                  refine wl_pure (wants0 rfl) (d := 125) (v := (.int .i64 (((q : Int) - (p : Int)) / 8))) rfl (by kernel_rfl) ?_
                  refine wl_pure (wants0 rfl) (d := 126) (v := (.bool (decide (((q : Int) - (m138 : Int)) ≥ (((q : Int) - (p : Int)) / 8))))) rfl (by kernel_rfl) ?_
                  refine wl_pure (wants0 rfl) (d := 8) (v := (.bool (decide (((q : Int) - (m138 : Int)) ≥ (((q : Int) - (p : Int)) / 8))))) rfl (by kernel_rfl) ?_
                  refine w_nil ?_
                  refine then_normal ?_
                  refine w_seq ?_
                  refine w_lit ?_
                  refine wl_pure (wants0 rfl) (d := 127) (v := (.slice (some ⟨g, 0, none⟩) n c)) rfl (by kernel_rfl) ?_
                  refine wl_pure (wants0 rfl) (d := 128) (v := (.int .i64 ((m138 : Int)))) rfl (by kernel_rfl) ?_
                  refine wl_pure (wants0 rfl) (d := 129) (v := (.int .i64 ((m138 : Int) + 1))) rfl (e_int (z := (m138 : Int) + 1) (by kernel_rfl) (IntWalk.i64_in _ (by omega))) ?_
                  refine wl_pure (wants0 rfl) (d := 130) (v := (.int .i64 ((q : Int)))) rfl (by kernel_rfl) ?_
                  refine wl_pure (wants0 rfl) (d := 131) (v := (.int .i64 (l2))) rfl (by kernel_rfl) ?_
                  refine wl_do (wants0 rfl) (fun K159 hK159 => ?_)
                  refine wo_know 129 (.int .i64 (((m138 + 1 : Nat) : Int))) (show ((.int .i64 ((m138 : Int) + 1)) : Value) = _ by first | rfl | go_num) ?_
                  refine wo_know 3 (.int .i64 ((l2 : Int))) (show ((.int .i64 (l2)) : Value) = _ by first | rfl | go_num) ?_
                  refine d_call (d := 132) rfl (by kernel_rfl) (ih (q - (m138 + 1)) (by omega) w134 g n c (m138 + 1) q (l2 : Int) B133 (Nat.le_refl _) (H145.at 0 rfl) hn (by omega) (h143.low)) ?_
                  rintro _ w161 ⟨B160, rfl, l162, S163, s164, T165⟩
                  have H166 : Sat w [rowU g n c B160, restC w (rowU g n c A).fp] w161 := (Sat.turn1 (L' := [rowU g n c B160]) (R := [restC w (rowU g n c A).fp]) H145 0 [1] (by decide) rfl rfl T165).pick [0, 1] (by decide)
                  refine ⟨_, rfl, ?_⟩
                  refine hK159 _ _ ?_
                  clear hK159 K159
                  refine w_nil ?_
                  refine then_normal ?_
                  have hpm : B160[m138]? = some y140 := by rw [S163.out (.inl (by omega))]; exact h142
                  have hPn := ((hP4.turn S136).turn (S163.mono (by omega) (Nat.le_refl _))).upper hw h141.1 h141.2 hpm (h143.right S163) s164
                  refine w_lit ?_
                  refine wl_pure (wants0 rfl) (d := 133) (v := (.int .i64 ((m138 : Int)))) rfl (by kernel_rfl) ?_
                  refine wl_pure (wants0 rfl) (d := 2) (v := (.int .i64 ((m138 : Int)))) rfl (by kernel_rfl) ?_
                  refine w_nil ?_
                  refine blk_normal ?_
                  refine round_back ?_ _ ⟨p, m138, (l2 : Int), (decide (((q : Int) - (m138 : Int)) ≥ (((q : Int) - (p : Int)) / 8))), (q139), B160, (show ((.int .i64 ((p : Int))) : Value) = _ by first | rfl | go_num), (show ((.int .i64 ((m138 : Int))) : Value) = _ by first | rfl | go_num), (show ((.int .i64 ((l2 : Int))) : Value) = _ by first | rfl | go_num), (show ((.bool (decide (((q : Int) - (m138 : Int)) ≥ (((q : Int) - (p : Int)) / 8)))) : Value) = _ by first | rfl | go_num), (show ((.bool (q139)) : Value) = _ by first | rfl | go_num), hPn, l162, H166, rfl⟩ (by omega)
                  exact (same_upd rfl (same_upd rfl (same_upd rfl (same_upd rfl (same_upd rfl (same_upd rfl (same_upd rfl (same_upd rfl (same_upd rfl (same_upd rfl (same_upd rfl (same_upd rfl (same_upd rfl (same_upd rfl (same_upd rfl (same_upd rfl (same_upd rfl (same_upd rfl (same_upd rfl (same_upd rfl (same_upd rfl (same_upd rfl (same_upd rfl (same_upd rfl (same_upd rfl (same_upd rfl (same_upd rfl (same_upd rfl (same_upd rfl (same_upd rfl (same_upd rfl (same_upd rfl (same_upd rfl (same_upd rfl (same_upd rfl (same_upd rfl (same_upd rfl (same_upd rfl (same_upd rfl (same_upd rfl (same_upd rfl (same_upd rfl (same_upd rfl (same_upd rfl (same_upd rfl (same_upd rfl (same_upd rfl (same_upd rfl (same_upd rfl (same_upd rfl (same_upd rfl (same_upd rfl (same_upd rfl (same_upd rfl (same_upd rfl (same_upd rfl (same_upd rfl (same_upd rfl (same_ovr2 rfl (same_upd rfl (same_upd rfl (same_ovr2 rfl (same_upd rfl (same_upd rfl (same_upd rfl (same_upd rfl (same_upd rfl (same_upd rfl (same_upd rfl (same_upd rfl (same_upd rfl (same_upd rfl (same_ovr2 rfl (same_upd rfl (same_upd rfl (same_upd rfl (same_upd rfl (same_upd rfl (same_upd rfl (same_upd rfl (same_upd rfl (same_upd rfl (same_upd rfl (same_upd rfl (same_upd rfl (same_upd rfl (same_upd rfl (same_upd rfl (same_ovr)))))))))))))))))))))))))))))))))))))))))))))))))))))))))))))))))))))))))))))))))))))))))
            · have g167 := of_decide_eq_false b104
              refine q_know 75 (.bool false) (congrArg Value.bool b104) ?_
              have g168 := of_decide_eq_false b104
              refine q_pass (wantsN 2 75 true rfl (by kernel_rfl) rfl (by kernel_rfl)) rfl ?_
              refine q_pass (wantsN 2 75 true rfl (by kernel_rfl) rfl (by kernel_rfl)) rfl ?_
              refine q_pass (wantsN 2 75 true rfl (by kernel_rfl) rfl (by kernel_rfl)) rfl ?_
              refine q_pass (wantsN 2 75 true rfl (by kernel_rfl) rfl (by kernel_rfl)) rfl ?_
              refine q_pass (wantsN 2 75 true rfl (by kernel_rfl) rfl (by kernel_rfl)) rfl ?_
              refine q_pass (wantsN 2 75 true rfl (by kernel_rfl) rfl (by kernel_rfl)) rfl ?_
              refine q_pass (wantsN 2 75 true rfl (by kernel_rfl) rfl (by kernel_rfl)) rfl ?_
              refine q_pass (wantsN 2 75 true rfl (by kernel_rfl) rfl (by kernel_rfl)) rfl ?_
              refine q_pass (wantsN 2 75 true rfl (by kernel_rfl) rfl (by kernel_rfl)) rfl ?_
              refine q_pass (wantsN 2 75 true rfl (by kernel_rfl) rfl (by kernel_rfl)) rfl ?_
              refine q_pass (wantsN 2 75 true rfl (by kernel_rfl) rfl (by kernel_rfl)) rfl ?_
              refine q_val (wants0 rfl) (d := 87) (v := (.bool false)) rfl (fun _ H' => (by kernel_rfl)) ?_
              refine q_end ?_
              intro w169 H170
              refine then_normal ?_
              refine wp_iff rfl ?_
              refine w_skip ?_
              refine then_normal ?_
              refine w_seq ?_
              refine w_lit ?_
              refine wl_pure (wants0 rfl) (d := 95) (v := (.slice (some ⟨g, 0, none⟩) n c)) rfl (by kernel_rfl) ?_
              refine wl_pure (wants0 rfl) (d := 96) (v := (.int .i64 ((p : Int)))) rfl (by kernel_rfl) ?_
              refine wl_pure (wants0 rfl) (d := 97) (v := (.int .i64 ((q : Int)))) rfl (by kernel_rfl) ?_
              refine wl_pure (wants0 rfl) (d := 98) (v := (.int .i64 ((pv : Int)))) rfl (by kernel_rfl) ?_
              refine wl_do (wants0 rfl) (fun K171 hK171 => ?_)
              refine d_call (d := 99) rfl (by kernel_rfl) (partU_any w169 g n c p q pv B4 (H170.at 0 rfl) hn (by omega)) ?_
              rintro _ w173 ⟨B172, m177, q178, y179, rfl, l174, S175, h180, h181, h182, T176⟩
              have H184 : Sat w [rowU g n c B172, restC w (rowU g n c A).fp] w173 := (Sat.turn1 (L' := [rowU g n c B172]) (R := [restC w (rowU g n c A).fp]) H170 0 [1] (by decide) rfl rfl T176).pick [0, 1] (by decide)
              refine ⟨_, rfl, ?_⟩
              refine hK171 _ _ ?_
              clear hK171 K171
              refine wl_pure (wants0 rfl) (d := 94) (v := (.tuple #[(.int .i64 ((m177 : Int))), (.bool (q178))])) rfl (by kernel_rfl) ?_
              refine wl_pure (wants0 rfl) (d := 100) (v := (.int .i64 ((m177 : Int)))) rfl (by kernel_rfl) ?_
              refine wl_pure (wants0 rfl) (d := 101) (v := (.bool (q178))) rfl (by kernel_rfl) ?_
              refine wl_pure (wants0 rfl) (d := 14) (v := (.int .i64 ((m177 : Int)))) rfl (by kernel_rfl) ?_
              refine wl_pure (wants0 rfl) (d := 15) (v := (.bool (q178))) rfl (by kernel_rfl) ?_
              refine w_nil ?_
              refine then_normal ?_
              refine w_seq ?_
              refine w_lit ?_
              refine wl_pure (wants0 rfl) (d := 102) (v := (.bool (q178))) rfl (by kernel_rfl) ?_
              refine wl_pure (wants0 rfl) (d := 9) (v := (.bool (q178))) rfl (by kernel_rfl) ?_
              refine w_nil ?_
              refine then_normal ?_
              refine w_seq ?_
              refine w_lit ?_
              refine wl_pure (wants0 rfl) (d := 103) (v := (.int .i64 ((m177 : Int)))) rfl (by kernel_rfl) ?_
              refine wl_pure (wants0 rfl) (d := 104) (v := (.int .i64 ((p : Int)))) rfl (by kernel_rfl) ?_
              refine wl_pure (wants0 rfl) (d := 105) (v := (.int .i64 ((m177 : Int) - (p : Int)))) rfl (e_int (z := (m177 : Int) - (p : Int)) (by kernel_rfl) (IntWalk.i64_in _ (by omega))) ?_
              refine wl_pure (wants0 rfl) (d := 106) (v := (.int .i64 ((q : Int)))) rfl (by kernel_rfl) ?_
              refine wl_pure (wants0 rfl) (d := 107) (v := (.int .i64 ((m177 : Int)))) rfl (by kernel_rfl) ?_
              refine wl_pure (wants0 rfl) (d := 108) (v := (.int .i64 ((q : Int) - (m177 : Int)))) rfl (e_int (z := (q : Int) - (m177 : Int)) (by kernel_rfl) (IntWalk.i64_in _ (by omega))) ?_
              refine wl_pure (wants0 rfl) (d := 16) (v := (.int .i64 ((m177 : Int) - (p : Int)))) rfl (by kernel_rfl) ?_
              refine wl_pure (wants0 rfl) (d := 17) (v := (.int .i64 ((q : Int) - (m177 : Int)))) rfl (by kernel_rfl) ?_
              refine w_nil ?_
              refine then_normal ?_
              refine w_seq ?_
              refine w_lit ?_
              refine wl_pure (wants0 rfl) (d := 109) (v := (.int .i64 ((q : Int) - (p : Int)))) rfl (by kernel_rfl) ?_
              refine wl_pure (wants0 rfl) (d := 110) (v := (.int .i64 (((q : Int) - (p : Int)) / 8))) rfl (e_quo (by kernel_rfl) (by omega) (by omega) (IntWalk.i64_in _ (by omega))) ?_
              refine wl_pure (wants0 rfl) (d := 18) (v := (.int .i64 (((q : Int) - (p : Int)) / 8))) rfl (by kernel_rfl) ?_
              refine w_nil ?_
              refine then_normal ?_
              refine w_seq ?_
              refine w_lit ?_
              refine wl_pure (wants0 rfl) (d := 111) (v := (.int .i64 ((m177 : Int) - (p : Int)))) rfl (by kernel_rfl) ?_
              refine wl_pure (wants0 rfl) (d := 112) (v := (.int .i64 ((q : Int) - (m177 : Int)))) rfl (by kernel_rfl) ?_
              refine wl_pure (wants0 rfl) (d := 113) (v := (.bool (decide (((m177 : Int) - (p : Int)) < ((q : Int) - (m177 : Int)))))) rfl (by kernel_rfl) ?_
              refine w_nil ?_
              refine then_normal ?_
              refine (bsplit (decide (((m177 : Int) - (p : Int)) < ((q : Int) - (m177 : Int))))).elim (fun b185 => ?_) (fun b185 => ?_)
              · have g186 := of_decide_eq_true b185
                refine wp_know 113 (.bool true) (congrArg Value.bool b185) ?_
                have g187 := of_decide_eq_true b185
                refine wp_ift rfl ?_
                refine w_seq ?_
                refine w_lit ?_
                refine wl_pure (wants0 rfl) (d := 114) (v := (.int .i64 ((m177 : Int) - (p : Int)))) rfl (by kernel_rfl) ?_
                refine wl_pure (wants0 rfl) (d := 115) (v := (.int .i64 (((q : Int) - (p : Int)) / 8))) rfl (by kernel_rfl) ?_
                refine wl_pure (wants0 rfl) (d := 116) (v := (.bool (decide (((m177 : Int) - (p : Int)) ≥ (((q : Int) - (p : Int)) / 8))))) rfl (by kernel_rfl) ?_
                refine wl_pure (wants0 rfl) (d := 8) (v := (.bool (decide (((m177 : Int) - (p : Int)) ≥ (((q : Int) - (p : Int)) / 8))))) rfl (by kernel_rfl) ?_
                refine w_nil ?_
                refine then_normal ?_
                refine w_seq ?_
                refine w_lit ?_
                refine wl_pure (wants0 rfl) (d := 117) (v := (.slice (some ⟨g, 0, none⟩) n c)) rfl (by kernel_rfl) ?_
                refine wl_pure (wants0 rfl) (d := 118) (v := (.int .i64 ((p : Int)))) rfl (by kernel_rfl) ?_
                refine wl_pure (wants0 rfl) (d := 119) (v := (.int .i64 ((m177 : Int)))) rfl (by kernel_rfl) ?_
                refine wl_pure (wants0 rfl) (d := 120) (v := (.int .i64 (l2))) rfl (by kernel_rfl) ?_
                refine wl_do (wants0 rfl) (fun K188 hK188 => ?_)
                refine wo_know 3 (.int .i64 ((l2 : Int))) (show ((.int .i64 (l2)) : Value) = _ by first | rfl | go_num) ?_
                refine d_call (d := 121) rfl (by kernel_rfl) (ih (m177 - p) (by omega) w173 g n c p m177 (l2 : Int) B172 (Nat.le_refl _) (H184.at 0 rfl) hn (by omega) (((hP4.turn S175).low hLow).sub (by omega))) ?_
                rintro _ w190 ⟨B189, rfl, l191, S192, s193, T194⟩
                have H195 : Sat w [rowU g n c B189, restC w (rowU g n c A).fp] w190 := (Sat.turn1 (L' := [rowU g n c B189]) (R := [restC w (rowU g n c A).fp]) H184 0 [1] (by decide) rfl rfl T194).pick [0, 1] (by decide)
                refine ⟨_, rfl, ?_⟩
                refine hK188 _ _ ?_
                clear hK188 K188
                refine w_nil ?_
                refine then_normal ?_
                have hpm : B189[m177]? = some y179 := by rw [S192.out (.inr (Nat.le_refl _))]; exact h181
                have hPn := ((hP4.turn S175).turn (S192.mono (Nat.le_refl _) (by omega))).lower hw h180.1 h180.2 hpm (h182.left S192) s193
                refine w_lit ?_
                refine wl_pure (wants0 rfl) (d := 122) (v := (.int .i64 ((m177 : Int)))) rfl (by kernel_rfl) ?_
                refine wl_pure (wants0 rfl) (d := 123) (v := (.int .i64 ((m177 : Int) + 1))) rfl (e_int (z := (m177 : Int) + 1) (by kernel_rfl) (IntWalk.i64_in _ (by omega))) ?_
                refine wl_pure (wants0 rfl) (d := 1) (v := (.int .i64 ((m177 : Int) + 1))) rfl (by kernel_rfl) ?_
                refine w_nil ?_
                refine blk_normal ?_
                refine round_back ?_ _ ⟨(m177 + 1), q, (l2 : Int), (decide (((m177 : Int) - (p : Int)) ≥ (((q : Int) - (p : Int)) / 8))), (q178), B189, (show ((.int .i64 ((m177 : Int) + 1)) : Value) = _ by first | rfl | go_num), (show ((.int .i64 ((q : Int))) : Value) = _ by first | rfl | go_num), (show ((.int .i64 ((l2 : Int))) : Value) = _ by first | rfl | go_num), (show ((.bool (decide (((m177 : Int) - (p : Int)) ≥ (((q : Int) - (p : Int)) / 8)))) : Value) = _ by first | rfl | go_num), (show ((.bool (q178)) : Value) = _ by first | rfl | go_num), hPn, l191, H195, rfl⟩ (by omega)
                exact (same_upd rfl (same_upd rfl (same_upd rfl (same_upd rfl (same_upd rfl (same_upd rfl (same_upd rfl (same_upd rfl (same_upd rfl (same_upd rfl (same_upd rfl (same_upd rfl (same_upd rfl (same_upd rfl (same_upd rfl (same_upd rfl (same_upd rfl (same_upd rfl (same_upd rfl (same_upd rfl (same_upd rfl (same_upd rfl (same_upd rfl (same_upd rfl (same_upd rfl (same_upd rfl (same_upd rfl (same_upd rfl (same_upd rfl (same_upd rfl (same_upd rfl (same_upd rfl (same_upd rfl (same_upd rfl (same_upd rfl (same_upd rfl (same_upd rfl (same_upd rfl (same_upd rfl (same_upd rfl (same_upd rfl (same_upd rfl (same_upd rfl (same_upd rfl (same_upd rfl (same_upd rfl (same_upd rfl (same_upd rfl (same_upd rfl (same_upd rfl (same_upd rfl (same_upd rfl (same_upd rfl (same_upd rfl (same_upd rfl (same_upd rfl (same_ovr2 rfl (same_upd rfl (same_upd rfl (same_ovr2 rfl (same_upd rfl (same_upd rfl (same_upd rfl (same_upd rfl (same_upd rfl (same_upd rfl (same_upd rfl (same_upd rfl (same_upd rfl (same_upd rfl (same_ovr2 rfl (same_upd rfl (same_upd rfl (same_upd rfl (same_upd rfl (same_upd rfl (same_upd rfl (same_upd rfl (same_upd rfl (same_upd rfl (same_upd rfl (same_upd rfl (same_upd rfl (same_upd rfl (same_upd rfl (same_upd rfl (same_ovr)))))))))))))))))))))))))))))))))))))))))))))))))))))))))))))))))))))))))))))))))))))))
              · have g196 := of_decide_eq_false b185
                refine wp_know 113 (.bool false) (congrArg Value.bool b185) ?_
                have g197 := of_decide_eq_false b185
                refine wp_iff rfl ?_
                refine w_seq ?_
                refine w_lit ?_
                refine wl_pure (wants0 rfl) (d := 124) (v := (.int .i64 ((q : Int) - (m177 : Int)))) rfl (by kernel_rfl) ?_
                refine wl_pure (wants0 rfl) (d := 125) (v := (.int .i64 (((q : Int) - (p : Int)) / 8))) rfl (by kernel_rfl) ?_
                refine wl_pure (wants0 rfl) (d := 126) (v := (.bool (decide (((q : Int) - (m177 : Int)) ≥ (((q : Int) - (p : Int)) / 8))))) rfl (by kernel_rfl) ?_
                refine wl_pure (wants0 rfl) (d := 8) (v := (.bool (decide (((q : Int) - (m177 : Int)) ≥ (((q : Int) - (p : Int)) / 8))))) rfl (by kernel_rfl) ?_
                refine w_nil ?_
                refine then_normal ?_
                refine w_seq ?_
                refine w_lit ?_
                refine wl_pure (wants0 rfl) (d := 127) (v := (.slice (some ⟨g, 0, none⟩) n c)) rfl (by kernel_rfl) ?_
                refine wl_pure (wants0 rfl) (d := 128) (v := (.int .i64 ((m177 : Int)))) rfl (by kernel_rfl) ?_
                refine wl_pure (wants0 rfl) (d := 129) (v := (.int .i64 ((m177 : Int) + 1))) rfl (e_int (z := (m177 : Int) + 1) (by kernel_rfl) (IntWalk.i64_in _ (by omega))) ?_
                refine wl_pure (wants0 rfl) (d := 130) (v := (.int .i64 ((q : Int)))) rfl (by kernel_rfl) ?_
                refine wl_pure (wants0 rfl) (d := 131) (v := (.int .i64 (l2))) rfl (by kernel_rfl) ?_
                refine wl_do (wants0 rfl) (fun K198 hK198 => ?_)
                refine wo_know 129 (.int .i64 (((m177 + 1 : Nat) : Int))) (show ((.int .i64 ((m177 : Int) + 1)) : Value) = _ by first | rfl | go_num) ?_
                refine wo_know 3 (.int .i64 ((l2 : Int))) (show ((.int .i64 (l2)) : Value) = _ by first | rfl | go_num) ?_
                refine d_call (d := 132) rfl (by kernel_rfl) (ih (q - (m177 + 1)) (by omega) w173 g n c (m177 + 1) q (l2 : Int) B172 (Nat.le_refl _) (H184.at 0 rfl) hn (by omega) (h182.low)) ?_
                rintro _ w200 ⟨B199, rfl, l201, S202, s203, T204⟩
                have H205 : Sat w [rowU g n c B199, restC w (rowU g n c A).fp] w200 := (Sat.turn1 (L' := [rowU g n c B199]) (R := [restC w (rowU g n c A).fp]) H184 0 [1] (by decide) rfl rfl T204).pick [0, 1] (by decide)
                refine ⟨_, rfl, ?_⟩
                refine hK198 _ _ ?_
                clear hK198 K198
                refine w_nil ?_
                refine then_normal ?_
                have hpm : B199[m177]? = some y179 := by rw [S202.out (.inl (by omega))]; exact h181
                have hPn := ((hP4.turn S175).turn (S202.mono (by omega) (Nat.le_refl _))).upper hw h180.1 h180.2 hpm (h182.right S202) s203
                refine w_lit ?_
                refine wl_pure (wants0 rfl) (d := 133) (v := (.int .i64 ((m177 : Int)))) rfl (by kernel_rfl) ?_
                refine wl_pure (wants0 rfl) (d := 2) (v := (.int .i64 ((m177 : Int)))) rfl (by kernel_rfl) ?_
                refine w_nil ?_
                refine blk_normal ?_
                refine round_back ?_ _ ⟨p, m177, (l2 : Int), (decide (((q : Int) - (m177 : Int)) ≥ (((q : Int) - (p : Int)) / 8))), (q178), B199, (show ((.int .i64 ((p : Int))) : Value) = _ by first | rfl | go_num), (show ((.int .i64 ((m177 : Int))) : Value) = _ by first | rfl | go_num), (show ((.int .i64 ((l2 : Int))) : Value) = _ by first | rfl | go_num), (show ((.bool (decide (((q : Int) - (m177 : Int)) ≥ (((q : Int) - (p : Int)) / 8)))) : Value) = _ by first | rfl | go_num), (show ((.bool (q178)) : Value) = _ by first | rfl | go_num), hPn, l201, H205, rfl⟩ (by omega)
                exact (same_upd rfl (same_upd rfl (same_upd rfl (same_upd rfl (same_upd rfl (same_upd rfl (same_upd rfl (same_upd rfl (same_upd rfl (same_upd rfl (same_upd rfl (same_upd rfl (same_upd rfl (same_upd rfl (same_upd rfl (same_upd rfl (same_upd rfl (same_upd rfl (same_upd rfl (same_upd rfl (same_upd rfl (same_upd rfl (same_upd rfl (same_upd rfl (same_upd rfl (same_upd rfl (same_upd rfl (same_upd rfl (same_upd rfl (same_upd rfl (same_upd rfl (same_upd rfl (same_upd rfl (same_upd rfl (same_upd rfl (same_upd rfl (same_upd rfl (same_upd rfl (same_upd rfl (same_upd rfl (same_upd rfl (same_upd rfl (same_upd rfl (same_upd rfl (same_upd rfl (same_upd rfl (same_upd rfl (same_upd rfl (same_upd rfl (same_upd rfl (same_upd rfl (same_upd rfl (same_upd rfl (same_upd rfl (same_upd rfl (same_upd rfl (same_upd rfl (same_ovr2 rfl (same_upd rfl (same_upd rfl (same_ovr2 rfl (same_upd rfl (same_upd rfl (same_upd rfl (same_upd rfl (same_upd rfl (same_upd rfl (same_upd rfl (same_upd rfl (same_upd rfl (same_upd rfl (same_ovr2 rfl (same_upd rfl (same_upd rfl (same_upd rfl (same_upd rfl (same_upd rfl (same_upd rfl (same_upd rfl (same_upd rfl (same_upd rfl (same_upd rfl (same_upd rfl (same_upd rfl (same_upd rfl (same_upd rfl (same_upd rfl (same_ovr))))))))))))))))))))))))))))))))))))))))))))))))))))))))))))))))))))))))))))))))))))))))
theorem pdqU_any (d : Nat) : PdqUAt d := by
  induction d using Nat.strongRecOn with
  | _ d ih => intro w g n c a b lim A hd hT hn hab hLow; exact pdqU_step w d ih g n c a b lim A hd hT hn hab hLow

set_option maxRecDepth 100000 in
set_option maxHeartbeats 400000 in
theorem sortU_any (w : World) (g n c : Nat) (A : List Int) (hT : (rowU g n c A).ok w) (hn : n ≤ 1000000000000) :
    Calls Try.prog 58 #[(.slice (some ⟨g, 0, none⟩) n c)] w fun e w' => ∃ B : List Int, e = .returned (.tuple #[]) ∧ B.length = n ∧ B.Perm A ∧ Srt ltU 0 B.length B ∧ Sat w [rowU g n c B, restC w (rowU g n c A).fp] w' := by
  have H : Sat w [rowU g n c A, restC w (rowU g n c A).fp] w := Sat.start1 hT
  have hl := rowU_len hT
  have hw := swU
  refine calls_fr Try.func58 rfl 11 rfl (Nat.le_of_ble_eq_true rfl) ?_
  refine w_seq ?_
  refine w_lit ?_
  refine wl_pure (wants0 rfl) (d := 3) (v := (.slice (some ⟨g, 0, none⟩) n c)) rfl (by kernel_rfl) ?_
  refine wl_pure (wants0 rfl) (d := 4) (v := (.int .i64 ((n : Int)))) rfl (by kernel_rfl) ?_
  refine wl_pure (wants0 rfl) (d := 2) (v := (.int .i64 ((n : Int)))) rfl (by kernel_rfl) ?_
  refine w_nil ?_
  refine then_normal ?_
  refine w_lit ?_
  refine wl_pure (wants0 rfl) (d := 5) (v := (.slice (some ⟨g, 0, none⟩) n c)) rfl (by kernel_rfl) ?_
  refine wl_pure (wants0 rfl) (d := 6) (v := (.int .i64 ((n : Int)))) rfl (by kernel_rfl) ?_
  refine wl_pure (wants0 rfl) (d := 7) (v := (.int .i64 ((n : Int)))) rfl (by kernel_rfl) ?_
  refine wl_pure (wants0 rfl) (d := 8) (v := (.int .u64 ((n : Int)))) rfl (e_int (z := (n : Int)) (by kernel_rfl) (wrap_u64 (by omega))) ?_
  refine wl_do (wants0 rfl) (fun K1 hK1 => ?_)
  refine d_call (d := 9) rfl (by kernel_rfl) (blen_any w (n : Int) (by omega)) ?_
  rintro _ w2 ⟨rfl, u4⟩
  have H3 := H.keepU u4
  refine ⟨_, rfl, ?_⟩
  refine hK1 _ _ ?_
  clear hK1 K1
  refine wl_do (wants0 rfl) (fun K5 hK5 => ?_)
  refine d_call (d := 10) rfl (by kernel_rfl) (pdqU_any n w2 g n c 0 n (Lib.bitLen (n : Int).toNat : Int) A (by omega) (H3.at 0 rfl) hn (by omega) (.inl rfl)) ?_
  rintro _ w7 ⟨B6, rfl, l8, S9, s10, T11⟩
  have H12 : Sat w [rowU g n c B6, restC w (rowU g n c A).fp] w7 := Sat.turn1 (L' := [rowU g n c B6]) (R := [restC w (rowU g n c A).fp]) H3 0 [1] (by decide) rfl rfl T11
  refine ⟨_, rfl, ?_⟩
  refine hK5 _ _ ?_
  clear hK5 K5
  refine w_nil ?_
  refine end_normal ?_
  refine end0 rfl  ?_
  exact ⟨B6, rfl, l8, S9.perm, by rw [← l8] at s10; exact s10, H12⟩

end Go.Proofs.Ytbpeofcoceaahaa
