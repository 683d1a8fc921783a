/- WHAT IS PROVED: what comes of acts. Conditions: stated with each. -/
import Derived.Test.YthjmbhneifjeeaaSaid14
import Derived.Test.YthjmbhneifjeeaaSmall
namespace Go.Proofs.Ythjmbhneifjeeaa
open Go.RowKit

set_option maxRecDepth 100000 in
set_option maxHeartbeats 1000000 in
theorem speak_any (w : World) (f c ep from' : Int) (v : Value) (A : List ActD) (hA : (rowC 45 35 v A.length (A.flatMap encA)).ok w) (hAl : A.length ≤ 100000000) :
    Calls Try.prog 23 #[(.agg ⟨([(.int .i64 (f)), (.int .i64 (c))] : List Value)⟩), (.int .i64 (ep)), (.int .i64 (from')), v] w fun e w' => ∃ u, e = .returned u ∧ (rowC 52 37 u (A.flatMap (speakA from')).length ((A.flatMap (speakA from')).flatMap encS)).ok w' ∧ Upd [] w w' ∧ ∀ b, (rowC 52 37 u (A.flatMap (speakA from')).length ((A.flatMap (speakA from')).flatMap encS)).fp b → w.heap.size ≤ b := by
  have H := Sat.start0 w
  refine calls_fr Try.func23 rfl 74 rfl (Nat.le_of_ble_eq_true rfl) ?_
  refine w_seq ?_
  refine w_lit ?_
  refine wl_do (wants0 rfl) (fun K1 hK1 => ?_)
  refine d_box (vs := ([(.int .i64 (f)), (.int .i64 (c))] : List Value)) rfl H rfl rfl ?_
  intro b2 w3 (H4 : Sat w [restC w (fun _ => False), cellC b2 25 ([(.int .i64 (f)), (.int .i64 (c))] : List Value)] w3)
  refine hK1 _ _ ?_
  clear hK1 K1
  refine wl_pure (wants0 rfl) (d := 8) (v := (.slice none 0 0)) rfl (by kernel_rfl) ?_
  refine w_nil ?_
  refine then_normal ?_
  refine w_seq ?_
  refine w_lit ?_
  refine wl_pure (wants0 rfl) (d := 9) (v := (.slice none 0 0)) rfl (by kernel_rfl) ?_
  refine w_nil ?_
  refine then_normal ?_
  refine w_seq ?_
  refine w_seq ?_
  refine w_lit ?_
  refine wl_pure (wants0 rfl) (d := 14) (v := v) rfl (by kernel_rfl) ?_
  refine wl_pure (wants0 rfl) (d := 15) (v := (.int .i64 ((A.length : Int)))) rfl (e_lenRow (E := 45) (by kernel_rfl) (H4.roCk 0 rfl hA (fun _ _ h => h)) rfl) ?_
  refine wl_pure (wants0 rfl) (d := 16) (v := (.int .i64 (0))) rfl (by kernel_rfl) ?_
  refine w_nil ?_
  refine then_normal ?_
  refine w_block ?_
  have Hn := H4.addNil 52 37
  refine wp_round [9, 10, 11, 12, 13, 16, 17, 18, 19, 20, 21, 22, 23, 24, 25, 26, 27, 28, 29, 30, 31, 32, 33, 34, 35, 36, 37, 38, 39, 40, 41, 42, 43, 44, 45, 46, 47, 48, 49, 50, 51, 52, 53, 54, 55, 56, 57, 58, 59, 60, 61, 62, 63, 64, 65, 66, 67, 68, 69, 70, 71, 72] (fun F_ W_ m_ => ∃ (i : Nat) (a : Option Addr) (q : Nat), F_ 16 = (.int .i64 ((i : Int))) ∧ F_ 9 = (.slice a ((A.take i).flatMap (speakA from')).length q) ∧ (i ≤ A.length) ∧ Sat w [restC w (fun _ => False), cellC b2 25 ([(.int .i64 (f)), (.int .i64 (c))] : List Value), rowC 52 37 (.slice a ((A.take i).flatMap (speakA from')).length q) (((A.take i).flatMap (speakA from')).length) (((A.take i).flatMap (speakA from')).flatMap encS)] W_ ∧ m_ = A.length - i) _ ⟨0, none, 0, (show ((.int .i64 (0)) : Value) = _ by first | rfl | go_num), (by first | rfl | go_num), (Nat.zero_le _), Hn, rfl⟩ ?_
  rintro g5 w6 _ ⟨i, a, q, v8, v9, hi, H7, rfl⟩
  refine wp_know 16 _ v8 ?_
  refine wp_know 9 _ v9 ?_
  have hsl := speakA_len from' (A.take i)
  have hsl2 := List.length_take (i := i) (l := A)
  refine w_seq ?_
  refine w_lit ?_
  refine wl_pure (wants0 rfl) (d := 17) (v := (.bool (decide ((i : Int) < (A.length : Int))))) rfl (by kernel_rfl) ?_
  refine w_nil ?_
  refine then_normal ?_
  refine w_seq ?_
  refine (bsplit (decide ((i : Int) < (A.length : Int)))).elim (fun b11 => ?_) (fun b11 => ?_)
  · have g12 := of_decide_eq_true b11
    refine wp_know 17 (.bool true) (congrArg Value.bool b11) ?_
    refine wp_ift rfl ?_
    refine w_skip ?_
    refine then_normal ?_
    refine w_seq ?_
    refine w_block ?_
    refine w_seq ?_
    refine w_lit ?_
    refine wl_pure (wants0 rfl) (d := 18) (v := (.int .i64 ((i : Int)))) rfl (by kernel_rfl) ?_
    refine wl_pure (wants0 rfl) (d := 10) (v := (.int .i64 ((i : Int)))) rfl (by kernel_rfl) ?_
    refine w_nil ?_
    refine then_normal ?_
    refine w_seq ?_
    refine w_lit ?_
    refine wl_pure (wants0 rfl) (d := 19) (v := v) rfl (by kernel_rfl) ?_
    refine wl_pure (wants0 rfl) (d := 20) (v := (.int .i64 ((i : Int)))) rfl (by kernel_rfl) ?_
    obtain ⟨g13, c14, e15⟩ := row_shape hA (by omega)
    obtain ⟨x16, h17⟩ := get_at (show i < A.length by omega)
    refine wl_pure (wants0 rfl) (d := 21) (v := (.pointer (some ⟨g13, 0 + ((i : Int)).toNat * 35, none⟩))) rfl (e_indexAddrV (E := 45) (by kernel_rfl) (by kernel_rfl) (Nat.le_of_ble_eq_true rfl) rfl e15 rfl (by omega) (by omega)) ?_
    refine wl_pure (wants0 rfl) (d := 22) (v := (.agg ⟨(([(.int .i64 (x16.kind)), (.int .i64 (x16.round)), (.int .i64 (x16.valid))] : List Value) ++ hc x16.h)⟩)) rfl (e_loadRun (vs := (([(.int .i64 (x16.kind)), (.int .i64 (x16.round)), (.int .i64 (x16.valid))] : List Value) ++ hc x16.h)) rfl (by kernel_rfl) (by kernel_rfl) (Nat.le_of_ble_eq_true (by kernel_rfl)) (rows_run (H7.roCk 0 rfl hA (fun _ _ h => h)) e15 encA_len h17 0 (show 0 + ((i : Int)).toNat * 35 = i * 35 + 0 by omega) (by kernel_rfl) (by kernel_rfl))) ?_
    refine wl_do (wants0 rfl) (fun K18 hK18 => ?_)
    refine d_alloc (zs := (([(.int .i64 (0)), (.int .i64 (0)), (.int .i64 (0))] : List Value) ++ hc hash0)) (z := (.agg ⟨(([(.int .i64 (0)), (.int .i64 (0)), (.int .i64 (0))] : List Value) ++ hc hash0)⟩)) rfl H7 (by kernel_rfl) (by kernel_rfl) ?_
    intro b19 w20 (H21 : Sat w [restC w (fun _ => False), cellC b2 25 ([(.int .i64 (f)), (.int .i64 (c))] : List Value), rowC 52 37 (.slice a ((A.take i).flatMap (speakA from')).length q) (((A.take i).flatMap (speakA from')).length) (((A.take i).flatMap (speakA from')).flatMap encS), cellC b19 45 (([(.int .i64 (0)), (.int .i64 (0)), (.int .i64 (0))] : List Value) ++ hc hash0)] w20)
    refine hK18 _ _ ?_
    clear hK18 K18
    refine wl_do (wants0 rfl) (fun K22 hK22 => ?_)
    refine d_storeX (vs := (([(.int .i64 (x16.kind)), (.int .i64 (x16.round)), (.int .i64 (x16.valid))] : List Value) ++ hc x16.h)) (cs' := (([(.int .i64 (x16.kind)), (.int .i64 (x16.round)), (.int .i64 (x16.valid))] : List Value) ++ hc x16.h)) rfl H21 3 rfl rfl rfl rfl (by kernel_rfl) (Nat.le_of_ble_eq_true (by kernel_rfl)) (Nat.le_of_ble_eq_true (by kernel_rfl)) (by kernel_rfl) (by kernel_rfl) ?_
    intro w23 (H24 : Sat w [restC w (fun _ => False), cellC b2 25 ([(.int .i64 (f)), (.int .i64 (c))] : List Value), rowC 52 37 (.slice a ((A.take i).flatMap (speakA from')).length q) (((A.take i).flatMap (speakA from')).length) (((A.take i).flatMap (speakA from')).flatMap encS), cellC b19 45 (([(.int .i64 (x16.kind)), (.int .i64 (x16.round)), (.int .i64 (x16.valid))] : List Value) ++ hc x16.h)] w23)
    refine hK22 _ _ ?_
    clear hK22 K22
    refine w_nil ?_
    refine then_normal ?_
    refine w_seq ?_
    refine w_lit ?_
    refine wl_pure (wants0 rfl) (d := 23) (v := (.pointer (some ⟨b19, 0, none⟩))) rfl (by kernel_rfl) ?_
    refine wl_pure (wants0 rfl) (d := 24) (v := (.int .i64 (x16.kind))) rfl (e_load1 rfl (by kernel_rfl) (H24.cell 3 rfl (by kernel_rfl))) ?_
    refine w_nil ?_
    refine then_normal ?_
    refine w_block ?_
    refine w_seq ?_
    refine w_lit ?_
    refine wl_pure (wants0 rfl) (d := 26) (v := (.bool (decide (x16.kind = 1)))) rfl (by kernel_rfl) ?_
    refine wl_pure (wants0 rfl) (d := 25) (v := (.bool (decide (x16.kind = 1)))) rfl (by kernel_rfl) ?_
    refine w_nil ?_
    refine then_normal ?_
    refine (bsplit (decide (x16.kind = 1))).elim (fun b26 => ?_) (fun b26 => ?_)
    · have g27 := of_decide_eq_true b26
      refine wp_know 25 (.bool true) (congrArg Value.bool b26) ?_
      refine wp_ift rfl ?_
      refine w_seq ?_
      refine h_start H24 [restC w (fun _ => False), cellC b2 25 ([(.int .i64 (f)), (.int .i64 (c))] : List Value), rowC 52 37 (.slice a ((A.take i).flatMap (speakA from')).length q) (((A.take i).flatMap (speakA from')).length) (((A.take i).flatMap (speakA from')).flatMap encS), cellC b19 45 (([(.int .i64 (x16.kind)), (.int .i64 (x16.round)), (.int .i64 (x16.valid))] : List Value) ++ hc x16.h)] 7 rfl (by kernel_rfl) (fun Hx => (Hx.pick [0, 1, 2, 3] (by decide))) ?_
      intro w28 H29 S30
      refine h_val 0 rfl (by kernel_rfl) (by kernel_rfl) (by kernel_rfl) (fun _ _ _ h => h) S30 (wants0 rfl) (d := 27) (v := (.pointer (some ⟨b19, 3, none⟩))) rfl (fun _ H' => (by kernel_rfl)) ?_
      refine h_val 1 rfl (by kernel_rfl) (by kernel_rfl) (by kernel_rfl) (fun _ _ _ h => h) S30 (wants0 rfl) (d := 28) (v := (.agg ⟨(hc x16.h)⟩)) rfl (fun _ H' => (e_loadN (vs := (hc x16.h)) rfl (by kernel_rfl) (by kernel_rfl) (by exact Nat.le_of_ble_eq_true (by kernel_rfl)) (H'.at 3 rfl) (by kernel_rfl))) ?_
      refine h_val 2 rfl (by kernel_rfl) (by kernel_rfl) (by kernel_rfl) (fun _ _ _ h => h) S30 (wants0 rfl) (d := 29) (v := (.pointer (some ⟨b19, 2, none⟩))) rfl (fun _ H' => (by kernel_rfl)) ?_
      refine h_val 3 rfl (by kernel_rfl) (by kernel_rfl) (by kernel_rfl) (fun _ _ _ h => h) S30 (wants0 rfl) (d := 30) (v := (.int .i64 (x16.valid))) rfl (fun _ H' => (e_load1 rfl (by kernel_rfl) (H'.cell 3 rfl (by kernel_rfl)))) ?_
      refine h_do 4 rfl (by kernel_rfl) (wants0 rfl) (fun K31 hK31 => ?_)
      refine d_alloc (zs := (hc hash0)) (z := (.agg ⟨(hc hash0)⟩)) rfl H29 (by kernel_rfl) (by kernel_rfl) ?_
      intro b32 w33 (H34 : Sat w [restC w (fun _ => False), cellC b2 25 ([(.int .i64 (f)), (.int .i64 (c))] : List Value), rowC 52 37 (.slice a ((A.take i).flatMap (speakA from')).length q) (((A.take i).flatMap (speakA from')).length) (((A.take i).flatMap (speakA from')).flatMap encS), cellC b19 45 (([(.int .i64 (x16.kind)), (.int .i64 (x16.round)), (.int .i64 (x16.valid))] : List Value) ++ hc x16.h), cellC b32 36 (hc hash0)] w33)
      have S35 := H34.pick [0, 1, 2, 3] (by decide)
      refine hK31 _ _ S35 ?_
      clear hK31 K31
      refine h_do 5 rfl (by kernel_rfl) (wants0 rfl) (fun K36 hK36 => ?_)
      refine d_storeX (vs := (hc x16.h)) (cs' := (hc x16.h)) rfl H34 4 rfl rfl rfl rfl (by kernel_rfl) (Nat.le_of_ble_eq_true (by kernel_rfl)) (Nat.le_of_ble_eq_true (by kernel_rfl)) (by kernel_rfl) (by kernel_rfl) ?_
      intro w37 (H38 : Sat w [restC w (fun _ => False), cellC b2 25 ([(.int .i64 (f)), (.int .i64 (c))] : List Value), rowC 52 37 (.slice a ((A.take i).flatMap (speakA from')).length q) (((A.take i).flatMap (speakA from')).length) (((A.take i).flatMap (speakA from')).flatMap encS), cellC b19 45 (([(.int .i64 (x16.kind)), (.int .i64 (x16.round)), (.int .i64 (x16.valid))] : List Value) ++ hc x16.h), cellC b32 36 (hc x16.h)] w37)
      have S40 := H38.pick [0, 1, 2, 3] (by decide)
      refine hK36 _ _ S40 ?_
      clear hK36 K36
      refine h_val 6 rfl (by kernel_rfl) (by kernel_rfl) (by kernel_rfl) (fun _ _ _ h => h) S40 (wants0 rfl) (d := 13) (v := (.int .i64 (x16.valid))) rfl (fun _ H' => (by kernel_rfl)) ?_
      refine h_fin (by kernel_rfl) ?_
      refine then_normal ?_
      refine wp_meetR [13, 31, 32, 33, 34, 35, 36, 37, 38, 39, 40] (fun G_ W_ => G_ 13 = (.int .i64 (spkV x16)) ∧ Sat w [restC w (fun _ => False), cellC b2 25 ([(.int .i64 (f)), (.int .i64 (c))] : List Value), rowC 52 37 (.slice a ((A.take i).flatMap (speakA from')).length q) (((A.take i).flatMap (speakA from')).length) (((A.take i).flatMap (speakA from')).flatMap encS), cellC b19 45 (([(.int .i64 (x16.kind)), (.int .i64 (x16.round)), (.int .i64 (x16.valid))] : List Value) ++ hc x16.h), cellC b32 36 (hc (spkH from' x16))] W_) ?_ ?_
      · refine w_seq ?_
        refine w_lit ?_
        refine wl_pure (wants0 rfl) (d := 31) (v := (.agg ⟨(hc x16.h)⟩)) rfl (e_loadN (vs := (hc x16.h)) rfl (by kernel_rfl) (by kernel_rfl) (by exact Nat.le_of_ble_eq_true (by kernel_rfl)) (H38.at 4 rfl) (by kernel_rfl)) ?_
        refine wl_pure (wants0 rfl) (d := 32) (v := (.agg ⟨(hc hash0)⟩)) rfl (by kernel_rfl) ?_
        refine wl_pure (wants0 rfl) (d := 33) (v := (.bool (decide (x16.h = hash0)))) rfl (e_eqHash x16.h hash0 rfl rfl) ?_
        refine w_nil ?_
        refine then_normal ?_
        refine (bsplit (decide (x16.h = hash0))).elim (fun b42 => ?_) (fun b42 => ?_)
        · have g43 := of_decide_eq_true b42
          refine wp_know 33 (.bool true) (congrArg Value.bool b42) ?_
          refine wp_ift rfl ?_
          refine w_lit ?_
          refine wl_pure (wants0 rfl) (d := 34) (v := (.int .i64 (from'))) rfl (by kernel_rfl) ?_
          refine wl_pure (wants0 rfl) (d := 35) (v := (.int .u8 (IntKind.u8.wrap (from')))) rfl (by kernel_rfl) ?_
          refine wl_pure (wants0 rfl) (d := 36) (v := (.int .u8 (IntKind.u8.wrap (1 + (IntKind.u8.wrap (from')))))) rfl (by kernel_rfl) ?_
          refine wl_pure (wants0 rfl) (d := 37) (v := (.pointer (some ⟨b19, 1, none⟩))) rfl (by kernel_rfl) ?_
          refine wl_pure (wants0 rfl) (d := 38) (v := (.int .i64 (x16.round))) rfl (e_load1 rfl (by kernel_rfl) (H38.cell 3 rfl (by kernel_rfl))) ?_
          refine wl_pure (wants0 rfl) (d := 39) (v := (.int .u8 (IntKind.u8.wrap (x16.round)))) rfl (by kernel_rfl) ?_
          refine wl_pure (wants0 rfl) (d := 40) (v := (.agg ⟨(([(.int .u8 (IntKind.u8.wrap (1 + (IntKind.u8.wrap (from'))))), (.int .u8 (IntKind.u8.wrap (x16.round))), (.int .u8 (0)), (.int .u8 (0)), (.int .u8 (0)), (.int .u8 (0)), (.int .u8 (0)), (.int .u8 (0)), (.int .u8 (0)), (.int .u8 (0)), (.int .u8 (0)), (.int .u8 (0)), (.int .u8 (0)), (.int .u8 (0)), (.int .u8 (0)), (.int .u8 (0)), (.int .u8 (0)), (.int .u8 (0)), (.int .u8 (0)), (.int .u8 (0)), (.int .u8 (0)), (.int .u8 (0)), (.int .u8 (0)), (.int .u8 (0))] : List Value) ++ ([(.int .u8 (0)), (.int .u8 (0)), (.int .u8 (0)), (.int .u8 (0)), (.int .u8 (0)), (.int .u8 (0)), (.int .u8 (0)), (.int .u8 (0))] : List Value))⟩)) rfl (by kernel_rfl) ?_
          refine wl_do (wants0 rfl) (fun K44 hK44 => ?_)
          refine d_storeX (vs := (([(.int .u8 (IntKind.u8.wrap (1 + (IntKind.u8.wrap (from'))))), (.int .u8 (IntKind.u8.wrap (x16.round))), (.int .u8 (0)), (.int .u8 (0)), (.int .u8 (0)), (.int .u8 (0)), (.int .u8 (0)), (.int .u8 (0)), (.int .u8 (0)), (.int .u8 (0)), (.int .u8 (0)), (.int .u8 (0)), (.int .u8 (0)), (.int .u8 (0)), (.int .u8 (0)), (.int .u8 (0)), (.int .u8 (0)), (.int .u8 (0)), (.int .u8 (0)), (.int .u8 (0)), (.int .u8 (0)), (.int .u8 (0)), (.int .u8 (0)), (.int .u8 (0))] : List Value) ++ ([(.int .u8 (0)), (.int .u8 (0)), (.int .u8 (0)), (.int .u8 (0)), (.int .u8 (0)), (.int .u8 (0)), (.int .u8 (0)), (.int .u8 (0))] : List Value))) (cs' := (([(.int .u8 (IntKind.u8.wrap (1 + (IntKind.u8.wrap (from'))))), (.int .u8 (IntKind.u8.wrap (x16.round))), (.int .u8 (0)), (.int .u8 (0)), (.int .u8 (0)), (.int .u8 (0)), (.int .u8 (0)), (.int .u8 (0)), (.int .u8 (0)), (.int .u8 (0)), (.int .u8 (0)), (.int .u8 (0)), (.int .u8 (0)), (.int .u8 (0)), (.int .u8 (0)), (.int .u8 (0)), (.int .u8 (0)), (.int .u8 (0)), (.int .u8 (0)), (.int .u8 (0)), (.int .u8 (0)), (.int .u8 (0)), (.int .u8 (0)), (.int .u8 (0))] : List Value) ++ ([(.int .u8 (0)), (.int .u8 (0)), (.int .u8 (0)), (.int .u8 (0)), (.int .u8 (0)), (.int .u8 (0)), (.int .u8 (0)), (.int .u8 (0))] : List Value))) rfl H38 4 rfl rfl rfl rfl (by kernel_rfl) (Nat.le_of_ble_eq_true (by kernel_rfl)) (Nat.le_of_ble_eq_true (by kernel_rfl)) (by kernel_rfl) (by kernel_rfl) ?_
          intro w45 (H46 : Sat w [restC w (fun _ => False), cellC b2 25 ([(.int .i64 (f)), (.int .i64 (c))] : List Value), rowC 52 37 (.slice a ((A.take i).flatMap (speakA from')).length q) (((A.take i).flatMap (speakA from')).length) (((A.take i).flatMap (speakA from')).flatMap encS), cellC b19 45 (([(.int .i64 (x16.kind)), (.int .i64 (x16.round)), (.int .i64 (x16.valid))] : List Value) ++ hc x16.h), cellC b32 36 (([(.int .u8 (IntKind.u8.wrap (1 + (IntKind.u8.wrap (from'))))), (.int .u8 (IntKind.u8.wrap (x16.round))), (.int .u8 (0)), (.int .u8 (0)), (.int .u8 (0)), (.int .u8 (0)), (.int .u8 (0)), (.int .u8 (0)), (.int .u8 (0)), (.int .u8 (0)), (.int .u8 (0)), (.int .u8 (0)), (.int .u8 (0)), (.int .u8 (0)), (.int .u8 (0)), (.int .u8 (0)), (.int .u8 (0)), (.int .u8 (0)), (.int .u8 (0)), (.int .u8 (0)), (.int .u8 (0)), (.int .u8 (0)), (.int .u8 (0)), (.int .u8 (0))] : List Value) ++ ([(.int .u8 (0)), (.int .u8 (0)), (.int .u8 (0)), (.int .u8 (0)), (.int .u8 (0)), (.int .u8 (0)), (.int .u8 (0)), (.int .u8 (0))] : List Value))] w45)
          refine hK44 _ _ ?_
          clear hK44 K44
          refine wl_pure (wants0 rfl) (d := 13) (v := (.int .i64 (-1))) rfl (by kernel_rfl) ?_
          refine w_nil ?_
          have q49 := of_decide_eq_true b42
          have H48 : Sat w [restC w (fun _ => False), cellC b2 25 ([(.int .i64 (f)), (.int .i64 (c))] : List Value), rowC 52 37 (.slice a ((A.take i).flatMap (speakA from')).length q) (((A.take i).flatMap (speakA from')).length) (((A.take i).flatMap (speakA from')).flatMap encS), cellC b19 45 (([(.int .i64 (x16.kind)), (.int .i64 (x16.round)), (.int .i64 (x16.valid))] : List Value) ++ hc x16.h), cellC b32 36 (hc (spkH from' x16))] w45 := H46.cast (by rw [show spkH from' x16 = hash2 (1 + from') x16.round from if_pos q49, hash2_cells]; kernel_rfl)
          refine meetR_at ?_ ⟨(show (.int .i64 (-1) : Value) = _ by rw [show spkV x16 = -1 from if_pos q49]), H48⟩
          exact (same_upd rfl (same_upd rfl (same_upd rfl (same_upd rfl (same_upd rfl (same_upd rfl (same_upd rfl (same_upd rfl (same_upd rfl (same_upd rfl (same_upd rfl (same_upd rfl (same_refl)))))))))))))
        · have g50 := of_decide_eq_false b42
          refine wp_know 33 (.bool false) (congrArg Value.bool b42) ?_
          refine wp_iff rfl ?_
          refine w_skip ?_
          have q52 := of_decide_eq_false b42
          have H51 : Sat w [restC w (fun _ => False), cellC b2 25 ([(.int .i64 (f)), (.int .i64 (c))] : List Value), rowC 52 37 (.slice a ((A.take i).flatMap (speakA from')).length q) (((A.take i).flatMap (speakA from')).length) (((A.take i).flatMap (speakA from')).flatMap encS), cellC b19 45 (([(.int .i64 (x16.kind)), (.int .i64 (x16.round)), (.int .i64 (x16.valid))] : List Value) ++ hc x16.h), cellC b32 36 (hc (spkH from' x16))] w37 := H38.cast (by rw [show spkH from' x16 = x16.h from if_neg q52])
          refine meetR_at ?_ ⟨(show (.int .i64 (x16.valid) : Value) = _ by rw [show spkV x16 = x16.valid from if_neg q52]), H51⟩
          exact (same_upd rfl (same_upd rfl (same_upd rfl (same_upd rfl (same_refl)))))
      · rintro f53 w54 ⟨v56, H55⟩
        refine wp_know 13 _ v56 ?_
        refine w_lit ?_
        refine wl_pure (wants0 rfl) (d := 41) (v := (.slice a ((A.take i).flatMap (speakA from')).length q)) rfl (by kernel_rfl) ?_
        refine wl_pure (wants0 rfl) (d := 42) (v := (.pointer (some ⟨b19, 1, none⟩))) rfl (by kernel_rfl) ?_
        refine wl_pure (wants0 rfl) (d := 43) (v := (.int .i64 (x16.round))) rfl (e_load1 rfl (by kernel_rfl) (H55.cell 3 rfl (by kernel_rfl))) ?_
        refine wl_pure (wants0 rfl) (d := 44) (v := (.int .i64 (spkV x16))) rfl (by kernel_rfl) ?_
        refine wl_pure (wants0 rfl) (d := 45) (v := (.int .i64 (from'))) rfl (by kernel_rfl) ?_
        refine wl_pure (wants0 rfl) (d := 46) (v := (.agg ⟨(hc (spkH from' x16))⟩)) rfl (e_loadN (vs := (hc (spkH from' x16))) rfl (by kernel_rfl) (by kernel_rfl) (by exact Nat.le_of_ble_eq_true (by kernel_rfl)) (H55.at 4 rfl) (by kernel_rfl)) ?_
        refine wl_pure (wants0 rfl) (d := 47) (v := (.agg ⟨(([(.bool false), (.int .i64 (0)), (.int .i64 (x16.round)), (.int .i64 (spkV x16)), (.int .i64 (from'))] : List Value) ++ hc (spkH from' x16))⟩)) rfl (by kernel_rfl) ?_
        refine wl_do (wants0 rfl) (fun K57 hK57 => ?_)
        refine d_buildSlice (e := 52) (size := 37) (bytes := 72) (z := (.agg ⟨(([(.bool false), (.int .i64 (0)), (.int .i64 (0)), (.int .i64 (0)), (.int .i64 (0))] : List Value) ++ hc hash0)⟩)) (pvs := [(0, (.agg ⟨(([(.bool false), (.int .i64 (0)), (.int .i64 (x16.round)), (.int .i64 (spkV x16)), (.int .i64 (from'))] : List Value) ++ hc (spkH from' x16))⟩))]) (vs := (([(.bool false), (.int .i64 (0)), (.int .i64 (x16.round)), (.int .i64 (spkV x16)), (.int .i64 (from'))] : List Value) ++ hc (spkH from' x16))) rfl H55 (by kernel_rfl) (by kernel_rfl) (by kernel_rfl) (by kernel_rfl) (by kernel_rfl) rfl rfl ?_
        intro b58 w59 (H60 : Sat w [restC w (fun _ => False), cellC b2 25 ([(.int .i64 (f)), (.int .i64 (c))] : List Value), rowC 52 37 (.slice a ((A.take i).flatMap (speakA from')).length q) (((A.take i).flatMap (speakA from')).length) (((A.take i).flatMap (speakA from')).flatMap encS), cellC b19 45 (([(.int .i64 (x16.kind)), (.int .i64 (x16.round)), (.int .i64 (x16.valid))] : List Value) ++ hc x16.h), cellC b32 36 (hc (spkH from' x16)), rowC 52 37 (.slice (some ⟨b58, 0, none⟩) 1 1) 1 (([(.bool false), (.int .i64 (0)), (.int .i64 (x16.round)), (.int .i64 (spkV x16)), (.int .i64 (from'))] : List Value) ++ hc (spkH from' x16))] w59)
        refine hK57 _ _ ?_
        clear hK57 K57
        refine wl_do (wants0 rfl) (fun K61 hK61 => ?_)
        refine d_append (T := 48) (e := 52) (size := 37) (bytes := 72) rfl H60 (by kernel_rfl) 2 5 rfl rfl rfl rfl (by kernel_rfl) (by omega) (by omega) ?_
        intro v62 w63 (H64 : Sat w [restC w (fun _ => False), cellC b2 25 ([(.int .i64 (f)), (.int .i64 (c))] : List Value), rowC 52 37 v62 (((A.take i).flatMap (speakA from')).length + 1) ((((A.take i).flatMap (speakA from')).flatMap encS) ++ (([(.bool false), (.int .i64 (0)), (.int .i64 (x16.round)), (.int .i64 (spkV x16)), (.int .i64 (from'))] : List Value) ++ hc (spkH from' x16))), cellC b19 45 (([(.int .i64 (x16.kind)), (.int .i64 (x16.round)), (.int .i64 (x16.valid))] : List Value) ++ hc x16.h), cellC b32 36 (hc (spkH from' x16)), rowC 52 37 (.slice (some ⟨b58, 0, none⟩) 1 1) 1 (([(.bool false), (.int .i64 (0)), (.int .i64 (x16.round)), (.int .i64 (spkV x16)), (.int .i64 (from'))] : List Value) ++ hc (spkH from' x16))] w63)
        have H67 : Sat w [restC w (fun _ => False), cellC b2 25 ([(.int .i64 (f)), (.int .i64 (c))] : List Value), rowC 52 37 v62 ((((A.take i).flatMap (speakA from')) ++ [(⟨false, 0, x16.round, spkV x16, from', (spkH from' x16)⟩ : SaidD)]).length) ((((A.take i).flatMap (speakA from')) ++ [(⟨false, 0, x16.round, spkV x16, from', (spkH from' x16)⟩ : SaidD)]).flatMap encS), cellC b19 45 (([(.int .i64 (x16.kind)), (.int .i64 (x16.round)), (.int .i64 (x16.valid))] : List Value) ++ hc x16.h), cellC b32 36 (hc (spkH from' x16)), rowC 52 37 (.slice (some ⟨b58, 0, none⟩) 1 1) 1 (([(.bool false), (.int .i64 (0)), (.int .i64 (x16.round)), (.int .i64 (spkV x16)), (.int .i64 (from'))] : List Value) ++ hc (spkH from' x16))] w63 := H64.cast (by simp only [List.length_append, List.flatMap_append] <;> rfl)
        obtain ⟨a65, c66, rfl⟩ := ownsRow_shape (H67.at 2 rfl)
        refine hK61 _ _ ?_
        clear hK61 K61
        refine wl_pure (wants0 rfl) (d := 9) (v := (.slice a65 ((((A.take i).flatMap (speakA from')) ++ [(⟨false, 0, x16.round, spkV x16, from', (spkH from' x16)⟩ : SaidD)]).length) c66)) rfl (by kernel_rfl) ?_
        refine w_nil ?_
        refine blk_normal ?_
        refine blk_normal ?_
        refine then_normal ?_
        refine w_lit ?_
        refine wl_pure (wants0 rfl) (d := 72) (v := (.int .i64 ((i : Int) + 1))) rfl (e_int (z := (i : Int) + 1) (by kernel_rfl) (IntWalk.i64_in _ (by omega))) ?_
        refine wl_pure (wants0 rfl) (d := 16) (v := (.int .i64 ((i : Int) + 1))) rfl (by kernel_rfl) ?_
        refine w_nil ?_
        have e69 : ((A.take (i + 1)).flatMap (speakA from')) = ((A.take i).flatMap (speakA from')) ++ [(⟨false, 0, x16.round, spkV x16, from', spkH from' x16⟩ : SaidD)] := by
          rw [flat_take h17]; unfold speakA; rw [if_pos (of_decide_eq_true b26)]
        have H68 : Sat w [restC w (fun _ => False), cellC b2 25 ([(.int .i64 (f)), (.int .i64 (c))] : List Value), rowC 52 37 (.slice a65 ((A.take (i + 1)).flatMap (speakA from')).length c66) (((A.take (i + 1)).flatMap (speakA from')).length) (((A.take (i + 1)).flatMap (speakA from')).flatMap encS)] w63 := (H67.pick [0, 1, 2] (by decide)).cast (by rw [e69] <;> rfl)
        refine round_back ?_ _ ⟨(i + 1), a65, c66, (show ((.int .i64 ((i : Int) + 1)) : Value) = _ by first | rfl | go_num), (show ((.slice a65 ((((A.take i).flatMap (speakA from')) ++ [(⟨false, 0, x16.round, spkV x16, from', (spkH from' x16)⟩ : SaidD)]).length) c66) : Value) = _ by (rw [e69])), (by omega), H68, rfl⟩ (by omega)
        exact (same_upd rfl (same_upd rfl (same_upd rfl (same_upd rfl (same_upd rfl (same_upd rfl (same_upd rfl (same_upd rfl (same_upd rfl (same_upd rfl (same_upd rfl (same_upd rfl (same_upd rfl (same_ovr2 rfl (same_upd rfl (same_upd rfl (same_upd rfl (same_upd rfl (same_upd rfl (same_upd rfl (same_upd rfl (same_upd rfl (same_upd rfl (same_upd rfl (same_upd rfl (same_upd rfl (same_upd rfl (same_upd rfl (same_upd rfl (same_upd rfl (same_upd rfl (same_upd rfl (same_upd rfl (same_upd rfl (same_upd rfl (same_upd rfl (same_ovr)))))))))))))))))))))))))))))))))))))
    · have g70 := of_decide_eq_false b26
      refine wp_know 25 (.bool false) (congrArg Value.bool b26) ?_
      refine wp_iff rfl ?_
      refine w_seq ?_
      refine w_lit ?_
      refine wl_pure (wants0 rfl) (d := 51) (v := (.bool (decide (x16.kind = 2)))) rfl (by kernel_rfl) ?_
      refine wl_pure (wants0 rfl) (d := 50) (v := (.bool (decide (x16.kind = 2)))) rfl (by kernel_rfl) ?_
      refine w_nil ?_
      refine then_normal ?_
      refine (bsplit (decide (x16.kind = 2))).elim (fun b71 => ?_) (fun b71 => ?_)
      · have g72 := of_decide_eq_true b71
        refine wp_know 50 (.bool true) (congrArg Value.bool b71) ?_
        refine wp_ift rfl ?_
        refine w_lit ?_
        refine wl_pure (wants0 rfl) (d := 52) (v := (.slice a ((A.take i).flatMap (speakA from')).length q)) rfl (by kernel_rfl) ?_
        refine wl_pure (wants0 rfl) (d := 53) (v := (.pointer (some ⟨b19, 1, none⟩))) rfl (by kernel_rfl) ?_
        refine wl_pure (wants0 rfl) (d := 54) (v := (.int .i64 (x16.round))) rfl (e_load1 rfl (by kernel_rfl) (H24.cell 3 rfl (by kernel_rfl))) ?_
        refine wl_pure (wants0 rfl) (d := 55) (v := (.int .i64 (from'))) rfl (by kernel_rfl) ?_
        refine wl_pure (wants0 rfl) (d := 56) (v := (.pointer (some ⟨b19, 3, none⟩))) rfl (by kernel_rfl) ?_
        refine wl_pure (wants0 rfl) (d := 57) (v := (.agg ⟨(hc x16.h)⟩)) rfl (e_loadN (vs := (hc x16.h)) rfl (by kernel_rfl) (by kernel_rfl) (by exact Nat.le_of_ble_eq_true (by kernel_rfl)) (H24.at 3 rfl) (by kernel_rfl)) ?_
        refine wl_pure (wants0 rfl) (d := 58) (v := (.agg ⟨(([(.bool true), (.int .i64 (1)), (.int .i64 (x16.round)), (.int .i64 (0)), (.int .i64 (from'))] : List Value) ++ hc x16.h)⟩)) rfl (by kernel_rfl) ?_
        refine wl_do (wants0 rfl) (fun K73 hK73 => ?_)
        refine d_buildSlice (e := 52) (size := 37) (bytes := 72) (z := (.agg ⟨(([(.bool false), (.int .i64 (0)), (.int .i64 (0)), (.int .i64 (0)), (.int .i64 (0))] : List Value) ++ hc hash0)⟩)) (pvs := [(0, (.agg ⟨(([(.bool true), (.int .i64 (1)), (.int .i64 (x16.round)), (.int .i64 (0)), (.int .i64 (from'))] : List Value) ++ hc x16.h)⟩))]) (vs := (([(.bool true), (.int .i64 (1)), (.int .i64 (x16.round)), (.int .i64 (0)), (.int .i64 (from'))] : List Value) ++ hc x16.h)) rfl H24 (by kernel_rfl) (by kernel_rfl) (by kernel_rfl) (by kernel_rfl) (by kernel_rfl) rfl rfl ?_
        intro b74 w75 (H76 : Sat w [restC w (fun _ => False), cellC b2 25 ([(.int .i64 (f)), (.int .i64 (c))] : List Value), rowC 52 37 (.slice a ((A.take i).flatMap (speakA from')).length q) (((A.take i).flatMap (speakA from')).length) (((A.take i).flatMap (speakA from')).flatMap encS), cellC b19 45 (([(.int .i64 (x16.kind)), (.int .i64 (x16.round)), (.int .i64 (x16.valid))] : List Value) ++ hc x16.h), rowC 52 37 (.slice (some ⟨b74, 0, none⟩) 1 1) 1 (([(.bool true), (.int .i64 (1)), (.int .i64 (x16.round)), (.int .i64 (0)), (.int .i64 (from'))] : List Value) ++ hc x16.h)] w75)
        refine hK73 _ _ ?_
        clear hK73 K73
        refine wl_do (wants0 rfl) (fun K77 hK77 => ?_)
        refine d_append (T := 48) (e := 52) (size := 37) (bytes := 72) rfl H76 (by kernel_rfl) 2 4 rfl rfl rfl rfl (by kernel_rfl) (by omega) (by omega) ?_
        intro v78 w79 (H80 : Sat w [restC w (fun _ => False), cellC b2 25 ([(.int .i64 (f)), (.int .i64 (c))] : List Value), rowC 52 37 v78 (((A.take i).flatMap (speakA from')).length + 1) ((((A.take i).flatMap (speakA from')).flatMap encS) ++ (([(.bool true), (.int .i64 (1)), (.int .i64 (x16.round)), (.int .i64 (0)), (.int .i64 (from'))] : List Value) ++ hc x16.h)), cellC b19 45 (([(.int .i64 (x16.kind)), (.int .i64 (x16.round)), (.int .i64 (x16.valid))] : List Value) ++ hc x16.h), rowC 52 37 (.slice (some ⟨b74, 0, none⟩) 1 1) 1 (([(.bool true), (.int .i64 (1)), (.int .i64 (x16.round)), (.int .i64 (0)), (.int .i64 (from'))] : List Value) ++ hc x16.h)] w79)
        have H83 : Sat w [restC w (fun _ => False), cellC b2 25 ([(.int .i64 (f)), (.int .i64 (c))] : List Value), rowC 52 37 v78 ((((A.take i).flatMap (speakA from')) ++ [(⟨true, 1, x16.round, 0, from', x16.h⟩ : SaidD)]).length) ((((A.take i).flatMap (speakA from')) ++ [(⟨true, 1, x16.round, 0, from', x16.h⟩ : SaidD)]).flatMap encS), cellC b19 45 (([(.int .i64 (x16.kind)), (.int .i64 (x16.round)), (.int .i64 (x16.valid))] : List Value) ++ hc x16.h), rowC 52 37 (.slice (some ⟨b74, 0, none⟩) 1 1) 1 (([(.bool true), (.int .i64 (1)), (.int .i64 (x16.round)), (.int .i64 (0)), (.int .i64 (from'))] : List Value) ++ hc x16.h)] w79 := H80.cast (by simp only [List.length_append, List.flatMap_append] <;> rfl)
        obtain ⟨a81, c82, rfl⟩ := ownsRow_shape (H83.at 2 rfl)
        refine hK77 _ _ ?_
        clear hK77 K77
        refine wl_pure (wants0 rfl) (d := 9) (v := (.slice a81 ((((A.take i).flatMap (speakA from')) ++ [(⟨true, 1, x16.round, 0, from', x16.h⟩ : SaidD)]).length) c82)) rfl (by kernel_rfl) ?_
        refine w_nil ?_
        refine blk_normal ?_
        refine blk_normal ?_
        refine then_normal ?_
        refine w_lit ?_
        refine wl_pure (wants0 rfl) (d := 72) (v := (.int .i64 ((i : Int) + 1))) rfl (e_int (z := (i : Int) + 1) (by kernel_rfl) (IntWalk.i64_in _ (by omega))) ?_
        refine wl_pure (wants0 rfl) (d := 16) (v := (.int .i64 ((i : Int) + 1))) rfl (by kernel_rfl) ?_
        refine w_nil ?_
        have e85 : ((A.take (i + 1)).flatMap (speakA from')) = ((A.take i).flatMap (speakA from')) ++ [(⟨true, 1, x16.round, 0, from', x16.h⟩ : SaidD)] := by
          rw [flat_take h17]; unfold speakA; rw [if_neg (of_decide_eq_false b26), if_pos (of_decide_eq_true b71)]
        have H84 : Sat w [restC w (fun _ => False), cellC b2 25 ([(.int .i64 (f)), (.int .i64 (c))] : List Value), rowC 52 37 (.slice a81 ((A.take (i + 1)).flatMap (speakA from')).length c82) (((A.take (i + 1)).flatMap (speakA from')).length) (((A.take (i + 1)).flatMap (speakA from')).flatMap encS)] w79 := (H83.pick [0, 1, 2] (by decide)).cast (by rw [e85] <;> rfl)
        refine round_back ?_ _ ⟨(i + 1), a81, c82, (show ((.int .i64 ((i : Int) + 1)) : Value) = _ by first | rfl | go_num), (show ((.slice a81 ((((A.take i).flatMap (speakA from')) ++ [(⟨true, 1, x16.round, 0, from', x16.h⟩ : SaidD)]).length) c82) : Value) = _ by (rw [e85])), (by omega), H84, rfl⟩ (by omega)
        exact (same_upd rfl (same_upd rfl (same_upd rfl (same_upd rfl (same_upd rfl (same_upd rfl (same_upd rfl (same_upd rfl (same_upd rfl (same_upd rfl (same_upd rfl (same_upd rfl (same_upd rfl (same_upd rfl (same_upd rfl (same_upd rfl (same_upd rfl (same_upd rfl (same_upd rfl (same_upd rfl (same_upd rfl (same_upd rfl (same_upd rfl (same_upd rfl (same_upd rfl (same_upd rfl (same_upd rfl (same_upd rfl (same_upd rfl (same_upd rfl (same_upd rfl (same_ovr))))))))))))))))))))))))))))))))
      · have g86 := of_decide_eq_false b71
        refine wp_know 50 (.bool false) (congrArg Value.bool b71) ?_
        refine wp_iff rfl ?_
        refine w_seq ?_
        refine w_lit ?_
        refine wl_pure (wants0 rfl) (d := 62) (v := (.bool (decide (x16.kind = 3)))) rfl (by kernel_rfl) ?_
        refine wl_pure (wants0 rfl) (d := 61) (v := (.bool (decide (x16.kind = 3)))) rfl (by kernel_rfl) ?_
        refine w_nil ?_
        refine then_normal ?_
        refine (bsplit (decide (x16.kind = 3))).elim (fun b87 => ?_) (fun b87 => ?_)
        · have g88 := of_decide_eq_true b87
          refine wp_know 61 (.bool true) (congrArg Value.bool b87) ?_
          refine wp_ift rfl ?_
          refine w_lit ?_
          refine wl_pure (wants0 rfl) (d := 63) (v := (.slice a ((A.take i).flatMap (speakA from')).length q)) rfl (by kernel_rfl) ?_
          refine wl_pure (wants0 rfl) (d := 64) (v := (.pointer (some ⟨b19, 1, none⟩))) rfl (by kernel_rfl) ?_
          refine wl_pure (wants0 rfl) (d := 65) (v := (.int .i64 (x16.round))) rfl (e_load1 rfl (by kernel_rfl) (H24.cell 3 rfl (by kernel_rfl))) ?_
          refine wl_pure (wants0 rfl) (d := 66) (v := (.int .i64 (from'))) rfl (by kernel_rfl) ?_
          refine wl_pure (wants0 rfl) (d := 67) (v := (.pointer (some ⟨b19, 3, none⟩))) rfl (by kernel_rfl) ?_
          refine wl_pure (wants0 rfl) (d := 68) (v := (.agg ⟨(hc x16.h)⟩)) rfl (e_loadN (vs := (hc x16.h)) rfl (by kernel_rfl) (by kernel_rfl) (by exact Nat.le_of_ble_eq_true (by kernel_rfl)) (H24.at 3 rfl) (by kernel_rfl)) ?_
          refine wl_pure (wants0 rfl) (d := 69) (v := (.agg ⟨(([(.bool true), (.int .i64 (2)), (.int .i64 (x16.round)), (.int .i64 (0)), (.int .i64 (from'))] : List Value) ++ hc x16.h)⟩)) rfl (by kernel_rfl) ?_
          refine wl_do (wants0 rfl) (fun K89 hK89 => ?_)
          refine d_buildSlice (e := 52) (size := 37) (bytes := 72) (z := (.agg ⟨(([(.bool false), (.int .i64 (0)), (.int .i64 (0)), (.int .i64 (0)), (.int .i64 (0))] : List Value) ++ hc hash0)⟩)) (pvs := [(0, (.agg ⟨(([(.bool true), (.int .i64 (2)), (.int .i64 (x16.round)), (.int .i64 (0)), (.int .i64 (from'))] : List Value) ++ hc x16.h)⟩))]) (vs := (([(.bool true), (.int .i64 (2)), (.int .i64 (x16.round)), (.int .i64 (0)), (.int .i64 (from'))] : List Value) ++ hc x16.h)) rfl H24 (by kernel_rfl) (by kernel_rfl) (by kernel_rfl) (by kernel_rfl) (by kernel_rfl) rfl rfl ?_
          intro b90 w91 (H92 : Sat w [restC w (fun _ => False), cellC b2 25 ([(.int .i64 (f)), (.int .i64 (c))] : List Value), rowC 52 37 (.slice a ((A.take i).flatMap (speakA from')).length q) (((A.take i).flatMap (speakA from')).length) (((A.take i).flatMap (speakA from')).flatMap encS), cellC b19 45 (([(.int .i64 (x16.kind)), (.int .i64 (x16.round)), (.int .i64 (x16.valid))] : List Value) ++ hc x16.h), rowC 52 37 (.slice (some ⟨b90, 0, none⟩) 1 1) 1 (([(.bool true), (.int .i64 (2)), (.int .i64 (x16.round)), (.int .i64 (0)), (.int .i64 (from'))] : List Value) ++ hc x16.h)] w91)
          refine hK89 _ _ ?_
          clear hK89 K89
          refine wl_do (wants0 rfl) (fun K93 hK93 => ?_)
          refine d_append (T := 48) (e := 52) (size := 37) (bytes := 72) rfl H92 (by kernel_rfl) 2 4 rfl rfl rfl rfl (by kernel_rfl) (by omega) (by omega) ?_
          intro v94 w95 (H96 : Sat w [restC w (fun _ => False), cellC b2 25 ([(.int .i64 (f)), (.int .i64 (c))] : List Value), rowC 52 37 v94 (((A.take i).flatMap (speakA from')).length + 1) ((((A.take i).flatMap (speakA from')).flatMap encS) ++ (([(.bool true), (.int .i64 (2)), (.int .i64 (x16.round)), (.int .i64 (0)), (.int .i64 (from'))] : List Value) ++ hc x16.h)), cellC b19 45 (([(.int .i64 (x16.kind)), (.int .i64 (x16.round)), (.int .i64 (x16.valid))] : List Value) ++ hc x16.h), rowC 52 37 (.slice (some ⟨b90, 0, none⟩) 1 1) 1 (([(.bool true), (.int .i64 (2)), (.int .i64 (x16.round)), (.int .i64 (0)), (.int .i64 (from'))] : List Value) ++ hc x16.h)] w95)
          have H99 : Sat w [restC w (fun _ => False), cellC b2 25 ([(.int .i64 (f)), (.int .i64 (c))] : List Value), rowC 52 37 v94 ((((A.take i).flatMap (speakA from')) ++ [(⟨true, 2, x16.round, 0, from', x16.h⟩ : SaidD)]).length) ((((A.take i).flatMap (speakA from')) ++ [(⟨true, 2, x16.round, 0, from', x16.h⟩ : SaidD)]).flatMap encS), cellC b19 45 (([(.int .i64 (x16.kind)), (.int .i64 (x16.round)), (.int .i64 (x16.valid))] : List Value) ++ hc x16.h), rowC 52 37 (.slice (some ⟨b90, 0, none⟩) 1 1) 1 (([(.bool true), (.int .i64 (2)), (.int .i64 (x16.round)), (.int .i64 (0)), (.int .i64 (from'))] : List Value) ++ hc x16.h)] w95 := H96.cast (by simp only [List.length_append, List.flatMap_append] <;> rfl)
          obtain ⟨a97, c98, rfl⟩ := ownsRow_shape (H99.at 2 rfl)
          refine hK93 _ _ ?_
          clear hK93 K93
          refine wl_pure (wants0 rfl) (d := 9) (v := (.slice a97 ((((A.take i).flatMap (speakA from')) ++ [(⟨true, 2, x16.round, 0, from', x16.h⟩ : SaidD)]).length) c98)) rfl (by kernel_rfl) ?_
          refine w_nil ?_
          refine blk_normal ?_
          refine blk_normal ?_
          refine then_normal ?_
          refine w_lit ?_
          refine wl_pure (wants0 rfl) (d := 72) (v := (.int .i64 ((i : Int) + 1))) rfl (e_int (z := (i : Int) + 1) (by kernel_rfl) (IntWalk.i64_in _ (by omega))) ?_
          refine wl_pure (wants0 rfl) (d := 16) (v := (.int .i64 ((i : Int) + 1))) rfl (by kernel_rfl) ?_
          refine w_nil ?_
          have e101 : ((A.take (i + 1)).flatMap (speakA from')) = ((A.take i).flatMap (speakA from')) ++ [(⟨true, 2, x16.round, 0, from', x16.h⟩ : SaidD)] := by
            rw [flat_take h17]; unfold speakA; rw [if_neg (of_decide_eq_false b26), if_neg (of_decide_eq_false b71), if_pos (of_decide_eq_true b87)]
          have H100 : Sat w [restC w (fun _ => False), cellC b2 25 ([(.int .i64 (f)), (.int .i64 (c))] : List Value), rowC 52 37 (.slice a97 ((A.take (i + 1)).flatMap (speakA from')).length c98) (((A.take (i + 1)).flatMap (speakA from')).length) (((A.take (i + 1)).flatMap (speakA from')).flatMap encS)] w95 := (H99.pick [0, 1, 2] (by decide)).cast (by rw [e101] <;> rfl)
          refine round_back ?_ _ ⟨(i + 1), a97, c98, (show ((.int .i64 ((i : Int) + 1)) : Value) = _ by first | rfl | go_num), (show ((.slice a97 ((((A.take i).flatMap (speakA from')) ++ [(⟨true, 2, x16.round, 0, from', x16.h⟩ : SaidD)]).length) c98) : Value) = _ by (rw [e101])), (by omega), H100, rfl⟩ (by omega)
          exact (same_upd rfl (same_upd rfl (same_upd rfl (same_upd rfl (same_upd rfl (same_upd rfl (same_upd rfl (same_upd rfl (same_upd rfl (same_upd rfl (same_upd rfl (same_upd rfl (same_upd rfl (same_upd rfl (same_upd rfl (same_upd rfl (same_upd rfl (same_upd rfl (same_upd rfl (same_upd rfl (same_upd rfl (same_upd rfl (same_upd rfl (same_upd rfl (same_upd rfl (same_upd rfl (same_upd rfl (same_upd rfl (same_upd rfl (same_upd rfl (same_upd rfl (same_upd rfl (same_upd rfl (same_upd rfl (same_ovr)))))))))))))))))))))))))))))))))))
        · have g102 := of_decide_eq_false b87
          refine wp_know 61 (.bool false) (congrArg Value.bool b87) ?_
          refine wp_iff rfl ?_
          refine w_skip ?_
          refine blk_normal ?_
          refine blk_normal ?_
          refine then_normal ?_
          refine w_lit ?_
          refine wl_pure (wants0 rfl) (d := 72) (v := (.int .i64 ((i : Int) + 1))) rfl (e_int (z := (i : Int) + 1) (by kernel_rfl) (IntWalk.i64_in _ (by omega))) ?_
          refine wl_pure (wants0 rfl) (d := 16) (v := (.int .i64 ((i : Int) + 1))) rfl (by kernel_rfl) ?_
          refine w_nil ?_
          have e104 : ((A.take (i + 1)).flatMap (speakA from')) = ((A.take i).flatMap (speakA from')) := by
            rw [flat_take h17]; unfold speakA; rw [if_neg (of_decide_eq_false b26), if_neg (of_decide_eq_false b71), if_neg (of_decide_eq_false b87)]; simp
          have H103 : Sat w [restC w (fun _ => False), cellC b2 25 ([(.int .i64 (f)), (.int .i64 (c))] : List Value), rowC 52 37 (.slice a ((A.take (i + 1)).flatMap (speakA from')).length q) (((A.take (i + 1)).flatMap (speakA from')).length) (((A.take (i + 1)).flatMap (speakA from')).flatMap encS)] w23 := (H24.pick [0, 1, 2] (by decide)).cast (by rw [e104] <;> rfl)
          refine round_back ?_ _ ⟨(i + 1), a, q, (show ((.int .i64 ((i : Int) + 1)) : Value) = _ by first | rfl | go_num), (show ((.slice a ((A.take i).flatMap (speakA from')).length q) : Value) = _ by (rw [e104])), (by omega), H103, rfl⟩ (by omega)
          exact (same_upd rfl (same_upd rfl (same_upd rfl (same_upd rfl (same_upd rfl (same_upd rfl (same_upd rfl (same_upd rfl (same_upd rfl (same_upd rfl (same_upd rfl (same_upd rfl (same_upd rfl (same_upd rfl (same_upd rfl (same_upd rfl (same_upd rfl (same_upd rfl (same_upd rfl (same_upd rfl (same_upd rfl (same_upd rfl (same_upd rfl (same_upd rfl (same_ovr)))))))))))))))))))))))))
  · have g105 := of_decide_eq_false b11
    refine wp_know 17 (.bool false) (congrArg Value.bool b11) ?_
    refine wp_iff rfl ?_
    refine w_exit ?_
    refine then_exit ?_
    refine back_exit ?_
    refine blk_hit ?_
    refine then_normal ?_
    refine w_seq ?_
    refine w_lit ?_
    refine wl_pure (wants0 rfl) (d := 73) (v := (.slice a ((A.take i).flatMap (speakA from')).length q)) rfl (by kernel_rfl) ?_
    refine wl_pure (wants0 rfl) (d := 8) (v := (.slice a ((A.take i).flatMap (speakA from')).length q)) rfl (by kernel_rfl) ?_
    refine w_nil ?_
    refine then_normal ?_
    refine w_ret ?_
    refine end1 rfl (res_tmp (v := (.slice a ((A.take i).flatMap (speakA from')).length q)) rfl) ?_
    have he : (A.take i).flatMap (speakA from') = A.flatMap (speakA from') := by rw [List.take_of_length_le (by omega)]
    have H106 : Sat w [restC w (fun _ => False), cellC b2 25 ([(.int .i64 (f)), (.int .i64 (c))] : List Value), rowC 52 37 (.slice a (A.flatMap (speakA from')).length q) ((A.flatMap (speakA from')).length) ((A.flatMap (speakA from')).flatMap encS)] w6 := H7.cast (by rw [he])
    rw [he]
    exact ⟨_, rfl, H106.at 2 rfl, H106.upd 0 rfl [] (fun _ h => h.elim), H106.fresh 0 rfl (fun _ h => h) 2 rfl rfl⟩

set_option maxRecDepth 100000 in
set_option maxHeartbeats 400000 in
theorem withinBig_any (w : World) (v n : Int) (hn : n ≤ 9223372036854775807) :
    Calls Try.prog 13 #[(.int .i64 (v)), (.int .i64 (n))] w fun e w' => e = .returned (.int .i64 (withinV v n)) ∧ Upd [] w w' := by
  have H := Sat.start0 w
  refine calls_fr Try.func13 rfl 17 rfl (Nat.le_of_ble_eq_true rfl) ?_
  refine w_seq ?_
  refine w_lit ?_
  refine wl_pure (wants0 rfl) (d := 4) (v := (.int .i64 (0))) rfl (by kernel_rfl) ?_
  refine w_nil ?_
  refine then_normal ?_
  refine w_seq ?_
  refine w_seq ?_
  refine w_lit ?_
  refine wl_pure (wants0 rfl) (d := 6) (v := (.int .i64 (n))) rfl (by kernel_rfl) ?_
  refine wl_pure (wants0 rfl) (d := 7) (v := (.bool (decide (n < 1)))) rfl (by kernel_rfl) ?_
  refine w_nil ?_
  refine then_normal ?_
  refine (bsplit (decide (n < 1))).elim (fun b1 => ?_) (fun b1 => ?_)
  · have g2 := of_decide_eq_true b1
    refine wp_know 7 (.bool true) (congrArg Value.bool b1) ?_
    have g3 := of_decide_eq_true b1
    refine wp_ift rfl ?_
    refine w_seq ?_
    refine w_lit ?_
    refine wl_pure (wants0 rfl) (d := 4) (v := (.int .i64 (0))) rfl (by kernel_rfl) ?_
    refine w_nil ?_
    refine then_normal ?_
    refine w_ret ?_
    refine then_ret ?_
    refine end1 rfl (res_tmp (v := (.int .i64 (0))) rfl) ?_
    exact ⟨by unfold withinV; rw [if_pos (of_decide_eq_true b1)], H.upd 0 rfl [] (fun _ h => h.elim)⟩
  · have g4 := of_decide_eq_false b1
    refine wp_know 7 (.bool false) (congrArg Value.bool b1) ?_
    have g5 := of_decide_eq_false b1
    refine wp_iff rfl ?_
    refine w_skip ?_
    refine then_normal ?_
    refine w_seq ?_
    refine w_lit ?_
    refine wl_pure (wants0 rfl) (d := 8) (v := (.int .i64 (v))) rfl (by kernel_rfl) ?_
    refine wl_pure (wants0 rfl) (d := 9) (v := (.int .i64 (n))) rfl (by kernel_rfl) ?_
    refine wl_pure (wants0 rfl) (d := 10) (v := (.int .i64 (Int.tmod v n))) rfl (e_tmod (by kernel_rfl) (by omega)) ?_
    refine wl_pure (wants0 rfl) (d := 5) (v := (.int .i64 (Int.tmod v n))) rfl (by kernel_rfl) ?_
    refine w_nil ?_
    refine then_normal ?_
    refine w_seq ?_
    refine w_seq ?_
    refine w_lit ?_
    refine wl_pure (wants0 rfl) (d := 11) (v := (.int .i64 (Int.tmod v n))) rfl (by kernel_rfl) ?_
    refine wl_pure (wants0 rfl) (d := 12) (v := (.bool (decide ((Int.tmod v n) < 0)))) rfl (by kernel_rfl) ?_
    refine w_nil ?_
    refine then_normal ?_
    refine (bsplit (decide ((Int.tmod v n) < 0))).elim (fun b6 => ?_) (fun b6 => ?_)
    · have g7 := of_decide_eq_true b6
      refine wp_know 12 (.bool true) (congrArg Value.bool b6) ?_
      have g8 := of_decide_eq_true b6
      refine wp_ift rfl ?_
      refine w_lit ?_
      refine wl_pure (wants0 rfl) (d := 13) (v := (.int .i64 (Int.tmod v n))) rfl (by kernel_rfl) ?_
      refine wl_pure (wants0 rfl) (d := 14) (v := (.int .i64 (n))) rfl (by kernel_rfl) ?_
      refine wl_pure (wants0 rfl) (d := 15) (v := (.int .i64 ((Int.tmod v n) + n))) rfl (e_int (z := (Int.tmod v n) + n) (by kernel_rfl) (IntWalk.i64_in _ (by have := tmod_lim v n (by omega); omega))) ?_
      refine wl_pure (wants0 rfl) (d := 5) (v := (.int .i64 ((Int.tmod v n) + n))) rfl (by kernel_rfl) ?_
      refine w_nil ?_
      refine then_normal ?_
      refine w_seq ?_
      refine w_lit ?_
      refine wl_pure (wants0 rfl) (d := 16) (v := (.int .i64 ((Int.tmod v n) + n))) rfl (by kernel_rfl) ?_
      refine wl_pure (wants0 rfl) (d := 4) (v := (.int .i64 ((Int.tmod v n) + n))) rfl (by kernel_rfl) ?_
      refine w_nil ?_
      refine then_normal ?_
      refine w_ret ?_
      refine end1 rfl (res_tmp (v := (.int .i64 ((Int.tmod v n) + n))) rfl) ?_
      exact ⟨by unfold withinV; rw [if_neg (of_decide_eq_false b1), tmod_emod v n (by have := of_decide_eq_false b1; omega), if_pos (of_decide_eq_true b6)], H.upd 0 rfl [] (fun _ h => h.elim)⟩
    · have g9 := of_decide_eq_false b6
      refine wp_know 12 (.bool false) (congrArg Value.bool b6) ?_
      have g10 := of_decide_eq_false b6
      refine wp_iff rfl ?_
      refine w_skip ?_
      refine then_normal ?_
      refine w_seq ?_
      refine w_lit ?_
      refine wl_pure (wants0 rfl) (d := 16) (v := (.int .i64 (Int.tmod v n))) rfl (by kernel_rfl) ?_
      refine wl_pure (wants0 rfl) (d := 4) (v := (.int .i64 (Int.tmod v n))) rfl (by kernel_rfl) ?_
      refine w_nil ?_
      refine then_normal ?_
      refine w_ret ?_
      refine end1 rfl (res_tmp (v := (.int .i64 (Int.tmod v n))) rfl) ?_
      exact ⟨by unfold withinV; rw [if_neg (of_decide_eq_false b1), tmod_emod v n (by have := of_decide_eq_false b1; omega), if_neg (of_decide_eq_false b6)], H.upd 0 rfl [] (fun _ h => h.elim)⟩

end Go.Proofs.Ythjmbhneifjeeaa
