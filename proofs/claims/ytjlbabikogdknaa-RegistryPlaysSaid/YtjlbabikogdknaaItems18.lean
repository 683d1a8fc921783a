/- WHAT IS PROVED: the items of acts; lists of texts that are the same. Conditions: stated with each. -/
import Derived.Test.YtjlbabikogdknaaActs18
import Derived.Test.YtjlbabikogdknaaBits
namespace Go.Proofs.Ytjlbabikogdknaa
open Go.RowKit

set_option maxRecDepth 100000 in
set_option maxHeartbeats 400000 in
theorem item_any (w : World) (d c : Int) (s : List UInt8) (hs : s.length ≤ 9223372036854775807) :
    Calls Try.prog 15 #[(.agg ⟨([(.int .i64 (d)), (.int .i64 (c)), (strV s)] : List Value)⟩)] w fun e w' => e = .returned (strV (itemV d s)) ∧ Upd [] w w' := by
  have H := Sat.start0 w
  refine calls_fr Try.func15 rfl 25 rfl (Nat.le_of_ble_eq_true rfl) ?_
  refine w_seq ?_
  refine w_lit ?_
  refine wl_do (wants0 rfl) (fun K1 hK1 => ?_)
  refine d_box (vs := ([(.int .i64 (d)), (.int .i64 (c)), (strV s)] : List Value)) rfl H rfl rfl ?_
  intro b2 w3 (H4 : Sat w [restC w (fun _ => False), cellC b2 40 ([(.int .i64 (d)), (.int .i64 (c)), (strV s)] : List Value)] w3)
  refine hK1 _ _ ?_
  clear hK1 K1
  refine wl_pure (wants0 rfl) (d := 2) (v := (strV ([] : List UInt8))) rfl (by kernel_rfl) ?_
  refine w_nil ?_
  refine then_normal ?_
  refine w_seq ?_
  refine w_seq ?_
  refine w_lit ?_
  refine wl_pure (wants0 rfl) (d := 3) (v := (.pointer (some ⟨b2, 2, none⟩))) rfl (by kernel_rfl) ?_
  refine wl_pure (wants0 rfl) (d := 4) (v := (strV s)) rfl (e_load1 rfl (by kernel_rfl) (H4.cell 1 rfl rfl)) ?_
  refine wl_pure (wants0 rfl) (d := 5) (v := (.int .i64 ((s.length : Int)))) rfl (e_lenStr (by kernel_rfl) rfl) ?_
  refine wl_pure (wants0 rfl) (d := 6) (v := (.bool (decide ((s.length : Int) > 20)))) rfl (by kernel_rfl) ?_
  refine w_nil ?_
  refine then_normal ?_
  refine (bsplit (decide ((s.length : Int) > 20))).elim (fun b5 => ?_) (fun b5 => ?_)
  · have g6 := of_decide_eq_true b5
    refine wp_know 6 (.bool true) (congrArg Value.bool b5) ?_
    have g7 := of_decide_eq_true b5
    refine wp_ift rfl ?_
    refine w_lit ?_
    refine wl_pure (wants0 rfl) (d := 7) (v := (.pointer (some ⟨b2, 2, none⟩))) rfl (by kernel_rfl) ?_
    refine wl_pure (wants0 rfl) (d := 8) (v := (strV s)) rfl (e_load1 rfl (by kernel_rfl) (H4.cell 1 rfl rfl)) ?_
    refine wl_pure (wants0 rfl) (d := 9) (v := (strV (s.take 20))) rfl (e_sliceStrHi (q := 20) (by kernel_rfl) rfl rfl (by omega) (by omega)) ?_
    refine wl_pure (wants0 rfl) (d := 10) (v := (.pointer (some ⟨b2, 2, none⟩))) rfl (by kernel_rfl) ?_
    refine wl_do (wants0 rfl) (fun K8 hK8 => ?_)
    refine d_store (vs := ([(strV (s.take 20))] : List Value)) rfl H4 1 rfl rfl rfl rfl (by kernel_rfl) (Nat.le_of_ble_eq_true (by kernel_rfl)) (Nat.le_of_ble_eq_true (by kernel_rfl)) (by kernel_rfl) ?_
    intro w9 (H10 : Sat w [restC w (fun _ => False), cellC b2 40 ([(.int .i64 (d)), (.int .i64 (c)), (strV (s.take 20))] : List Value)] w9)
    refine hK8 _ _ ?_
    clear hK8 K8
    refine w_nil ?_
    refine then_normal ?_
    refine w_seq ?_
    refine w_seq ?_
    have hcv := cutV_len s
    have H12 : Sat w [restC w (fun _ => False), cellC b2 40 ([(.int .i64 (d)), (.int .i64 (c)), (strV (cutV s))] : List Value)] w9 := H10.cast (by rw [show cutV s = (s.take 20) by unfold cutV; rw [if_pos (by omega)]])
    refine w_lit ?_
    refine wl_pure (wants0 rfl) (d := 11) (v := (.pointer (some ⟨b2, 0, none⟩))) rfl (by kernel_rfl) ?_
    refine wl_pure (wants0 rfl) (d := 12) (v := (.int .i64 (d))) rfl (e_load1 rfl (by kernel_rfl) (H12.cell 1 rfl rfl)) ?_
    refine wl_pure (wants0 rfl) (d := 13) (v := (.int .i64 (Int.tmod d 7))) rfl (e_tmod (by kernel_rfl) (by omega)) ?_
    refine wl_pure (wants0 rfl) (d := 14) (v := (.bool (decide ((Int.tmod d 7) = 6)))) rfl (by kernel_rfl) ?_
    refine w_nil ?_
    refine then_normal ?_
    refine (bsplit (decide ((Int.tmod d 7) = 6))).elim (fun b13 => ?_) (fun b13 => ?_)
    · have g14 := of_decide_eq_true b13
      refine wp_know 14 (.bool true) (congrArg Value.bool b13) ?_
      have g15 := of_decide_eq_true b13
      refine wp_ift rfl ?_
      refine w_seq ?_
      refine w_lit ?_
      refine wl_pure (wants0 rfl) (d := 15) (v := (.pointer (some ⟨b2, 2, none⟩))) rfl (by kernel_rfl) ?_
      refine wl_pure (wants0 rfl) (d := 16) (v := (strV (cutV s))) rfl (e_load1 rfl (by kernel_rfl) (H12.cell 1 rfl rfl)) ?_
      refine wl_pure (wants0 rfl) (d := 2) (v := (strV (cutV s))) rfl (by kernel_rfl) ?_
      refine w_nil ?_
      refine then_normal ?_
      refine w_ret ?_
      refine then_ret ?_
      refine end1 rfl (res_tmp (v := (strV (cutV s))) rfl) ?_
      exact ⟨by unfold itemV; rw [if_pos (by simpa using b13)], H12.upd 0 rfl [] (fun _ h => h.elim)⟩
    · have g16 := of_decide_eq_false b13
      refine wp_know 14 (.bool false) (congrArg Value.bool b13) ?_
      have g17 := of_decide_eq_false b13
      refine wp_iff rfl ?_
      refine w_skip ?_
      refine then_normal ?_
      refine w_seq ?_
      refine w_lit ?_
      refine wl_pure (wants0 rfl) (d := 17) (v := (.pointer (some ⟨b2, 2, none⟩))) rfl (by kernel_rfl) ?_
      refine wl_pure (wants0 rfl) (d := 18) (v := (strV (cutV s))) rfl (e_load1 rfl (by kernel_rfl) (H12.cell 1 rfl rfl)) ?_
      refine wl_pure (wants0 rfl) (d := 19) (v := (.int .i64 (((cutV s).length : Int)))) rfl (e_lenStr (by kernel_rfl) rfl) ?_
      refine wl_do (wants0 rfl) (fun K18 hK18 => ?_)
      refine d_call (d := 20) rfl (by kernel_rfl) (within_any w9 ((cutV s).length : Int) 5 (by omega)) ?_
      rintro _ w19 ⟨rfl, u21⟩
      have H20 := H12.keepU u21
      refine ⟨_, rfl, ?_⟩
      refine hK18 _ _ ?_
      clear hK18 K18
      refine wl_pure (wants0 rfl) (d := 21) (v := (.int .i64 (97 + (withinV ((cutV s).length : Int) 5)))) rfl (e_int (z := 97 + (withinV ((cutV s).length : Int) 5)) (by kernel_rfl) (IntWalk.i64_in _ (by have q1 := cutV_len s; have q2 := within_lim ((cutV s).length : Int) 5 (by omega); omega))) ?_
      refine wl_pure (wants0 rfl) (d := 22) (v := (.int .u8 (97 + (withinV ((cutV s).length : Int) 5)))) rfl (e_int (z := 97 + (withinV ((cutV s).length : Int) 5)) (by kernel_rfl) (wrap_u8 (by have q1 := cutV_len s; have q2 := within_lim ((cutV s).length : Int) 5 (by omega); omega))) ?_
      refine wl_do (wants0 rfl) (fun K22 hK22 => ?_)
      refine d_buildSlice (e := 5) (size := 1) (bytes := 1) (z := (.int .u8 (0))) (pvs := [(0, (.int .u8 (97 + (withinV ((cutV s).length : Int) 5))))]) (vs := ([(.int .u8 (97 + (withinV ((cutV s).length : Int) 5)))] : List Value)) rfl H20 (by kernel_rfl) (by kernel_rfl) (by kernel_rfl) (by kernel_rfl) (by kernel_rfl) rfl rfl ?_
      intro b23 w24 (H25 : Sat w [restC w (fun _ => False), cellC b2 40 ([(.int .i64 (d)), (.int .i64 (c)), (strV (cutV s))] : List Value), rowC 5 1 (.slice (some ⟨b23, 0, none⟩) 1 1) 1 ([(.int .u8 (97 + (withinV ((cutV s).length : Int) 5)))] : List Value)] w24)
      refine hK22 _ _ ?_
      clear hK22 K22
      refine wl_pure (wants0 rfl) (d := 24) (v := (strV ([UInt8.ofNat (97 + (withinV ((cutV s).length : Int) 5).toNat)]))) rfl (e_convBytes (e := 5) (s := [UInt8.ofNat (97 + (withinV ((cutV s).length : Int) 5).toNat)]) (by kernel_rfl) (by kernel_rfl) (by kernel_rfl) rfl (ownsRow_bytes (by have q := H25.at 2 rfl; rw [item_bytes s] at q; exact q))) ?_
      refine wl_pure (wants0 rfl) (d := 2) (v := (strV ([UInt8.ofNat (97 + (withinV ((cutV s).length : Int) 5).toNat)]))) rfl (by kernel_rfl) ?_
      refine w_nil ?_
      refine then_normal ?_
      refine w_ret ?_
      refine end1 rfl (res_tmp (v := (strV ([UInt8.ofNat (97 + (withinV ((cutV s).length : Int) 5).toNat)]))) rfl) ?_
      exact ⟨by unfold itemV; rw [if_neg (by simpa using b13)], H25.upd 0 rfl [] (fun _ h => h.elim)⟩
  · have g26 := of_decide_eq_false b5
    refine wp_know 6 (.bool false) (congrArg Value.bool b5) ?_
    have g27 := of_decide_eq_false b5
    refine wp_iff rfl ?_
    refine w_skip ?_
    refine then_normal ?_
    refine w_seq ?_
    refine w_seq ?_
    have hcv := cutV_len s
    have H28 : Sat w [restC w (fun _ => False), cellC b2 40 ([(.int .i64 (d)), (.int .i64 (c)), (strV (cutV s))] : List Value)] w3 := H4.cast (by rw [show cutV s = s by unfold cutV; rw [if_neg (by omega)]])
    refine w_lit ?_
    refine wl_pure (wants0 rfl) (d := 11) (v := (.pointer (some ⟨b2, 0, none⟩))) rfl (by kernel_rfl) ?_
    refine wl_pure (wants0 rfl) (d := 12) (v := (.int .i64 (d))) rfl (e_load1 rfl (by kernel_rfl) (H28.cell 1 rfl rfl)) ?_
    refine wl_pure (wants0 rfl) (d := 13) (v := (.int .i64 (Int.tmod d 7))) rfl (e_tmod (by kernel_rfl) (by omega)) ?_
    refine wl_pure (wants0 rfl) (d := 14) (v := (.bool (decide ((Int.tmod d 7) = 6)))) rfl (by kernel_rfl) ?_
    refine w_nil ?_
    refine then_normal ?_
    refine (bsplit (decide ((Int.tmod d 7) = 6))).elim (fun b29 => ?_) (fun b29 => ?_)
    · have g30 := of_decide_eq_true b29
      refine wp_know 14 (.bool true) (congrArg Value.bool b29) ?_
      have g31 := of_decide_eq_true b29
      refine wp_ift rfl ?_
      refine w_seq ?_
      refine w_lit ?_
      refine wl_pure (wants0 rfl) (d := 15) (v := (.pointer (some ⟨b2, 2, none⟩))) rfl (by kernel_rfl) ?_
      refine wl_pure (wants0 rfl) (d := 16) (v := (strV (cutV s))) rfl (e_load1 rfl (by kernel_rfl) (H28.cell 1 rfl rfl)) ?_
      refine wl_pure (wants0 rfl) (d := 2) (v := (strV (cutV s))) rfl (by kernel_rfl) ?_
      refine w_nil ?_
      refine then_normal ?_
      refine w_ret ?_
      refine then_ret ?_
      refine end1 rfl (res_tmp (v := (strV (cutV s))) rfl) ?_
      exact ⟨by unfold itemV; rw [if_pos (by simpa using b29)], H28.upd 0 rfl [] (fun _ h => h.elim)⟩
    · have g32 := of_decide_eq_false b29
      refine wp_know 14 (.bool false) (congrArg Value.bool b29) ?_
      have g33 := of_decide_eq_false b29
      refine wp_iff rfl ?_
      refine w_skip ?_
      refine then_normal ?_
      refine w_seq ?_
      refine w_lit ?_
      refine wl_pure (wants0 rfl) (d := 17) (v := (.pointer (some ⟨b2, 2, none⟩))) rfl (by kernel_rfl) ?_
      refine wl_pure (wants0 rfl) (d := 18) (v := (strV (cutV s))) rfl (e_load1 rfl (by kernel_rfl) (H28.cell 1 rfl rfl)) ?_
      refine wl_pure (wants0 rfl) (d := 19) (v := (.int .i64 (((cutV s).length : Int)))) rfl (e_lenStr (by kernel_rfl) rfl) ?_
      refine wl_do (wants0 rfl) (fun K34 hK34 => ?_)
      refine d_call (d := 20) rfl (by kernel_rfl) (within_any w3 ((cutV s).length : Int) 5 (by omega)) ?_
      rintro _ w35 ⟨rfl, u37⟩
      have H36 := H28.keepU u37
      refine ⟨_, rfl, ?_⟩
      refine hK34 _ _ ?_
      clear hK34 K34
      refine wl_pure (wants0 rfl) (d := 21) (v := (.int .i64 (97 + (withinV ((cutV s).length : Int) 5)))) rfl (e_int (z := 97 + (withinV ((cutV s).length : Int) 5)) (by kernel_rfl) (IntWalk.i64_in _ (by have q1 := cutV_len s; have q2 := within_lim ((cutV s).length : Int) 5 (by omega); omega))) ?_
      refine wl_pure (wants0 rfl) (d := 22) (v := (.int .u8 (97 + (withinV ((cutV s).length : Int) 5)))) rfl (e_int (z := 97 + (withinV ((cutV s).length : Int) 5)) (by kernel_rfl) (wrap_u8 (by have q1 := cutV_len s; have q2 := within_lim ((cutV s).length : Int) 5 (by omega); omega))) ?_
      refine wl_do (wants0 rfl) (fun K38 hK38 => ?_)
      refine d_buildSlice (e := 5) (size := 1) (bytes := 1) (z := (.int .u8 (0))) (pvs := [(0, (.int .u8 (97 + (withinV ((cutV s).length : Int) 5))))]) (vs := ([(.int .u8 (97 + (withinV ((cutV s).length : Int) 5)))] : List Value)) rfl H36 (by kernel_rfl) (by kernel_rfl) (by kernel_rfl) (by kernel_rfl) (by kernel_rfl) rfl rfl ?_
      intro b39 w40 (H41 : Sat w [restC w (fun _ => False), cellC b2 40 ([(.int .i64 (d)), (.int .i64 (c)), (strV (cutV s))] : List Value), rowC 5 1 (.slice (some ⟨b39, 0, none⟩) 1 1) 1 ([(.int .u8 (97 + (withinV ((cutV s).length : Int) 5)))] : List Value)] w40)
      refine hK38 _ _ ?_
      clear hK38 K38
      refine wl_pure (wants0 rfl) (d := 24) (v := (strV ([UInt8.ofNat (97 + (withinV ((cutV s).length : Int) 5).toNat)]))) rfl (e_convBytes (e := 5) (s := [UInt8.ofNat (97 + (withinV ((cutV s).length : Int) 5).toNat)]) (by kernel_rfl) (by kernel_rfl) (by kernel_rfl) rfl (ownsRow_bytes (by have q := H41.at 2 rfl; rw [item_bytes s] at q; exact q))) ?_
      refine wl_pure (wants0 rfl) (d := 2) (v := (strV ([UInt8.ofNat (97 + (withinV ((cutV s).length : Int) 5).toNat)]))) rfl (by kernel_rfl) ?_
      refine w_nil ?_
      refine then_normal ?_
      refine w_ret ?_
      refine end1 rfl (res_tmp (v := (strV ([UInt8.ofNat (97 + (withinV ((cutV s).length : Int) 5).toNat)]))) rfl) ?_
      exact ⟨by unfold itemV; rw [if_neg (by simpa using b29)], H41.upd 0 rfl [] (fun _ h => h.elim)⟩

set_option maxRecDepth 100000 in
set_option maxHeartbeats 400000 in
theorem sameS_any0 (w : World) (va : Option Addr) (vc : Nat) (xs : List (List UInt8)) (hxs : ListAt encS 1 w (.slice va xs.length vc) xs) (hx : xs.length ≤ 1000000000) (ua : Option Addr) (uc : Nat) (ys : List (List UInt8)) (hys : ListAt encS 1 w (.slice ua ys.length uc) ys) :
    Calls Try.prog 16 #[(.slice va xs.length vc), (.slice ua ys.length uc)] w fun e w' => e = .returned (.bool (decide (xs = ys))) ∧ Upd [] w w' := by
  have H := Sat.start0 w
  refine calls_fr Try.func16 rfl 26 rfl (Nat.le_of_ble_eq_true rfl) ?_
  refine w_seq ?_
  refine w_lit ?_
  refine wl_pure (wants0 rfl) (d := 4) (v := (.bool false)) rfl (by kernel_rfl) ?_
  refine w_nil ?_
  refine then_normal ?_
  refine w_seq ?_
  refine w_seq ?_
  refine w_lit ?_
  refine wl_pure (wants0 rfl) (d := 6) (v := (.slice va xs.length vc)) rfl (by kernel_rfl) ?_
  refine wl_pure (wants0 rfl) (d := 7) (v := (.int .i64 ((xs.length : Int)))) rfl (by kernel_rfl) ?_
  refine wl_pure (wants0 rfl) (d := 8) (v := (.slice ua ys.length uc)) rfl (by kernel_rfl) ?_
  refine wl_pure (wants0 rfl) (d := 9) (v := (.int .i64 ((ys.length : Int)))) rfl (by kernel_rfl) ?_
  refine wl_pure (wants0 rfl) (d := 10) (v := (.bool (!(decide ((xs.length : Int) = (ys.length : Int)))))) rfl (by kernel_rfl) ?_
  refine w_nil ?_
  refine then_normal ?_
  refine (bsplit (!(decide ((xs.length : Int) = (ys.length : Int))))).elim (fun b1 => ?_) (fun b1 => ?_)
  · have g2 := bnot_true b1
    have g3 := of_decide_eq_false g2
    refine wp_know 10 (.bool true) (congrArg Value.bool b1) ?_
    have g4 := bnot_true b1
    have g5 := of_decide_eq_false g4
    refine wp_ift rfl ?_
    refine w_seq ?_
    refine w_lit ?_
    refine wl_pure (wants0 rfl) (d := 4) (v := (.bool false)) rfl (by kernel_rfl) ?_
    refine w_nil ?_
    refine then_normal ?_
    refine w_ret ?_
    refine then_ret ?_
    refine end1 rfl (res_tmp (v := (.bool false)) rfl) ?_
    exact ⟨by rw [decide_eq_false (fun e => by have q := b1; simp [e] at q)], H.upd 0 rfl [] (fun _ h => h.elim)⟩
  · have g6 := bnot_false b1
    have g7 := of_decide_eq_true g6
    refine wp_know 10 (.bool false) (congrArg Value.bool b1) ?_
    have g8 := bnot_false b1
    have g9 := of_decide_eq_true g8
    refine wp_iff rfl ?_
    refine w_skip ?_
    refine then_normal ?_
    refine w_seq ?_
    refine w_seq ?_
    have hlen : xs.length = ys.length := by have q := b1; simp at q; omega
    refine w_lit ?_
    refine wl_pure (wants0 rfl) (d := 5) (v := (.int .i64 (0))) rfl (by kernel_rfl) ?_
    refine w_nil ?_
    refine then_normal ?_
    refine w_block ?_
    refine wp_round [4, 5, 11, 12, 13, 14, 15, 16, 17, 18, 19, 20, 21, 22, 23, 24, 25] (fun F_ W_ m_ => ∃ (i : Nat), F_ 5 = (.int .i64 ((i : Int))) ∧ (i ≤ xs.length) ∧ (xs.take i = ys.take i) ∧ Sat w [restC w (fun _ => False)] W_ ∧ m_ = xs.length + 1 - i) _ ⟨0, (show ((.int .i64 (0)) : Value) = _ by first | rfl | go_num), by omega, by simp, H, rfl⟩ ?_
    rintro g10 w11 _ ⟨i, v13, hi, hse, H12, rfl⟩
    refine wp_know 5 _ v13 ?_
    refine w_seq ?_
    refine w_seq ?_
    refine w_lit ?_
    refine wl_pure (wants0 rfl) (d := 11) (v := (.int .i64 ((i : Int)))) rfl (by kernel_rfl) ?_
    refine wl_pure (wants0 rfl) (d := 12) (v := (.slice va xs.length vc)) rfl (by kernel_rfl) ?_
    refine wl_pure (wants0 rfl) (d := 13) (v := (.int .i64 ((xs.length : Int)))) rfl (by kernel_rfl) ?_
    refine wl_pure (wants0 rfl) (d := 14) (v := (.bool (decide ((i : Int) < (xs.length : Int))))) rfl (by kernel_rfl) ?_
    refine w_nil ?_
    refine then_normal ?_
    refine (bsplit (decide ((i : Int) < (xs.length : Int)))).elim (fun b15 => ?_) (fun b15 => ?_)
    · have g16 := of_decide_eq_true b15
      refine wp_know 14 (.bool true) (congrArg Value.bool b15) ?_
      have g17 := of_decide_eq_true b15
      refine wp_ift rfl ?_
      refine w_skip ?_
      refine then_normal ?_
      refine w_seq ?_
      refine w_block ?_
      refine w_seq ?_
      refine q_start H12 (by kernel_rfl) (by kernel_rfl) ?_
      refine q_val (wants0 rfl) (d := 17) (v := (.slice va xs.length vc)) rfl (fun _ H' => (by kernel_rfl)) ?_
      refine q_val (wants0 rfl) (d := 18) (v := (.int .i64 ((i : Int)))) rfl (fun _ H' => (by kernel_rfl)) ?_
      obtain ⟨g18, o19, c20, e21, R22⟩ := SliceOf.atD hxs [] (show i < xs.length by omega)
      refine q_val (wants0 rfl) (d := 19) (v := (.pointer (some ⟨g18, o19 + ((i : Int)).toNat * 1, none⟩))) rfl (fun _ H' => (e_indexAddrW (E := 9) (by kernel_rfl) (by kernel_rfl) (Nat.le_of_ble_eq_true rfl) rfl e21 rfl (by omega) (by omega))) ?_
      refine q_val (wants0 rfl) (d := 20) (v := (strV (xs.getD i []))) rfl (fun _ H' => (e_load1 rfl (by kernel_rfl) (H'.cellR 0 rfl (cells_at R22 0 (by kernel_rfl) (show o19 + ((i : Int)).toNat * 1 = o19 + i * 1 + 0 by omega)) (fun h => h)))) ?_
      refine q_val (wants0 rfl) (d := 21) (v := (.slice ua ys.length uc)) rfl (fun _ H' => (by kernel_rfl)) ?_
      refine q_val (wants0 rfl) (d := 22) (v := (.int .i64 ((i : Int)))) rfl (fun _ H' => (by kernel_rfl)) ?_
      obtain ⟨g23, o24, c25, e26, R27⟩ := SliceOf.atD hys [] (show i < ys.length by omega)
      refine q_val (wants0 rfl) (d := 23) (v := (.pointer (some ⟨g23, o24 + ((i : Int)).toNat * 1, none⟩))) rfl (fun _ H' => (e_indexAddrW (E := 9) (by kernel_rfl) (by kernel_rfl) (Nat.le_of_ble_eq_true rfl) rfl e26 rfl (by omega) (by omega))) ?_
      refine q_val (wants0 rfl) (d := 24) (v := (strV (ys.getD i []))) rfl (fun _ H' => (e_load1 rfl (by kernel_rfl) (H'.cellR 0 rfl (cells_at R27 0 (by kernel_rfl) (show o24 + ((i : Int)).toNat * 1 = o24 + i * 1 + 0 by omega)) (fun h => h)))) ?_
      refine q_val (wants0 rfl) (d := 25) (v := (.bool (!(decide ((xs.getD i []) = (ys.getD i [])))))) rfl (fun _ H' => (e_neStr (xs.getD i []) (ys.getD i []) rfl rfl)) ?_
      refine q_end ?_
      intro w28 H29
      refine then_normal ?_
      refine (bsplit (!(decide ((xs.getD i []) = (ys.getD i []))))).elim (fun b30 => ?_) (fun b30 => ?_)
      · have g31 := bnot_true b30
        have g32 := of_decide_eq_false g31
        refine wp_know 25 (.bool true) (congrArg Value.bool b30) ?_
        have g33 := bnot_true b30
        have g34 := of_decide_eq_false g33
        refine wp_ift rfl ?_
        refine w_seq ?_
        refine w_lit ?_
        refine wl_pure (wants0 rfl) (d := 4) (v := (.bool false)) rfl (by kernel_rfl) ?_
        refine w_nil ?_
        refine then_normal ?_
        refine w_ret ?_
        refine blk_ret ?_
        refine then_ret ?_
        refine back_ret ?_
        refine blk_ret ?_
        refine then_ret ?_
        refine end1 rfl (res_tmp (v := (.bool false)) rfl) ?_
        exact ⟨by rw [decide_eq_false (fun e => by rw [e] at b30; simp at b30)], H29.upd 0 rfl [] (fun _ h => h.elim)⟩
      · have g35 := bnot_false b30
        have g36 := of_decide_eq_true g35
        refine wp_know 25 (.bool false) (congrArg Value.bool b30) ?_
        have g37 := bnot_false b30
        have g38 := of_decide_eq_true g37
        refine wp_iff rfl ?_
        refine w_skip ?_
        refine blk_normal ?_
        refine then_normal ?_
        refine w_lit ?_
        refine wl_pure (wants0 rfl) (d := 15) (v := (.int .i64 ((i : Int)))) rfl (by kernel_rfl) ?_
        refine wl_pure (wants0 rfl) (d := 16) (v := (.int .i64 ((i : Int) + 1))) rfl (e_int (z := (i : Int) + 1) (by kernel_rfl) (IntWalk.i64_in _ (by omega))) ?_
        refine wl_pure (wants0 rfl) (d := 5) (v := (.int .i64 ((i : Int) + 1))) rfl (by kernel_rfl) ?_
        refine w_nil ?_
        refine round_back ?_ _ ⟨(i + 1), (show ((.int .i64 ((i : Int) + 1)) : Value) = _ by first | rfl | go_num), by omega, take_eq_stepS hse (by omega) (by omega) (by simpa using b30), H29, rfl⟩ (by omega)
        exact (same_upd rfl (same_upd rfl (same_upd rfl (same_upd rfl (same_upd rfl (same_upd rfl (same_upd rfl (same_upd rfl (same_upd rfl (same_upd rfl (same_upd rfl (same_upd rfl (same_upd rfl (same_upd rfl (same_upd rfl (same_upd rfl (same_upd rfl (same_upd rfl (same_upd rfl (same_ovr))))))))))))))))))))
    · have g39 := of_decide_eq_false b15
      refine wp_know 14 (.bool false) (congrArg Value.bool b15) ?_
      have g40 := of_decide_eq_false b15
      refine wp_iff rfl ?_
      refine w_exit ?_
      refine then_exit ?_
      refine back_exit ?_
      refine blk_hit ?_
      refine then_normal ?_
      refine w_seq ?_
      refine w_lit ?_
      refine wl_pure (wants0 rfl) (d := 4) (v := (.bool true)) rfl (by kernel_rfl) ?_
      refine w_nil ?_
      refine then_normal ?_
      refine w_ret ?_
      refine end1 rfl (res_tmp (v := (.bool true)) rfl) ?_
      exact ⟨by rw [decide_eq_true (show xs = ys by rw [← List.take_of_length_le (show xs.length ≤ i by omega), hse, List.take_of_length_le (by omega)])], H12.upd 0 rfl [] (fun _ h => h.elim)⟩
theorem sameS_any (w : World) (v u : Value) (xs ys : List (List UInt8)) (hxs : ListAt encS 1 w v xs) (hys : ListAt encS 1 w u ys) (hx : xs.length ≤ 1000000000) : Calls Try.prog 16 #[v, u] w fun e w' => e = .returned (.bool (decide (xs = ys))) ∧ Upd [] w w' := by
  obtain ⟨a, c, rfl⟩ := hxs.len
  obtain ⟨a2, c2, rfl⟩ := hys.len
  exact sameS_any0 w a c xs hxs hx a2 c2 ys hys

end Go.Proofs.Ytjlbabikogdknaa
