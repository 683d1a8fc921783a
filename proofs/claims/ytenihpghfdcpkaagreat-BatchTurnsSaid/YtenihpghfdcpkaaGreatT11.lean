/- WHAT IS PROVED: contracts and plain laws of NumsS, TimeE, TabM. Conditions: stated with each. -/
import Derived.Test.YtenihpghfdcpkaaGreatT05
import Derived.Test.YtenihpghfdcpkaaGreatT06
import Derived.Test.YtenihpghfdcpkaaGreatT09
import Derived.Test.YtenihpghfdcpkaaGreatT10
set_option maxHeartbeats 4000000
set_option maxRecDepth 100000
namespace Go.Proofs.YtenihpghfdcpkaaGreat
open Go.RowKit
theorem medR_any0 (w : World) (va : Option Addr) (vc : Nat) (xs : List Int) (hxs : ListAt encU 1 w (.slice va xs.length vc) xs) (hx : xs.length ≤ 12) :
  Calls Tryz.prog 65 #[(.slice va xs.length vc)] w fun e w' => e = .returned (.tuple #[.int .u64 (medV xs), .bool (decide (xs.length % 2 = 1))]) ∧ Upd [] w w' := by
 have H := Sat.start0 w
 refine calls_fr Tryz.func65 rfl 64 rfl (Nat.le_of_ble_eq_true rfl) ?_
 refine zsl <| wv 2 (.int .u64 (0)) <| wv 3 (.bool false) <| znt <| w_seq <| zsl <| wv 8 (.slice va xs.length vc) <| wv 9 (.int .i64 ((xs.length : Int))) <| wv 10 (.int .i64 ((xs.length : Int) % 2)) ?_ (hr := e_rem (by kernel_rfl) (by omega) (by omega))
 refine wv 11 (.bool (decide (((xs.length : Int) % 2) = 0))) <| znt ?_
 refine (bsplit (decide (((xs.length : Int) % 2) = 0))).elim (fun b1 => ?_) (fun b1 => ?_)
 ·have g2 := of_decide_eq_true b1
  refine zwkt _ b1 ?_
  refine zsl <| wv 2 (.int .u64 (0)) <| wv 3 (.bool false) <| znt <| w_ret <| then_ret <| ze2 (.int .u64 (0)) (.bool false) ?_
  exact ⟨by rw [medV_even (by omega), decide_eq_false (show ¬ xs.length % 2 = 1 by omega)], H.upd 0 rfl [] (fun _ h => h.elim)⟩
 have g4 := of_decide_eq_false b1
 refine zwkf _ b1 ?_
 refine w_skip <| ztn <| w_seq <| zsl <| wv 12 (.slice va xs.length vc) <| wv 13 (.int .i64 ((xs.length : Int))) <| wv 14 (.int .i64 (0)) <| znt <| w_block <| wp_round ([2, 3, 4, 5, 6, 7] ++ List.range' 14 50) (fun F_ W_ m_ => ∃ (i : Nat), F_ 14 = (.int .i64 ((i : Int))) ∧ (i ≤ xs.length) ∧ (∀ j, j < i → NotMed xs j) ∧ Sat w [restC w (fun _ => False)] W_ ∧ m_ = xs.length + 1 - i) _ ⟨0, (show ((.int .i64 (0)) : Value) = _ by first | rfl | go_num), by omega, by intro j hj; omega, H, rfl⟩ ?_
 rintro g6 w7 _ ⟨i, v9, hi, hno, H8, rfl⟩
 refine wp_know 14 _ v9 ?_
 refine zsl <| wv 15 (.bool (decide ((i : Int) < (xs.length : Int)))) <| znt <| w_seq ?_
 refine (bsplit (decide ((i : Int) < (xs.length : Int)))).elim (fun b11 => ?_) (fun b11 => ?_)
 ·have g12 := of_decide_eq_true b11
  refine zwkt _ b11 ?_
  refine w_skip <| ztn <| w_seq <| w_block <| zsl <| wv 16 (.int .i64 ((i : Int))) <| wv 4 (.int .i64 ((i : Int))) <| znsl <| wv 5 (.int .i64 (0)) <| wv 6 (.int .i64 (0)) ?_
  refine znt <| w_seq <| zsl <| wv 17 (.slice va xs.length vc) <| wv 18 (.int .i64 ((xs.length : Int))) <| wv 19 (.int .i64 (0)) <| znt <| w_block <| wp_round ([5, 6, 7] ++ List.range' 19 26) (fun F_ W_ m_ => ∃ (k : Nat), F_ 19 = (.int .i64 ((k : Int))) ∧ F_ 5 = (.int .i64 ((((xs.take k).countP (fun x => decide (x < xs.getD i 0)) : Nat) : Int))) ∧ F_ 6 = (.int .i64 ((((xs.take k).countP (fun x => decide (x = xs.getD i 0)) : Nat) : Int))) ∧ (k ≤ xs.length) ∧ Sat w [restC w (fun _ => False)] W_ ∧ m_ = xs.length + 1 - k) _ ⟨0, (show ((.int .i64 (0)) : Value) = _ by first | rfl | go_num), (show ((.int .i64 (0)) : Value) = _ by first | rfl | go_num), (show ((.int .i64 (0)) : Value) = _ by first | rfl | go_num), by omega, H8, rfl⟩ ?_
  rintro g14 w15 _ ⟨k, v17, v18, v19, hk, H16, rfl⟩
  refine wp_know 19 _ v17 ?_
  refine wp_know 5 _ v18 ?_
  refine wp_know 6 _ v19 ?_
  refine zsl <| wv 20 (.bool (decide ((k : Int) < (xs.length : Int)))) <| znt <| w_seq ?_
  refine (bsplit (decide ((k : Int) < (xs.length : Int)))).elim (fun b21 => ?_) (fun b21 => ?_)
  ·have g22 := of_decide_eq_true b21
   refine zwkt _ b21 ?_
   refine w_skip <| ztn <| w_seq <| w_block <| zsl <| wv 21 (.int .i64 ((k : Int))) <| wv 7 (.int .i64 ((k : Int))) <| znt <| w_seq <| w_seq ?_
   refine zqs H16 ?_
   refine qv 22 (.slice va xs.length vc) <| qv 23 (.int .i64 ((k : Int))) ?_
   obtain ⟨g24, o25, c26, e27, R28⟩ := SliceOf.atD hxs 0 (show k < xs.length by omega)
   refine qv 24 (.pointer (some ⟨g24, o25 + ((k : Int)).toNat * 1, none⟩)) ?_ (hr := fun _ H' => (e_indexAddrW (E := 25) (by kernel_rfl) (by kernel_rfl) (Nat.le_of_ble_eq_true rfl) rfl e27 rfl (by omega) (by omega)))
   refine qv 25 (.int .u64 ((xs.getD k 0))) ?_ (hr := fun _ H' => (zl1 (H'.cellR 0 rfl (cells_at R28 0 (by kernel_rfl) (show o25 + ((k : Int)).toNat * 1 = o25 + k * 1 + 0 by omega)) (fun h => h))))
   refine qv 26 (.slice va xs.length vc) <| qv 27 (.int .i64 ((i : Int))) ?_
   obtain ⟨g29, o30, c31, e32, R33⟩ := SliceOf.atD hxs 0 (show i < xs.length by omega)
   refine qv 28 (.pointer (some ⟨g29, o30 + ((i : Int)).toNat * 1, none⟩)) ?_ (hr := fun _ H' => (e_indexAddrW (E := 25) (by kernel_rfl) (by kernel_rfl) (Nat.le_of_ble_eq_true rfl) rfl e32 rfl (by omega) (by omega)))
   refine qv 29 (.int .u64 ((xs.getD i 0))) ?_ (hr := fun _ H' => (zl1 (H'.cellR 0 rfl (cells_at R33 0 (by kernel_rfl) (show o30 + ((i : Int)).toNat * 1 = o30 + i * 1 + 0 by omega)) (fun h => h))))
   refine qv 30 (.bool (decide ((xs.getD k 0) < (xs.getD i 0)))) <| q_end fun w34 H35 => ?_
   apply ztn
   refine (bsplit (decide ((xs.getD k 0) < (xs.getD i 0)))).elim (fun b36 => ?_) (fun b36 => ?_)
   ·have g37 := of_decide_eq_true b36
    refine zwkt _ b36 ?_
    refine w_lit <| wv 31 (.int .i64 ((((xs.take k).countP (fun x => decide (x < xs.getD i 0)) : Nat) : Int))) <| wv 32 (.int .i64 ((((xs.take k).countP (fun x => decide (x < xs.getD i 0)) : Nat) : Int) + 1)) ?_ (hr := e_int (z := (((xs.take k).countP (fun x => decide (x < xs.getD i 0)) : Nat) : Int) + 1) (by kernel_rfl) (IntWalk.i64_in _ (by have q1 := cnt_take_le (fun x => decide (x < xs.getD i 0)) xs k; have q2 := cnt_take_le (fun x => decide (x = xs.getD i 0)) xs k; omega)))
    refine wv 5 (.int .i64 ((((xs.take k).countP (fun x => decide (x < xs.getD i 0)) : Nat) : Int) + 1)) <| znt <| w_seq <| zqs H35 ?_
    refine qv 33 (.slice va xs.length vc) <| qv 34 (.int .i64 ((k : Int))) <| qv 35 (.pointer (some ⟨g24, o25 + ((k : Int)).toNat * 1, none⟩)) ?_ (hr := fun _ H' => (e_indexAddrW (E := 25) (by kernel_rfl) (by kernel_rfl) (Nat.le_of_ble_eq_true rfl) rfl e27 rfl (by omega) (by omega)))
    refine qv 36 (.int .u64 ((xs.getD k 0))) ?_ (hr := fun _ H' => (zl1 (H'.cellR 0 rfl (cells_at R28 0 (by kernel_rfl) (show o25 + ((k : Int)).toNat * 1 = o25 + k * 1 + 0 by omega)) (fun h => h))))
    refine qv 37 (.slice va xs.length vc) <| qv 38 (.int .i64 ((i : Int))) <| qv 39 (.pointer (some ⟨g29, o30 + ((i : Int)).toNat * 1, none⟩)) ?_ (hr := fun _ H' => (e_indexAddrW (E := 25) (by kernel_rfl) (by kernel_rfl) (Nat.le_of_ble_eq_true rfl) rfl e32 rfl (by omega) (by omega)))
    refine qv 40 (.int .u64 ((xs.getD i 0))) ?_ (hr := fun _ H' => (zl1 (H'.cellR 0 rfl (cells_at R33 0 (by kernel_rfl) (show o30 + ((i : Int)).toNat * 1 = o30 + i * 1 + 0 by omega)) (fun h => h))))
    refine qv 41 (.bool (decide ((xs.getD k 0) = (xs.getD i 0)))) <| q_end fun w39 H40 => ?_
    apply ztn
    refine (bsplit (decide ((xs.getD k 0) = (xs.getD i 0)))).elim (fun b41 => ?_) (fun b41 => ?_)
    ·have g42 := of_decide_eq_true b41
     refine zwkt _ b41 ?_
     refine w_lit <| wv 42 (.int .i64 ((((xs.take k).countP (fun x => decide (x = xs.getD i 0)) : Nat) : Int))) <| wv 43 (.int .i64 ((((xs.take k).countP (fun x => decide (x = xs.getD i 0)) : Nat) : Int) + 1)) ?_ (hr := e_int (z := (((xs.take k).countP (fun x => decide (x = xs.getD i 0)) : Nat) : Int) + 1) (by kernel_rfl) (IntWalk.i64_in _ (by have q1 := cnt_take_le (fun x => decide (x < xs.getD i 0)) xs k; have q2 := cnt_take_le (fun x => decide (x = xs.getD i 0)) xs k; omega)))
     refine wv 6 (.int .i64 ((((xs.take k).countP (fun x => decide (x = xs.getD i 0)) : Nat) : Int) + 1)) <| w_nil <| blk_normal <| ztn <| w_lit <| wv 44 (.int .i64 ((k : Int) + 1)) ?_ (hr := e_int (z := (k : Int) + 1) (by kernel_rfl) (IntWalk.i64_in _ (by have q1 := cnt_take_le (fun x => decide (x < xs.getD i 0)) xs k; have q2 := cnt_take_le (fun x => decide (x = xs.getD i 0)) xs k; omega)))
     refine wv 19 (.int .i64 ((k : Int) + 1)) <| w_nil <| round_back ?_ _ ⟨(k + 1), rfl, (show ((.int .i64 ((((xs.take k).countP (fun x => decide (x < xs.getD i 0)) : Nat) : Int) + 1)) : Value) = _ by have q := take_cnt (fun x => decide (x < xs.getD i 0)) xs k (by omega); simp only [b36, b41, if_true, if_false, Bool.false_eq_true] at q; first | (rw [q]; rfl) | (rw [q]; go_num)), (show ((.int .i64 ((((xs.take k).countP (fun x => decide (x = xs.getD i 0)) : Nat) : Int) + 1)) : Value) = _ by have q := take_cnt (fun x => decide (x = xs.getD i 0)) xs k (by omega); simp only [b36, b41, if_true, if_false, Bool.false_eq_true] at q; first | (rw [q]; rfl) | (rw [q]; go_num)), by omega, H40, rfl⟩ (by omega)
     exact zs
    have g44 := of_decide_eq_false b41
    refine zwkf _ b41 ?_
    refine w_skip <| blk_normal <| ztn <| w_lit <| wv 44 (.int .i64 ((k : Int) + 1)) ?_ (hr := e_int (z := (k : Int) + 1) (by kernel_rfl) (IntWalk.i64_in _ (by have q1 := cnt_take_le (fun x => decide (x < xs.getD i 0)) xs k; have q2 := cnt_take_le (fun x => decide (x = xs.getD i 0)) xs k; omega)))
    refine wv 19 (.int .i64 ((k : Int) + 1)) <| w_nil <| round_back ?_ _ ⟨(k + 1), rfl, (show ((.int .i64 ((((xs.take k).countP (fun x => decide (x < xs.getD i 0)) : Nat) : Int) + 1)) : Value) = _ by have q := take_cnt (fun x => decide (x < xs.getD i 0)) xs k (by omega); simp only [b36, b41, if_true, if_false, Bool.false_eq_true] at q; first | (rw [q]; rfl) | (rw [q]; go_num)), (show ((.int .i64 ((((xs.take k).countP (fun x => decide (x = xs.getD i 0)) : Nat) : Int))) : Value) = _ by have q := take_cnt (fun x => decide (x = xs.getD i 0)) xs k (by omega); simp only [b36, b41, if_true, if_false, Bool.false_eq_true] at q; first | (rw [q]; rfl) | (rw [q]; go_num)), by omega, H40, rfl⟩ (by omega)
    exact zs
   have g46 := of_decide_eq_false b36
   refine zwkf _ b36 ?_
   refine w_skip <| ztn <| w_seq <| zqs H35 ?_
   refine qv 33 (.slice va xs.length vc) <| qv 34 (.int .i64 ((k : Int))) <| qv 35 (.pointer (some ⟨g24, o25 + ((k : Int)).toNat * 1, none⟩)) ?_ (hr := fun _ H' => (e_indexAddrW (E := 25) (by kernel_rfl) (by kernel_rfl) (Nat.le_of_ble_eq_true rfl) rfl e27 rfl (by omega) (by omega)))
   refine qv 36 (.int .u64 ((xs.getD k 0))) ?_ (hr := fun _ H' => (zl1 (H'.cellR 0 rfl (cells_at R28 0 (by kernel_rfl) (show o25 + ((k : Int)).toNat * 1 = o25 + k * 1 + 0 by omega)) (fun h => h))))
   refine qv 37 (.slice va xs.length vc) <| qv 38 (.int .i64 ((i : Int))) <| qv 39 (.pointer (some ⟨g29, o30 + ((i : Int)).toNat * 1, none⟩)) ?_ (hr := fun _ H' => (e_indexAddrW (E := 25) (by kernel_rfl) (by kernel_rfl) (Nat.le_of_ble_eq_true rfl) rfl e32 rfl (by omega) (by omega)))
   refine qv 40 (.int .u64 ((xs.getD i 0))) ?_ (hr := fun _ H' => (zl1 (H'.cellR 0 rfl (cells_at R33 0 (by kernel_rfl) (show o30 + ((i : Int)).toNat * 1 = o30 + i * 1 + 0 by omega)) (fun h => h))))
   refine qv 41 (.bool (decide ((xs.getD k 0) = (xs.getD i 0)))) <| q_end fun w48 H49 => ?_
   apply ztn
   refine (bsplit (decide ((xs.getD k 0) = (xs.getD i 0)))).elim (fun b50 => ?_) (fun b50 => ?_)
   ·have g51 := of_decide_eq_true b50
    refine zwkt _ b50 ?_
    refine w_lit <| wv 42 (.int .i64 ((((xs.take k).countP (fun x => decide (x = xs.getD i 0)) : Nat) : Int))) <| wv 43 (.int .i64 ((((xs.take k).countP (fun x => decide (x = xs.getD i 0)) : Nat) : Int) + 1)) ?_ (hr := e_int (z := (((xs.take k).countP (fun x => decide (x = xs.getD i 0)) : Nat) : Int) + 1) (by kernel_rfl) (IntWalk.i64_in _ (by have q1 := cnt_take_le (fun x => decide (x < xs.getD i 0)) xs k; have q2 := cnt_take_le (fun x => decide (x = xs.getD i 0)) xs k; omega)))
    refine wv 6 (.int .i64 ((((xs.take k).countP (fun x => decide (x = xs.getD i 0)) : Nat) : Int) + 1)) <| w_nil <| blk_normal <| ztn <| w_lit <| wv 44 (.int .i64 ((k : Int) + 1)) ?_ (hr := e_int (z := (k : Int) + 1) (by kernel_rfl) (IntWalk.i64_in _ (by have q1 := cnt_take_le (fun x => decide (x < xs.getD i 0)) xs k; have q2 := cnt_take_le (fun x => decide (x = xs.getD i 0)) xs k; omega)))
    refine wv 19 (.int .i64 ((k : Int) + 1)) <| w_nil <| round_back ?_ _ ⟨(k + 1), rfl, (show ((.int .i64 ((((xs.take k).countP (fun x => decide (x < xs.getD i 0)) : Nat) : Int))) : Value) = _ by have q := take_cnt (fun x => decide (x < xs.getD i 0)) xs k (by omega); simp only [b36, b50, if_true, if_false, Bool.false_eq_true] at q; first | (rw [q]; rfl) | (rw [q]; go_num)), (show ((.int .i64 ((((xs.take k).countP (fun x => decide (x = xs.getD i 0)) : Nat) : Int) + 1)) : Value) = _ by have q := take_cnt (fun x => decide (x = xs.getD i 0)) xs k (by omega); simp only [b36, b50, if_true, if_false, Bool.false_eq_true] at q; first | (rw [q]; rfl) | (rw [q]; go_num)), by omega, H49, rfl⟩ (by omega)
    exact zs
   have g53 := of_decide_eq_false b50
   refine zwkf _ b50 ?_
   refine w_skip <| blk_normal <| ztn <| w_lit <| wv 44 (.int .i64 ((k : Int) + 1)) ?_ (hr := e_int (z := (k : Int) + 1) (by kernel_rfl) (IntWalk.i64_in _ (by have q1 := cnt_take_le (fun x => decide (x < xs.getD i 0)) xs k; have q2 := cnt_take_le (fun x => decide (x = xs.getD i 0)) xs k; omega)))
   refine wv 19 (.int .i64 ((k : Int) + 1)) <| w_nil <| round_back ?_ _ ⟨(k + 1), rfl, (show ((.int .i64 ((((xs.take k).countP (fun x => decide (x < xs.getD i 0)) : Nat) : Int))) : Value) = _ by have q := take_cnt (fun x => decide (x < xs.getD i 0)) xs k (by omega); simp only [b36, b50, if_true, if_false, Bool.false_eq_true] at q; first | (rw [q]; rfl) | (rw [q]; go_num)), (show ((.int .i64 ((((xs.take k).countP (fun x => decide (x = xs.getD i 0)) : Nat) : Int))) : Value) = _ by have q := take_cnt (fun x => decide (x = xs.getD i 0)) xs k (by omega); simp only [b36, b50, if_true, if_false, Bool.false_eq_true] at q; first | (rw [q]; rfl) | (rw [q]; go_num)), by omega, H49, rfl⟩ (by omega)
   exact zs
  have g55 := of_decide_eq_false b21
  refine zwkf _ b21 ?_
  refine zxb <| ztn <| w_seq ?_
  have e5 : xs.take k = xs := List.take_of_length_le (by omega)
  have c1 := cLt_le xs (xs.getD i 0)
  have c2 := cEq_le xs (xs.getD i 0)
  refine wp_know 5 (.int .i64 (((cLt xs (xs.getD i 0) : Nat) : Int))) (show ((.int .i64 ((((xs.take k).countP (fun x => decide (x < xs.getD i 0)) : Nat) : Int))) : Value) = _ by rw [e5]; rfl) ?_
  refine wp_know 6 (.int .i64 (((cEq xs (xs.getD i 0) : Nat) : Int))) (show ((.int .i64 ((((xs.take k).countP (fun x => decide (x = xs.getD i 0)) : Nat) : Int))) : Value) = _ by rw [e5]; rfl) ?_
  refine w_lit <| wv 45 (.int .i64 (((cLt xs (xs.getD i 0) : Nat) : Int))) <| wv 46 (.slice va xs.length vc) <| wv 47 (.int .i64 ((xs.length : Int))) <| wv 48 (.int .i64 ((xs.length : Int) / 2)) ?_ (hr := e_quo (by kernel_rfl) (by omega) (by omega) (IntWalk.i64_in _ (by omega)))
  refine wv 49 (.bool (decide (((cLt xs (xs.getD i 0) : Nat) : Int) ≤ ((xs.length : Int) / 2)))) <| wv 50 (.bool (decide (((cLt xs (xs.getD i 0) : Nat) : Int) ≤ ((xs.length : Int) / 2)))) ?_
  refine (bsplit (decide (((cLt xs (xs.getD i 0) : Nat) : Int) ≤ ((xs.length : Int) / 2)))).elim (fun b57 => ?_) (fun b57 => ?_)
  ·have g58 := of_decide_eq_true b57
   refine wl_know 50 (.bool true) (congrArg Value.bool b57) ?_
   refine wy 5 50 true 51 (.slice va xs.length vc) <| wy 5 50 true 52 (.int .i64 ((xs.length : Int))) <| wy 5 50 true 53 (.int .i64 ((xs.length : Int) / 2)) ?_ (hr := e_quo (by kernel_rfl) (by omega) (by omega) (IntWalk.i64_in _ (by omega)))
   refine wy 5 50 true 54 (.int .i64 (((cLt xs (xs.getD i 0) : Nat) : Int))) <| wy 5 50 true 55 (.int .i64 (((cEq xs (xs.getD i 0) : Nat) : Int))) <| wy 5 50 true 56 (.int .i64 (((cLt xs (xs.getD i 0) : Nat) : Int) + ((cEq xs (xs.getD i 0) : Nat) : Int))) ?_ (hr := e_int (z := ((cLt xs (xs.getD i 0) : Nat) : Int) + ((cEq xs (xs.getD i 0) : Nat) : Int)) (by kernel_rfl) (IntWalk.i64_in _ (by omega)))
   refine wy 5 50 true 57 (.bool (decide (((xs.length : Int) / 2) < (((cLt xs (xs.getD i 0) : Nat) : Int) + ((cEq xs (xs.getD i 0) : Nat) : Int))))) <| wv 58 (.bool (decide (((xs.length : Int) / 2) < (((cLt xs (xs.getD i 0) : Nat) : Int) + ((cEq xs (xs.getD i 0) : Nat) : Int))))) <| znt ?_
   refine (bsplit (decide (((xs.length : Int) / 2) < (((cLt xs (xs.getD i 0) : Nat) : Int) + ((cEq xs (xs.getD i 0) : Nat) : Int))))).elim (fun b60 => ?_) (fun b60 => ?_)
   ·have g61 := of_decide_eq_true b60
    refine zwkt _ b60 ?_
    refine zsl <| wv 59 (.slice va xs.length vc) <| wv 60 (.int .i64 ((i : Int))) ?_
    obtain ⟨g63, o64, c65, e66, R67⟩ := SliceOf.atD hxs 0 (show i < xs.length by omega)
    refine wv 61 (.pointer (some ⟨g63, o64 + ((i : Int)).toNat * 1, none⟩)) ?_ (hr := e_indexAddrW (E := 25) (by kernel_rfl) (by kernel_rfl) (Nat.le_of_ble_eq_true rfl) rfl e66 rfl (by omega) (by omega))
    refine zw1 62 (.int .u64 ((xs.getD i 0))) (H16.cellR 0 rfl (cells_at R67 0 (by kernel_rfl) (show o64 + ((i : Int)).toNat * 1 = o64 + i * 1 + 0 by omega)) (fun h => h)) <| wv 2 (.int .u64 ((xs.getD i 0))) <| wv 3 (.bool true) <| znt <| w_ret <| blk_ret <| then_ret <| back_ret <| blk_ret <| then_ret ?_
    refine ze2 (.int .u64 ((xs.getD i 0))) (.bool true) ?_
    simp only [decide_eq_true_eq, Bool.and_eq_true] at *
    exact ⟨by rw [medV_at (j := i) (by omega) (by omega) (by omega) (by omega), decide_eq_true (show xs.length % 2 = 1 by omega)], H16.upd 0 rfl [] (fun _ h => h.elim)⟩
   have g68 := of_decide_eq_false b60
   refine zwkf _ b60 ?_
   refine w_skip <| blk_normal <| ztn <| w_lit <| zwi 63 ((i : Int) + 1) <| wv 14 (.int .i64 ((i : Int) + 1)) <| w_nil <| round_back ?_ _ ⟨(i + 1), rfl, by omega, notMed_step hno (by unfold NotMed; rintro ⟨q1, q2⟩; simp only [decide_eq_true_eq, decide_eq_false_iff_not, Bool.and_eq_false_iff] at *; omega), H16, rfl⟩ (by omega)
   exact zs
  have g70 := of_decide_eq_false b57
  refine wl_know 50 (.bool false) (congrArg Value.bool b57) ?_
  iterate 7 refine wn 5 50 true ?_
  refine wv 58 (.bool false) <| znt <| wp_iff rfl ?_
  refine w_skip <| blk_normal <| ztn <| w_lit <| zwi 63 ((i : Int) + 1) <| wv 14 (.int .i64 ((i : Int) + 1)) <| w_nil <| round_back ?_ _ ⟨(i + 1), rfl, by omega, notMed_step hno (by unfold NotMed; rintro ⟨q1, q2⟩; simp only [decide_eq_true_eq, decide_eq_false_iff_not, Bool.and_eq_false_iff] at *; omega), H16, rfl⟩ (by omega)
  exact zs
 have g72 := of_decide_eq_false b11
 refine zwkf _ b11 ?_
 refine zxb <| ztn <| zsl <| wv 2 (.int .u64 (0)) <| wv 3 (.bool false) <| znt <| w_ret <| ze2 (.int .u64 (0)) (.bool false) ?_
 exact (medV_no (xs := xs) (by omega) (fun j hj => hno j (by omega))).elim
theorem medR_any (w : World) (v : Value) (xs : List Int) (hxs : ListAt encU 1 w v xs) (hx : xs.length ≤ 12) : Calls Tryz.prog 65 #[v] w fun e w' => e = .returned (.tuple #[.int .u64 (medV xs), .bool (decide (xs.length % 2 = 1))]) ∧ Upd [] w w' := by
 obtain ⟨a, c, rfl⟩ := hxs.len
 exact medR_any0 w a c xs hxs hx
abbrev kTimeE_0 (p0 : CommitD) (p1 : Option Addr) (p2 : Nat) (p3 : Nat) : List Value := ([(.int .i64 p0.cl), (.int .i64 p0.seq)] : List Value) ++ hc p0.h ++ ([(.int .i64 p0.len), (.int .i64 p0.sb), (.int .i64 p0.sm), (.slice p1 p2 p3)] : List Value)
abbrev kTimeE_1 (p0 : Option Addr) (p1 : List Int) (p2 : Nat) : Ck := rowC 25 1 (.slice p0 p1.length p2) p1.length (p1.flatMap encU)
theorem rTime_any (w : World) (x : CommitD) (sa : Option Addr) (sc : Nat) (S : List StampD) (hS : ListAt encSt 38 w (.slice sa S.length sc) S) (hlS : S.length ≤ 12) :
  Calls Tryz.prog 17 #[(.agg ⟨(([(.int .i64 (x.cl)), (.int .i64 (x.seq))] : List Value) ++ hc x.h ++ ([(.int .i64 (x.len)), (.int .i64 (x.sb)), (.int .i64 (x.sm)), (.slice sa S.length sc)] : List Value))⟩)] w fun e w' => e = .returned (.int .u64 (timeD S)) ∧ Upd [] w w' := by
 have H := Sat.start0 w
 refine calls_fr Tryz.func17 rfl 29 rfl (Nat.le_of_ble_eq_true rfl) ?_
 refine zsl <| zwd fun Kq kq => zdb (kTimeE_0 x sa S.length sc) H fun b2 w3 H4 => ?_
 refine kq _ _ <| wv 2 (.int .u64 (0)) <| znsl <| wv 3 (.slice none 0 0) <| znt <| w_seq <| zsl <| wv 7 (pt b2 37) <| zw1 8 (.slice sa S.length sc) (H4.cell 1 rfl (by kernel_rfl)) <| wv 9 (.int .i64 ((S.length : Int))) ?_
 refine wv 10 (.int .i64 (0)) <| znt <| w_block ?_
 have H5 := H4.addNil 25 1
 refine wp_round ([3, 4] ++ List.range' 10 13) (fun F_ W_ m_ => ∃ (i : Nat) (a : Option Addr) (c : Nat) (D : List Int), F_ 10 = (.int .i64 ((i : Int))) ∧ F_ 3 = (.slice a D.length c) ∧ (i ≤ S.length) ∧ (D = timesD (S.take i)) ∧ Sat w [restC w (fun _ => False), cellC b2 76 (kTimeE_0 x sa S.length sc), (kTimeE_1 a D c)] W_ ∧ m_ = S.length - i) _ ⟨0, none, 0, [], (show ((.int .i64 (0)) : Value) = _ by first | rfl | go_num), (by first | rfl | go_num), (Nat.zero_le _), rfl, H5, rfl⟩ ?_
 rintro g6 w7 _ ⟨i, a, c, D, v9, v10, hi, hD, H8, rfl⟩
 refine wp_know 10 _ v9 ?_
 refine wp_know 3 _ v10 ?_
 have hDl : D.length = i := by rw [hD, times_len, List.length_take]; omega
 refine zsl <| wv 11 (.bool (decide ((i : Int) < (S.length : Int)))) <| znt <| w_seq ?_
 refine (bsplit (decide ((i : Int) < (S.length : Int)))).elim (fun b12 => ?_) (fun b12 => ?_)
 ·have g13 := of_decide_eq_true b12
  refine zwkt _ b12 ?_
  refine w_skip <| ztn <| w_seq <| w_block <| zsl <| wv 12 (.int .i64 ((i : Int))) <| wv 4 (.int .i64 ((i : Int))) <| znt <| w_lit <| wv 13 (.slice a D.length c) ?_
  refine wv 14 (pt b2 37) <| zw1 15 (.slice sa S.length sc) (H8.cell 1 rfl (by kernel_rfl)) <| wv 16 (.int .i64 ((i : Int))) ?_
  obtain ⟨g15, o16, c17, e18, R19⟩ := SliceOf.atD hS stamp0 (show i < S.length by omega)
  refine wv 17 (.pointer (some ⟨g15, o16 + ((i : Int)).toNat * 38, none⟩)) ?_ (hr := e_indexAddrW (E := 149) (by kernel_rfl) (by kernel_rfl) (Nat.le_of_ble_eq_true rfl) rfl e18 rfl (by omega) (by omega))
  refine wv 18 (.pointer (some ⟨g15, o16 + ((i : Int)).toNat * 38 + 35, none⟩)) <| zw1 19 (.int .u64 ((S.getD i stamp0).t)) (H8.cellR 0 rfl (cells_at R19 35 (by kernel_rfl) (show o16 + ((i : Int)).toNat * 38 + 35 = o16 + i * 38 + 35 by omega)) (fun h => h)) <| zwd fun Kq kq => zdbs 25 1 8 (.int .u64 (0)) [(0, (.int .u64 ((S.getD i stamp0).t)))] ([(.int .u64 ((S.getD i stamp0).t))] : List Value) H8 ?_
  intro b21 w22 (H23 : Sat w [restC w (fun _ => False), cellC b2 76 (kTimeE_0 x sa S.length sc), (kTimeE_1 a D c), rowC 25 1 (.slice (some ⟨b21, 0, none⟩) 1 1) 1 ([(.int .u64 ((S.getD i stamp0).t))] : List Value)] w22)
  have H24 : Sat w [restC w (fun _ => False), cellC b2 76 (kTimeE_0 x sa S.length sc), (kTimeE_1 a D c), rowC 25 1 (.slice (some ⟨b21, 0, none⟩) 1 1) 1 ([(S.getD i stamp0).t].flatMap encU)] w22 := H23.cast (by rw [show (([(.int .u64 ((S.getD i stamp0).t))] : List Value) : List Value) = [(S.getD i stamp0).t].flatMap encU from rfl])
  refine kq _ _ <| zwd fun Kq kq => d_append (T := 109) (e := 25) (size := 1) (bytes := 8) rfl H24 (by kernel_rfl) 2 3 rfl rfl rfl rfl (flat_one encU encU_one [(S.getD i stamp0).t]) (by omega) (by omega) fun v26 w27 H28 => ?_
  have H31 : Sat w [restC w (fun _ => False), cellC b2 76 (kTimeE_0 x sa S.length sc), rowC 25 1 v26 ((D ++ [(S.getD i stamp0).t]).length) ((D ++ [(S.getD i stamp0).t]).flatMap encU), rowC 25 1 (.slice (some ⟨b21, 0, none⟩) 1 1) 1 ([(S.getD i stamp0).t].flatMap encU)] w27 := H28.cast (by simp only [List.length_append, List.flatMap_append] <;> rfl)
  obtain ⟨a29, c30, rfl⟩ := ownsRow_shape (H31.at 2 rfl)
  refine kq _ _ <| wv 3 (.slice a29 ((D ++ [(S.getD i stamp0).t]).length) c30) <| w_nil <| blk_normal <| ztn <| w_lit <| zwi 22 ((i : Int) + 1) <| wv 10 (.int .i64 ((i : Int) + 1)) <| w_nil ?_
  have hDl : D.length = i := by rw [hD, times_len, List.length_take]; omega
  have H32 : Sat w [restC w (fun _ => False), cellC b2 76 (kTimeE_0 x sa S.length sc), (kTimeE_1 a29 (D ++ [(S.getD i stamp0).t]) c30)] w27 := H31.pick [0, 1, 2] (by decide)
  refine round_back ?_ _ ⟨(i + 1), a29, c30, (D ++ [(S.getD i stamp0).t]), rfl, (show ((.slice a29 ((D ++ [(S.getD i stamp0).t]).length) c30) : Value) = _ by first | rfl | go_num), (by omega), (by rw [hD, times_step S (by omega)]), H32, rfl⟩ (by omega)
  exact zs
 have g33 := of_decide_eq_false b12
 refine zwkf _ b12 ?_
 refine zxb <| ztn <| zsl <| wv 24 (.slice a D.length c) <| zwd fun Kq kq => zdq 25 (medR_any w7 (.slice a D.length c) D (ListAt.row (enc := encU) (sz := 1) encU_len (by decide) (H8.at 2 rfl)) (by omega)) H8 fun w36 H37 => ?_
 refine kq _ _ <| wv 23 (.tuple #[(.int .u64 (medV D)), (.bool (decide (D.length % 2 = 1)))]) <| wv 26 (.int .u64 (medV D)) <| wv 27 (.bool (decide (D.length % 2 = 1))) <| wv 5 (.int .u64 (medV D)) <| wv 6 (.bool (decide (D.length % 2 = 1))) <| znsl <| wv 28 (.int .u64 (medV D)) <| wv 2 (.int .u64 (medV D)) <| znt ?_
 refine w_ret <| ze1 (.int .u64 (medV D)) ?_
 have hT : D = timesD S := by rw [hD, List.take_of_length_le (by omega)]
 exact ⟨by unfold timeD; rw [← hT], H37.upd 0 rfl [] (fun _ h => h.elim)⟩
def findT (L : List CeR) (a b : Int) : Option CeR := L.find? fun c => decide (c.x.cl = a ∧ c.x.seq = b)
section
variable {L : List CeR} {a b : Int} {i : Nat} {x : CeR} {B : List Ck} {w : World}
theorem find_hit (hno : ∀ j, j < i → ∀ y, L[j]? = some y → ¬ (y.x.cl = a ∧ y.x.seq = b)) (hx : L[i]? = some x) (h : decide (x.x.cl = a ∧ x.x.seq = b) = true) : findT L a b = some x := by
 unfold findT
 rw [List.find?_eq_some_iff_getElem]
 obtain ⟨hi, e⟩ := List.getElem?_eq_some_iff.1 hx
 refine ⟨h, i, hi, e, fun j hj => ?_⟩
 have := hno j hj _ (List.getElem?_eq_getElem (by omega))
 rw [show (decide (L[j].x.cl = a ∧ L[j].x.seq = b)) = false from decide_eq_false this]; rfl
theorem find_none (hno : ∀ j, j < i → ∀ y, L[j]? = some y → ¬ (y.x.cl = a ∧ y.x.seq = b)) (hi : L.length ≤ i) : findT L a b = none := by
 unfold findT
 rw [List.find?_eq_none]
 intro y hy
 obtain ⟨j, hj, e⟩ := List.mem_iff_getElem.1 hy
 have := hno j (by omega) y (by rw [List.getElem?_eq_getElem hj, e])
 simpa using this
theorem find_step (hno : ∀ j, j < i → ∀ y, L[j]? = some y → ¬ (y.x.cl = a ∧ y.x.seq = b)) (hx : L[i]? = some x) (h : decide (x.x.cl = a ∧ x.x.seq = b) = false) : ∀ j, j < i + 1 → ∀ y, L[j]? = some y → ¬ (y.x.cl = a ∧ y.x.seq = b) := fun j hj y hy => by
 rcases Nat.lt_or_ge j i with q | q
 ·exact hno j q y hy
 ·have e : j = i := by omega
  subst e
  rw [hx] at hy
  obtain rfl := Option.some.inj hy
  exact of_decide_eq_false h
structure CeT (B : List Ck) (c : CeR) : Prop where
 x : CoB c.x
 S : ∀ i, i < c.S.length → StB (c.S.getD i stamp0)
 len : c.S.length ≤ 12
 bag : stC c ∈ B
theorem CeT.cb (h : CeT B x) (hb : (bagC B).ok w) : CeB w x := ⟨h.x, bag_st hb h.bag, h.S, Nat.le_trans h.len (by decide)⟩
noncomputable def spanT (L : List CeR) (last tm : Int) : List CeR := L.filter fun c => decide (timeD c.S > last) && decide (timeD c.S ≤ tm)
variable {last tm : Int}
theorem span_yes {D : List CeR} (hD : D = spanT (L.take i) last tm) (hx : L[i]? = some x) (h1 : decide (timeD x.S > last) = true) (h2 : decide (timeD x.S ≤ tm) = true) : D ++ [x] = spanT (L.take (i + 1)) last tm := by
 unfold spanT at hD ⊢
 rw [List.take_add_one, hx, Option.toList_some, List.filter_append, ← hD, List.filter_cons, h1, h2]; rfl
theorem span_no1 {D : List CeR} (hD : D = spanT (L.take i) last tm) (hx : L[i]? = some x) (h1 : decide (timeD x.S > last) = false) : D = spanT (L.take (i + 1)) last tm := by
 unfold spanT at hD ⊢
 rw [List.take_add_one, hx, Option.toList_some, List.filter_append, ← hD, List.filter_cons, h1]; simp
theorem span_no2 {D : List CeR} (hD : D = spanT (L.take i) last tm) (hx : L[i]? = some x) (h2 : decide (timeD x.S ≤ tm) = false) : D = spanT (L.take (i + 1)) last tm := by
 unfold spanT at hD ⊢
 rw [List.take_add_one, hx, Option.toList_some, List.filter_append, ← hD, List.filter_cons, h2]; simp
theorem span_sub {c : CeR} (h : c ∈ spanT L last tm) : c ∈ L := (List.mem_filter.1 h).1
theorem span_len : (spanT L last tm).length ≤ L.length := List.length_filter_le ..
theorem find_getD (h : (findT L a b).isSome = true) : (findT L a b).getD ce0 ∈ L := by
 obtain ⟨v, hv⟩ := Option.isSome_iff_exists.1 h
 rw [hv]
 exact List.mem_of_find?_eq_some (show L.find? (fun c => decide (c.x.cl = a ∧ c.x.seq = b)) = some v from hv)
noncomputable def takeK (F Cn floor : Int) (Lb : List Signed) (L : List CeR) (x : CeR) : Int :=
 if rightX F Cn Lb x.x x.S = true then
  if (findT L x.x.cl x.x.seq).isSome = true then
   if ((findT L x.x.cl x.x.seq).getD ce0).x.h = x.x.h ∧ timeD ((findT L x.x.cl x.x.seq).getD ce0).S = timeD x.S then 0 else 5
  else if timeD x.S ≤ floor then 4 else if 64 ≤ L.length then 7 else 0
 else 3
noncomputable def ackT (rp : Int) (x : CeR) : StampD := ⟨rp, x.x.cl, x.x.seq, x.x.h, timeD x.S, 0, 0⟩
noncomputable def ackY (rp : Int) (x : CeR) : Signed := ⟨rp, ackB (ackT rp x)⟩
noncomputable def ackS (rp : Int) (Lb : List Signed) (x : CeR) : StampD := ⟨rp, x.x.cl, x.x.seq, x.x.h, timeD x.S, rp, markOf (signL Lb (ackY rp x)) (ackY rp x)⟩
def ltNm (x y : CeR) : Bool := decide (x.x.cl < y.x.cl) || (decide (x.x.cl = y.x.cl) && decide (x.x.seq < y.x.seq))
structure PutAt (L : List CeR) (x : CeR) (k : Nat) : Prop where
 le : k ≤ L.length
 up : ∀ j, k ≤ j → ∀ y, L[j]? = some y → ltNm x y = true
 stop : k = 0 ∨ ∃ y, L[k - 1]? = some y ∧ ltNm x y = false
variable {F Cn floor rp : Int} {Lb : List Signed} {y : CeR} {k : Nat}
theorem tk3 (h : rightX F Cn Lb x.x x.S = false) : takeK F Cn floor Lb L x = 3 := by unfold takeK; rw [if_neg (by rw [h]; decide)]
theorem tk5 (h : rightX F Cn Lb x.x x.S = true) (h1 : (findT L x.x.cl x.x.seq).isSome = true) (h2 : ¬ (((findT L x.x.cl x.x.seq).getD ce0).x.h = x.x.h ∧ timeD ((findT L x.x.cl x.x.seq).getD ce0).S = timeD x.S)) : takeK F Cn floor Lb L x = 5 := by unfold takeK; rw [if_pos h, if_pos h1, if_neg h2]
theorem tk0 (h : rightX F Cn Lb x.x x.S = true) (h1 : (findT L x.x.cl x.x.seq).isSome = true) (h2 : ((findT L x.x.cl x.x.seq).getD ce0).x.h = x.x.h) (h3 : timeD ((findT L x.x.cl x.x.seq).getD ce0).S = timeD x.S) : takeK F Cn floor Lb L x = 0 := by unfold takeK; rw [if_pos h, if_pos h1, if_pos ⟨h2, h3⟩]
theorem tk4 (h : rightX F Cn Lb x.x x.S = true) (h1 : (findT L x.x.cl x.x.seq).isSome = false) (h2 : timeD x.S ≤ floor) : takeK F Cn floor Lb L x = 4 := by unfold takeK; rw [if_pos h, if_neg (by rw [h1]; decide), if_pos h2]
theorem tk7 (h : rightX F Cn Lb x.x x.S = true) (h1 : (findT L x.x.cl x.x.seq).isSome = false) (h2 : ¬ timeD x.S ≤ floor) (h3 : 64 ≤ L.length) : takeK F Cn floor Lb L x = 7 := by unfold takeK; rw [if_pos h, if_neg (by rw [h1]; decide), if_neg h2, if_pos h3]
theorem tkn (h : rightX F Cn Lb x.x x.S = true) (h1 : (findT L x.x.cl x.x.seq).isSome = false) (h2 : ¬ timeD x.S ≤ floor) (h3 : ¬ 64 ≤ L.length) : takeK F Cn floor Lb L x = 0 := by unfold takeK; rw [if_pos h, if_neg (by rw [h1]; decide), if_neg h2, if_neg h3]
theorem up_start : ∀ j, L.length ≤ j → ∀ y, L[j]? = some y → ltNm x y = true := fun j hj y hy => by
 have := (List.getElem?_eq_some_iff.1 hy).1; omega
theorem up_step (h : ∀ j, k ≤ j → ∀ y, L[j]? = some y → ltNm x y = true) (hy : L[k - 1]? = some y) (hl : ltNm x y = true) : ∀ j, k - 1 ≤ j → ∀ y, L[j]? = some y → ltNm x y = true := fun j hj z hz => by
 by_cases e : j = k - 1
 ·subst e
  rw [hy] at hz
  obtain rfl := Option.some.inj hz
  exact hl
 ·exact h j (by omega) z hz
theorem time_lim {c : CeR} (h : CeT B c) : 0 ≤ timeD c.S ∧ timeD c.S < 18446744073709551616 := by
 unfold timeD
 rcases Nat.mod_two_eq_zero_or_one (timesD c.S).length with e | e
 ·rw [medV_even e]; decide
 ·have hm := (medV_p e).mem
  unfold timesD at hm
  obtain ⟨s, hs, he⟩ := List.mem_map.1 hm
  obtain ⟨i, hi, hsi⟩ := List.mem_iff_getElem.1 hs
  have q := (h.S i hi).1
  rw [List.getD_eq_getElem?_getD, List.getElem?_eq_getElem hi, Option.getD_some, hsi] at q
  unfold timesD
  rw [← he]; exact ⟨q.2.2.2.1, q.2.2.2.2⟩
end
end Go.Proofs.YtenihpghfdcpkaaGreat
