/- WHAT IS PROVED: contracts and plain laws of NumsS. Conditions: stated with each. -/
import Derived.Test.YtoaifondpohniaaGreatPR04
import Derived.Test.YtoaifondpohniaaGreatPR05
import Derived.Test.YtoaifondpohniaaGreatPR06
import Derived.Test.YtoaifondpohniaaGreatPR11
import Derived.Test.YtoaifondpohniaaGreatPR12
set_option maxHeartbeats 4000000
set_option maxRecDepth 100000
namespace Go.Proofs.YtoaifondpohniaaGreat
open Go.RowKit
theorem Z7q {w w' : World} {b T : Nat} {v : Value} (h : (Z6 w fun _ => False).ok w') (hb : (Z0 b T [v]).ok w) : (Z0 b T [v]).ok w' := (h b (Z0D hb) (fun h => h)).trans hb
theorem Z7M (w : World) (va : Option Addr) (vn vc : Nat) :
  Calls Tryz.prog 100 #[(.slice va vn vc)] w fun e w' => ∃ b, e = .returned (.func (.func 122) #[] #[.pointer (some ⟨b, 0, none⟩)]) ∧ (Z0 b 48 [(.slice va vn vc)]).ok w' ∧ Upd [] w w' ∧ w.heap.size ≤ b := by
 have H := Sat.start0 w
 refine Zp Tryz.func100 rfl 4 rfl (Nat.le_of_ble_eq_true rfl) ?_
 apply zsl
 refine zwd fun Kq kq => ?_
 refine zdb ([(.slice va vn vc)] : List Value) H ?_
 intro b2 w3 H4
 refine kq _ _ ?_
 clear kq Kq
 refine wv 2 (Go.Value.nilFunc) ?_
 apply Z1y
 refine wv 3 (.func (.func 122) #[] #[(pt b2 0)]) ?_
 refine wv 2 (.func (.func 122) #[] #[(pt b2 0)]) ?_
 apply znt
 apply ZA
 refine ze1 (.func (.func 122) #[] #[(pt b2 0)]) ?_
 exact ⟨b2, rfl, H4.at 1 rfl, H4.upd 0 rfl [] (fun _ h => h.elim), H4.fresh 0 rfl (fun _ h => h) 1 rfl rfl b2 rfl⟩
theorem Z8z (w : World) (v : Value) (hv : ∃ a n c, v = .slice a n c) : Calls Tryz.prog 100 #[v] w fun e w' => ∃ b, e = .returned (.func (.func 122) #[] #[.pointer (some ⟨b, 0, none⟩)]) ∧ (Z0 b 48 [v]).ok w' ∧ Upd [] w w' ∧ w.heap.size ≤ b := by
 obtain ⟨a, n, c, rfl⟩ := hv
 exact Z7M w a n c
theorem Z7d (w : World) (b : Nat) (v : Value) (xs : List Int) (hb : (Z0 b 48 [v]).ok w) (hv : ListAt Z3s 1 w v xs) (hx : xs.length ≤ 12) :
  Calls Tryz.prog 120 #[(.func (.func 122) #[] #[(.pointer (some ⟨b, 0, none⟩))])] w fun e w' => ∃ u, e = .returned u ∧ (ZH 27 1 u xs.length (xs.flatMap Z3s)).ok w' ∧ Upd [] w w' ∧ ∀ b, u.ownBlock = some b → w.heap.size ≤ b := by
 have H := Sat.start0 w
 refine Zp Tryz.func120 rfl 5 rfl (Nat.le_of_ble_eq_true rfl) ?_
 apply zsl
 refine wv 2 (.slice none 0 0) ?_
 apply Z1y
 refine wv 3 (.func (.func 122) #[] #[(pt b 0)]) ?_
 refine zwd fun Kq kq => ?_
 refine zdc 4 (Z5Z w b v xs ((Z7q (H.at 0 rfl) hb)) (ListAt.now H 0 rfl hv) (by omega)) ?_
 rintro _ w2 ⟨u3, rfl, k4, p5, q6⟩
 have H7 := H.addU p5 k4 q6
 obtain ⟨a8, c9, rfl⟩ := Z1 (H7.at 1 rfl)
 refine ⟨_, rfl, ?_⟩
 refine kq _ _ ?_
 clear kq Kq
 refine wv 2 (.slice a8 xs.length c9) ?_
 apply znt
 apply ZA
 refine ze1 (.slice a8 xs.length c9) ?_
 exact ⟨_, rfl, H7.at 1 rfl, H7.upd 0 rfl [] (fun _ h => h.elim), H7.fresh 0 rfl (fun _ h => h) 1 rfl rfl⟩
theorem Z8w (w : World) (b : Nat) (v : Value) (xs : List Int) (hb : (Z0 b 48 [v]).ok w) (hv : ListAt Z3s 1 w v xs) (hx : xs.length ≤ 12) (h0 : 0 < xs.length) :
  Calls Tryz.prog 99 #[(.func (.func 122) #[] #[(.pointer (some ⟨b, 0, none⟩))])] w fun e w' => ∃ u B, e = .returned u ∧ (ZH 27 1 u B.length (B.flatMap Z3s)).ok w' ∧ Upd [] w w' ∧ (∀ k, u.ownBlock = some k → w.heap.size ≤ k) ∧ B.Perm xs ∧ Srt ltU 0 B.length B := by
 have H := Sat.start0 w
 refine Zp Tryz.func99 rfl 9 rfl (Nat.le_of_ble_eq_true rfl) ?_
 apply zsl
 refine wv 2 (.slice none 0 0) ?_
 apply Z1y
 refine wv 4 (.func (.func 122) #[] #[(pt b 0)]) ?_
 refine zwd fun Kq kq => ?_
 refine zdc 5 (Z7d w b v xs (Z7q (H.at 0 rfl) hb) (ListAt.now H 0 rfl hv) (by omega)) ?_
 rintro _ w2 ⟨u3, rfl, k4, p5, q6⟩
 have H7 := H.addU p5 k4 q6
 obtain ⟨a8, c9, rfl⟩ := Z1 (H7.at 1 rfl)
 refine ⟨_, rfl, ?_⟩
 refine kq _ _ ?_
 clear kq Kq
 refine wv 3 (.slice a8 xs.length c9) ?_
 apply znt
 apply Zt
 obtain ⟨g10, c11, e12⟩ := Z1n (H7.at 1 rfl) (by omega)
 obtain rfl : a8 = some ⟨g10, 0, none⟩ := by cases e12; rfl
 have H13 := H7
 apply ZU
 refine wv 6 (.slice (some ⟨g10, 0, none⟩) xs.length c9) ?_
 refine zwd fun Kq kq => ?_
 refine zdc 7 (Z9w w2 g10 xs.length c9 xs (H13.at 1 rfl) (by omega)) ?_
 rintro _ w16 ⟨B15, rfl, l17, p18, s19, T20⟩
 have H21 := (Sat.turn1 (L' := [Z3k g10 xs.length c9 B15]) (R := [Z6 w (fun _ => False)]) H13 1 [0] (by decide) rfl rfl T20).pk [1, 0]
 refine ⟨_, rfl, ?_⟩
 refine kq _ _ ?_
 clear kq Kq
 apply Z1y
 refine wv 8 (.slice (some ⟨g10, 0, none⟩) xs.length c9) ?_
 refine wv 2 (.slice (some ⟨g10, 0, none⟩) xs.length c9) ?_
 apply znt
 apply ZA
 refine ze1 (.slice (some ⟨g10, 0, none⟩) xs.length c9) ?_
 exact ⟨_, B15, rfl, (by have q := H21.at 1 rfl; have e : (xs.length : Nat) = B15.length := l17.symm; unfold Z3k at q; rw [e] at q ⊢; exact q), H21.upd 0 rfl [] (fun _ h => h.elim), H21.fresh 0 rfl (fun _ h => h) 1 rfl rfl, p18, s19⟩
theorem Zav (w : World) (va : Option Addr) (vc : Nat) (xs : List Int) (hxs : ListAt Z3s 1 w (.slice va xs.length vc) xs) (hx : xs.length ≤ 12) :
  Calls Tryz.prog 63 #[(.slice va xs.length vc)] w fun e w' => e = .returned (.tuple #[.int .u64 (Z4R xs), .bool (decide (xs.length % 2 = 1))]) ∧ Upd [] w w' := by
 have H := Sat.start0 w
 refine Zp Tryz.func63 rfl 18 rfl (Nat.le_of_ble_eq_true rfl) ?_
 apply zsl
 refine wv 2 (.int .u64 (0)) ?_
 refine wv 3 (.bool false) ?_
 apply znt
 apply Zt
 apply zsl
 refine wv 5 (.slice va xs.length vc) ?_
 refine wv 6 (.int .i64 ((xs.length : Int))) ?_
 refine wv 7 (.int .i64 ((xs.length : Int) % 2)) ?_ (hr := Z9W (by kernel_rfl) (by omega) (by omega))
 refine wv 8 (.bool (decide (((xs.length : Int) % 2) = 0))) ?_
 apply znt
 refine (Zl (decide (((xs.length : Int) % 2) = 0))).elim (fun b1 => ?_) (fun b1 => ?_)
 ·have g2 := of_decide_eq_true b1
  refine Z1o _ b1 ?_
  apply zsl
  refine wv 2 (.int .u64 (0)) ?_
  refine wv 3 (.bool false) ?_
  apply znt
  apply ZA
  apply Zr
  refine ze2 (.int .u64 (0)) (.bool false) ?_
  exact ⟨by rw [Z3u (by omega), decide_eq_false (show ¬ xs.length % 2 = 1 by omega)], H.upd 0 rfl [] (fun _ h => h.elim)⟩
 have g4 := of_decide_eq_false b1
 refine Z18 _ b1 ?_
 apply ZL
 apply ztn
 apply zsl
 refine wv 9 (.slice va xs.length vc) ?_
 refine zwd fun Kq kq => ?_
 refine zdc 10 (Z8z w (.slice va xs.length vc) ⟨_, _, _, rfl⟩) ?_
 rintro _ w8 ⟨b7, rfl, k9, p10, q11⟩
 have H12 := H.addU p10 k9 (fun _ h => h ▸ q11)
 refine ⟨_, rfl, ?_⟩
 refine kq _ _ ?_
 clear kq Kq
 refine zwd fun Kq kq => ?_
 refine zdc 11 (Z8w w8 b7 (.slice va xs.length vc) xs (H12.at 1 rfl) (ListAt.now H12 0 rfl hxs) (by omega) (by omega)) ?_
 rintro _ w14 ⟨u15, B19, rfl, k16, p17, q18, p20, s21⟩
 have H22 := H12.addU p17 k16 q18
 obtain ⟨a23, c24, rfl⟩ := Z1 (H22.at 2 rfl)
 refine ⟨_, rfl, ?_⟩
 have hlB19 : B19.length = xs.length := p20.length_eq
 refine kq _ _ ?_
 clear kq Kq
 refine wv 4 (.slice a23 B19.length c24) ?_
 apply Z1y
 refine wv 12 (.slice a23 B19.length c24) ?_
 refine wv 13 (.slice a23 B19.length c24) ?_
 refine wv 14 (.int .i64 ((B19.length : Int))) ?_
 refine wv 15 (.int .i64 ((B19.length : Int) / 2)) ?_ (hr := Zb6 (by kernel_rfl) (by omega) (by omega) (IntWalk.i64_in _ (by omega)))
 obtain ⟨g25, c26, e27⟩ := Z1n (H22.at 2 rfl) (by omega)
 obtain ⟨x28, h29⟩ := Z2j (show ((B19.length : Int) / 2).toNat < B19.length by omega)
 refine wv 16 (.pointer (some ⟨g25, 0 + ((B19.length : Int) / 2).toNat * 1, none⟩)) ?_ (hr := Z0t (E := 27) (by kernel_rfl) (by kernel_rfl) (Nat.le_of_ble_eq_true rfl) rfl e27 rfl (by omega) (by omega))
 refine zw1 17 (.int .u64 (x28)) (Z2f (H22.at 2 rfl) e27 Z27 h29 0 rfl (show 0 + ((B19.length : Int) / 2).toNat * 1 = ((B19.length : Int) / 2).toNat * 1 + 0 by omega) (by kernel_rfl)) ?_
 refine wv 2 (.int .u64 (x28)) ?_
 refine wv 3 (.bool true) ?_
 apply znt
 apply ZA
 refine ze2 (.int .u64 (x28)) (.bool true) ?_
 have hm : Z4R xs = x28 := (Zax p20).symm.trans (Z8m (by omega) (srt_le s21 (by rw [show B19.length / 2 = ((B19.length : Int) / 2).toNat by omega]; exact h29)))
 exact ⟨by rw [hm, decide_eq_true (show xs.length % 2 = 1 by omega)], H22.upd 0 rfl [] (fun _ h => h.elim)⟩
theorem Zbs (w : World) (v : Value) (xs : List Int) (hxs : ListAt Z3s 1 w v xs) (hx : xs.length ≤ 12) : Calls Tryz.prog 63 #[v] w fun e w' => e = .returned (.tuple #[.int .u64 (Z4R xs), .bool (decide (xs.length % 2 = 1))]) ∧ Upd [] w w' := by
 obtain ⟨a, c, rfl⟩ := hxs.len
 exact Zav w a c xs hxs hx
theorem Zaw (w : World) (va : Option Addr) (vc : Nat) (xs : List Int) (hxs : ListAt Z3s 1 w (.slice va xs.length vc) xs) (hx : xs.length ≤ 12) :
  Calls Tryz.prog 76 #[(.slice va xs.length vc)] w fun e w' => e = .returned (.tuple #[.int .u64 (Z4R xs), .bool (decide (xs.length % 2 = 1))]) ∧ Upd [] w w' := by
 have H := Sat.start0 w
 refine Zp Tryz.func76 rfl 64 rfl (Nat.le_of_ble_eq_true rfl) ?_
 apply zsl
 refine wv 2 (.int .u64 (0)) ?_
 refine wv 3 (.bool false) ?_
 apply znt
 apply Zt
 apply zsl
 refine wv 8 (.slice va xs.length vc) ?_
 refine wv 9 (.int .i64 ((xs.length : Int))) ?_
 refine wv 10 (.int .i64 ((xs.length : Int) % 2)) ?_ (hr := Z9W (by kernel_rfl) (by omega) (by omega))
 refine wv 11 (.bool (decide (((xs.length : Int) % 2) = 0))) ?_
 apply znt
 refine (Zl (decide (((xs.length : Int) % 2) = 0))).elim (fun b1 => ?_) (fun b1 => ?_)
 ·have g2 := of_decide_eq_true b1
  refine Z1o _ b1 ?_
  apply zsl
  refine wv 2 (.int .u64 (0)) ?_
  refine wv 3 (.bool false) ?_
  apply znt
  apply ZA
  apply Zr
  refine ze2 (.int .u64 (0)) (.bool false) ?_
  exact ⟨by rw [Z3u (by omega), decide_eq_false (show ¬ xs.length % 2 = 1 by omega)], H.upd 0 rfl [] (fun _ h => h.elim)⟩
 have g4 := of_decide_eq_false b1
 refine Z18 _ b1 ?_
 apply ZL
 apply ztn
 apply Zt
 apply zsl
 refine wv 12 (.slice va xs.length vc) ?_
 refine wv 13 (.int .i64 ((xs.length : Int))) ?_
 refine wv 14 (.int .i64 (0)) ?_
 apply znt
 apply ZG
 refine Z02 ([2, 3, 4, 5, 6, 7] ++ List.range' 14 50) (fun F_ W_ m_ => ∃ (i : Nat), F_ 14 = (.int .i64 ((i : Int))) ∧ (i ≤ xs.length) ∧ (∀ j, j < i → Z5m xs j) ∧ Sat w [Z6 w (fun _ => False)] W_ ∧ m_ = xs.length + 1 - i) _ ⟨0, (show ((.int .i64 (0)) : Value) = _ by first | rfl | go_num), by omega, by intro j hj; omega, H, rfl⟩ ?_
 rintro g6 w7 _ ⟨i, v9, hi, hno, H8, rfl⟩
 refine ZF 14 _ v9 ?_
 apply zsl
 refine wv 15 (.bool (decide ((i : Int) < (xs.length : Int)))) ?_
 apply znt
 apply Zt
 refine (Zl (decide ((i : Int) < (xs.length : Int)))).elim (fun b11 => ?_) (fun b11 => ?_)
 ·have g12 := of_decide_eq_true b11
  refine Z1o _ b11 ?_
  apply ZL
  apply ztn
  apply Zt
  apply ZG
  apply zsl
  refine wv 16 (.int .i64 ((i : Int))) ?_
  refine wv 4 (.int .i64 ((i : Int))) ?_
  apply Z1y
  refine wv 5 (.int .i64 (0)) ?_
  refine wv 6 (.int .i64 (0)) ?_
  apply znt
  apply Zt
  apply zsl
  refine wv 17 (.slice va xs.length vc) ?_
  refine wv 18 (.int .i64 ((xs.length : Int))) ?_
  refine wv 19 (.int .i64 (0)) ?_
  apply znt
  apply ZG
  refine Z02 ([5, 6, 7] ++ List.range' 19 26) (fun F_ W_ m_ => ∃ (k : Nat), F_ 19 = (.int .i64 ((k : Int))) ∧ F_ 5 = (.int .i64 ((((xs.take k).countP (fun x => decide (x < xs.getD i 0)) : Nat) : Int))) ∧ F_ 6 = (.int .i64 ((((xs.take k).countP (fun x => decide (x = xs.getD i 0)) : Nat) : Int))) ∧ (k ≤ xs.length) ∧ Sat w [Z6 w (fun _ => False)] W_ ∧ m_ = xs.length + 1 - k) _ ⟨0, (show ((.int .i64 (0)) : Value) = _ by first | rfl | go_num), (show ((.int .i64 (0)) : Value) = _ by first | rfl | go_num), (show ((.int .i64 (0)) : Value) = _ by first | rfl | go_num), by omega, H8, rfl⟩ ?_
  rintro g14 w15 _ ⟨k, v17, v18, v19, hk, H16, rfl⟩
  refine ZF 19 _ v17 ?_
  refine ZF 5 _ v18 ?_
  refine ZF 6 _ v19 ?_
  apply zsl
  refine wv 20 (.bool (decide ((k : Int) < (xs.length : Int)))) ?_
  apply znt
  apply Zt
  refine (Zl (decide ((k : Int) < (xs.length : Int)))).elim (fun b21 => ?_) (fun b21 => ?_)
  ·have g22 := of_decide_eq_true b21
   refine Z1o _ b21 ?_
   apply ZL
   apply ztn
   apply Zt
   apply ZG
   apply zsl
   refine wv 21 (.int .i64 ((k : Int))) ?_
   refine wv 7 (.int .i64 ((k : Int))) ?_
   apply znt
   apply Zt
   apply Zt
   refine zqs H16 ?_
   refine qv 22 (.slice va xs.length vc) ?_
   refine qv 23 (.int .i64 ((k : Int))) ?_
   obtain ⟨g24, o25, c26, e27, R28⟩ := SliceOf.atD hxs 0 (show k < xs.length by omega)
   refine qv 24 (.pointer (some ⟨g24, o25 + ((k : Int)).toNat * 1, none⟩)) ?_ (hr := fun _ H' => (ZC (E := 27) (by kernel_rfl) (by kernel_rfl) (Nat.le_of_ble_eq_true rfl) rfl e27 rfl (by omega) (by omega)))
   refine qv 25 (.int .u64 ((xs.getD k 0))) ?_ (hr := fun _ H' => (Z2 rfl (by kernel_rfl) (H'.cellR 0 rfl (Z13 R28 0 (by kernel_rfl) (show o25 + ((k : Int)).toNat * 1 = o25 + k * 1 + 0 by omega)) (fun h => h))))
   refine qv 26 (.slice va xs.length vc) ?_
   refine qv 27 (.int .i64 ((i : Int))) ?_
   obtain ⟨g29, o30, c31, e32, R33⟩ := SliceOf.atD hxs 0 (show i < xs.length by omega)
   refine qv 28 (.pointer (some ⟨g29, o30 + ((i : Int)).toNat * 1, none⟩)) ?_ (hr := fun _ H' => (ZC (E := 27) (by kernel_rfl) (by kernel_rfl) (Nat.le_of_ble_eq_true rfl) rfl e32 rfl (by omega) (by omega)))
   refine qv 29 (.int .u64 ((xs.getD i 0))) ?_ (hr := fun _ H' => (Z2 rfl (by kernel_rfl) (H'.cellR 0 rfl (Z13 R33 0 (by kernel_rfl) (show o30 + ((i : Int)).toNat * 1 = o30 + i * 1 + 0 by omega)) (fun h => h))))
   refine qv 30 (.bool (decide ((xs.getD k 0) < (xs.getD i 0)))) ?_
   refine Z0S ?_
   intro w34 H35
   apply ztn
   refine (Zl (decide ((xs.getD k 0) < (xs.getD i 0)))).elim (fun b36 => ?_) (fun b36 => ?_)
   ·have g37 := of_decide_eq_true b36
    refine Z1o _ b36 ?_
    apply ZU
    refine wv 31 (.int .i64 ((((xs.take k).countP (fun x => decide (x < xs.getD i 0)) : Nat) : Int))) ?_
    refine wv 32 (.int .i64 ((((xs.take k).countP (fun x => decide (x < xs.getD i 0)) : Nat) : Int) + 1)) ?_ (hr := Z0I (z := (((xs.take k).countP (fun x => decide (x < xs.getD i 0)) : Nat) : Int) + 1) (by kernel_rfl) (IntWalk.i64_in _ (by have q1 := Z0y (fun x => decide (x < xs.getD i 0)) xs k; have q2 := Z0y (fun x => decide (x = xs.getD i 0)) xs k; omega)))
    refine wv 5 (.int .i64 ((((xs.take k).countP (fun x => decide (x < xs.getD i 0)) : Nat) : Int) + 1)) ?_
    apply znt
    apply Zt
    refine zqs H35 ?_
    refine qv 33 (.slice va xs.length vc) ?_
    refine qv 34 (.int .i64 ((k : Int))) ?_
    refine qv 35 (.pointer (some ⟨g24, o25 + ((k : Int)).toNat * 1, none⟩)) ?_ (hr := fun _ H' => (ZC (E := 27) (by kernel_rfl) (by kernel_rfl) (Nat.le_of_ble_eq_true rfl) rfl e27 rfl (by omega) (by omega)))
    refine qv 36 (.int .u64 ((xs.getD k 0))) ?_ (hr := fun _ H' => (Z2 rfl (by kernel_rfl) (H'.cellR 0 rfl (Z13 R28 0 (by kernel_rfl) (show o25 + ((k : Int)).toNat * 1 = o25 + k * 1 + 0 by omega)) (fun h => h))))
    refine qv 37 (.slice va xs.length vc) ?_
    refine qv 38 (.int .i64 ((i : Int))) ?_
    refine qv 39 (.pointer (some ⟨g29, o30 + ((i : Int)).toNat * 1, none⟩)) ?_ (hr := fun _ H' => (ZC (E := 27) (by kernel_rfl) (by kernel_rfl) (Nat.le_of_ble_eq_true rfl) rfl e32 rfl (by omega) (by omega)))
    refine qv 40 (.int .u64 ((xs.getD i 0))) ?_ (hr := fun _ H' => (Z2 rfl (by kernel_rfl) (H'.cellR 0 rfl (Z13 R33 0 (by kernel_rfl) (show o30 + ((i : Int)).toNat * 1 = o30 + i * 1 + 0 by omega)) (fun h => h))))
    refine qv 41 (.bool (decide ((xs.getD k 0) = (xs.getD i 0)))) ?_
    refine Z0S ?_
    intro w39 H40
    apply ztn
    refine (Zl (decide ((xs.getD k 0) = (xs.getD i 0)))).elim (fun b41 => ?_) (fun b41 => ?_)
    ·have g42 := of_decide_eq_true b41
     refine Z1o _ b41 ?_
     apply ZU
     refine wv 42 (.int .i64 ((((xs.take k).countP (fun x => decide (x = xs.getD i 0)) : Nat) : Int))) ?_
     refine wv 43 (.int .i64 ((((xs.take k).countP (fun x => decide (x = xs.getD i 0)) : Nat) : Int) + 1)) ?_ (hr := Z0I (z := (((xs.take k).countP (fun x => decide (x = xs.getD i 0)) : Nat) : Int) + 1) (by kernel_rfl) (IntWalk.i64_in _ (by have q1 := Z0y (fun x => decide (x < xs.getD i 0)) xs k; have q2 := Z0y (fun x => decide (x = xs.getD i 0)) xs k; omega)))
     refine wv 6 (.int .i64 ((((xs.take k).countP (fun x => decide (x = xs.getD i 0)) : Nat) : Int) + 1)) ?_
     apply ZQ
     apply Zq
     apply ztn
     apply ZU
     refine wv 44 (.int .i64 ((k : Int) + 1)) ?_ (hr := Z0I (z := (k : Int) + 1) (by kernel_rfl) (IntWalk.i64_in _ (by have q1 := Z0y (fun x => decide (x < xs.getD i 0)) xs k; have q2 := Z0y (fun x => decide (x = xs.getD i 0)) xs k; omega)))
     refine wv 19 (.int .i64 ((k : Int) + 1)) ?_
     apply ZQ
     refine Zw ?_ _ ⟨(k + 1), rfl, (show ((.int .i64 ((((xs.take k).countP (fun x => decide (x < xs.getD i 0)) : Nat) : Int) + 1)) : Value) = _ by have q := Z2J (fun x => decide (x < xs.getD i 0)) xs k (by omega); simp only [b36, b41, if_true, if_false, Bool.false_eq_true] at q; first | (rw [q]; rfl) | (rw [q]; go_num)), (show ((.int .i64 ((((xs.take k).countP (fun x => decide (x = xs.getD i 0)) : Nat) : Int) + 1)) : Value) = _ by have q := Z2J (fun x => decide (x = xs.getD i 0)) xs k (by omega); simp only [b36, b41, if_true, if_false, Bool.false_eq_true] at q; first | (rw [q]; rfl) | (rw [q]; go_num)), by omega, H40, rfl⟩ (by omega)
     exact zs
    have g44 := of_decide_eq_false b41
    refine Z18 _ b41 ?_
    apply ZL
    apply Zq
    apply ztn
    apply ZU
    refine wv 44 (.int .i64 ((k : Int) + 1)) ?_ (hr := Z0I (z := (k : Int) + 1) (by kernel_rfl) (IntWalk.i64_in _ (by have q1 := Z0y (fun x => decide (x < xs.getD i 0)) xs k; have q2 := Z0y (fun x => decide (x = xs.getD i 0)) xs k; omega)))
    refine wv 19 (.int .i64 ((k : Int) + 1)) ?_
    apply ZQ
    refine Zw ?_ _ ⟨(k + 1), rfl, (show ((.int .i64 ((((xs.take k).countP (fun x => decide (x < xs.getD i 0)) : Nat) : Int) + 1)) : Value) = _ by have q := Z2J (fun x => decide (x < xs.getD i 0)) xs k (by omega); simp only [b36, b41, if_true, if_false, Bool.false_eq_true] at q; first | (rw [q]; rfl) | (rw [q]; go_num)), (show ((.int .i64 ((((xs.take k).countP (fun x => decide (x = xs.getD i 0)) : Nat) : Int))) : Value) = _ by have q := Z2J (fun x => decide (x = xs.getD i 0)) xs k (by omega); simp only [b36, b41, if_true, if_false, Bool.false_eq_true] at q; first | (rw [q]; rfl) | (rw [q]; go_num)), by omega, H40, rfl⟩ (by omega)
    exact zs
   have g46 := of_decide_eq_false b36
   refine Z18 _ b36 ?_
   apply ZL
   apply ztn
   apply Zt
   refine zqs H35 ?_
   refine qv 33 (.slice va xs.length vc) ?_
   refine qv 34 (.int .i64 ((k : Int))) ?_
   refine qv 35 (.pointer (some ⟨g24, o25 + ((k : Int)).toNat * 1, none⟩)) ?_ (hr := fun _ H' => (ZC (E := 27) (by kernel_rfl) (by kernel_rfl) (Nat.le_of_ble_eq_true rfl) rfl e27 rfl (by omega) (by omega)))
   refine qv 36 (.int .u64 ((xs.getD k 0))) ?_ (hr := fun _ H' => (Z2 rfl (by kernel_rfl) (H'.cellR 0 rfl (Z13 R28 0 (by kernel_rfl) (show o25 + ((k : Int)).toNat * 1 = o25 + k * 1 + 0 by omega)) (fun h => h))))
   refine qv 37 (.slice va xs.length vc) ?_
   refine qv 38 (.int .i64 ((i : Int))) ?_
   refine qv 39 (.pointer (some ⟨g29, o30 + ((i : Int)).toNat * 1, none⟩)) ?_ (hr := fun _ H' => (ZC (E := 27) (by kernel_rfl) (by kernel_rfl) (Nat.le_of_ble_eq_true rfl) rfl e32 rfl (by omega) (by omega)))
   refine qv 40 (.int .u64 ((xs.getD i 0))) ?_ (hr := fun _ H' => (Z2 rfl (by kernel_rfl) (H'.cellR 0 rfl (Z13 R33 0 (by kernel_rfl) (show o30 + ((i : Int)).toNat * 1 = o30 + i * 1 + 0 by omega)) (fun h => h))))
   refine qv 41 (.bool (decide ((xs.getD k 0) = (xs.getD i 0)))) ?_
   refine Z0S ?_
   intro w48 H49
   apply ztn
   refine (Zl (decide ((xs.getD k 0) = (xs.getD i 0)))).elim (fun b50 => ?_) (fun b50 => ?_)
   ·have g51 := of_decide_eq_true b50
    refine Z1o _ b50 ?_
    apply ZU
    refine wv 42 (.int .i64 ((((xs.take k).countP (fun x => decide (x = xs.getD i 0)) : Nat) : Int))) ?_
    refine wv 43 (.int .i64 ((((xs.take k).countP (fun x => decide (x = xs.getD i 0)) : Nat) : Int) + 1)) ?_ (hr := Z0I (z := (((xs.take k).countP (fun x => decide (x = xs.getD i 0)) : Nat) : Int) + 1) (by kernel_rfl) (IntWalk.i64_in _ (by have q1 := Z0y (fun x => decide (x < xs.getD i 0)) xs k; have q2 := Z0y (fun x => decide (x = xs.getD i 0)) xs k; omega)))
    refine wv 6 (.int .i64 ((((xs.take k).countP (fun x => decide (x = xs.getD i 0)) : Nat) : Int) + 1)) ?_
    apply ZQ
    apply Zq
    apply ztn
    apply ZU
    refine wv 44 (.int .i64 ((k : Int) + 1)) ?_ (hr := Z0I (z := (k : Int) + 1) (by kernel_rfl) (IntWalk.i64_in _ (by have q1 := Z0y (fun x => decide (x < xs.getD i 0)) xs k; have q2 := Z0y (fun x => decide (x = xs.getD i 0)) xs k; omega)))
    refine wv 19 (.int .i64 ((k : Int) + 1)) ?_
    apply ZQ
    refine Zw ?_ _ ⟨(k + 1), rfl, (show ((.int .i64 ((((xs.take k).countP (fun x => decide (x < xs.getD i 0)) : Nat) : Int))) : Value) = _ by have q := Z2J (fun x => decide (x < xs.getD i 0)) xs k (by omega); simp only [b36, b50, if_true, if_false, Bool.false_eq_true] at q; first | (rw [q]; rfl) | (rw [q]; go_num)), (show ((.int .i64 ((((xs.take k).countP (fun x => decide (x = xs.getD i 0)) : Nat) : Int) + 1)) : Value) = _ by have q := Z2J (fun x => decide (x = xs.getD i 0)) xs k (by omega); simp only [b36, b50, if_true, if_false, Bool.false_eq_true] at q; first | (rw [q]; rfl) | (rw [q]; go_num)), by omega, H49, rfl⟩ (by omega)
    exact zs
   have g53 := of_decide_eq_false b50
   refine Z18 _ b50 ?_
   apply ZL
   apply Zq
   apply ztn
   apply ZU
   refine wv 44 (.int .i64 ((k : Int) + 1)) ?_ (hr := Z0I (z := (k : Int) + 1) (by kernel_rfl) (IntWalk.i64_in _ (by have q1 := Z0y (fun x => decide (x < xs.getD i 0)) xs k; have q2 := Z0y (fun x => decide (x = xs.getD i 0)) xs k; omega)))
   refine wv 19 (.int .i64 ((k : Int) + 1)) ?_
   apply ZQ
   refine Zw ?_ _ ⟨(k + 1), rfl, (show ((.int .i64 ((((xs.take k).countP (fun x => decide (x < xs.getD i 0)) : Nat) : Int))) : Value) = _ by have q := Z2J (fun x => decide (x < xs.getD i 0)) xs k (by omega); simp only [b36, b50, if_true, if_false, Bool.false_eq_true] at q; first | (rw [q]; rfl) | (rw [q]; go_num)), (show ((.int .i64 ((((xs.take k).countP (fun x => decide (x = xs.getD i 0)) : Nat) : Int))) : Value) = _ by have q := Z2J (fun x => decide (x = xs.getD i 0)) xs k (by omega); simp only [b36, b50, if_true, if_false, Bool.false_eq_true] at q; first | (rw [q]; rfl) | (rw [q]; go_num)), by omega, H49, rfl⟩ (by omega)
   exact zs
  have g55 := of_decide_eq_false b21
  refine Z18 _ b21 ?_
  apply zxb
  apply ztn
  apply Zt
  have e5 : xs.take k = xs := List.take_of_length_le (by omega)
  have c1 := cLt_le xs (xs.getD i 0)
  have c2 := cEq_le xs (xs.getD i 0)
  refine ZF 5 (.int .i64 (((cLt xs (xs.getD i 0) : Nat) : Int))) (show ((.int .i64 ((((xs.take k).countP (fun x => decide (x < xs.getD i 0)) : Nat) : Int))) : Value) = _ by rw [e5]; rfl) ?_
  refine ZF 6 (.int .i64 (((cEq xs (xs.getD i 0) : Nat) : Int))) (show ((.int .i64 ((((xs.take k).countP (fun x => decide (x = xs.getD i 0)) : Nat) : Int))) : Value) = _ by rw [e5]; rfl) ?_
  apply ZU
  refine wv 45 (.int .i64 (((cLt xs (xs.getD i 0) : Nat) : Int))) ?_
  refine wv 46 (.slice va xs.length vc) ?_
  refine wv 47 (.int .i64 ((xs.length : Int))) ?_
  refine wv 48 (.int .i64 ((xs.length : Int) / 2)) ?_ (hr := Zb6 (by kernel_rfl) (by omega) (by omega) (IntWalk.i64_in _ (by omega)))
  refine wv 49 (.bool (decide (((cLt xs (xs.getD i 0) : Nat) : Int) ≤ ((xs.length : Int) / 2)))) ?_
  refine wv 50 (.bool (decide (((cLt xs (xs.getD i 0) : Nat) : Int) ≤ ((xs.length : Int) / 2)))) ?_
  refine (Zl (decide (((cLt xs (xs.getD i 0) : Nat) : Int) ≤ ((xs.length : Int) / 2)))).elim (fun b57 => ?_) (fun b57 => ?_)
  ·have g58 := of_decide_eq_true b57
   refine ZI 50 (.bool true) (congrArg Value.bool b57) ?_
   refine wy 5 50 true 51 (.slice va xs.length vc) ?_
   refine wy 5 50 true 52 (.int .i64 ((xs.length : Int))) ?_
   refine wy 5 50 true 53 (.int .i64 ((xs.length : Int) / 2)) ?_ (hr := Zb6 (by kernel_rfl) (by omega) (by omega) (IntWalk.i64_in _ (by omega)))
   refine wy 5 50 true 54 (.int .i64 (((cLt xs (xs.getD i 0) : Nat) : Int))) ?_
   refine wy 5 50 true 55 (.int .i64 (((cEq xs (xs.getD i 0) : Nat) : Int))) ?_
   refine wy 5 50 true 56 (.int .i64 (((cLt xs (xs.getD i 0) : Nat) : Int) + ((cEq xs (xs.getD i 0) : Nat) : Int))) ?_ (hr := Z0I (z := ((cLt xs (xs.getD i 0) : Nat) : Int) + ((cEq xs (xs.getD i 0) : Nat) : Int)) (by kernel_rfl) (IntWalk.i64_in _ (by omega)))
   refine wy 5 50 true 57 (.bool (decide (((xs.length : Int) / 2) < (((cLt xs (xs.getD i 0) : Nat) : Int) + ((cEq xs (xs.getD i 0) : Nat) : Int))))) ?_
   refine wv 58 (.bool (decide (((xs.length : Int) / 2) < (((cLt xs (xs.getD i 0) : Nat) : Int) + ((cEq xs (xs.getD i 0) : Nat) : Int))))) ?_
   apply znt
   refine (Zl (decide (((xs.length : Int) / 2) < (((cLt xs (xs.getD i 0) : Nat) : Int) + ((cEq xs (xs.getD i 0) : Nat) : Int))))).elim (fun b60 => ?_) (fun b60 => ?_)
   ·have g61 := of_decide_eq_true b60
    refine Z1o _ b60 ?_
    apply zsl
    refine wv 59 (.slice va xs.length vc) ?_
    refine wv 60 (.int .i64 ((i : Int))) ?_
    obtain ⟨g63, o64, c65, e66, R67⟩ := SliceOf.atD hxs 0 (show i < xs.length by omega)
    refine wv 61 (.pointer (some ⟨g63, o64 + ((i : Int)).toNat * 1, none⟩)) ?_ (hr := ZC (E := 27) (by kernel_rfl) (by kernel_rfl) (Nat.le_of_ble_eq_true rfl) rfl e66 rfl (by omega) (by omega))
    refine zw1 62 (.int .u64 ((xs.getD i 0))) (H16.cellR 0 rfl (Z13 R67 0 (by kernel_rfl) (show o64 + ((i : Int)).toNat * 1 = o64 + i * 1 + 0 by omega)) (fun h => h)) ?_
    refine wv 2 (.int .u64 ((xs.getD i 0))) ?_
    refine wv 3 (.bool true) ?_
    apply znt
    apply ZA
    apply ZP
    apply Zr
    apply Z0l
    apply ZP
    apply Zr
    refine ze2 (.int .u64 ((xs.getD i 0))) (.bool true) ?_
    simp only [decide_eq_true_eq, Bool.and_eq_true] at *
    exact ⟨by rw [Zct (j := i) (by omega) (by omega) (by omega) (by omega), decide_eq_true (show xs.length % 2 = 1 by omega)], H16.upd 0 rfl [] (fun _ h => h.elim)⟩
   have g68 := of_decide_eq_false b60
   refine Z18 _ b60 ?_
   apply ZL
   apply Zq
   apply ztn
   apply ZU
   refine zwi 63 ((i : Int) + 1) ?_
   refine wv 14 (.int .i64 ((i : Int) + 1)) ?_
   apply ZQ
   refine Zw ?_ _ ⟨(i + 1), rfl, by omega, Z5I hno (by unfold Z5m; rintro ⟨q1, q2⟩; simp only [decide_eq_true_eq, decide_eq_false_iff_not, Bool.and_eq_false_iff] at *; omega), H16, rfl⟩ (by omega)
   exact zs
  have g70 := of_decide_eq_false b57
  refine ZI 50 (.bool false) (congrArg Value.bool b57) ?_
  iterate 7 refine wn 5 50 true ?_
  refine wv 58 (.bool false) ?_
  apply znt
  refine Z3m rfl ?_
  apply ZL
  apply Zq
  apply ztn
  apply ZU
  refine zwi 63 ((i : Int) + 1) ?_
  refine wv 14 (.int .i64 ((i : Int) + 1)) ?_
  apply ZQ
  refine Zw ?_ _ ⟨(i + 1), rfl, by omega, Z5I hno (by unfold Z5m; rintro ⟨q1, q2⟩; simp only [decide_eq_true_eq, decide_eq_false_iff_not, Bool.and_eq_false_iff] at *; omega), H16, rfl⟩ (by omega)
  exact zs
 have g72 := of_decide_eq_false b11
 refine Z18 _ b11 ?_
 apply zxb
 apply ztn
 apply zsl
 refine wv 2 (.int .u64 (0)) ?_
 refine wv 3 (.bool false) ?_
 apply znt
 apply ZA
 refine ze2 (.int .u64 (0)) (.bool false) ?_
 exact (Zcu (xs := xs) (by omega) (fun j hj => hno j (by omega))).elim
theorem Zbt (w : World) (v : Value) (xs : List Int) (hxs : ListAt Z3s 1 w v xs) (hx : xs.length ≤ 12) : Calls Tryz.prog 76 #[v] w fun e w' => e = .returned (.tuple #[.int .u64 (Z4R xs), .bool (decide (xs.length % 2 = 1))]) ∧ Upd [] w w' := by
 obtain ⟨a, c, rfl⟩ := hxs.len
 exact Zaw w a c xs hxs hx
end Go.Proofs.YtoaifondpohniaaGreat
