/- WHAT IS PROVED: contracts and plain laws of NumsS, TimeE, StrMap, EntD. Conditions: stated with each. -/
import Derived.Test.YtoaifondpohniaaGreatMT03
import Derived.Test.YtoaifondpohniaaGreatMT05
import Derived.Test.YtoaifondpohniaaGreatMT06
import Derived.Test.YtoaifondpohniaaGreatMT12
import Derived.Test.YtoaifondpohniaaGreatMT13
import Derived.Test.YtoaifondpohniaaGreatMT14
set_option maxHeartbeats 4000000
set_option maxRecDepth 100000
namespace Go.Proofs.YtoaifondpohniaaGreat
open Go.RowKit
theorem Z5U {w w' : World} {b T : Nat} {v : Value} (h : (Z5 w fun _ => False).ok w') (hb : (Z1 b T [v]).ok w) : (Z1 b T [v]).ok w' := (h b (Z0y hb) (fun h => h)).trans hb
theorem Z5R (w : World) (va : Option Addr) (vn vc : Nat) :
  Calls Tryz.prog 100 #[(.slice va vn vc)] w fun e w' => ∃ b, e = .returned (.func (.func 122) #[] #[.pointer (some ⟨b, 0, none⟩)]) ∧ (Z1 b 48 [(.slice va vn vc)]).ok w' ∧ Upd [] w w' ∧ w.heap.size ≤ b := by
 have H := Sat.start0 w
 refine Zr Tryz.func100 rfl 4 rfl (Nat.le_of_ble_eq_true rfl) ?_
 refine Zb ?_
 refine Zl ?_
 refine ZQ (Z0 rfl) (fun K1 hK1 => ?_)
 refine Z1F (vs := ([(.slice va vn vc)] : List Value)) rfl H rfl rfl ?_
 intro b2 w3 (H4 : Sat w [Z5 w (fun _ => False), Z1 b2 48 ([(.slice va vn vc)] : List Value)] w3)
 refine hK1 _ _ ?_
 clear hK1 K1
 refine Z3 (Z0 rfl) (d := 2) (v := (Go.Value.nilFunc)) rfl (by kernel_rfl) ?_
 refine Zi ?_
 refine Z4 ?_
 refine Zb ?_
 refine Zl ?_
 refine Z3 (Z0 rfl) (d := 3) (v := (.func (.func 122) #[] #[(.pointer (some ⟨b2, 0, none⟩))])) rfl (by kernel_rfl) ?_
 refine Z3 (Z0 rfl) (d := 2) (v := (.func (.func 122) #[] #[(.pointer (some ⟨b2, 0, none⟩))])) rfl (by kernel_rfl) ?_
 refine Zi ?_
 refine Z4 ?_
 refine ZY ?_
 refine Z1i rfl (ZJ (v := (.func (.func 122) #[] #[(.pointer (some ⟨b2, 0, none⟩))])) rfl) ?_
 exact ⟨b2, rfl, H4.at 1 rfl, H4.upd 0 rfl [] (fun _ h => h.elim), H4.fresh 0 rfl (fun _ h => h) 1 rfl rfl b2 rfl⟩
theorem Z6l (w : World) (v : Value) (hv : ∃ a n c, v = .slice a n c) : Calls Tryz.prog 100 #[v] w fun e w' => ∃ b, e = .returned (.func (.func 122) #[] #[.pointer (some ⟨b, 0, none⟩)]) ∧ (Z1 b 48 [v]).ok w' ∧ Upd [] w w' ∧ w.heap.size ≤ b := by
 obtain ⟨a, n, c, rfl⟩ := hv
 exact Z5R w a n c
theorem Z5D (w : World) (b : Nat) (v : Value) (xs : List Int) (hb : (Z1 b 48 [v]).ok w) (hv : ListAt Z2u 1 w v xs) (hx : xs.length ≤ 12) :
  Calls Tryz.prog 120 #[(.func (.func 122) #[] #[(.pointer (some ⟨b, 0, none⟩))])] w fun e w' => ∃ u, e = .returned u ∧ (Zd 27 1 u xs.length (xs.flatMap Z2u)).ok w' ∧ Upd [] w w' ∧ ∀ b, u.ownBlock = some b → w.heap.size ≤ b := by
 have H := Sat.start0 w
 refine Zr Tryz.func120 rfl 5 rfl (Nat.le_of_ble_eq_true rfl) ?_
 refine Zb ?_
 refine Zl ?_
 refine Z3 (Z0 rfl) (d := 2) (v := (.slice none 0 0)) rfl (by kernel_rfl) ?_
 refine Zi ?_
 refine Z4 ?_
 refine Zb ?_
 refine Zl ?_
 refine Z3 (Z0 rfl) (d := 3) (v := (.func (.func 122) #[] #[(.pointer (some ⟨b, 0, none⟩))])) rfl (by kernel_rfl) ?_
 refine ZQ (Z0 rfl) (fun K1 hK1 => ?_)
 refine ZX (d := 4) rfl (by kernel_rfl) (Z4I w b v xs ((Z5U (H.at 0 rfl) hb)) (ListAt.now H 0 rfl hv) (by omega)) ?_
 rintro _ w2 ⟨u3, rfl, k4, p5, q6⟩
 have H7 : Sat w [Z5 w (fun _ => False), Zd 27 1 u3 xs.length (xs.flatMap Z2u)] w2 := H.addU p5 k4 q6
 obtain ⟨a8, c9, rfl⟩ := Z9 (H7.at 1 rfl)
 refine ⟨_, rfl, ?_⟩
 refine hK1 _ _ ?_
 clear hK1 K1
 refine Z3 (Z0 rfl) (d := 2) (v := (.slice a8 xs.length c9)) rfl (by kernel_rfl) ?_
 refine Zi ?_
 refine Z4 ?_
 refine ZY ?_
 refine Z1i rfl (ZJ (v := (.slice a8 xs.length c9)) rfl) ?_
 exact ⟨_, rfl, H7.at 1 rfl, H7.upd 0 rfl [] (fun _ h => h.elim), H7.fresh 0 rfl (fun _ h => h) 1 rfl rfl⟩
theorem Z6y (w : World) (b : Nat) (v : Value) (xs : List Int) (hb : (Z1 b 48 [v]).ok w) (hv : ListAt Z2u 1 w v xs) (hx : xs.length ≤ 12) (h0 : 0 < xs.length) :
  Calls Tryz.prog 99 #[(.func (.func 122) #[] #[(.pointer (some ⟨b, 0, none⟩))])] w fun e w' => ∃ u B, e = .returned u ∧ (Zd 27 1 u B.length (B.flatMap Z2u)).ok w' ∧ Upd [] w w' ∧ (∀ k, u.ownBlock = some k → w.heap.size ≤ k) ∧ B.Perm xs ∧ Srt ltU 0 B.length B := by
 have H := Sat.start0 w
 refine Zr Tryz.func99 rfl 9 rfl (Nat.le_of_ble_eq_true rfl) ?_
 refine Zb ?_
 refine Zl ?_
 refine Z3 (Z0 rfl) (d := 2) (v := (.slice none 0 0)) rfl (by kernel_rfl) ?_
 refine Zi ?_
 refine Z4 ?_
 refine Zb ?_
 refine Zl ?_
 refine Z3 (Z0 rfl) (d := 4) (v := (.func (.func 122) #[] #[(.pointer (some ⟨b, 0, none⟩))])) rfl (by kernel_rfl) ?_
 refine ZQ (Z0 rfl) (fun K1 hK1 => ?_)
 refine ZX (d := 5) rfl (by kernel_rfl) (Z5D w b v xs (Z5U (H.at 0 rfl) hb) (ListAt.now H 0 rfl hv) (by omega)) ?_
 rintro _ w2 ⟨u3, rfl, k4, p5, q6⟩
 have H7 : Sat w [Z5 w (fun _ => False), Zd 27 1 u3 xs.length (xs.flatMap Z2u)] w2 := H.addU p5 k4 q6
 obtain ⟨a8, c9, rfl⟩ := Z9 (H7.at 1 rfl)
 refine ⟨_, rfl, ?_⟩
 refine hK1 _ _ ?_
 clear hK1 K1
 refine Z3 (Z0 rfl) (d := 3) (v := (.slice a8 xs.length c9)) rfl (by kernel_rfl) ?_
 refine Zi ?_
 refine Z4 ?_
 refine Zb ?_
 obtain ⟨g10, c11, e12⟩ := Z0P (H7.at 1 rfl) (by omega)
 obtain rfl : a8 = some ⟨g10, 0, none⟩ := by cases e12; rfl
 have H13 : Sat w [Z5 w (fun _ => False), Z2c g10 xs.length c9 xs] w2 := H7
 refine Zl ?_
 refine Z3 (Z0 rfl) (d := 6) (v := (.slice (some ⟨g10, 0, none⟩) xs.length c9)) rfl (by kernel_rfl) ?_
 refine ZQ (Z0 rfl) (fun K14 hK14 => ?_)
 refine ZX (d := 7) rfl (by kernel_rfl) (Z7b w2 g10 xs.length c9 xs (H13.at 1 rfl) (by omega)) ?_
 rintro _ w16 ⟨B15, rfl, l17, p18, s19, T20⟩
 have H21 : Sat w [Z5 w (fun _ => False), Z2c g10 xs.length c9 B15] w16 := (Sat.turn1 (L' := [Z2c g10 xs.length c9 B15]) (R := [Z5 w (fun _ => False)]) H13 1 [0] (by decide) rfl rfl T20).pick [1, 0] (by decide)
 refine ⟨_, rfl, ?_⟩
 refine hK14 _ _ ?_
 clear hK14 K14
 refine Zi ?_
 refine Z4 ?_
 refine Zb ?_
 refine Zl ?_
 refine Z3 (Z0 rfl) (d := 8) (v := (.slice (some ⟨g10, 0, none⟩) xs.length c9)) rfl (by kernel_rfl) ?_
 refine Z3 (Z0 rfl) (d := 2) (v := (.slice (some ⟨g10, 0, none⟩) xs.length c9)) rfl (by kernel_rfl) ?_
 refine Zi ?_
 refine Z4 ?_
 refine ZY ?_
 refine Z1i rfl (ZJ (v := (.slice (some ⟨g10, 0, none⟩) xs.length c9)) rfl) ?_
 exact ⟨_, B15, rfl, (by have q := H21.at 1 rfl; have e : (xs.length : Nat) = B15.length := l17.symm; unfold Z2c at q; rw [e] at q ⊢; exact q), H21.upd 0 rfl [] (fun _ h => h.elim), H21.fresh 0 rfl (fun _ h => h) 1 rfl rfl, p18, s19⟩
theorem Z86 (w : World) (va : Option Addr) (vc : Nat) (xs : List Int) (hxs : ListAt Z2u 1 w (.slice va xs.length vc) xs) (hx : xs.length ≤ 12) :
  Calls Tryz.prog 63 #[(.slice va xs.length vc)] w fun e w' => e = .returned (.tuple #[.int .u64 (Z5B xs), .bool (decide (xs.length % 2 = 1))]) ∧ Upd [] w w' := by
 have H := Sat.start0 w
 refine Zr Tryz.func63 rfl 18 rfl (Nat.le_of_ble_eq_true rfl) ?_
 refine Zb ?_
 refine Zl ?_
 refine Z3 (Z0 rfl) (d := 2) (v := (.int .u64 (0))) rfl (by kernel_rfl) ?_
 refine Z3 (Z0 rfl) (d := 3) (v := (.bool false)) rfl (by kernel_rfl) ?_
 refine Zi ?_
 refine Z4 ?_
 refine Zb ?_
 refine Zb ?_
 refine Zl ?_
 refine Z3 (Z0 rfl) (d := 5) (v := (.slice va xs.length vc)) rfl (by kernel_rfl) ?_
 refine Z3 (Z0 rfl) (d := 6) (v := (.int .i64 ((xs.length : Int)))) rfl (by kernel_rfl) ?_
 refine Z3 (Z0 rfl) (d := 7) (v := (.int .i64 ((xs.length : Int) % 2))) rfl (Z8k (by kernel_rfl) (by omega) (by omega)) ?_
 refine Z3 (Z0 rfl) (d := 8) (v := (.bool (decide (((xs.length : Int) % 2) = 0)))) rfl (by kernel_rfl) ?_
 refine Zi ?_
 refine Z4 ?_
 refine (ZD (decide (((xs.length : Int) % 2) = 0))).elim (fun b1 => ?_) (fun b1 => ?_)
 ·have g2 := of_decide_eq_true b1
  refine Zj 8 (.bool true) (congrArg Value.bool b1) ?_
  have g3 := of_decide_eq_true b1
  refine Z0p rfl ?_
  refine Zb ?_
  refine Zl ?_
  refine Z3 (Z0 rfl) (d := 2) (v := (.int .u64 (0))) rfl (by kernel_rfl) ?_
  refine Z3 (Z0 rfl) (d := 3) (v := (.bool false)) rfl (by kernel_rfl) ?_
  refine Zi ?_
  refine Z4 ?_
  refine ZY ?_
  refine ZP ?_
  refine Z7s rfl (ZJ (v := (.int .u64 (0))) rfl) (ZJ (v := (.bool false)) rfl) ?_
  exact ⟨by rw [Z3w (by omega), decide_eq_false (show ¬ xs.length % 2 = 1 by omega)], H.upd 0 rfl [] (fun _ h => h.elim)⟩
 ·have g4 := of_decide_eq_false b1
  refine Zj 8 (.bool false) (congrArg Value.bool b1) ?_
  have g5 := of_decide_eq_false b1
  refine Z0r rfl ?_
  refine ZZ ?_
  refine Z4 ?_
  refine Zb ?_
  refine Zl ?_
  refine Z3 (Z0 rfl) (d := 9) (v := (.slice va xs.length vc)) rfl (by kernel_rfl) ?_
  refine ZQ (Z0 rfl) (fun K6 hK6 => ?_)
  refine ZX (d := 10) rfl (by kernel_rfl) (Z6l w (.slice va xs.length vc) ⟨_, _, _, rfl⟩) ?_
  rintro _ w8 ⟨b7, rfl, k9, p10, q11⟩
  have H12 : Sat w [Z5 w (fun _ => False), Z1 b7 48 ([(.slice va xs.length vc)] : List Value)] w8 := H.addU p10 k9 (fun _ h => h ▸ q11)
  refine ⟨_, rfl, ?_⟩
  refine hK6 _ _ ?_
  clear hK6 K6
  refine ZQ (Z0 rfl) (fun K13 hK13 => ?_)
  refine ZX (d := 11) rfl (by kernel_rfl) (Z6y w8 b7 (.slice va xs.length vc) xs (H12.at 1 rfl) (ListAt.now H12 0 rfl hxs) (by omega) (by omega)) ?_
  rintro _ w14 ⟨u15, B19, rfl, k16, p17, q18, p20, s21⟩
  have H22 : Sat w [Z5 w (fun _ => False), Z1 b7 48 ([(.slice va xs.length vc)] : List Value), Zd 27 1 u15 B19.length (B19.flatMap Z2u)] w14 := H12.addU p17 k16 q18
  obtain ⟨a23, c24, rfl⟩ := Z9 (H22.at 2 rfl)
  refine ⟨_, rfl, ?_⟩
  have hlB19 : B19.length = xs.length := p20.length_eq
  refine hK13 _ _ ?_
  clear hK13 K13
  refine Z3 (Z0 rfl) (d := 4) (v := (.slice a23 B19.length c24)) rfl (by kernel_rfl) ?_
  refine Zi ?_
  refine Z4 ?_
  refine Zb ?_
  refine Zl ?_
  refine Z3 (Z0 rfl) (d := 12) (v := (.slice a23 B19.length c24)) rfl (by kernel_rfl) ?_
  refine Z3 (Z0 rfl) (d := 13) (v := (.slice a23 B19.length c24)) rfl (by kernel_rfl) ?_
  refine Z3 (Z0 rfl) (d := 14) (v := (.int .i64 ((B19.length : Int)))) rfl (by kernel_rfl) ?_
  refine Z3 (Z0 rfl) (d := 15) (v := (.int .i64 ((B19.length : Int) / 2))) rfl (e_quo (by kernel_rfl) (by omega) (by omega) (IntWalk.i64_in _ (by omega))) ?_
  obtain ⟨g25, c26, e27⟩ := Z0P (H22.at 2 rfl) (by omega)
  obtain ⟨x28, h29⟩ := Z2a (show ((B19.length : Int) / 2).toNat < B19.length by omega)
  refine Z3 (Z0 rfl) (d := 16) (v := (.pointer (some ⟨g25, 0 + ((B19.length : Int) / 2).toNat * 1, none⟩))) rfl (Z0I (E := 27) (by kernel_rfl) (by kernel_rfl) (Nat.le_of_ble_eq_true rfl) rfl e27 rfl (by omega) (by omega)) ?_
  refine Z3 (Z0 rfl) (d := 17) (v := (.int .u64 (x28))) rfl (Za rfl (by kernel_rfl) (Z0X (H22.at 2 rfl) e27 Z1U h29 0 rfl (show 0 + ((B19.length : Int) / 2).toNat * 1 = ((B19.length : Int) / 2).toNat * 1 + 0 by omega) (by kernel_rfl))) ?_
  refine Z3 (Z0 rfl) (d := 2) (v := (.int .u64 (x28))) rfl (by kernel_rfl) ?_
  refine Z3 (Z0 rfl) (d := 3) (v := (.bool true)) rfl (by kernel_rfl) ?_
  refine Zi ?_
  refine Z4 ?_
  refine ZY ?_
  refine Z7s rfl (ZJ (v := (.int .u64 (x28))) rfl) (ZJ (v := (.bool true)) rfl) ?_
  have hm : Z5B xs = x28 := (Z8b p20).symm.trans (Z7J (by omega) (srt_le s21 (by rw [show B19.length / 2 = ((B19.length : Int) / 2).toNat by omega]; exact h29)))
  exact ⟨by rw [hm, decide_eq_true (show xs.length % 2 = 1 by omega)], H22.upd 0 rfl [] (fun _ h => h.elim)⟩
theorem Z8B (w : World) (v : Value) (xs : List Int) (hxs : ListAt Z2u 1 w v xs) (hx : xs.length ≤ 12) : Calls Tryz.prog 63 #[v] w fun e w' => e = .returned (.tuple #[.int .u64 (Z5B xs), .bool (decide (xs.length % 2 = 1))]) ∧ Upd [] w w' := by
 obtain ⟨a, c, rfl⟩ := hxs.len
 exact Z86 w a c xs hxs hx
theorem Z1y (w : World) (x : Zk) (sa : Option Addr) (sc : Nat) (S : List Ze) (hS : ListAt Z0o 38 w (.slice sa S.length sc) S) (hlS : S.length ≤ 12) :
  Calls Tryz.prog 31 #[(.agg ⟨(([(.int .i64 (x.cl)), (.int .i64 (x.seq))] : List Value) ++ hc x.h ++ ([(.int .i64 (x.len)), (.int .i64 (x.sb)), (.int .i64 (x.sm)), (.slice sa S.length sc)] : List Value))⟩)] w fun e w' => e = .returned (.int .u64 (Z8 S)) ∧ Upd [] w w' := by
 have H := Sat.start0 w
 refine Zr Tryz.func31 rfl 27 rfl (Nat.le_of_ble_eq_true rfl) ?_
 refine Zb ?_
 refine Zl ?_
 refine ZQ (Z0 rfl) (fun K1 hK1 => ?_)
 refine Z1F (vs := (([(.int .i64 (x.cl)), (.int .i64 (x.seq))] : List Value) ++ hc x.h ++ ([(.int .i64 (x.len)), (.int .i64 (x.sb)), (.int .i64 (x.sm)), (.slice sa S.length sc)] : List Value))) rfl H rfl rfl ?_
 intro b2 w3 (H4 : Sat w [Z5 w (fun _ => False), Z1 b2 53 (([(.int .i64 (x.cl)), (.int .i64 (x.seq))] : List Value) ++ hc x.h ++ ([(.int .i64 (x.len)), (.int .i64 (x.sb)), (.int .i64 (x.sm)), (.slice sa S.length sc)] : List Value))] w3)
 refine hK1 _ _ ?_
 clear hK1 K1
 refine Z3 (Z0 rfl) (d := 2) (v := (.int .u64 (0))) rfl (by kernel_rfl) ?_
 refine Zi ?_
 refine Z4 ?_
 refine Zb ?_
 refine Zl ?_
 refine Z3 (Z0 rfl) (d := 3) (v := (.slice none 0 0)) rfl (by kernel_rfl) ?_
 refine Zi ?_
 refine Z4 ?_
 refine Zb ?_
 refine Zb ?_
 refine Zl ?_
 refine Z3 (Z0 rfl) (d := 8) (v := (.pointer (some ⟨b2, 37, none⟩))) rfl (by kernel_rfl) ?_
 refine Z3 (Z0 rfl) (d := 9) (v := (.slice sa S.length sc)) rfl (Za rfl (by kernel_rfl) (H4.cell 1 rfl (by kernel_rfl))) ?_
 refine Z3 (Z0 rfl) (d := 10) (v := (.int .i64 ((S.length : Int)))) rfl (by kernel_rfl) ?_
 refine Z3 (Z0 rfl) (d := 11) (v := (.int .i64 (0))) rfl (by kernel_rfl) ?_
 refine Zi ?_
 refine Z4 ?_
 refine ZO ?_
 have H5 := H4.addNil 27 1
 refine Z0c [3, 5, 11, 12, 13, 14, 15, 16, 17, 18, 19, 20] (fun F_ W_ m_ => ∃ (i : Nat) (a : Option Addr) (c : Nat) (D : List Int), F_ 11 = (.int .i64 ((i : Int))) ∧ F_ 3 = (.slice a D.length c) ∧ (i ≤ S.length) ∧ (D = Z2z (S.take i)) ∧ Sat w [Z5 w (fun _ => False), Z1 b2 53 (([(.int .i64 (x.cl)), (.int .i64 (x.seq))] : List Value) ++ hc x.h ++ ([(.int .i64 (x.len)), (.int .i64 (x.sb)), (.int .i64 (x.sm)), (.slice sa S.length sc)] : List Value)), Zd 27 1 (.slice a D.length c) D.length (D.flatMap Z2u)] W_ ∧ m_ = S.length - i) _ ⟨0, none, 0, [], (show ((.int .i64 (0)) : Value) = _ by first | rfl | go_num), (by first | rfl | go_num), (Nat.zero_le _), rfl, H5, rfl⟩ ?_
 rintro g6 w7 _ ⟨i, a, c, D, v9, v10, hi, hD, H8, rfl⟩
 refine Zj 11 _ v9 ?_
 refine Zj 3 _ v10 ?_
 have hDl : D.length = i := by rw [hD, Z4u, List.length_take]; omega
 refine Zb ?_
 refine Zl ?_
 refine Z3 (Z0 rfl) (d := 12) (v := (.bool (decide ((i : Int) < (S.length : Int))))) rfl (by kernel_rfl) ?_
 refine Zi ?_
 refine Z4 ?_
 refine Zb ?_
 refine (ZD (decide ((i : Int) < (S.length : Int)))).elim (fun b12 => ?_) (fun b12 => ?_)
 ·have g13 := of_decide_eq_true b12
  refine Zj 12 (.bool true) (congrArg Value.bool b12) ?_
  have g14 := of_decide_eq_true b12
  refine Z0p rfl ?_
  refine ZZ ?_
  refine Z4 ?_
  refine Zb ?_
  refine ZO ?_
  refine Zb ?_
  refine Zl ?_
  obtain ⟨g15, o16, c17, e18, R19⟩ := SliceOf.atD hS Zf (show i < S.length by omega)
  refine Z3 (Z0 rfl) (d := 13) (v := (.pointer (some ⟨g15, o16 + ((i : Int)).toNat * 38, none⟩))) rfl (Z0j (E := 101) (by kernel_rfl) (by kernel_rfl) (Nat.le_of_ble_eq_true rfl) rfl e18 rfl (by omega) (by omega)) ?_
  refine Z3 (Z0 rfl) (d := 14) (v := (.agg ⟨(([(.int .i64 ((S.getD i Zf).r)), (.int .i64 ((S.getD i Zf).cl)), (.int .i64 ((S.getD i Zf).seq))] : List Value) ++ hc (S.getD i Zf).h ++ ([(.int .u64 ((S.getD i Zf).t)), (.int .i64 ((S.getD i Zf).sb)), (.int .i64 ((S.getD i Zf).sm))] : List Value))⟩)) rfl (Z1C (vs := (([(.int .i64 ((S.getD i Zf).r)), (.int .i64 ((S.getD i Zf).cl)), (.int .i64 ((S.getD i Zf).seq))] : List Value) ++ hc (S.getD i Zf).h ++ ([(.int .u64 ((S.getD i Zf).t)), (.int .i64 ((S.getD i Zf).sb)), (.int .i64 ((S.getD i Zf).sm))] : List Value))) rfl (by kernel_rfl) (by kernel_rfl) (Nat.le_of_ble_eq_true (by kernel_rfl)) (H8.runR 0 rfl (Z2s R19 0 (by kernel_rfl) (show o16 + ((i : Int)).toNat * 38 = o16 + i * 38 + 0 by omega)) (fun h => h))) ?_
  refine ZQ (Z0 rfl) (fun K20 hK20 => ?_)
  refine Z19 (zs := (([(.int .i64 (0)), (.int .i64 (0)), (.int .i64 (0))] : List Value) ++ hc Zt ++ ([(.int .u64 (0)), (.int .i64 (0)), (.int .i64 (0))] : List Value))) (z := (.agg ⟨(([(.int .i64 (0)), (.int .i64 (0)), (.int .i64 (0))] : List Value) ++ hc Zt ++ ([(.int .u64 (0)), (.int .i64 (0)), (.int .i64 (0))] : List Value))⟩)) rfl H8 (by kernel_rfl) (by kernel_rfl) ?_
  intro b21 w22 (H23 : Sat w [Z5 w (fun _ => False), Z1 b2 53 (([(.int .i64 (x.cl)), (.int .i64 (x.seq))] : List Value) ++ hc x.h ++ ([(.int .i64 (x.len)), (.int .i64 (x.sb)), (.int .i64 (x.sm)), (.slice sa S.length sc)] : List Value)), Zd 27 1 (.slice a D.length c) D.length (D.flatMap Z2u), Z1 b21 101 (([(.int .i64 (0)), (.int .i64 (0)), (.int .i64 (0))] : List Value) ++ hc Zt ++ ([(.int .u64 (0)), (.int .i64 (0)), (.int .i64 (0))] : List Value))] w22)
  refine hK20 _ _ ?_
  clear hK20 K20
  refine ZQ (Z0 rfl) (fun K24 hK24 => ?_)
  refine Z0q (vs := (([(.int .i64 ((S.getD i Zf).r)), (.int .i64 ((S.getD i Zf).cl)), (.int .i64 ((S.getD i Zf).seq))] : List Value) ++ hc (S.getD i Zf).h ++ ([(.int .u64 ((S.getD i Zf).t)), (.int .i64 ((S.getD i Zf).sb)), (.int .i64 ((S.getD i Zf).sm))] : List Value))) (cs' := (([(.int .i64 ((S.getD i Zf).r)), (.int .i64 ((S.getD i Zf).cl)), (.int .i64 ((S.getD i Zf).seq))] : List Value) ++ hc (S.getD i Zf).h ++ ([(.int .u64 ((S.getD i Zf).t)), (.int .i64 ((S.getD i Zf).sb)), (.int .i64 ((S.getD i Zf).sm))] : List Value))) rfl H23 3 rfl rfl rfl rfl (by kernel_rfl) (Nat.le_of_ble_eq_true (by kernel_rfl)) (Nat.le_of_ble_eq_true (by kernel_rfl)) (by kernel_rfl) (by kernel_rfl) ?_
  intro w25 (H26 : Sat w [Z5 w (fun _ => False), Z1 b2 53 (([(.int .i64 (x.cl)), (.int .i64 (x.seq))] : List Value) ++ hc x.h ++ ([(.int .i64 (x.len)), (.int .i64 (x.sb)), (.int .i64 (x.sm)), (.slice sa S.length sc)] : List Value)), Zd 27 1 (.slice a D.length c) D.length (D.flatMap Z2u), Z1 b21 101 (([(.int .i64 ((S.getD i Zf).r)), (.int .i64 ((S.getD i Zf).cl)), (.int .i64 ((S.getD i Zf).seq))] : List Value) ++ hc (S.getD i Zf).h ++ ([(.int .u64 ((S.getD i Zf).t)), (.int .i64 ((S.getD i Zf).sb)), (.int .i64 ((S.getD i Zf).sm))] : List Value))] w25)
  refine hK24 _ _ ?_
  clear hK24 K24
  refine Zi ?_
  refine Z4 ?_
  refine Zl ?_
  refine Z3 (Z0 rfl) (d := 15) (v := (.slice a D.length c)) rfl (by kernel_rfl) ?_
  refine Z3 (Z0 rfl) (d := 16) (v := (.pointer (some ⟨b21, 35, none⟩))) rfl (by kernel_rfl) ?_
  refine Z3 (Z0 rfl) (d := 17) (v := (.int .u64 ((S.getD i Zf).t))) rfl (Za rfl (by kernel_rfl) (H26.cell 3 rfl (by kernel_rfl))) ?_
  refine ZQ (Z0 rfl) (fun K28 hK28 => ?_)
  refine Z05 (e := 27) (size := 1) (bytes := 8) (z := (.int .u64 (0))) (pvs := [(0, (.int .u64 ((S.getD i Zf).t)))]) (vs := ([(.int .u64 ((S.getD i Zf).t))] : List Value)) rfl H26 (by kernel_rfl) (by kernel_rfl) (by kernel_rfl) (by kernel_rfl) (by kernel_rfl) rfl rfl ?_
  intro b29 w30 (H31 : Sat w [Z5 w (fun _ => False), Z1 b2 53 (([(.int .i64 (x.cl)), (.int .i64 (x.seq))] : List Value) ++ hc x.h ++ ([(.int .i64 (x.len)), (.int .i64 (x.sb)), (.int .i64 (x.sm)), (.slice sa S.length sc)] : List Value)), Zd 27 1 (.slice a D.length c) D.length (D.flatMap Z2u), Z1 b21 101 (([(.int .i64 ((S.getD i Zf).r)), (.int .i64 ((S.getD i Zf).cl)), (.int .i64 ((S.getD i Zf).seq))] : List Value) ++ hc (S.getD i Zf).h ++ ([(.int .u64 ((S.getD i Zf).t)), (.int .i64 ((S.getD i Zf).sb)), (.int .i64 ((S.getD i Zf).sm))] : List Value)), Zd 27 1 (.slice (some ⟨b29, 0, none⟩) 1 1) 1 ([(.int .u64 ((S.getD i Zf).t))] : List Value)] w30)
  have H32 : Sat w [Z5 w (fun _ => False), Z1 b2 53 (([(.int .i64 (x.cl)), (.int .i64 (x.seq))] : List Value) ++ hc x.h ++ ([(.int .i64 (x.len)), (.int .i64 (x.sb)), (.int .i64 (x.sm)), (.slice sa S.length sc)] : List Value)), Zd 27 1 (.slice a D.length c) D.length (D.flatMap Z2u), Z1 b21 101 (([(.int .i64 ((S.getD i Zf).r)), (.int .i64 ((S.getD i Zf).cl)), (.int .i64 ((S.getD i Zf).seq))] : List Value) ++ hc (S.getD i Zf).h ++ ([(.int .u64 ((S.getD i Zf).t)), (.int .i64 ((S.getD i Zf).sb)), (.int .i64 ((S.getD i Zf).sm))] : List Value)), Zd 27 1 (.slice (some ⟨b29, 0, none⟩) 1 1) 1 ([(S.getD i Zf).t].flatMap Z2u)] w30 := H31.cast (by rw [show (([(.int .u64 ((S.getD i Zf).t))] : List Value) : List Value) = [(S.getD i Zf).t].flatMap Z2u from rfl])
  refine hK28 _ _ ?_
  clear hK28 K28
  refine ZQ (Z0 rfl) (fun K33 hK33 => ?_)
  refine Z17 (T := 48) (e := 27) (size := 1) (bytes := 8) rfl H32 (by kernel_rfl) 2 4 rfl rfl rfl rfl (Z0Z Z2u Z8C [(S.getD i Zf).t]) (by omega) (by omega) ?_
  intro v34 w35 (H36 : Sat w [Z5 w (fun _ => False), Z1 b2 53 (([(.int .i64 (x.cl)), (.int .i64 (x.seq))] : List Value) ++ hc x.h ++ ([(.int .i64 (x.len)), (.int .i64 (x.sb)), (.int .i64 (x.sm)), (.slice sa S.length sc)] : List Value)), Zd 27 1 v34 (D.length + 1) ((D.flatMap Z2u) ++ ([(S.getD i Zf).t].flatMap Z2u)), Z1 b21 101 (([(.int .i64 ((S.getD i Zf).r)), (.int .i64 ((S.getD i Zf).cl)), (.int .i64 ((S.getD i Zf).seq))] : List Value) ++ hc (S.getD i Zf).h ++ ([(.int .u64 ((S.getD i Zf).t)), (.int .i64 ((S.getD i Zf).sb)), (.int .i64 ((S.getD i Zf).sm))] : List Value)), Zd 27 1 (.slice (some ⟨b29, 0, none⟩) 1 1) 1 ([(S.getD i Zf).t].flatMap Z2u)] w35)
  have H39 : Sat w [Z5 w (fun _ => False), Z1 b2 53 (([(.int .i64 (x.cl)), (.int .i64 (x.seq))] : List Value) ++ hc x.h ++ ([(.int .i64 (x.len)), (.int .i64 (x.sb)), (.int .i64 (x.sm)), (.slice sa S.length sc)] : List Value)), Zd 27 1 v34 ((D ++ [(S.getD i Zf).t]).length) ((D ++ [(S.getD i Zf).t]).flatMap Z2u), Z1 b21 101 (([(.int .i64 ((S.getD i Zf).r)), (.int .i64 ((S.getD i Zf).cl)), (.int .i64 ((S.getD i Zf).seq))] : List Value) ++ hc (S.getD i Zf).h ++ ([(.int .u64 ((S.getD i Zf).t)), (.int .i64 ((S.getD i Zf).sb)), (.int .i64 ((S.getD i Zf).sm))] : List Value)), Zd 27 1 (.slice (some ⟨b29, 0, none⟩) 1 1) 1 ([(S.getD i Zf).t].flatMap Z2u)] w35 := H36.cast (by simp only [List.length_append, List.flatMap_append] <;> rfl)
  obtain ⟨a37, c38, rfl⟩ := Z9 (H39.at 2 rfl)
  refine hK33 _ _ ?_
  clear hK33 K33
  refine Z3 (Z0 rfl) (d := 3) (v := (.slice a37 ((D ++ [(S.getD i Zf).t]).length) c38)) rfl (by kernel_rfl) ?_
  refine Zi ?_
  refine ZE ?_
  refine Z4 ?_
  refine Zl ?_
  refine Z3 (Z0 rfl) (d := 20) (v := (.int .i64 ((i : Int) + 1))) rfl (Z0l (z := (i : Int) + 1) (by kernel_rfl) (IntWalk.i64_in _ (by omega))) ?_
  refine Z3 (Z0 rfl) (d := 11) (v := (.int .i64 ((i : Int) + 1))) rfl (by kernel_rfl) ?_
  refine Zi ?_
  have hDl : D.length = i := by rw [hD, Z4u, List.length_take]; omega
  have H40 : Sat w [Z5 w (fun _ => False), Z1 b2 53 (([(.int .i64 (x.cl)), (.int .i64 (x.seq))] : List Value) ++ hc x.h ++ ([(.int .i64 (x.len)), (.int .i64 (x.sb)), (.int .i64 (x.sm)), (.slice sa S.length sc)] : List Value)), Zd 27 1 (.slice a37 ((D ++ [(S.getD i Zf).t]).length) c38) ((D ++ [(S.getD i Zf).t]).length) ((D ++ [(S.getD i Zf).t]).flatMap Z2u)] w35 := H39.pick [0, 1, 2] (by decide)
  refine ZH ?_ _ ⟨(i + 1), a37, c38, (D ++ [(S.getD i Zf).t]), (show ((.int .i64 ((i : Int) + 1)) : Value) = _ by first | rfl | go_num), (show ((.slice a37 ((D ++ [(S.getD i Zf).t]).length) c38) : Value) = _ by first | rfl | go_num), (by omega), (by rw [hD, Z7j S (by omega)]), H40, rfl⟩ (by omega)
  exact (Z2 rfl (Z2 rfl (Z2 rfl (Z2 rfl (Z2 rfl (Z2 rfl (Z2 rfl (Z2 rfl (Z2 rfl (Z2 rfl (Z2 rfl (Z2 rfl (Z2 rfl (Z2 rfl (Z2 rfl (Z0S))))))))))))))))
 ·have g41 := of_decide_eq_false b12
  refine Zj 12 (.bool false) (congrArg Value.bool b12) ?_
  have g42 := of_decide_eq_false b12
  refine Z0r rfl ?_
  refine Z2i ?_
  refine Z0Y ?_
  refine Z10 ?_
  refine Z1u ?_
  refine Z4 ?_
  refine Zb ?_
  refine Zl ?_
  refine Z3 (Z0 rfl) (d := 22) (v := (.slice a D.length c)) rfl (by kernel_rfl) ?_
  refine ZQ (Z0 rfl) (fun K43 hK43 => ?_)
  refine ZX (d := 23) rfl (by kernel_rfl) (Z8B w7 (.slice a D.length c) D (ListAt.row (enc := Z2u) (sz := 1) Z1U (by decide) (H8.at 2 rfl)) (by omega)) ?_
  rintro _ w44 ⟨rfl, u46⟩
  have H45 := H8.keepU u46
  refine ⟨_, rfl, ?_⟩
  refine hK43 _ _ ?_
  clear hK43 K43
  refine Z3 (Z0 rfl) (d := 21) (v := (.tuple #[(.int .u64 (Z5B D)), (.bool (decide (D.length % 2 = 1)))])) rfl (by kernel_rfl) ?_
  refine Z3 (Z0 rfl) (d := 24) (v := (.int .u64 (Z5B D))) rfl (by kernel_rfl) ?_
  refine Z3 (Z0 rfl) (d := 25) (v := (.bool (decide (D.length % 2 = 1)))) rfl (by kernel_rfl) ?_
  refine Z3 (Z0 rfl) (d := 6) (v := (.int .u64 (Z5B D))) rfl (by kernel_rfl) ?_
  refine Z3 (Z0 rfl) (d := 7) (v := (.bool (decide (D.length % 2 = 1)))) rfl (by kernel_rfl) ?_
  refine Zi ?_
  refine Z4 ?_
  refine Zb ?_
  refine Zl ?_
  refine Z3 (Z0 rfl) (d := 26) (v := (.int .u64 (Z5B D))) rfl (by kernel_rfl) ?_
  refine Z3 (Z0 rfl) (d := 2) (v := (.int .u64 (Z5B D))) rfl (by kernel_rfl) ?_
  refine Zi ?_
  refine Z4 ?_
  refine ZY ?_
  refine Z1i rfl (ZJ (v := (.int .u64 (Z5B D))) rfl) ?_
  have hT : D = Z2z S := by rw [hD, List.take_of_length_le (by omega)]
  exact ⟨by unfold Z8; rw [← hT], H45.upd 0 rfl [] (fun _ h => h.elim)⟩
section
variable {κ ν : Type} [DecidableEq κ] {encK : κ → Value} {encV : ν → Value} {P : Program} {k : TypeId} {w : World} {b : Nat} {l : List (κ × ν)}
end
section
variable {P : Program} {Q : Exit → Act → World → Prop} {n : Nat} {f : Nat → Value} {w0 w : World} {G : List Ck} {dst : Option Tmp} {ty : TypeId} {pos : String} {aft : Array Edge} {gd : Option (Nat × Bool)} {K' : Act → World → Prop}
end
structure CeR where
 x : Zk
 sa : Option Addr
 sc : Nat
 S : List Ze
def Z01 (c : CeR) : List Value := Z6d c.x ++ [.slice c.sa c.S.length c.sc]
theorem Z2E (c : CeR) : (Z01 c).length = 38 := by simp [Z01, Z6d, hc_len]
theorem Z60 (c : CeR) : (Z01 c).all (·.oneCell') = true := by
 simp only [Z01, Z6d, List.all_append, Z7g]
 simp [Value.oneCell', Z3Q]
def ce0 : CeR := ⟨⟨0, 0, Zt, 0, 0, 0⟩, none, 0, []⟩
structure PrR where
 r : Int
 e : Int
 f : Int
 ca : Option Addr
 cc : Nat
 sb : Int
 sm : Int
 C : List CeR
def encPr (p : PrR) : List Value := [.int .i64 p.r, .int .i64 p.e, .int .u64 p.f, .slice p.ca p.C.length p.cc, .int .i64 p.sb, .int .i64 p.sm]
def pr0 : PrR := ⟨0, 0, 0, none, 0, 0, 0, []⟩
def CeOk (w : World) (c : CeR) : Prop := ListAt Z0o 38 w (.slice c.sa c.S.length c.sc) c.S
def PrOk (w : World) (p : PrR) : Prop := ListAt Z01 38 w (.slice p.ca p.C.length p.cc) p.C ∧ ∀ c ∈ p.C, CeOk w c
end Go.Proofs.YtoaifondpohniaaGreat
