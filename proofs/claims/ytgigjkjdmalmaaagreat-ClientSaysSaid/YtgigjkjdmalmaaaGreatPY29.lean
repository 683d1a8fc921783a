/- WHAT IS PROVED: contracts and plain laws of NumsS, Rg1s. Conditions: stated with each. -/
import Derived.Test.YtgigjkjdmalmaaaGreatPY05
import Derived.Test.YtgigjkjdmalmaaaGreatPY06
import Derived.Test.YtgigjkjdmalmaaaGreatPY07
import Derived.Test.YtgigjkjdmalmaaaGreatPY10
import Derived.Test.YtgigjkjdmalmaaaGreatPY15
import Derived.Test.YtgigjkjdmalmaaaGreatPY20
import Derived.Test.YtgigjkjdmalmaaaGreatPY27
import Derived.Test.YtgigjkjdmalmaaaGreatPY28
set_option maxHeartbeats 4000000
set_option maxRecDepth 100000
namespace Go.Proofs.YtgigjkjdmalmaaaGreat
open Go.RowKit
theorem Z6L {w w' : World} {b T : Nat} {v : Value} (h : (Z7 w fun _ => False).ok w') (hb : (Z3 b T [v]).ok w) : (Z3 b T [v]).ok w' := (h b (Z0J hb) (fun h => h)).trans hb
theorem Z75 (w : World) (va : Option Addr) (vn vc : Nat) :
  Calls Tryz.prog 106 #[(.slice va vn vc)] w fun e w' => ∃ b, e = .returned (.func (.func 137) #[] #[.pointer (some ⟨b, 0, none⟩)]) ∧ (Z3 b 23 [(.slice va vn vc)]).ok w' ∧ Upd [] w w' ∧ w.heap.size ≤ b := by
 have H := Sat.start0 w
 refine Zg Tryz.func106 rfl 4 rfl (Nat.le_of_ble_eq_true rfl) ?_
 refine Zf ?_
 refine Zt ?_
 refine Z0B (Z5 rfl) (fun K1 hK1 => ?_)
 refine Z2R (vs := ([(.slice va vn vc)] : List Value)) rfl H rfl rfl ?_
 intro b2 w3 (H4 : Sat w [Z7 w (fun _ => False), Z3 b2 23 ([(.slice va vn vc)] : List Value)] w3)
 refine hK1 _ _ ?_
 clear hK1 K1
 refine Z6 (Z5 rfl) (d := 2) (v := (Go.Value.nilFunc)) rfl (by kernel_rfl) ?_
 refine Zu ?_
 refine Zb ?_
 refine Zf ?_
 refine Zt ?_
 refine Z6 (Z5 rfl) (d := 3) (v := (.func (.func 137) #[] #[(.pointer (some ⟨b2, 0, none⟩))])) rfl (by kernel_rfl) ?_
 refine Z6 (Z5 rfl) (d := 2) (v := (.func (.func 137) #[] #[(.pointer (some ⟨b2, 0, none⟩))])) rfl (by kernel_rfl) ?_
 refine Zu ?_
 refine Zb ?_
 refine Zz ?_
 refine Z1x rfl (Z0c (v := (.func (.func 137) #[] #[(.pointer (some ⟨b2, 0, none⟩))])) rfl) ?_
 exact ⟨b2, rfl, H4.at 1 rfl, H4.upd 0 rfl [] (fun _ h => h.elim), H4.fresh 0 rfl (fun _ h => h) 1 rfl rfl b2 rfl⟩
theorem Z7I (w : World) (v : Value) (hv : ∃ a n c, v = .slice a n c) : Calls Tryz.prog 106 #[v] w fun e w' => ∃ b, e = .returned (.func (.func 137) #[] #[.pointer (some ⟨b, 0, none⟩)]) ∧ (Z3 b 23 [v]).ok w' ∧ Upd [] w w' ∧ w.heap.size ≤ b := by
 obtain ⟨a, n, c, rfl⟩ := hv
 exact Z75 w a n c
theorem Z6y (w : World) (b : Nat) (v : Value) (xs : List Int) (hb : (Z3 b 23 [v]).ok w) (hv : ListAt Z3D 1 w v xs) (hx : xs.length ≤ 12) :
  Calls Tryz.prog 135 #[(.func (.func 137) #[] #[(.pointer (some ⟨b, 0, none⟩))])] w fun e w' => ∃ u, e = .returned u ∧ (Zc 45 1 u xs.length (xs.flatMap Z3D)).ok w' ∧ Upd [] w w' ∧ ∀ b, u.ownBlock = some b → w.heap.size ≤ b := by
 have H := Sat.start0 w
 refine Zg Tryz.func135 rfl 5 rfl (Nat.le_of_ble_eq_true rfl) ?_
 refine Zf ?_
 refine Zt ?_
 refine Z6 (Z5 rfl) (d := 2) (v := (.slice none 0 0)) rfl (by kernel_rfl) ?_
 refine Zu ?_
 refine Zb ?_
 refine Zf ?_
 refine Zt ?_
 refine Z6 (Z5 rfl) (d := 3) (v := (.func (.func 137) #[] #[(.pointer (some ⟨b, 0, none⟩))])) rfl (by kernel_rfl) ?_
 refine Z0B (Z5 rfl) (fun K1 hK1 => ?_)
 refine Z0L (d := 4) rfl (by kernel_rfl) (Z4H w b v xs ((Z6L (H.at 0 rfl) hb)) (ListAt.now H 0 rfl hv) (by omega)) ?_
 rintro _ w2 ⟨u3, rfl, k4, p5, q6⟩
 have H7 : Sat w [Z7 w (fun _ => False), Zc 45 1 u3 xs.length (xs.flatMap Z3D)] w2 := H.addU p5 k4 q6
 obtain ⟨a8, c9, rfl⟩ := Ze (H7.at 1 rfl)
 refine ⟨_, rfl, ?_⟩
 refine hK1 _ _ ?_
 clear hK1 K1
 refine Z6 (Z5 rfl) (d := 2) (v := (.slice a8 xs.length c9)) rfl (by kernel_rfl) ?_
 refine Zu ?_
 refine Zb ?_
 refine Zz ?_
 refine Z1x rfl (Z0c (v := (.slice a8 xs.length c9)) rfl) ?_
 exact ⟨_, rfl, H7.at 1 rfl, H7.upd 0 rfl [] (fun _ h => h.elim), H7.fresh 0 rfl (fun _ h => h) 1 rfl rfl⟩
theorem Z7G (w : World) (b : Nat) (v : Value) (xs : List Int) (hb : (Z3 b 23 [v]).ok w) (hv : ListAt Z3D 1 w v xs) (hx : xs.length ≤ 12) (h0 : 0 < xs.length) :
  Calls Tryz.prog 105 #[(.func (.func 137) #[] #[(.pointer (some ⟨b, 0, none⟩))])] w fun e w' => ∃ u B, e = .returned u ∧ (Zc 45 1 u B.length (B.flatMap Z3D)).ok w' ∧ Upd [] w w' ∧ (∀ k, u.ownBlock = some k → w.heap.size ≤ k) ∧ B.Perm xs ∧ Srt ltU 0 B.length B := by
 have H := Sat.start0 w
 refine Zg Tryz.func105 rfl 9 rfl (Nat.le_of_ble_eq_true rfl) ?_
 refine Zf ?_
 refine Zt ?_
 refine Z6 (Z5 rfl) (d := 2) (v := (.slice none 0 0)) rfl (by kernel_rfl) ?_
 refine Zu ?_
 refine Zb ?_
 refine Zf ?_
 refine Zt ?_
 refine Z6 (Z5 rfl) (d := 4) (v := (.func (.func 137) #[] #[(.pointer (some ⟨b, 0, none⟩))])) rfl (by kernel_rfl) ?_
 refine Z0B (Z5 rfl) (fun K1 hK1 => ?_)
 refine Z0L (d := 5) rfl (by kernel_rfl) (Z6y w b v xs (Z6L (H.at 0 rfl) hb) (ListAt.now H 0 rfl hv) (by omega)) ?_
 rintro _ w2 ⟨u3, rfl, k4, p5, q6⟩
 have H7 : Sat w [Z7 w (fun _ => False), Zc 45 1 u3 xs.length (xs.flatMap Z3D)] w2 := H.addU p5 k4 q6
 obtain ⟨a8, c9, rfl⟩ := Ze (H7.at 1 rfl)
 refine ⟨_, rfl, ?_⟩
 refine hK1 _ _ ?_
 clear hK1 K1
 refine Z6 (Z5 rfl) (d := 3) (v := (.slice a8 xs.length c9)) rfl (by kernel_rfl) ?_
 refine Zu ?_
 refine Zb ?_
 refine Zf ?_
 obtain ⟨g10, c11, e12⟩ := Z18 (H7.at 1 rfl) (by omega)
 obtain rfl : a8 = some ⟨g10, 0, none⟩ := by cases e12; rfl
 have H13 : Sat w [Z7 w (fun _ => False), Z1U g10 xs.length c9 xs] w2 := H7
 refine Zt ?_
 refine Z6 (Z5 rfl) (d := 6) (v := (.slice (some ⟨g10, 0, none⟩) xs.length c9)) rfl (by kernel_rfl) ?_
 refine Z0B (Z5 rfl) (fun K14 hK14 => ?_)
 refine Z0L (d := 7) rfl (by kernel_rfl) (Z8F w2 g10 xs.length c9 xs (H13.at 1 rfl) (by omega)) ?_
 rintro _ w16 ⟨B15, rfl, l17, p18, s19, T20⟩
 have H21 : Sat w [Z7 w (fun _ => False), Z1U g10 xs.length c9 B15] w16 := (Sat.turn1 (L' := [Z1U g10 xs.length c9 B15]) (R := [Z7 w (fun _ => False)]) H13 1 [0] (by decide) rfl rfl T20).pick [1, 0] (by decide)
 refine ⟨_, rfl, ?_⟩
 refine hK14 _ _ ?_
 clear hK14 K14
 refine Zu ?_
 refine Zb ?_
 refine Zf ?_
 refine Zt ?_
 refine Z6 (Z5 rfl) (d := 8) (v := (.slice (some ⟨g10, 0, none⟩) xs.length c9)) rfl (by kernel_rfl) ?_
 refine Z6 (Z5 rfl) (d := 2) (v := (.slice (some ⟨g10, 0, none⟩) xs.length c9)) rfl (by kernel_rfl) ?_
 refine Zu ?_
 refine Zb ?_
 refine Zz ?_
 refine Z1x rfl (Z0c (v := (.slice (some ⟨g10, 0, none⟩) xs.length c9)) rfl) ?_
 exact ⟨_, B15, rfl, (by have q := H21.at 1 rfl; have e : (xs.length : Nat) = B15.length := l17.symm; unfold Z1U at q; rw [e] at q ⊢; exact q), H21.upd 0 rfl [] (fun _ h => h.elim), H21.fresh 0 rfl (fun _ h => h) 1 rfl rfl, p18, s19⟩
theorem Z9O (w : World) (va : Option Addr) (vc : Nat) (xs : List Int) (hxs : ListAt Z3D 1 w (.slice va xs.length vc) xs) (hx : xs.length ≤ 12) :
  Calls Tryz.prog 86 #[(.slice va xs.length vc)] w fun e w' => e = .returned (.tuple #[.int .u64 (Z6R xs), .bool (decide (xs.length % 2 = 1))]) ∧ Upd [] w w' := by
 have H := Sat.start0 w
 refine Zg Tryz.func86 rfl 18 rfl (Nat.le_of_ble_eq_true rfl) ?_
 refine Zf ?_
 refine Zt ?_
 refine Z6 (Z5 rfl) (d := 2) (v := (.int .u64 (0))) rfl (by kernel_rfl) ?_
 refine Z6 (Z5 rfl) (d := 3) (v := (.bool false)) rfl (by kernel_rfl) ?_
 refine Zu ?_
 refine Zb ?_
 refine Zf ?_
 refine Zf ?_
 refine Zt ?_
 refine Z6 (Z5 rfl) (d := 5) (v := (.slice va xs.length vc)) rfl (by kernel_rfl) ?_
 refine Z6 (Z5 rfl) (d := 6) (v := (.int .i64 ((xs.length : Int)))) rfl (by kernel_rfl) ?_
 refine Z6 (Z5 rfl) (d := 7) (v := (.int .i64 ((xs.length : Int) % 2))) rfl (e_rem (by kernel_rfl) (by omega) (by omega)) ?_
 refine Z6 (Z5 rfl) (d := 8) (v := (.bool (decide (((xs.length : Int) % 2) = 0)))) rfl (by kernel_rfl) ?_
 refine Zu ?_
 refine Zb ?_
 refine (ZC (decide (((xs.length : Int) % 2) = 0))).elim (fun b1 => ?_) (fun b1 => ?_)
 ·have g2 := of_decide_eq_true b1
  refine Zo 8 (.bool true) (congrArg Value.bool b1) ?_
  have g3 := of_decide_eq_true b1
  refine Z0R rfl ?_
  refine Zf ?_
  refine Zt ?_
  refine Z6 (Z5 rfl) (d := 2) (v := (.int .u64 (0))) rfl (by kernel_rfl) ?_
  refine Z6 (Z5 rfl) (d := 3) (v := (.bool false)) rfl (by kernel_rfl) ?_
  refine Zu ?_
  refine Zb ?_
  refine Zz ?_
  refine ZY ?_
  refine end2 rfl (Z0c (v := (.int .u64 (0))) rfl) (Z0c (v := (.bool false)) rfl) ?_
  exact ⟨by rw [Z4r (by omega), decide_eq_false (show ¬ xs.length % 2 = 1 by omega)], H.upd 0 rfl [] (fun _ h => h.elim)⟩
 ·have g4 := of_decide_eq_false b1
  refine Zo 8 (.bool false) (congrArg Value.bool b1) ?_
  have g5 := of_decide_eq_false b1
  refine Z0y rfl ?_
  refine ZF ?_
  refine Zb ?_
  refine Zf ?_
  refine Zt ?_
  refine Z6 (Z5 rfl) (d := 9) (v := (.slice va xs.length vc)) rfl (by kernel_rfl) ?_
  refine Z0B (Z5 rfl) (fun K6 hK6 => ?_)
  refine Z0L (d := 10) rfl (by kernel_rfl) (Z7I w (.slice va xs.length vc) ⟨_, _, _, rfl⟩) ?_
  rintro _ w8 ⟨b7, rfl, k9, p10, q11⟩
  have H12 : Sat w [Z7 w (fun _ => False), Z3 b7 23 ([(.slice va xs.length vc)] : List Value)] w8 := H.addU p10 k9 (fun _ h => h ▸ q11)
  refine ⟨_, rfl, ?_⟩
  refine hK6 _ _ ?_
  clear hK6 K6
  refine Z0B (Z5 rfl) (fun K13 hK13 => ?_)
  refine Z0L (d := 11) rfl (by kernel_rfl) (Z7G w8 b7 (.slice va xs.length vc) xs (H12.at 1 rfl) (ListAt.now H12 0 rfl hxs) (by omega) (by omega)) ?_
  rintro _ w14 ⟨u15, B19, rfl, k16, p17, q18, p20, s21⟩
  have H22 : Sat w [Z7 w (fun _ => False), Z3 b7 23 ([(.slice va xs.length vc)] : List Value), Zc 45 1 u15 B19.length (B19.flatMap Z3D)] w14 := H12.addU p17 k16 q18
  obtain ⟨a23, c24, rfl⟩ := Ze (H22.at 2 rfl)
  refine ⟨_, rfl, ?_⟩
  have hlB19 : B19.length = xs.length := p20.length_eq
  refine hK13 _ _ ?_
  clear hK13 K13
  refine Z6 (Z5 rfl) (d := 4) (v := (.slice a23 B19.length c24)) rfl (by kernel_rfl) ?_
  refine Zu ?_
  refine Zb ?_
  refine Zf ?_
  refine Zt ?_
  refine Z6 (Z5 rfl) (d := 12) (v := (.slice a23 B19.length c24)) rfl (by kernel_rfl) ?_
  refine Z6 (Z5 rfl) (d := 13) (v := (.slice a23 B19.length c24)) rfl (by kernel_rfl) ?_
  refine Z6 (Z5 rfl) (d := 14) (v := (.int .i64 ((B19.length : Int)))) rfl (by kernel_rfl) ?_
  refine Z6 (Z5 rfl) (d := 15) (v := (.int .i64 ((B19.length : Int) / 2))) rfl (e_quo (by kernel_rfl) (by omega) (by omega) (IntWalk.i64_in _ (by omega))) ?_
  obtain ⟨g25, c26, e27⟩ := Z18 (H22.at 2 rfl) (by omega)
  obtain ⟨x28, h29⟩ := Z4X (show ((B19.length : Int) / 2).toNat < B19.length by omega)
  refine Z6 (Z5 rfl) (d := 16) (v := (.pointer (some ⟨g25, 0 + ((B19.length : Int) / 2).toNat * 1, none⟩))) rfl (Z1R (E := 45) (by kernel_rfl) (by kernel_rfl) (Nat.le_of_ble_eq_true rfl) rfl e27 rfl (by omega) (by omega)) ?_
  refine Z6 (Z5 rfl) (d := 17) (v := (.int .u64 (x28))) rfl (Zi rfl (by kernel_rfl) (ZS (H22.at 2 rfl) e27 Z2C h29 0 rfl (show 0 + ((B19.length : Int) / 2).toNat * 1 = ((B19.length : Int) / 2).toNat * 1 + 0 by omega) (by kernel_rfl))) ?_
  refine Z6 (Z5 rfl) (d := 2) (v := (.int .u64 (x28))) rfl (by kernel_rfl) ?_
  refine Z6 (Z5 rfl) (d := 3) (v := (.bool true)) rfl (by kernel_rfl) ?_
  refine Zu ?_
  refine Zb ?_
  refine Zz ?_
  refine end2 rfl (Z0c (v := (.int .u64 (x28))) rfl) (Z0c (v := (.bool true)) rfl) ?_
  have hm : Z6R xs = x28 := (Z9Q p20).symm.trans (Z9P (by omega) (srt_le s21 (by rw [show B19.length / 2 = ((B19.length : Int) / 2).toNat by omega]; exact h29)))
  exact ⟨by rw [hm, decide_eq_true (show xs.length % 2 = 1 by omega)], H22.upd 0 rfl [] (fun _ h => h.elim)⟩
theorem ZaR (w : World) (v : Value) (xs : List Int) (hxs : ListAt Z3D 1 w v xs) (hx : xs.length ≤ 12) : Calls Tryz.prog 86 #[v] w fun e w' => e = .returned (.tuple #[.int .u64 (Z6R xs), .bool (decide (xs.length % 2 = 1))]) ∧ Upd [] w w' := by
 obtain ⟨a, c, rfl⟩ := hxs.len
 exact Z9O w a c xs hxs hx
abbrev Z2V (p0 : Int) (p1 : Int) : List Value := ([(.int .i64 p0), (.int .i64 p1)] : List Value)
abbrev Z5V (p0 : Zk) : List Value := ([(.int .i64 p0.r), (.int .i64 p0.cl), (.int .i64 p0.seq)] : List Value) ++ hc p0.h ++ ([(.int .u64 p0.t), (.int .i64 p0.sb), (.int .i64 p0.sm)] : List Value)
theorem Z3Q (w : World) (b mb : Nat) (L : List Z4) (hb : (Z3 b 108 [.map (some mb)]).ok w) (hm : MapAt w mb ZK (Value.int .i64) (ZU L)) (ta : Option Addr) (tc : Nat) (tx : List UInt8) (ht : ListAt ZH 1 w (.slice ta tx.length tc) tx) (p m : Int) :
  Calls Tryz.prog 76 #[(.pointer (some ⟨b, 0, none⟩)), (.agg ⟨([(.int .i64 (p)), (.int .i64 (m))] : List Value)⟩), (.slice ta tx.length tc)] w fun e w' => e = .returned (.bool (Z2w L p m tx)) ∧ Upd [] w w' := by
 have H := Sat.start0 w
 have hmk : (Zn (ZU L) (⟨p, tx⟩ : Z4)).getD 0 = Z9 L (⟨p, tx⟩ : Z4) := by rw [Z3v]; rfl
 refine Zg Tryz.func76 rfl 26 rfl (Nat.le_of_ble_eq_true rfl) ?_
 apply zsl
 refine zwd fun Kq kq => ?_
 refine zdb (Z2V p m) H ?_
 intro b2 w3 H4
 refine kq _ _ ?_
 clear kq Kq
 refine wv 6 (.bool false) ?_
 apply znt
 apply Zf
 refine zqs H4 ?_
 refine qv 8 (pt b 0) ?_
 refine qv 9 (pt b 0) ?_
 refine qv 10 (pt b 0) ?_
 refine qv 11 (.map (some mb)) ?_ (hr := fun _ H' => (Zi rfl (by kernel_rfl) (H'.roCell 0 rfl hb (fun h => h) rfl)))
 refine qv 12 (pt b2 0) ?_
 refine qv 13 (.int .i64 (p)) ?_ (hr := fun _ H' => (Zi rfl (by kernel_rfl) (H'.cell 1 rfl rfl)))
 refine qv 14 (.slice ta tx.length tc) ?_
 refine qv 15 (ZD tx) ?_ (hr := fun _ H' => (Z4c (e := 5) (s := tx) (by kernel_rfl) (by kernel_rfl) (by kernel_rfl) rfl (Z1H (ListAt.now H' 0 rfl ht))))
 refine Z1B (Z5 rfl) (d := 16) (v := (.agg ⟨([(.int .i64 (p)), (ZD tx)] : List Value)⟩)) rfl (fun _ H' => (by kernel_rfl)) ?_
 refine qv 17 (.int .i64 ((Zn (ZU L) (⟨p, tx⟩ : Z4)).getD 0)) ?_ (hr := fun _ H' => (Z1D (kt := 125) (et := 3) Z4x (by kernel_rfl) (fun w => by kernel_rfl) rfl (⟨p, tx⟩ : Z4) rfl (H'.roMap 0 rfl hm (fun h => h)) (Z8P (Value.int .i64) _ _)))
 refine qv 7 (.int .i64 ((Zn (ZU L) (⟨p, tx⟩ : Z4)).getD 0)) ?_
 refine Z1A ?_
 intro w5 H6
 apply ztn
 apply zsl
 refine wv 18 (.int .i64 ((Zn (ZU L) (⟨p, tx⟩ : Z4)).getD 0)) ?_
 refine wv 19 (.bool (decide (((Zn (ZU L) (⟨p, tx⟩ : Z4)).getD 0) > 0))) ?_
 refine wv 20 (.bool (decide (((Zn (ZU L) (⟨p, tx⟩ : Z4)).getD 0) > 0))) ?_
 refine (ZC (decide (((Zn (ZU L) (⟨p, tx⟩ : Z4)).getD 0) > 0))).elim (fun b7 => ?_) (fun b7 => ?_)
 ·have g8 := of_decide_eq_true b7
  refine ZP 20 (.bool true) (congrArg Value.bool b7) ?_
  refine wy 2 20 true 21 (.int .i64 ((Zn (ZU L) (⟨p, tx⟩ : Z4)).getD 0)) ?_
  refine wy 2 20 true 22 (pt b2 1) ?_
  refine wy 2 20 true 23 (.int .i64 (m)) ?_ (hr := Zi rfl (by kernel_rfl) (H6.cell 1 rfl rfl))
  refine wy 2 20 true 24 (.bool (decide (((Zn (ZU L) (⟨p, tx⟩ : Z4)).getD 0) = m))) ?_
  refine wv 25 (.bool (decide (((Zn (ZU L) (⟨p, tx⟩ : Z4)).getD 0) = m))) ?_
  refine wv 6 (.bool (decide (((Zn (ZU L) (⟨p, tx⟩ : Z4)).getD 0) = m))) ?_
  apply znt
  apply Zz
  refine ze1 (.bool (decide (((Zn (ZU L) (⟨p, tx⟩ : Z4)).getD 0) = m))) ?_
  exact ⟨by unfold Z2w; rw [← hmk]; simp [b7], H6.upd 0 rfl [] (fun _ h => h.elim)⟩
 have g10 := of_decide_eq_false b7
 refine ZP 20 (.bool false) (congrArg Value.bool b7) ?_
 iterate 4 refine wn 2 20 true ?_
 refine wv 25 (.bool false) ?_
 refine wv 6 (.bool false) ?_
 apply znt
 apply Zz
 refine ze1 (.bool false) ?_
 exact ⟨by unfold Z2w; rw [← hmk]; simp [b7], H6.upd 0 rfl [] (fun _ h => h.elim)⟩
theorem Z7K (w : World) (f cn : Int) (hf : -1099511627776 ≤ f ∧ f ≤ 1099511627776) (b mb : Nat) (L : List Z4) (hb : (Z3 b 108 [.map (some mb)]).ok w) (hm : MapAt w mb ZK (Value.int .i64) (ZU L)) (s : Zk) (hs : Z3V s) :
  Calls Tryz.prog 57 #[(.agg ⟨([(.int .i64 (f)), (.int .i64 (cn))] : List Value)⟩), (.pointer (some ⟨b, 0, none⟩)), (.agg ⟨(([(.int .i64 (s.r)), (.int .i64 (s.cl)), (.int .i64 (s.seq))] : List Value) ++ hc s.h ++ ([(.int .u64 (s.t)), (.int .i64 (s.sb)), (.int .i64 (s.sm))] : List Value))⟩)] w fun e w' => e = .returned (.bool (Z1s f L s)) ∧ Upd [] w w' := by
 have H := Sat.start0 w
 have hs2 := hs
 unfold Z3V at hs2
 refine Zg Tryz.func57 rfl 37 rfl (Nat.le_of_ble_eq_true rfl) ?_
 apply zsl
 refine zwd fun Kq kq => ?_
 refine zdb (Z2V f cn) H ?_
 intro b2 w3 H4
 refine kq _ _ ?_
 clear kq Kq
 refine zwd fun Kq kq => ?_
 refine zdb (Z5V s) H4 ?_
 intro b6 w7 H8
 refine kq _ _ ?_
 clear kq Kq
 refine wv 6 (.bool false) ?_
 apply znt
 apply Zf
 refine Z0b H8 [Z7 w (fun _ => False), Z3 b2 27 (Z2V f cn), Z3 b6 49 (Z5V s)] 31 rfl (by kernel_rfl) (fun Hx => (Hx.pk [0, 1, 2])) ?_
 intro w9 H10 S11
 refine hv0 0 S11 7 (.agg ⟨(Z2V f cn)⟩) ?_ (he := fun _ H' => (ZG (vs := (Z2V f cn)) rfl (by kernel_rfl) (by kernel_rfl) (by exact Nat.le_of_ble_eq_true (by kernel_rfl)) (H'.at 1 rfl) (by kernel_rfl)))
 refine hv0 1 S11 8 (pt b6 0) ?_
 refine hv0 2 S11 9 (.int .i64 (s.r)) ?_ (he := fun _ H' => (Zi rfl (by kernel_rfl) (H'.cell 2 rfl (by kernel_rfl))))
 refine Z0H 3 fun Kq kq => ?_
 refine zdq 10 (Z6c w9 f cn s.r (by omega)) H10 ?_
 intro w13 H14
 have S16 := H14.pk [0, 1, 2]
 refine kq _ _ S16 ?_
 clear kq Kq
 refine hv0 4 S16 11 (.bool (inB f s.r)) ?_
 refine (ZC (inB f s.r)).elim (fun b17 => ?_) (fun b17 => ?_)
 ·refine Z24 11 (.bool true) (congrArg Value.bool b17) ?_
  refine Z2z 5 S16 4 11 true 12 (pt b6 35) ?_
  refine Z2z 6 S16 4 11 true 13 (.int .u64 (s.t)) ?_ (he := fun _ H' => (Zi rfl (by kernel_rfl) (H'.cell 2 rfl (by kernel_rfl))))
  refine Z2z 7 S16 4 11 true 14 (.bool (decide (s.t ≥ 1))) ?_
  refine hv0 8 S16 15 (.bool (decide (s.t ≥ 1))) ?_
  refine hv0 9 S16 16 (.bool (decide (s.t ≥ 1))) ?_
  refine (ZC (decide (s.t ≥ 1))).elim (fun b18 => ?_) (fun b18 => ?_)
  ·have g19 := of_decide_eq_true b18
   refine Z24 16 (.bool true) (congrArg Value.bool b18) ?_
   refine Z2z 10 S16 9 16 true 17 (pt b6 35) ?_
   refine Z2z 11 S16 9 16 true 18 (.int .u64 (s.t)) ?_ (he := fun _ H' => (Zi rfl (by kernel_rfl) (H'.cell 2 rfl (by kernel_rfl))))
   refine Z2z 12 S16 9 16 true 19 (.bool (decide (s.t < 18446744073709551615))) ?_
   refine hv0 13 S16 20 (.bool (decide (s.t < 18446744073709551615))) ?_
   refine hv0 14 S16 21 (.bool (decide (s.t < 18446744073709551615))) ?_
   refine (ZC (decide (s.t < 18446744073709551615))).elim (fun b21 => ?_) (fun b21 => ?_)
   ·have g22 := of_decide_eq_true b21
    refine Z24 21 (.bool true) (congrArg Value.bool b21) ?_
    refine Z2z 15 S16 14 21 true 22 (pt b6 36) ?_
    refine Z2z 16 S16 14 21 true 23 (pt b6 36) ?_
    refine Z2z 17 S16 14 21 true 24 (.int .i64 (s.sb)) ?_ (he := fun _ H' => (Zi rfl (by kernel_rfl) (H'.cell 2 rfl (by kernel_rfl))))
    refine Z2z 18 S16 14 21 true 25 (pt b6 0) ?_
    refine Z2z 19 S16 14 21 true 26 (.int .i64 (s.r)) ?_ (he := fun _ H' => (Zi rfl (by kernel_rfl) (H'.cell 2 rfl (by kernel_rfl))))
    refine Z2z 20 S16 14 21 true 27 (.bool (decide (s.sb = s.r))) ?_
    refine hv0 21 S16 28 (.bool (decide (s.sb = s.r))) ?_
    refine hv0 22 S16 29 (.bool (decide (s.sb = s.r))) ?_
    refine (ZC (decide (s.sb = s.r))).elim (fun b24 => ?_) (fun b24 => ?_)
    ·have g25 := of_decide_eq_true b24
     refine Z24 29 (.bool true) (congrArg Value.bool b24) ?_
     refine Z2z 23 S16 22 29 true 30 (pt b 0) ?_
     refine Z2z 24 S16 22 29 true 31 (pt b6 36) ?_
     refine Z2z 25 S16 22 29 true 32 (.agg ⟨(Z2V s.sb s.sm)⟩) ?_ (he := fun _ H' => (ZG (vs := (Z2V s.sb s.sm)) rfl (by kernel_rfl) (by kernel_rfl) (by exact Nat.le_of_ble_eq_true (by kernel_rfl)) (H'.at 2 rfl) (by kernel_rfl)))
     refine Z2z 26 S16 22 29 true 33 (.agg ⟨(Z5V s)⟩) ?_ (he := fun _ H' => (ZG (vs := (Z5V s)) rfl (by kernel_rfl) (by kernel_rfl) (by exact Nat.le_of_ble_eq_true (by kernel_rfl)) (H'.at 2 rfl) (by kernel_rfl)))
     refine Z6J 27 rfl (by kernel_rfl) (Z0k 22 29 true rfl (by kernel_rfl) rfl (by kernel_rfl)) (fun Kq kq => ?_)
     refine zdc 34 (Z4R w13 s hs) ?_
     rintro _ w28 ⟨u29, rfl, k30, p31, q32⟩
     have H33 := H14.addU p31 k30 q32
     obtain ⟨a34, c35, rfl⟩ := Ze (H33.at 3 rfl)
     refine ⟨_, rfl, ?_⟩
     have S36 := H33.pk [0, 1, 2]
     refine kq _ _ S36 ?_
     clear kq Kq
     refine Z6J 28 rfl (by kernel_rfl) (Z0k 22 29 true rfl (by kernel_rfl) rfl (by kernel_rfl)) (fun Kq kq => ?_)
     refine zdq 35 (Z3Q w28 b mb L (H33.roCk 0 rfl hb (fun _ _ h => h)) (H33.roMap 0 rfl hm (fun h => h)) a34 c35 (Z1V s) (ListAt.row (enc := ZH) (sz := 1) Z0u (by decide) (H33.at 3 rfl)) s.sb s.sm) H33 ?_
     intro w38 H39
     have S41 := H39.pk [0, 1, 2]
     refine kq _ _ S41 ?_
     clear kq Kq
     refine hv0 29 S41 36 (.bool (Z2w L s.sb s.sm (Z1V s))) ?_
     refine hv0 30 S41 6 (.bool (Z2w L s.sb s.sm (Z1V s))) ?_
     refine zhf ?_
     apply ztn
     apply Zz
     refine ze1 (.bool (Z2w L s.sb s.sm (Z1V s))) ?_
     exact ⟨by simp [Z1s, b17, b18, b21, b24], H39.upd 0 rfl [] (fun _ h => h.elim)⟩
    have g42 := of_decide_eq_false b24
    refine Z24 29 (.bool false) (congrArg Value.bool b24) ?_
    refine ZQ 23 S16 22 29 true ?_
    refine ZQ 24 S16 22 29 true ?_
    refine ZQ 25 S16 22 29 true ?_
    refine ZQ 26 S16 22 29 true ?_
    refine ZQ 27 S16 22 29 true ?_
    refine ZQ 28 S16 22 29 true ?_
    refine hv0 29 S16 36 (.bool false) ?_
    refine hv0 30 S16 6 (.bool false) ?_
    refine zhf ?_
    apply ztn
    apply Zz
    refine ze1 (.bool false) ?_
    exact ⟨by simp [Z1s, b17, b18, b21, b24], H14.upd 0 rfl [] (fun _ h => h.elim)⟩
   have g44 := of_decide_eq_false b21
   refine Z24 21 (.bool false) (congrArg Value.bool b21) ?_
   refine ZQ 15 S16 14 21 true ?_
   refine ZQ 16 S16 14 21 true ?_
   refine ZQ 17 S16 14 21 true ?_
   refine ZQ 18 S16 14 21 true ?_
   refine ZQ 19 S16 14 21 true ?_
   refine ZQ 20 S16 14 21 true ?_
   refine hv0 21 S16 28 (.bool false) ?_
   refine hv0 22 S16 29 (.bool false) ?_
   refine ZQ 23 S16 22 29 true ?_
   refine ZQ 24 S16 22 29 true ?_
   refine ZQ 25 S16 22 29 true ?_
   refine ZQ 26 S16 22 29 true ?_
   refine ZQ 27 S16 22 29 true ?_
   refine ZQ 28 S16 22 29 true ?_
   refine hv0 29 S16 36 (.bool false) ?_
   refine hv0 30 S16 6 (.bool false) ?_
   refine zhf ?_
   apply ztn
   apply Zz
   refine ze1 (.bool false) ?_
   exact ⟨by simp [Z1s, b17, b18, b21], H14.upd 0 rfl [] (fun _ h => h.elim)⟩
  have g46 := of_decide_eq_false b18
  refine Z24 16 (.bool false) (congrArg Value.bool b18) ?_
  refine ZQ 10 S16 9 16 true ?_
  refine ZQ 11 S16 9 16 true ?_
  refine ZQ 12 S16 9 16 true ?_
  refine hv0 13 S16 20 (.bool false) ?_
  refine hv0 14 S16 21 (.bool false) ?_
  refine ZQ 15 S16 14 21 true ?_
  refine ZQ 16 S16 14 21 true ?_
  refine ZQ 17 S16 14 21 true ?_
  refine ZQ 18 S16 14 21 true ?_
  refine ZQ 19 S16 14 21 true ?_
  refine ZQ 20 S16 14 21 true ?_
  refine hv0 21 S16 28 (.bool false) ?_
  refine hv0 22 S16 29 (.bool false) ?_
  refine ZQ 23 S16 22 29 true ?_
  refine ZQ 24 S16 22 29 true ?_
  refine ZQ 25 S16 22 29 true ?_
  refine ZQ 26 S16 22 29 true ?_
  refine ZQ 27 S16 22 29 true ?_
  refine ZQ 28 S16 22 29 true ?_
  refine hv0 29 S16 36 (.bool false) ?_
  refine hv0 30 S16 6 (.bool false) ?_
  refine zhf ?_
  apply ztn
  apply Zz
  refine ze1 (.bool false) ?_
  exact ⟨by simp [Z1s, b17, b18], H14.upd 0 rfl [] (fun _ h => h.elim)⟩
 refine Z24 11 (.bool false) (congrArg Value.bool b17) ?_
 refine ZQ 5 S16 4 11 true ?_
 refine ZQ 6 S16 4 11 true ?_
 refine ZQ 7 S16 4 11 true ?_
 refine hv0 8 S16 15 (.bool false) ?_
 refine hv0 9 S16 16 (.bool false) ?_
 refine ZQ 10 S16 9 16 true ?_
 refine ZQ 11 S16 9 16 true ?_
 refine ZQ 12 S16 9 16 true ?_
 refine hv0 13 S16 20 (.bool false) ?_
 refine hv0 14 S16 21 (.bool false) ?_
 refine ZQ 15 S16 14 21 true ?_
 refine ZQ 16 S16 14 21 true ?_
 refine ZQ 17 S16 14 21 true ?_
 refine ZQ 18 S16 14 21 true ?_
 refine ZQ 19 S16 14 21 true ?_
 refine ZQ 20 S16 14 21 true ?_
 refine hv0 21 S16 28 (.bool false) ?_
 refine hv0 22 S16 29 (.bool false) ?_
 refine ZQ 23 S16 22 29 true ?_
 refine ZQ 24 S16 22 29 true ?_
 refine ZQ 25 S16 22 29 true ?_
 refine ZQ 26 S16 22 29 true ?_
 refine ZQ 27 S16 22 29 true ?_
 refine ZQ 28 S16 22 29 true ?_
 refine hv0 29 S16 36 (.bool false) ?_
 refine hv0 30 S16 6 (.bool false) ?_
 refine zhf ?_
 apply ztn
 apply Zz
 refine ze1 (.bool false) ?_
 exact ⟨by simp [Z1s, b17], H14.upd 0 rfl [] (fun _ h => h.elim)⟩
end Go.Proofs.YtgigjkjdmalmaaaGreat
