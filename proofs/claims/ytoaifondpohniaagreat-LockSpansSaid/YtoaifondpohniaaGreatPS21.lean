/- WHAT IS PROVED: contracts and plain laws of Rg1t. Conditions: stated with each. -/
import Derived.Test.YtoaifondpohniaaGreatPS12
import Derived.Test.YtoaifondpohniaaGreatPS16
import Derived.Test.YtoaifondpohniaaGreatPS20
set_option maxHeartbeats 4000000
set_option maxRecDepth 100000
namespace Go.Proofs.YtoaifondpohniaaGreat
open Go.RowKit
theorem Z3g (w : World) (b mb : Nat) (L : List Signed) (hb : (Z3 b 110 [.map (some mb)]).ok w) (hm : MapAt w mb Za (Value.int .i64) (Zq L)) (ta : Option Addr) (tc : Nat) (tx : List UInt8) (ht : ListAt Zr 1 w (.slice ta tx.length tc) tx) (p m : Int) :
  Calls Tryz.prog 49 #[(.pointer (some ⟨b, 0, none⟩)), (.agg ⟨([(.int .i64 (p)), (.int .i64 (m))] : List Value)⟩), (.slice ta tx.length tc)] w fun e w' => e = .returned (.bool (Z2d L p m tx)) ∧ Upd [] w w' := by
 have H := Sat.start0 w
 have hmk : (Z7 (Zq L) (⟨p, tx⟩ : Signed)).getD 0 = Zt L (⟨p, tx⟩ : Signed) := by rw [Z37]; rfl
 refine ZE Tryz.func49 rfl 26 rfl (Nat.le_of_ble_eq_true rfl) ?_
 refine Zc ?_
 refine Zp ?_
 refine ZA (Z1 rfl) (fun K1 hK1 => ?_)
 refine Z0H (vs := ([(.int .i64 (p)), (.int .i64 (m))] : List Value)) rfl H rfl rfl ?_
 intro b2 w3 (H4 : Sat w [Z6 w (fun _ => False), Z3 b2 29 ([(.int .i64 (p)), (.int .i64 (m))] : List Value)] w3)
 refine hK1 _ _ ?_
 clear hK1 K1
 refine Z2 (Z1 rfl) (d := 6) (v := (.bool false)) rfl (by kernel_rfl) ?_
 refine Zm ?_
 refine Z4 ?_
 refine Zc ?_
 refine Z1d H4 (by kernel_rfl) (by kernel_rfl) ?_
 refine Zz (Z1 rfl) (d := 8) (v := (.pointer (some ⟨b, 0, none⟩))) rfl (fun _ H' => (by kernel_rfl)) ?_
 refine Zz (Z1 rfl) (d := 9) (v := (.pointer (some ⟨b, 0, none⟩))) rfl (fun _ H' => (by kernel_rfl)) ?_
 refine Zz (Z1 rfl) (d := 10) (v := (.pointer (some ⟨b, 0, none⟩))) rfl (fun _ H' => (by kernel_rfl)) ?_
 refine Zz (Z1 rfl) (d := 11) (v := (.map (some mb))) rfl (fun _ H' => (Zi rfl (by kernel_rfl) (H'.roCell 0 rfl hb (fun h => h) rfl))) ?_
 refine Zz (Z1 rfl) (d := 12) (v := (.pointer (some ⟨b2, 0, none⟩))) rfl (fun _ H' => (by kernel_rfl)) ?_
 refine Zz (Z1 rfl) (d := 13) (v := (.int .i64 (p))) rfl (fun _ H' => (Zi rfl (by kernel_rfl) (H'.cell 1 rfl rfl))) ?_
 refine Zz (Z1 rfl) (d := 14) (v := (.slice ta tx.length tc)) rfl (fun _ H' => (by kernel_rfl)) ?_
 refine Zz (Z1 rfl) (d := 15) (v := (Z1m tx)) rfl (fun _ H' => (Z20 (e := 5) (s := tx) (by kernel_rfl) (by kernel_rfl) (by kernel_rfl) rfl (Z1Q (ListAt.now H' 0 rfl ht)))) ?_
 refine Zz (Z1 rfl) (d := 16) (v := (.agg ⟨([(.int .i64 (p)), (Z1m tx)] : List Value)⟩)) rfl (fun _ H' => (by kernel_rfl)) ?_
 refine Zz (Z1 rfl) (d := 17) (v := (.int .i64 ((Z7 (Zq L) (⟨p, tx⟩ : Signed)).getD 0))) rfl (fun _ H' => (Z2U (kt := 107) (et := 3) Z3x (by kernel_rfl) (fun w => by kernel_rfl) rfl (⟨p, tx⟩ : Signed) rfl (H'.roMap 0 rfl hm (fun h => h)) (Z8t (Value.int .i64) _ _))) ?_
 refine Zz (Z1 rfl) (d := 7) (v := (.int .i64 ((Z7 (Zq L) (⟨p, tx⟩ : Signed)).getD 0))) rfl (fun _ H' => (by kernel_rfl)) ?_
 refine Z1U ?_
 intro w5 H6
 refine Z4 ?_
 refine Zc ?_
 refine Zp ?_
 refine Z2 (Z1 rfl) (d := 18) (v := (.int .i64 ((Z7 (Zq L) (⟨p, tx⟩ : Signed)).getD 0))) rfl (by kernel_rfl) ?_
 refine Z2 (Z1 rfl) (d := 19) (v := (.bool (decide (((Z7 (Zq L) (⟨p, tx⟩ : Signed)).getD 0) > 0)))) rfl (by kernel_rfl) ?_
 refine Z2 (Z1 rfl) (d := 20) (v := (.bool (decide (((Z7 (Zq L) (⟨p, tx⟩ : Signed)).getD 0) > 0)))) rfl (by kernel_rfl) ?_
 refine (ZS (decide (((Z7 (Zq L) (⟨p, tx⟩ : Signed)).getD 0) > 0))).elim (fun b7 => ?_) (fun b7 => ?_)
 ·have g8 := of_decide_eq_true b7
  refine Z02 20 (.bool true) (congrArg Value.bool b7) ?_
  have g9 := of_decide_eq_true b7
  refine Z2 (Zj 2 20 true rfl (by kernel_rfl) rfl (by kernel_rfl)) (d := 21) (v := (.int .i64 ((Z7 (Zq L) (⟨p, tx⟩ : Signed)).getD 0))) rfl (by kernel_rfl) ?_
  refine Z2 (Zj 2 20 true rfl (by kernel_rfl) rfl (by kernel_rfl)) (d := 22) (v := (.pointer (some ⟨b2, 1, none⟩))) rfl (by kernel_rfl) ?_
  refine Z2 (Zj 2 20 true rfl (by kernel_rfl) rfl (by kernel_rfl)) (d := 23) (v := (.int .i64 (m))) rfl (Zi rfl (by kernel_rfl) (H6.cell 1 rfl rfl)) ?_
  refine Z2 (Zj 2 20 true rfl (by kernel_rfl) rfl (by kernel_rfl)) (d := 24) (v := (.bool (decide (((Z7 (Zq L) (⟨p, tx⟩ : Signed)).getD 0) = m)))) rfl (by kernel_rfl) ?_
  refine Z2 (Z1 rfl) (d := 25) (v := (.bool (decide (((Z7 (Zq L) (⟨p, tx⟩ : Signed)).getD 0) = m)))) rfl (by kernel_rfl) ?_
  refine Z2 (Z1 rfl) (d := 6) (v := (.bool (decide (((Z7 (Zq L) (⟨p, tx⟩ : Signed)).getD 0) = m)))) rfl (by kernel_rfl) ?_
  refine Zm ?_
  refine Z4 ?_
  refine ZY ?_
  refine Z0O rfl (ZF (v := (.bool (decide (((Z7 (Zq L) (⟨p, tx⟩ : Signed)).getD 0) = m)))) rfl) ?_
  exact ⟨by unfold Z2d; rw [← hmk]; simp [b7], H6.upd 0 rfl [] (fun _ h => h.elim)⟩
 ·have g10 := of_decide_eq_false b7
  refine Z02 20 (.bool false) (congrArg Value.bool b7) ?_
  have g11 := of_decide_eq_false b7
  refine Zx (Zh 2 20 true rfl (by kernel_rfl) rfl (by kernel_rfl)) rfl ?_
  refine Zx (Zh 2 20 true rfl (by kernel_rfl) rfl (by kernel_rfl)) rfl ?_
  refine Zx (Zh 2 20 true rfl (by kernel_rfl) rfl (by kernel_rfl)) rfl ?_
  refine Zx (Zh 2 20 true rfl (by kernel_rfl) rfl (by kernel_rfl)) rfl ?_
  refine Z2 (Z1 rfl) (d := 25) (v := (.bool false)) rfl (by kernel_rfl) ?_
  refine Z2 (Z1 rfl) (d := 6) (v := (.bool false)) rfl (by kernel_rfl) ?_
  refine Zm ?_
  refine Z4 ?_
  refine ZY ?_
  refine Z0O rfl (ZF (v := (.bool false)) rfl) ?_
  exact ⟨by unfold Z2d; rw [← hmk]; simp [b7], H6.upd 0 rfl [] (fun _ h => h.elim)⟩
theorem Z6j (w : World) (f cn : Int) (x : Zn) :
  Calls Tryz.prog 110 #[(.agg ⟨([(.int .i64 (f)), (.int .i64 (cn))] : List Value)⟩), (.agg ⟨(([(.int .i64 (x.cl)), (.int .i64 (x.seq))] : List Value) ++ hc x.h ++ ([(.int .i64 (x.len)), (.int .i64 (x.sb)), (.int .i64 (x.sm))] : List Value))⟩)] w fun e w' => e = .returned (.bool (Z1e cn x)) ∧ Upd [] w w' := by
 have H := Sat.start0 w
 refine ZE Tryz.func110 rfl 38 rfl (Nat.le_of_ble_eq_true rfl) ?_
 refine Zc ?_
 refine Zp ?_
 refine ZA (Z1 rfl) (fun K1 hK1 => ?_)
 refine Z0H (vs := ([(.int .i64 (f)), (.int .i64 (cn))] : List Value)) rfl H rfl rfl ?_
 intro b2 w3 (H4 : Sat w [Z6 w (fun _ => False), Z3 b2 36 ([(.int .i64 (f)), (.int .i64 (cn))] : List Value)] w3)
 refine hK1 _ _ ?_
 clear hK1 K1
 refine ZA (Z1 rfl) (fun K5 hK5 => ?_)
 refine Z0H (vs := (([(.int .i64 (x.cl)), (.int .i64 (x.seq))] : List Value) ++ hc x.h ++ ([(.int .i64 (x.len)), (.int .i64 (x.sb)), (.int .i64 (x.sm))] : List Value))) rfl H4 rfl rfl ?_
 intro b6 w7 (H8 : Sat w [Z6 w (fun _ => False), Z3 b2 36 ([(.int .i64 (f)), (.int .i64 (cn))] : List Value), Z3 b6 50 (([(.int .i64 (x.cl)), (.int .i64 (x.seq))] : List Value) ++ hc x.h ++ ([(.int .i64 (x.len)), (.int .i64 (x.sb)), (.int .i64 (x.sm))] : List Value))] w7)
 refine hK5 _ _ ?_
 clear hK5 K5
 refine Z2 (Z1 rfl) (d := 4) (v := (.bool false)) rfl (by kernel_rfl) ?_
 refine Zm ?_
 refine Z4 ?_
 refine Zc ?_
 refine Zp ?_
 refine Z2 (Z1 rfl) (d := 6) (v := (.pointer (some ⟨b6, 0, none⟩))) rfl (by kernel_rfl) ?_
 refine Z2 (Z1 rfl) (d := 7) (v := (.agg ⟨([(.int .i64 (x.cl)), (.int .i64 (x.seq))] : List Value)⟩)) rfl (ZB (vs := ([(.int .i64 (x.cl)), (.int .i64 (x.seq))] : List Value)) rfl (by kernel_rfl) (by kernel_rfl) (by exact Nat.le_of_ble_eq_true (by kernel_rfl)) (H8.at 2 rfl) (by kernel_rfl)) ?_
 refine ZA (Z1 rfl) (fun K9 hK9 => ?_)
 refine Z0e (zs := ([(.int .i64 (0)), (.int .i64 (0))] : List Value)) (z := (.agg ⟨([(.int .i64 (0)), (.int .i64 (0))] : List Value)⟩)) rfl H8 (by kernel_rfl) (by kernel_rfl) ?_
 intro b10 w11 (H12 : Sat w [Z6 w (fun _ => False), Z3 b2 36 ([(.int .i64 (f)), (.int .i64 (cn))] : List Value), Z3 b6 50 (([(.int .i64 (x.cl)), (.int .i64 (x.seq))] : List Value) ++ hc x.h ++ ([(.int .i64 (x.len)), (.int .i64 (x.sb)), (.int .i64 (x.sm))] : List Value)), Z3 b10 24 ([(.int .i64 (0)), (.int .i64 (0))] : List Value)] w11)
 refine hK9 _ _ ?_
 clear hK9 K9
 refine ZA (Z1 rfl) (fun K13 hK13 => ?_)
 refine ZU (vs := ([(.int .i64 (x.cl)), (.int .i64 (x.seq))] : List Value)) (cs' := ([(.int .i64 (x.cl)), (.int .i64 (x.seq))] : List Value)) rfl H12 3 rfl rfl rfl rfl (by kernel_rfl) (Nat.le_of_ble_eq_true (by kernel_rfl)) (Nat.le_of_ble_eq_true (by kernel_rfl)) (by kernel_rfl) (by kernel_rfl) ?_
 intro w14 (H15 : Sat w [Z6 w (fun _ => False), Z3 b2 36 ([(.int .i64 (f)), (.int .i64 (cn))] : List Value), Z3 b6 50 (([(.int .i64 (x.cl)), (.int .i64 (x.seq))] : List Value) ++ hc x.h ++ ([(.int .i64 (x.len)), (.int .i64 (x.sb)), (.int .i64 (x.sm))] : List Value)), Z3 b10 24 ([(.int .i64 (x.cl)), (.int .i64 (x.seq))] : List Value)] w14)
 refine hK13 _ _ ?_
 clear hK13 K13
 refine Zm ?_
 refine Z4 ?_
 refine Z3t [4, 8, 9, 10, 11, 12, 13, 14, 15, 16, 17, 18, 19, 20, 21, 22, 23, 24, 25, 26, 27, 28, 29, 30, 31, 32, 33, 34, 35, 36, 37] (fun G_ W_ => G_ 4 = (.bool (Z1e cn x)) ∧ Sat w [Z6 w (fun _ => False), Z3 b2 36 ([(.int .i64 (f)), (.int .i64 (cn))] : List Value), Z3 b6 50 (([(.int .i64 (x.cl)), (.int .i64 (x.seq))] : List Value) ++ hc x.h ++ ([(.int .i64 (x.len)), (.int .i64 (x.sb)), (.int .i64 (x.sm))] : List Value)), Z3 b10 24 ([(.int .i64 (x.cl)), (.int .i64 (x.seq))] : List Value)] W_) ?_ ?_
 ·refine Zp ?_
  refine Z2 (Z1 rfl) (d := 8) (v := (.pointer (some ⟨b10, 0, none⟩))) rfl (by kernel_rfl) ?_
  refine Z2 (Z1 rfl) (d := 9) (v := (.int .i64 (x.cl))) rfl (Zi rfl (by kernel_rfl) (H15.cell 3 rfl rfl)) ?_
  refine Z2 (Z1 rfl) (d := 10) (v := (.bool (decide (x.cl ≥ 0)))) rfl (by kernel_rfl) ?_
  refine Z2 (Z1 rfl) (d := 11) (v := (.bool (decide (x.cl ≥ 0)))) rfl (by kernel_rfl) ?_
  refine (ZS (decide (x.cl ≥ 0))).elim (fun b18 => ?_) (fun b18 => ?_)
  ·have g19 := of_decide_eq_true b18
   refine Z02 11 (.bool true) (congrArg Value.bool b18) ?_
   refine Z2 (Zj 3 11 true rfl (by kernel_rfl) rfl (by kernel_rfl)) (d := 12) (v := (.pointer (some ⟨b10, 0, none⟩))) rfl (by kernel_rfl) ?_
   refine Z2 (Zj 3 11 true rfl (by kernel_rfl) rfl (by kernel_rfl)) (d := 13) (v := (.int .i64 (x.cl))) rfl (Zi rfl (by kernel_rfl) (H15.cell 3 rfl rfl)) ?_
   refine Z2 (Zj 3 11 true rfl (by kernel_rfl) rfl (by kernel_rfl)) (d := 14) (v := (.pointer (some ⟨b2, 1, none⟩))) rfl (by kernel_rfl) ?_
   refine Z2 (Zj 3 11 true rfl (by kernel_rfl) rfl (by kernel_rfl)) (d := 15) (v := (.int .i64 (cn))) rfl (Zi rfl (by kernel_rfl) (H15.cell 1 rfl rfl)) ?_
   refine Z2 (Zj 3 11 true rfl (by kernel_rfl) rfl (by kernel_rfl)) (d := 16) (v := (.bool (decide (x.cl < cn)))) rfl (by kernel_rfl) ?_
   refine Z2 (Z1 rfl) (d := 17) (v := (.bool (decide (x.cl < cn)))) rfl (by kernel_rfl) ?_
   refine Z2 (Z1 rfl) (d := 18) (v := (.bool (decide (x.cl < cn)))) rfl (by kernel_rfl) ?_
   refine (ZS (decide (x.cl < cn))).elim (fun b20 => ?_) (fun b20 => ?_)
   ·have g21 := of_decide_eq_true b20
    refine Z02 18 (.bool true) (congrArg Value.bool b20) ?_
    refine Z2 (Zj 10 18 true rfl (by kernel_rfl) rfl (by kernel_rfl)) (d := 19) (v := (.pointer (some ⟨b10, 1, none⟩))) rfl (by kernel_rfl) ?_
    refine Z2 (Zj 10 18 true rfl (by kernel_rfl) rfl (by kernel_rfl)) (d := 20) (v := (.int .i64 (x.seq))) rfl (Zi rfl (by kernel_rfl) (H15.cell 3 rfl rfl)) ?_
    refine Z2 (Zj 10 18 true rfl (by kernel_rfl) rfl (by kernel_rfl)) (d := 21) (v := (.bool (decide (x.seq ≥ 1)))) rfl (by kernel_rfl) ?_
    refine Z2 (Z1 rfl) (d := 22) (v := (.bool (decide (x.seq ≥ 1)))) rfl (by kernel_rfl) ?_
    refine Z2 (Z1 rfl) (d := 23) (v := (.bool (decide (x.seq ≥ 1)))) rfl (by kernel_rfl) ?_
    refine (ZS (decide (x.seq ≥ 1))).elim (fun b22 => ?_) (fun b22 => ?_)
    ·have g23 := of_decide_eq_true b22
     refine Z02 23 (.bool true) (congrArg Value.bool b22) ?_
     refine Z2 (Zj 15 23 true rfl (by kernel_rfl) rfl (by kernel_rfl)) (d := 24) (v := (.pointer (some ⟨b10, 1, none⟩))) rfl (by kernel_rfl) ?_
     refine Z2 (Zj 15 23 true rfl (by kernel_rfl) rfl (by kernel_rfl)) (d := 25) (v := (.int .i64 (x.seq))) rfl (Zi rfl (by kernel_rfl) (H15.cell 3 rfl rfl)) ?_
     refine Z2 (Zj 15 23 true rfl (by kernel_rfl) rfl (by kernel_rfl)) (d := 26) (v := (.bool (decide (x.seq ≤ 1048576)))) rfl (by kernel_rfl) ?_
     refine Z2 (Z1 rfl) (d := 27) (v := (.bool (decide (x.seq ≤ 1048576)))) rfl (by kernel_rfl) ?_
     refine Z2 (Z1 rfl) (d := 28) (v := (.bool (decide (x.seq ≤ 1048576)))) rfl (by kernel_rfl) ?_
     refine (ZS (decide (x.seq ≤ 1048576))).elim (fun b24 => ?_) (fun b24 => ?_)
     ·have g25 := of_decide_eq_true b24
      refine Z02 28 (.bool true) (congrArg Value.bool b24) ?_
      refine Z2 (Zj 20 28 true rfl (by kernel_rfl) rfl (by kernel_rfl)) (d := 29) (v := (.pointer (some ⟨b6, 34, none⟩))) rfl (by kernel_rfl) ?_
      refine Z2 (Zj 20 28 true rfl (by kernel_rfl) rfl (by kernel_rfl)) (d := 30) (v := (.int .i64 (x.len))) rfl (Zi rfl (by kernel_rfl) (H15.cell 2 rfl (by kernel_rfl))) ?_
      refine Z2 (Zj 20 28 true rfl (by kernel_rfl) rfl (by kernel_rfl)) (d := 31) (v := (.bool (decide (x.len ≥ 0)))) rfl (by kernel_rfl) ?_
      refine Z2 (Z1 rfl) (d := 32) (v := (.bool (decide (x.len ≥ 0)))) rfl (by kernel_rfl) ?_
      refine Z2 (Z1 rfl) (d := 33) (v := (.bool (decide (x.len ≥ 0)))) rfl (by kernel_rfl) ?_
      refine (ZS (decide (x.len ≥ 0))).elim (fun b26 => ?_) (fun b26 => ?_)
      ·have g27 := of_decide_eq_true b26
       refine Z02 33 (.bool true) (congrArg Value.bool b26) ?_
       refine Z2 (Zj 25 33 true rfl (by kernel_rfl) rfl (by kernel_rfl)) (d := 34) (v := (.pointer (some ⟨b6, 34, none⟩))) rfl (by kernel_rfl) ?_
       refine Z2 (Zj 25 33 true rfl (by kernel_rfl) rfl (by kernel_rfl)) (d := 35) (v := (.int .i64 (x.len))) rfl (Zi rfl (by kernel_rfl) (H15.cell 2 rfl (by kernel_rfl))) ?_
       refine Z2 (Zj 25 33 true rfl (by kernel_rfl) rfl (by kernel_rfl)) (d := 36) (v := (.bool (decide (x.len ≤ 256)))) rfl (by kernel_rfl) ?_
       refine Z2 (Z1 rfl) (d := 37) (v := (.bool (decide (x.len ≤ 256)))) rfl (by kernel_rfl) ?_
       refine Z2 (Z1 rfl) (d := 4) (v := (.bool (decide (x.len ≤ 256)))) rfl (by kernel_rfl) ?_
       refine Zm ?_
       refine Z0T ?_ ⟨(congrArg Value.bool (show (decide (x.len ≤ 256)) = (Z1e cn x) by simp [Z1e, b18, b20, b22, b24, b26])), H15⟩
       exact (Z0 rfl (Z0 rfl (Z0 rfl (Z0 rfl (Z0 rfl (Z0 rfl (Z0 rfl (Z0 rfl (Z0 rfl (Z0 rfl (Z0 rfl (Z0 rfl (Z0 rfl (Z0 rfl (Z0 rfl (Z0 rfl (Z0 rfl (Z0 rfl (Z0 rfl (Z0 rfl (Z0 rfl (Z0 rfl (Z0 rfl (Z0 rfl (Z0 rfl (Z0 rfl (Z0 rfl (Z0 rfl (Z0 rfl (Z0 rfl (Z0 rfl (Z0 rfl (Z0 rfl (Z0 rfl (Z0 rfl (Z0 rfl (Z0R)))))))))))))))))))))))))))))))))))))
      ·have g28 := of_decide_eq_false b26
       refine Z02 33 (.bool false) (congrArg Value.bool b26) ?_
       refine Zx (Zh 25 33 true rfl (by kernel_rfl) rfl (by kernel_rfl)) rfl ?_
       refine Zx (Zh 25 33 true rfl (by kernel_rfl) rfl (by kernel_rfl)) rfl ?_
       refine Zx (Zh 25 33 true rfl (by kernel_rfl) rfl (by kernel_rfl)) rfl ?_
       refine Z2 (Z1 rfl) (d := 37) (v := (.bool false)) rfl (by kernel_rfl) ?_
       refine Z2 (Z1 rfl) (d := 4) (v := (.bool false)) rfl (by kernel_rfl) ?_
       refine Zm ?_
       refine Z0T ?_ ⟨(congrArg Value.bool (show false = (Z1e cn x) by simp [Z1e, b18, b20, b22, b24, b26])), H15⟩
       exact (Z0 rfl (Z0 rfl (Z0 rfl (Z0 rfl (Z0 rfl (Z0 rfl (Z0 rfl (Z0 rfl (Z0 rfl (Z0 rfl (Z0 rfl (Z0 rfl (Z0 rfl (Z0 rfl (Z0 rfl (Z0 rfl (Z0 rfl (Z0 rfl (Z0 rfl (Z0 rfl (Z0 rfl (Z0 rfl (Z0 rfl (Z0 rfl (Z0 rfl (Z0 rfl (Z0 rfl (Z0 rfl (Z0 rfl (Z0 rfl (Z0 rfl (Z0 rfl (Z0 rfl (Z0 rfl (Z0 rfl (Z0 rfl (Z0R)))))))))))))))))))))))))))))))))))))
     ·have g29 := of_decide_eq_false b24
      refine Z02 28 (.bool false) (congrArg Value.bool b24) ?_
      refine Zx (Zh 20 28 true rfl (by kernel_rfl) rfl (by kernel_rfl)) rfl ?_
      refine Zx (Zh 20 28 true rfl (by kernel_rfl) rfl (by kernel_rfl)) rfl ?_
      refine Zx (Zh 20 28 true rfl (by kernel_rfl) rfl (by kernel_rfl)) rfl ?_
      refine Z2 (Z1 rfl) (d := 32) (v := (.bool false)) rfl (by kernel_rfl) ?_
      refine Z2 (Z1 rfl) (d := 33) (v := (.bool false)) rfl (by kernel_rfl) ?_
      refine Zx (Zh 25 33 true rfl (by kernel_rfl) rfl (by kernel_rfl)) rfl ?_
      refine Zx (Zh 25 33 true rfl (by kernel_rfl) rfl (by kernel_rfl)) rfl ?_
      refine Zx (Zh 25 33 true rfl (by kernel_rfl) rfl (by kernel_rfl)) rfl ?_
      refine Z2 (Z1 rfl) (d := 37) (v := (.bool false)) rfl (by kernel_rfl) ?_
      refine Z2 (Z1 rfl) (d := 4) (v := (.bool false)) rfl (by kernel_rfl) ?_
      refine Zm ?_
      refine Z0T ?_ ⟨(congrArg Value.bool (show false = (Z1e cn x) by simp [Z1e, b18, b20, b22, b24])), H15⟩
      exact (Z0 rfl (Z0 rfl (Z0 rfl (Z0 rfl (Z0 rfl (Z0 rfl (Z0 rfl (Z0 rfl (Z0 rfl (Z0 rfl (Z0 rfl (Z0 rfl (Z0 rfl (Z0 rfl (Z0 rfl (Z0 rfl (Z0 rfl (Z0 rfl (Z0 rfl (Z0 rfl (Z0 rfl (Z0 rfl (Z0 rfl (Z0 rfl (Z0 rfl (Z0 rfl (Z0 rfl (Z0 rfl (Z0 rfl (Z0 rfl (Z0 rfl (Z0 rfl (Z0 rfl (Z0 rfl (Z0 rfl (Z0R))))))))))))))))))))))))))))))))))))
    ·have g30 := of_decide_eq_false b22
     refine Z02 23 (.bool false) (congrArg Value.bool b22) ?_
     refine Zx (Zh 15 23 true rfl (by kernel_rfl) rfl (by kernel_rfl)) rfl ?_
     refine Zx (Zh 15 23 true rfl (by kernel_rfl) rfl (by kernel_rfl)) rfl ?_
     refine Zx (Zh 15 23 true rfl (by kernel_rfl) rfl (by kernel_rfl)) rfl ?_
     refine Z2 (Z1 rfl) (d := 27) (v := (.bool false)) rfl (by kernel_rfl) ?_
     refine Z2 (Z1 rfl) (d := 28) (v := (.bool false)) rfl (by kernel_rfl) ?_
     refine Zx (Zh 20 28 true rfl (by kernel_rfl) rfl (by kernel_rfl)) rfl ?_
     refine Zx (Zh 20 28 true rfl (by kernel_rfl) rfl (by kernel_rfl)) rfl ?_
     refine Zx (Zh 20 28 true rfl (by kernel_rfl) rfl (by kernel_rfl)) rfl ?_
     refine Z2 (Z1 rfl) (d := 32) (v := (.bool false)) rfl (by kernel_rfl) ?_
     refine Z2 (Z1 rfl) (d := 33) (v := (.bool false)) rfl (by kernel_rfl) ?_
     refine Zx (Zh 25 33 true rfl (by kernel_rfl) rfl (by kernel_rfl)) rfl ?_
     refine Zx (Zh 25 33 true rfl (by kernel_rfl) rfl (by kernel_rfl)) rfl ?_
     refine Zx (Zh 25 33 true rfl (by kernel_rfl) rfl (by kernel_rfl)) rfl ?_
     refine Z2 (Z1 rfl) (d := 37) (v := (.bool false)) rfl (by kernel_rfl) ?_
     refine Z2 (Z1 rfl) (d := 4) (v := (.bool false)) rfl (by kernel_rfl) ?_
     refine Zm ?_
     refine Z0T ?_ ⟨(congrArg Value.bool (show false = (Z1e cn x) by simp [Z1e, b18, b20, b22])), H15⟩
     exact (Z0 rfl (Z0 rfl (Z0 rfl (Z0 rfl (Z0 rfl (Z0 rfl (Z0 rfl (Z0 rfl (Z0 rfl (Z0 rfl (Z0 rfl (Z0 rfl (Z0 rfl (Z0 rfl (Z0 rfl (Z0 rfl (Z0 rfl (Z0 rfl (Z0 rfl (Z0 rfl (Z0 rfl (Z0 rfl (Z0 rfl (Z0 rfl (Z0 rfl (Z0 rfl (Z0 rfl (Z0 rfl (Z0 rfl (Z0 rfl (Z0 rfl (Z0 rfl (Z0 rfl (Z0 rfl (Z0R)))))))))))))))))))))))))))))))))))
   ·have g31 := of_decide_eq_false b20
    refine Z02 18 (.bool false) (congrArg Value.bool b20) ?_
    refine Zx (Zh 10 18 true rfl (by kernel_rfl) rfl (by kernel_rfl)) rfl ?_
    refine Zx (Zh 10 18 true rfl (by kernel_rfl) rfl (by kernel_rfl)) rfl ?_
    refine Zx (Zh 10 18 true rfl (by kernel_rfl) rfl (by kernel_rfl)) rfl ?_
    refine Z2 (Z1 rfl) (d := 22) (v := (.bool false)) rfl (by kernel_rfl) ?_
    refine Z2 (Z1 rfl) (d := 23) (v := (.bool false)) rfl (by kernel_rfl) ?_
    refine Zx (Zh 15 23 true rfl (by kernel_rfl) rfl (by kernel_rfl)) rfl ?_
    refine Zx (Zh 15 23 true rfl (by kernel_rfl) rfl (by kernel_rfl)) rfl ?_
    refine Zx (Zh 15 23 true rfl (by kernel_rfl) rfl (by kernel_rfl)) rfl ?_
    refine Z2 (Z1 rfl) (d := 27) (v := (.bool false)) rfl (by kernel_rfl) ?_
    refine Z2 (Z1 rfl) (d := 28) (v := (.bool false)) rfl (by kernel_rfl) ?_
    refine Zx (Zh 20 28 true rfl (by kernel_rfl) rfl (by kernel_rfl)) rfl ?_
    refine Zx (Zh 20 28 true rfl (by kernel_rfl) rfl (by kernel_rfl)) rfl ?_
    refine Zx (Zh 20 28 true rfl (by kernel_rfl) rfl (by kernel_rfl)) rfl ?_
    refine Z2 (Z1 rfl) (d := 32) (v := (.bool false)) rfl (by kernel_rfl) ?_
    refine Z2 (Z1 rfl) (d := 33) (v := (.bool false)) rfl (by kernel_rfl) ?_
    refine Zx (Zh 25 33 true rfl (by kernel_rfl) rfl (by kernel_rfl)) rfl ?_
    refine Zx (Zh 25 33 true rfl (by kernel_rfl) rfl (by kernel_rfl)) rfl ?_
    refine Zx (Zh 25 33 true rfl (by kernel_rfl) rfl (by kernel_rfl)) rfl ?_
    refine Z2 (Z1 rfl) (d := 37) (v := (.bool false)) rfl (by kernel_rfl) ?_
    refine Z2 (Z1 rfl) (d := 4) (v := (.bool false)) rfl (by kernel_rfl) ?_
    refine Zm ?_
    refine Z0T ?_ ⟨(congrArg Value.bool (show false = (Z1e cn x) by simp [Z1e, b18, b20])), H15⟩
    exact (Z0 rfl (Z0 rfl (Z0 rfl (Z0 rfl (Z0 rfl (Z0 rfl (Z0 rfl (Z0 rfl (Z0 rfl (Z0 rfl (Z0 rfl (Z0 rfl (Z0 rfl (Z0 rfl (Z0 rfl (Z0 rfl (Z0 rfl (Z0 rfl (Z0 rfl (Z0 rfl (Z0 rfl (Z0 rfl (Z0 rfl (Z0 rfl (Z0 rfl (Z0 rfl (Z0 rfl (Z0 rfl (Z0 rfl (Z0 rfl (Z0 rfl (Z0 rfl (Z0 rfl (Z0R))))))))))))))))))))))))))))))))))
  ·have g32 := of_decide_eq_false b18
   refine Z02 11 (.bool false) (congrArg Value.bool b18) ?_
   refine Zx (Zh 3 11 true rfl (by kernel_rfl) rfl (by kernel_rfl)) rfl ?_
   refine Zx (Zh 3 11 true rfl (by kernel_rfl) rfl (by kernel_rfl)) rfl ?_
   refine Zx (Zh 3 11 true rfl (by kernel_rfl) rfl (by kernel_rfl)) rfl ?_
   refine Zx (Zh 3 11 true rfl (by kernel_rfl) rfl (by kernel_rfl)) rfl ?_
   refine Zx (Zh 3 11 true rfl (by kernel_rfl) rfl (by kernel_rfl)) rfl ?_
   refine Z2 (Z1 rfl) (d := 17) (v := (.bool false)) rfl (by kernel_rfl) ?_
   refine Z2 (Z1 rfl) (d := 18) (v := (.bool false)) rfl (by kernel_rfl) ?_
   refine Zx (Zh 10 18 true rfl (by kernel_rfl) rfl (by kernel_rfl)) rfl ?_
   refine Zx (Zh 10 18 true rfl (by kernel_rfl) rfl (by kernel_rfl)) rfl ?_
   refine Zx (Zh 10 18 true rfl (by kernel_rfl) rfl (by kernel_rfl)) rfl ?_
   refine Z2 (Z1 rfl) (d := 22) (v := (.bool false)) rfl (by kernel_rfl) ?_
   refine Z2 (Z1 rfl) (d := 23) (v := (.bool false)) rfl (by kernel_rfl) ?_
   refine Zx (Zh 15 23 true rfl (by kernel_rfl) rfl (by kernel_rfl)) rfl ?_
   refine Zx (Zh 15 23 true rfl (by kernel_rfl) rfl (by kernel_rfl)) rfl ?_
   refine Zx (Zh 15 23 true rfl (by kernel_rfl) rfl (by kernel_rfl)) rfl ?_
   refine Z2 (Z1 rfl) (d := 27) (v := (.bool false)) rfl (by kernel_rfl) ?_
   refine Z2 (Z1 rfl) (d := 28) (v := (.bool false)) rfl (by kernel_rfl) ?_
   refine Zx (Zh 20 28 true rfl (by kernel_rfl) rfl (by kernel_rfl)) rfl ?_
   refine Zx (Zh 20 28 true rfl (by kernel_rfl) rfl (by kernel_rfl)) rfl ?_
   refine Zx (Zh 20 28 true rfl (by kernel_rfl) rfl (by kernel_rfl)) rfl ?_
   refine Z2 (Z1 rfl) (d := 32) (v := (.bool false)) rfl (by kernel_rfl) ?_
   refine Z2 (Z1 rfl) (d := 33) (v := (.bool false)) rfl (by kernel_rfl) ?_
   refine Zx (Zh 25 33 true rfl (by kernel_rfl) rfl (by kernel_rfl)) rfl ?_
   refine Zx (Zh 25 33 true rfl (by kernel_rfl) rfl (by kernel_rfl)) rfl ?_
   refine Zx (Zh 25 33 true rfl (by kernel_rfl) rfl (by kernel_rfl)) rfl ?_
   refine Z2 (Z1 rfl) (d := 37) (v := (.bool false)) rfl (by kernel_rfl) ?_
   refine Z2 (Z1 rfl) (d := 4) (v := (.bool false)) rfl (by kernel_rfl) ?_
   refine Zm ?_
   refine Z0T ?_ ⟨(congrArg Value.bool (show false = (Z1e cn x) by simp [Z1e, b18])), H15⟩
   exact (Z0 rfl (Z0 rfl (Z0 rfl (Z0 rfl (Z0 rfl (Z0 rfl (Z0 rfl (Z0 rfl (Z0 rfl (Z0 rfl (Z0 rfl (Z0 rfl (Z0 rfl (Z0 rfl (Z0 rfl (Z0 rfl (Z0 rfl (Z0 rfl (Z0 rfl (Z0 rfl (Z0 rfl (Z0 rfl (Z0 rfl (Z0 rfl (Z0 rfl (Z0 rfl (Z0 rfl (Z0 rfl (Z0 rfl (Z0 rfl (Z0 rfl (Z0 rfl (Z0R)))))))))))))))))))))))))))))))))
 ·rintro f33 w34 ⟨v36, H35⟩
  refine Zs 4 _ v36 ?_
  refine ZY ?_
  refine Z0O rfl (ZF (v := (.bool (Z1e cn x))) rfl) ?_
  exact ⟨rfl, H35.upd 0 rfl [] (fun _ h => h.elim)⟩
theorem Z5D (w : World) (c : Int) :
  Calls Tryz.prog 111 #[(.int .i64 (c))] w fun e w' => e = .returned (.int .i64 (IntKind.i64.wrap (1000 + c))) ∧ Upd [] w w' := by
 have H := Sat.start0 w
 refine ZE Tryz.func111 rfl 5 rfl (Nat.le_of_ble_eq_true rfl) ?_
 refine Zc ?_
 refine Zp ?_
 refine Z2 (Z1 rfl) (d := 2) (v := (.int .i64 (0))) rfl (by kernel_rfl) ?_
 refine Zm ?_
 refine Z4 ?_
 refine Zc ?_
 refine Zp ?_
 refine Z2 (Z1 rfl) (d := 3) (v := (.int .i64 (c))) rfl (by kernel_rfl) ?_
 refine Z2 (Z1 rfl) (d := 4) (v := (.int .i64 (IntKind.i64.wrap (1000 + c)))) rfl (by kernel_rfl) ?_
 refine Z2 (Z1 rfl) (d := 2) (v := (.int .i64 (IntKind.i64.wrap (1000 + c)))) rfl (by kernel_rfl) ?_
 refine Zm ?_
 refine Z4 ?_
 refine ZY ?_
 refine Z0O rfl (ZF (v := (.int .i64 (IntKind.i64.wrap (1000 + c)))) rfl) ?_
 exact ⟨rfl, H.upd 0 rfl [] (fun _ h => h.elim)⟩
theorem Z5G (w : World) (f cn : Int) (hf : -1099511627776 ≤ f ∧ f ≤ 1099511627776) (b mb : Nat) (L : List Signed) (hb : (Z3 b 110 [.map (some mb)]).ok w) (hm : MapAt w mb Za (Value.int .i64) (Zq L)) (s : Zn) (hs : Z8u s) :
  Calls Tryz.prog 89 #[(.agg ⟨([(.int .i64 (f)), (.int .i64 (cn))] : List Value)⟩), (.pointer (some ⟨b, 0, none⟩)), (.agg ⟨(([(.int .i64 (s.cl)), (.int .i64 (s.seq))] : List Value) ++ hc s.h ++ ([(.int .i64 (s.len)), (.int .i64 (s.sb)), (.int .i64 (s.sm))] : List Value))⟩)] w fun e w' => e = .returned (.bool (Z2N cn L s)) ∧ Upd [] w w' := by
 have H := Sat.start0 w
 have hs2 := hs
 unfold Z8u at hs2
 refine ZE Tryz.func89 rfl 28 rfl (Nat.le_of_ble_eq_true rfl) ?_
 refine Zc ?_
 refine Zp ?_
 refine ZA (Z1 rfl) (fun K1 hK1 => ?_)
 refine Z0H (vs := ([(.int .i64 (f)), (.int .i64 (cn))] : List Value)) rfl H rfl rfl ?_
 intro b2 w3 (H4 : Sat w [Z6 w (fun _ => False), Z3 b2 36 ([(.int .i64 (f)), (.int .i64 (cn))] : List Value)] w3)
 refine hK1 _ _ ?_
 clear hK1 K1
 refine ZA (Z1 rfl) (fun K5 hK5 => ?_)
 refine Z0H (vs := (([(.int .i64 (s.cl)), (.int .i64 (s.seq))] : List Value) ++ hc s.h ++ ([(.int .i64 (s.len)), (.int .i64 (s.sb)), (.int .i64 (s.sm))] : List Value))) rfl H4 rfl rfl ?_
 intro b6 w7 (H8 : Sat w [Z6 w (fun _ => False), Z3 b2 36 ([(.int .i64 (f)), (.int .i64 (cn))] : List Value), Z3 b6 50 (([(.int .i64 (s.cl)), (.int .i64 (s.seq))] : List Value) ++ hc s.h ++ ([(.int .i64 (s.len)), (.int .i64 (s.sb)), (.int .i64 (s.sm))] : List Value))] w7)
 refine hK5 _ _ ?_
 clear hK5 K5
 refine Z2 (Z1 rfl) (d := 6) (v := (.bool false)) rfl (by kernel_rfl) ?_
 refine Zm ?_
 refine Z4 ?_
 refine Zc ?_
 refine Z0k H8 [Z6 w (fun _ => False), Z3 b2 36 ([(.int .i64 (f)), (.int .i64 (cn))] : List Value), Z3 b6 50 (([(.int .i64 (s.cl)), (.int .i64 (s.seq))] : List Value) ++ hc s.h ++ ([(.int .i64 (s.len)), (.int .i64 (s.sb)), (.int .i64 (s.sm))] : List Value))] 22 rfl (by kernel_rfl) (fun Hx => (Hx.pick [0, 1, 2] (by decide))) ?_
 intro w9 H10 S11
 refine Ze 0 rfl (by kernel_rfl) (by kernel_rfl) (by kernel_rfl) (fun _ _ _ h => h) S11 (Z1 rfl) (d := 7) (v := (.agg ⟨([(.int .i64 (f)), (.int .i64 (cn))] : List Value)⟩)) rfl (fun _ H' => (ZB (vs := ([(.int .i64 (f)), (.int .i64 (cn))] : List Value)) rfl (by kernel_rfl) (by kernel_rfl) (by exact Nat.le_of_ble_eq_true (by kernel_rfl)) (H'.at 1 rfl) (by kernel_rfl))) ?_
 refine Ze 1 rfl (by kernel_rfl) (by kernel_rfl) (by kernel_rfl) (fun _ _ _ h => h) S11 (Z1 rfl) (d := 8) (v := (.agg ⟨(([(.int .i64 (s.cl)), (.int .i64 (s.seq))] : List Value) ++ hc s.h ++ ([(.int .i64 (s.len)), (.int .i64 (s.sb)), (.int .i64 (s.sm))] : List Value))⟩)) rfl (fun _ H' => (ZB (vs := (([(.int .i64 (s.cl)), (.int .i64 (s.seq))] : List Value) ++ hc s.h ++ ([(.int .i64 (s.len)), (.int .i64 (s.sb)), (.int .i64 (s.sm))] : List Value))) rfl (by kernel_rfl) (by kernel_rfl) (by exact Nat.le_of_ble_eq_true (by kernel_rfl)) (H'.at 2 rfl) (by kernel_rfl))) ?_
 refine Z0r 2 rfl (by kernel_rfl) (Z1 rfl) (fun K12 hK12 => ?_)
 refine Zv (d := 9) rfl (by kernel_rfl) (Z6j w9 f cn s) ?_
 rintro _ w13 ⟨rfl, u15⟩
 have H14 := H10.keepU u15
 refine ⟨_, rfl, ?_⟩
 have S16 := H14.pick [0, 1, 2] (by decide)
 refine hK12 _ _ S16 ?_
 clear hK12 K12
 refine Ze 3 rfl (by kernel_rfl) (by kernel_rfl) (by kernel_rfl) (fun _ _ _ h => h) S16 (Z1 rfl) (d := 10) (v := (.bool (Z1e cn s))) rfl (fun _ H' => (by kernel_rfl)) ?_
 refine (ZS (Z1e cn s)).elim (fun b17 => ?_) (fun b17 => ?_)
 ·refine Z25 10 (.bool true) (congrArg Value.bool b17) ?_
  refine Ze 4 rfl (by kernel_rfl) (by kernel_rfl) (by kernel_rfl) (fun _ _ _ h => h) S16 (Zj 3 10 true rfl (by kernel_rfl) rfl (by kernel_rfl)) (d := 11) (v := (.pointer (some ⟨b6, 35, none⟩))) rfl (fun _ H' => (by kernel_rfl)) ?_
  refine Ze 5 rfl (by kernel_rfl) (by kernel_rfl) (by kernel_rfl) (fun _ _ _ h => h) S16 (Zj 3 10 true rfl (by kernel_rfl) rfl (by kernel_rfl)) (d := 12) (v := (.pointer (some ⟨b6, 35, none⟩))) rfl (fun _ H' => (by kernel_rfl)) ?_
  refine Ze 6 rfl (by kernel_rfl) (by kernel_rfl) (by kernel_rfl) (fun _ _ _ h => h) S16 (Zj 3 10 true rfl (by kernel_rfl) rfl (by kernel_rfl)) (d := 13) (v := (.int .i64 (s.sb))) rfl (fun _ H' => (Zi rfl (by kernel_rfl) (H'.cell 2 rfl (by kernel_rfl)))) ?_
  refine Ze 7 rfl (by kernel_rfl) (by kernel_rfl) (by kernel_rfl) (fun _ _ _ h => h) S16 (Zj 3 10 true rfl (by kernel_rfl) rfl (by kernel_rfl)) (d := 14) (v := (.pointer (some ⟨b6, 0, none⟩))) rfl (fun _ H' => (by kernel_rfl)) ?_
  refine Ze 8 rfl (by kernel_rfl) (by kernel_rfl) (by kernel_rfl) (fun _ _ _ h => h) S16 (Zj 3 10 true rfl (by kernel_rfl) rfl (by kernel_rfl)) (d := 15) (v := (.pointer (some ⟨b6, 0, none⟩))) rfl (fun _ H' => (by kernel_rfl)) ?_
  refine Ze 9 rfl (by kernel_rfl) (by kernel_rfl) (by kernel_rfl) (fun _ _ _ h => h) S16 (Zj 3 10 true rfl (by kernel_rfl) rfl (by kernel_rfl)) (d := 16) (v := (.int .i64 (s.cl))) rfl (fun _ H' => (Zi rfl (by kernel_rfl) (H'.cell 2 rfl (by kernel_rfl)))) ?_
  refine Z0r 10 rfl (by kernel_rfl) (Zj 3 10 true rfl (by kernel_rfl) rfl (by kernel_rfl)) (fun K18 hK18 => ?_)
  refine Zv (d := 17) rfl (by kernel_rfl) (Z5D w13 s.cl) ?_
  rintro _ w19 ⟨rfl, u21⟩
  have H20 := H14.keepU u21
  refine ⟨_, rfl, ?_⟩
  have S22 := H20.pick [0, 1, 2] (by decide)
  refine hK18 _ _ S22 ?_
  clear hK18 K18
  refine Ze 11 rfl (by kernel_rfl) (by kernel_rfl) (by kernel_rfl) (fun _ _ _ h => h) S22 (Zj 3 10 true rfl (by kernel_rfl) rfl (by kernel_rfl)) (d := 18) (v := (.bool (decide (s.sb = (IntKind.i64.wrap (1000 + s.cl)))))) rfl (fun _ H' => (by kernel_rfl)) ?_
  refine Ze 12 rfl (by kernel_rfl) (by kernel_rfl) (by kernel_rfl) (fun _ _ _ h => h) S22 (Z1 rfl) (d := 19) (v := (.bool (decide (s.sb = (IntKind.i64.wrap (1000 + s.cl)))))) rfl (fun _ H' => (by kernel_rfl)) ?_
  refine Ze 13 rfl (by kernel_rfl) (by kernel_rfl) (by kernel_rfl) (fun _ _ _ h => h) S22 (Z1 rfl) (d := 20) (v := (.bool (decide (s.sb = (IntKind.i64.wrap (1000 + s.cl)))))) rfl (fun _ H' => (by kernel_rfl)) ?_
  refine (ZS (decide (s.sb = (IntKind.i64.wrap (1000 + s.cl))))).elim (fun b23 => ?_) (fun b23 => ?_)
  ·have g24 := of_decide_eq_true b23
   refine Z25 20 (.bool true) (congrArg Value.bool b23) ?_
   have g25 := of_decide_eq_true b23
   refine Ze 14 rfl (by kernel_rfl) (by kernel_rfl) (by kernel_rfl) (fun _ _ _ h => h) S22 (Zj 13 20 true rfl (by kernel_rfl) rfl (by kernel_rfl)) (d := 21) (v := (.pointer (some ⟨b, 0, none⟩))) rfl (fun _ H' => (by kernel_rfl)) ?_
   refine Ze 15 rfl (by kernel_rfl) (by kernel_rfl) (by kernel_rfl) (fun _ _ _ h => h) S22 (Zj 13 20 true rfl (by kernel_rfl) rfl (by kernel_rfl)) (d := 22) (v := (.pointer (some ⟨b6, 35, none⟩))) rfl (fun _ H' => (by kernel_rfl)) ?_
   refine Ze 16 rfl (by kernel_rfl) (by kernel_rfl) (by kernel_rfl) (fun _ _ _ h => h) S22 (Zj 13 20 true rfl (by kernel_rfl) rfl (by kernel_rfl)) (d := 23) (v := (.agg ⟨([(.int .i64 (s.sb)), (.int .i64 (s.sm))] : List Value)⟩)) rfl (fun _ H' => (ZB (vs := ([(.int .i64 (s.sb)), (.int .i64 (s.sm))] : List Value)) rfl (by kernel_rfl) (by kernel_rfl) (by exact Nat.le_of_ble_eq_true (by kernel_rfl)) (H'.at 2 rfl) (by kernel_rfl))) ?_
   refine Ze 17 rfl (by kernel_rfl) (by kernel_rfl) (by kernel_rfl) (fun _ _ _ h => h) S22 (Zj 13 20 true rfl (by kernel_rfl) rfl (by kernel_rfl)) (d := 24) (v := (.agg ⟨(([(.int .i64 (s.cl)), (.int .i64 (s.seq))] : List Value) ++ hc s.h ++ ([(.int .i64 (s.len)), (.int .i64 (s.sb)), (.int .i64 (s.sm))] : List Value))⟩)) rfl (fun _ H' => (ZB (vs := (([(.int .i64 (s.cl)), (.int .i64 (s.seq))] : List Value) ++ hc s.h ++ ([(.int .i64 (s.len)), (.int .i64 (s.sb)), (.int .i64 (s.sm))] : List Value))) rfl (by kernel_rfl) (by kernel_rfl) (by exact Nat.le_of_ble_eq_true (by kernel_rfl)) (H'.at 2 rfl) (by kernel_rfl))) ?_
   refine Z0r 18 rfl (by kernel_rfl) (Zj 13 20 true rfl (by kernel_rfl) rfl (by kernel_rfl)) (fun K26 hK26 => ?_)
   refine Zv (d := 25) rfl (by kernel_rfl) (Z3T w19 s hs) ?_
   rintro _ w27 ⟨u28, rfl, k29, p30, q31⟩
   have H32 : Sat w [Z6 w (fun _ => False), Z3 b2 36 ([(.int .i64 (f)), (.int .i64 (cn))] : List Value), Z3 b6 50 (([(.int .i64 (s.cl)), (.int .i64 (s.seq))] : List Value) ++ hc s.h ++ ([(.int .i64 (s.len)), (.int .i64 (s.sb)), (.int .i64 (s.sm))] : List Value)), Zb 5 1 u28 ((Zk s).length) ((Zk s).flatMap Zr)] w27 := H20.addU p30 k29 q31
   obtain ⟨a33, c34, rfl⟩ := Zl (H32.at 3 rfl)
   refine ⟨_, rfl, ?_⟩
   have S35 := H32.pick [0, 1, 2] (by decide)
   refine hK26 _ _ S35 ?_
   clear hK26 K26
   refine Z0r 19 rfl (by kernel_rfl) (Zj 13 20 true rfl (by kernel_rfl) rfl (by kernel_rfl)) (fun K36 hK36 => ?_)
   refine Zv (d := 26) rfl (by kernel_rfl) (Z3g w27 b mb L (H32.roCk 0 rfl hb (fun _ _ h => h)) (H32.roMap 0 rfl hm (fun h => h)) a33 c34 (Zk s) (ListAt.row (enc := Zr) (sz := 1) Z05 (by decide) (H32.at 3 rfl)) s.sb s.sm) ?_
   rintro _ w37 ⟨rfl, u39⟩
   have H38 := H32.keepU u39
   refine ⟨_, rfl, ?_⟩
   have S40 := H38.pick [0, 1, 2] (by decide)
   refine hK36 _ _ S40 ?_
   clear hK36 K36
   refine Ze 20 rfl (by kernel_rfl) (by kernel_rfl) (by kernel_rfl) (fun _ _ _ h => h) S40 (Z1 rfl) (d := 27) (v := (.bool (Z2d L s.sb s.sm (Zk s)))) rfl (fun _ H' => (by kernel_rfl)) ?_
   refine Ze 21 rfl (by kernel_rfl) (by kernel_rfl) (by kernel_rfl) (fun _ _ _ h => h) S40 (Z1 rfl) (d := 6) (v := (.bool (Z2d L s.sb s.sm (Zk s)))) rfl (fun _ H' => (by kernel_rfl)) ?_
   refine Z0C (by kernel_rfl) ?_
   refine Z4 ?_
   refine ZY ?_
   refine Z0O rfl (ZF (v := (.bool (Z2d L s.sb s.sm (Zk s)))) rfl) ?_
   exact ⟨by simp [Z2N, b17, b23], H38.upd 0 rfl [] (fun _ h => h.elim)⟩
  ·have g41 := of_decide_eq_false b23
   refine Z25 20 (.bool false) (congrArg Value.bool b23) ?_
   have g42 := of_decide_eq_false b23
   refine ZT 14 rfl (by kernel_rfl) (by kernel_rfl) (by kernel_rfl) (fun _ _ _ h => h) S22 (Zh 13 20 true rfl (by kernel_rfl) rfl (by kernel_rfl)) rfl ?_
   refine ZT 15 rfl (by kernel_rfl) (by kernel_rfl) (by kernel_rfl) (fun _ _ _ h => h) S22 (Zh 13 20 true rfl (by kernel_rfl) rfl (by kernel_rfl)) rfl ?_
   refine ZT 16 rfl (by kernel_rfl) (by kernel_rfl) (by kernel_rfl) (fun _ _ _ h => h) S22 (Zh 13 20 true rfl (by kernel_rfl) rfl (by kernel_rfl)) rfl ?_
   refine ZT 17 rfl (by kernel_rfl) (by kernel_rfl) (by kernel_rfl) (fun _ _ _ h => h) S22 (Zh 13 20 true rfl (by kernel_rfl) rfl (by kernel_rfl)) rfl ?_
   refine ZT 18 rfl (by kernel_rfl) (by kernel_rfl) (by kernel_rfl) (fun _ _ _ h => h) S22 (Zh 13 20 true rfl (by kernel_rfl) rfl (by kernel_rfl)) rfl ?_
   refine ZT 19 rfl (by kernel_rfl) (by kernel_rfl) (by kernel_rfl) (fun _ _ _ h => h) S22 (Zh 13 20 true rfl (by kernel_rfl) rfl (by kernel_rfl)) rfl ?_
   refine Ze 20 rfl (by kernel_rfl) (by kernel_rfl) (by kernel_rfl) (fun _ _ _ h => h) S22 (Z1 rfl) (d := 27) (v := (.bool false)) rfl (fun _ H' => (by kernel_rfl)) ?_
   refine Ze 21 rfl (by kernel_rfl) (by kernel_rfl) (by kernel_rfl) (fun _ _ _ h => h) S22 (Z1 rfl) (d := 6) (v := (.bool false)) rfl (fun _ H' => (by kernel_rfl)) ?_
   refine Z0C (by kernel_rfl) ?_
   refine Z4 ?_
   refine ZY ?_
   refine Z0O rfl (ZF (v := (.bool false)) rfl) ?_
   exact ⟨by simp [Z2N, b17, b23], H20.upd 0 rfl [] (fun _ h => h.elim)⟩
 ·refine Z25 10 (.bool false) (congrArg Value.bool b17) ?_
  refine ZT 4 rfl (by kernel_rfl) (by kernel_rfl) (by kernel_rfl) (fun _ _ _ h => h) S16 (Zh 3 10 true rfl (by kernel_rfl) rfl (by kernel_rfl)) rfl ?_
  refine ZT 5 rfl (by kernel_rfl) (by kernel_rfl) (by kernel_rfl) (fun _ _ _ h => h) S16 (Zh 3 10 true rfl (by kernel_rfl) rfl (by kernel_rfl)) rfl ?_
  refine ZT 6 rfl (by kernel_rfl) (by kernel_rfl) (by kernel_rfl) (fun _ _ _ h => h) S16 (Zh 3 10 true rfl (by kernel_rfl) rfl (by kernel_rfl)) rfl ?_
  refine ZT 7 rfl (by kernel_rfl) (by kernel_rfl) (by kernel_rfl) (fun _ _ _ h => h) S16 (Zh 3 10 true rfl (by kernel_rfl) rfl (by kernel_rfl)) rfl ?_
  refine ZT 8 rfl (by kernel_rfl) (by kernel_rfl) (by kernel_rfl) (fun _ _ _ h => h) S16 (Zh 3 10 true rfl (by kernel_rfl) rfl (by kernel_rfl)) rfl ?_
  refine ZT 9 rfl (by kernel_rfl) (by kernel_rfl) (by kernel_rfl) (fun _ _ _ h => h) S16 (Zh 3 10 true rfl (by kernel_rfl) rfl (by kernel_rfl)) rfl ?_
  refine ZT 10 rfl (by kernel_rfl) (by kernel_rfl) (by kernel_rfl) (fun _ _ _ h => h) S16 (Zh 3 10 true rfl (by kernel_rfl) rfl (by kernel_rfl)) rfl ?_
  refine ZT 11 rfl (by kernel_rfl) (by kernel_rfl) (by kernel_rfl) (fun _ _ _ h => h) S16 (Zh 3 10 true rfl (by kernel_rfl) rfl (by kernel_rfl)) rfl ?_
  refine Ze 12 rfl (by kernel_rfl) (by kernel_rfl) (by kernel_rfl) (fun _ _ _ h => h) S16 (Z1 rfl) (d := 19) (v := (.bool false)) rfl (fun _ H' => (by kernel_rfl)) ?_
  refine Ze 13 rfl (by kernel_rfl) (by kernel_rfl) (by kernel_rfl) (fun _ _ _ h => h) S16 (Z1 rfl) (d := 20) (v := (.bool false)) rfl (fun _ H' => (by kernel_rfl)) ?_
  refine ZT 14 rfl (by kernel_rfl) (by kernel_rfl) (by kernel_rfl) (fun _ _ _ h => h) S16 (Zh 13 20 true rfl (by kernel_rfl) rfl (by kernel_rfl)) rfl ?_
  refine ZT 15 rfl (by kernel_rfl) (by kernel_rfl) (by kernel_rfl) (fun _ _ _ h => h) S16 (Zh 13 20 true rfl (by kernel_rfl) rfl (by kernel_rfl)) rfl ?_
  refine ZT 16 rfl (by kernel_rfl) (by kernel_rfl) (by kernel_rfl) (fun _ _ _ h => h) S16 (Zh 13 20 true rfl (by kernel_rfl) rfl (by kernel_rfl)) rfl ?_
  refine ZT 17 rfl (by kernel_rfl) (by kernel_rfl) (by kernel_rfl) (fun _ _ _ h => h) S16 (Zh 13 20 true rfl (by kernel_rfl) rfl (by kernel_rfl)) rfl ?_
  refine ZT 18 rfl (by kernel_rfl) (by kernel_rfl) (by kernel_rfl) (fun _ _ _ h => h) S16 (Zh 13 20 true rfl (by kernel_rfl) rfl (by kernel_rfl)) rfl ?_
  refine ZT 19 rfl (by kernel_rfl) (by kernel_rfl) (by kernel_rfl) (fun _ _ _ h => h) S16 (Zh 13 20 true rfl (by kernel_rfl) rfl (by kernel_rfl)) rfl ?_
  refine Ze 20 rfl (by kernel_rfl) (by kernel_rfl) (by kernel_rfl) (fun _ _ _ h => h) S16 (Z1 rfl) (d := 27) (v := (.bool false)) rfl (fun _ H' => (by kernel_rfl)) ?_
  refine Ze 21 rfl (by kernel_rfl) (by kernel_rfl) (by kernel_rfl) (fun _ _ _ h => h) S16 (Z1 rfl) (d := 6) (v := (.bool false)) rfl (fun _ H' => (by kernel_rfl)) ?_
  refine Z0C (by kernel_rfl) ?_
  refine Z4 ?_
  refine ZY ?_
  refine Z0O rfl (ZF (v := (.bool false)) rfl) ?_
  exact ⟨by simp [Z2N, b17], H14.upd 0 rfl [] (fun _ h => h.elim)⟩
theorem Z3S (w : World) (f cn : Int) (hf : -1099511627776 ≤ f ∧ f ≤ 1099511627776) (b mb : Nat) (L : List Signed) (hb : (Z3 b 110 [.map (some mb)]).ok w) (hm : MapAt w mb Za (Value.int .i64) (Zq L)) (s : Zd) (hs : Z83 s) :
  Calls Tryz.prog 91 #[(.agg ⟨([(.int .i64 (f)), (.int .i64 (cn))] : List Value)⟩), (.pointer (some ⟨b, 0, none⟩)), (.agg ⟨(([(.int .i64 (s.r)), (.int .i64 (s.cl)), (.int .i64 (s.seq))] : List Value) ++ hc s.h ++ ([(.int .u64 (s.t)), (.int .i64 (s.sb)), (.int .i64 (s.sm))] : List Value))⟩)] w fun e w' => e = .returned (.bool (Z1S f L s)) ∧ Upd [] w w' := by
 have H := Sat.start0 w
 have hs2 := hs
 unfold Z83 at hs2
 refine ZE Tryz.func91 rfl 37 rfl (Nat.le_of_ble_eq_true rfl) ?_
 refine Zc ?_
 refine Zp ?_
 refine ZA (Z1 rfl) (fun K1 hK1 => ?_)
 refine Z0H (vs := ([(.int .i64 (f)), (.int .i64 (cn))] : List Value)) rfl H rfl rfl ?_
 intro b2 w3 (H4 : Sat w [Z6 w (fun _ => False), Z3 b2 36 ([(.int .i64 (f)), (.int .i64 (cn))] : List Value)] w3)
 refine hK1 _ _ ?_
 clear hK1 K1
 refine ZA (Z1 rfl) (fun K5 hK5 => ?_)
 refine Z0H (vs := (([(.int .i64 (s.r)), (.int .i64 (s.cl)), (.int .i64 (s.seq))] : List Value) ++ hc s.h ++ ([(.int .u64 (s.t)), (.int .i64 (s.sb)), (.int .i64 (s.sm))] : List Value))) rfl H4 rfl rfl ?_
 intro b6 w7 (H8 : Sat w [Z6 w (fun _ => False), Z3 b2 36 ([(.int .i64 (f)), (.int .i64 (cn))] : List Value), Z3 b6 101 (([(.int .i64 (s.r)), (.int .i64 (s.cl)), (.int .i64 (s.seq))] : List Value) ++ hc s.h ++ ([(.int .u64 (s.t)), (.int .i64 (s.sb)), (.int .i64 (s.sm))] : List Value))] w7)
 refine hK5 _ _ ?_
 clear hK5 K5
 refine Z2 (Z1 rfl) (d := 6) (v := (.bool false)) rfl (by kernel_rfl) ?_
 refine Zm ?_
 refine Z4 ?_
 refine Zc ?_
 refine Z0k H8 [Z6 w (fun _ => False), Z3 b2 36 ([(.int .i64 (f)), (.int .i64 (cn))] : List Value), Z3 b6 101 (([(.int .i64 (s.r)), (.int .i64 (s.cl)), (.int .i64 (s.seq))] : List Value) ++ hc s.h ++ ([(.int .u64 (s.t)), (.int .i64 (s.sb)), (.int .i64 (s.sm))] : List Value))] 31 rfl (by kernel_rfl) (fun Hx => (Hx.pick [0, 1, 2] (by decide))) ?_
 intro w9 H10 S11
 refine Ze 0 rfl (by kernel_rfl) (by kernel_rfl) (by kernel_rfl) (fun _ _ _ h => h) S11 (Z1 rfl) (d := 7) (v := (.agg ⟨([(.int .i64 (f)), (.int .i64 (cn))] : List Value)⟩)) rfl (fun _ H' => (ZB (vs := ([(.int .i64 (f)), (.int .i64 (cn))] : List Value)) rfl (by kernel_rfl) (by kernel_rfl) (by exact Nat.le_of_ble_eq_true (by kernel_rfl)) (H'.at 1 rfl) (by kernel_rfl))) ?_
 refine Ze 1 rfl (by kernel_rfl) (by kernel_rfl) (by kernel_rfl) (fun _ _ _ h => h) S11 (Z1 rfl) (d := 8) (v := (.pointer (some ⟨b6, 0, none⟩))) rfl (fun _ H' => (by kernel_rfl)) ?_
 refine Ze 2 rfl (by kernel_rfl) (by kernel_rfl) (by kernel_rfl) (fun _ _ _ h => h) S11 (Z1 rfl) (d := 9) (v := (.int .i64 (s.r))) rfl (fun _ H' => (Zi rfl (by kernel_rfl) (H'.cell 2 rfl (by kernel_rfl)))) ?_
 refine Z0r 3 rfl (by kernel_rfl) (Z1 rfl) (fun K12 hK12 => ?_)
 refine Zv (d := 10) rfl (by kernel_rfl) (Z6X w9 f cn s.r (by omega)) ?_
 rintro _ w13 ⟨rfl, u15⟩
 have H14 := H10.keepU u15
 refine ⟨_, rfl, ?_⟩
 have S16 := H14.pick [0, 1, 2] (by decide)
 refine hK12 _ _ S16 ?_
 clear hK12 K12
 refine Ze 4 rfl (by kernel_rfl) (by kernel_rfl) (by kernel_rfl) (fun _ _ _ h => h) S16 (Z1 rfl) (d := 11) (v := (.bool (inB f s.r))) rfl (fun _ H' => (by kernel_rfl)) ?_
 refine (ZS (inB f s.r)).elim (fun b17 => ?_) (fun b17 => ?_)
 ·refine Z25 11 (.bool true) (congrArg Value.bool b17) ?_
  refine Ze 5 rfl (by kernel_rfl) (by kernel_rfl) (by kernel_rfl) (fun _ _ _ h => h) S16 (Zj 4 11 true rfl (by kernel_rfl) rfl (by kernel_rfl)) (d := 12) (v := (.pointer (some ⟨b6, 35, none⟩))) rfl (fun _ H' => (by kernel_rfl)) ?_
  refine Ze 6 rfl (by kernel_rfl) (by kernel_rfl) (by kernel_rfl) (fun _ _ _ h => h) S16 (Zj 4 11 true rfl (by kernel_rfl) rfl (by kernel_rfl)) (d := 13) (v := (.int .u64 (s.t))) rfl (fun _ H' => (Zi rfl (by kernel_rfl) (H'.cell 2 rfl (by kernel_rfl)))) ?_
  refine Ze 7 rfl (by kernel_rfl) (by kernel_rfl) (by kernel_rfl) (fun _ _ _ h => h) S16 (Zj 4 11 true rfl (by kernel_rfl) rfl (by kernel_rfl)) (d := 14) (v := (.bool (decide (s.t ≥ 1)))) rfl (fun _ H' => (by kernel_rfl)) ?_
  refine Ze 8 rfl (by kernel_rfl) (by kernel_rfl) (by kernel_rfl) (fun _ _ _ h => h) S16 (Z1 rfl) (d := 15) (v := (.bool (decide (s.t ≥ 1)))) rfl (fun _ H' => (by kernel_rfl)) ?_
  refine Ze 9 rfl (by kernel_rfl) (by kernel_rfl) (by kernel_rfl) (fun _ _ _ h => h) S16 (Z1 rfl) (d := 16) (v := (.bool (decide (s.t ≥ 1)))) rfl (fun _ H' => (by kernel_rfl)) ?_
  refine (ZS (decide (s.t ≥ 1))).elim (fun b18 => ?_) (fun b18 => ?_)
  ·have g19 := of_decide_eq_true b18
   refine Z25 16 (.bool true) (congrArg Value.bool b18) ?_
   have g20 := of_decide_eq_true b18
   refine Ze 10 rfl (by kernel_rfl) (by kernel_rfl) (by kernel_rfl) (fun _ _ _ h => h) S16 (Zj 9 16 true rfl (by kernel_rfl) rfl (by kernel_rfl)) (d := 17) (v := (.pointer (some ⟨b6, 35, none⟩))) rfl (fun _ H' => (by kernel_rfl)) ?_
   refine Ze 11 rfl (by kernel_rfl) (by kernel_rfl) (by kernel_rfl) (fun _ _ _ h => h) S16 (Zj 9 16 true rfl (by kernel_rfl) rfl (by kernel_rfl)) (d := 18) (v := (.int .u64 (s.t))) rfl (fun _ H' => (Zi rfl (by kernel_rfl) (H'.cell 2 rfl (by kernel_rfl)))) ?_
   refine Ze 12 rfl (by kernel_rfl) (by kernel_rfl) (by kernel_rfl) (fun _ _ _ h => h) S16 (Zj 9 16 true rfl (by kernel_rfl) rfl (by kernel_rfl)) (d := 19) (v := (.bool (decide (s.t < 18446744073709551615)))) rfl (fun _ H' => (by kernel_rfl)) ?_
   refine Ze 13 rfl (by kernel_rfl) (by kernel_rfl) (by kernel_rfl) (fun _ _ _ h => h) S16 (Z1 rfl) (d := 20) (v := (.bool (decide (s.t < 18446744073709551615)))) rfl (fun _ H' => (by kernel_rfl)) ?_
   refine Ze 14 rfl (by kernel_rfl) (by kernel_rfl) (by kernel_rfl) (fun _ _ _ h => h) S16 (Z1 rfl) (d := 21) (v := (.bool (decide (s.t < 18446744073709551615)))) rfl (fun _ H' => (by kernel_rfl)) ?_
   refine (ZS (decide (s.t < 18446744073709551615))).elim (fun b21 => ?_) (fun b21 => ?_)
   ·have g22 := of_decide_eq_true b21
    refine Z25 21 (.bool true) (congrArg Value.bool b21) ?_
    have g23 := of_decide_eq_true b21
    refine Ze 15 rfl (by kernel_rfl) (by kernel_rfl) (by kernel_rfl) (fun _ _ _ h => h) S16 (Zj 14 21 true rfl (by kernel_rfl) rfl (by kernel_rfl)) (d := 22) (v := (.pointer (some ⟨b6, 36, none⟩))) rfl (fun _ H' => (by kernel_rfl)) ?_
    refine Ze 16 rfl (by kernel_rfl) (by kernel_rfl) (by kernel_rfl) (fun _ _ _ h => h) S16 (Zj 14 21 true rfl (by kernel_rfl) rfl (by kernel_rfl)) (d := 23) (v := (.pointer (some ⟨b6, 36, none⟩))) rfl (fun _ H' => (by kernel_rfl)) ?_
    refine Ze 17 rfl (by kernel_rfl) (by kernel_rfl) (by kernel_rfl) (fun _ _ _ h => h) S16 (Zj 14 21 true rfl (by kernel_rfl) rfl (by kernel_rfl)) (d := 24) (v := (.int .i64 (s.sb))) rfl (fun _ H' => (Zi rfl (by kernel_rfl) (H'.cell 2 rfl (by kernel_rfl)))) ?_
    refine Ze 18 rfl (by kernel_rfl) (by kernel_rfl) (by kernel_rfl) (fun _ _ _ h => h) S16 (Zj 14 21 true rfl (by kernel_rfl) rfl (by kernel_rfl)) (d := 25) (v := (.pointer (some ⟨b6, 0, none⟩))) rfl (fun _ H' => (by kernel_rfl)) ?_
    refine Ze 19 rfl (by kernel_rfl) (by kernel_rfl) (by kernel_rfl) (fun _ _ _ h => h) S16 (Zj 14 21 true rfl (by kernel_rfl) rfl (by kernel_rfl)) (d := 26) (v := (.int .i64 (s.r))) rfl (fun _ H' => (Zi rfl (by kernel_rfl) (H'.cell 2 rfl (by kernel_rfl)))) ?_
    refine Ze 20 rfl (by kernel_rfl) (by kernel_rfl) (by kernel_rfl) (fun _ _ _ h => h) S16 (Zj 14 21 true rfl (by kernel_rfl) rfl (by kernel_rfl)) (d := 27) (v := (.bool (decide (s.sb = s.r)))) rfl (fun _ H' => (by kernel_rfl)) ?_
    refine Ze 21 rfl (by kernel_rfl) (by kernel_rfl) (by kernel_rfl) (fun _ _ _ h => h) S16 (Z1 rfl) (d := 28) (v := (.bool (decide (s.sb = s.r)))) rfl (fun _ H' => (by kernel_rfl)) ?_
    refine Ze 22 rfl (by kernel_rfl) (by kernel_rfl) (by kernel_rfl) (fun _ _ _ h => h) S16 (Z1 rfl) (d := 29) (v := (.bool (decide (s.sb = s.r)))) rfl (fun _ H' => (by kernel_rfl)) ?_
    refine (ZS (decide (s.sb = s.r))).elim (fun b24 => ?_) (fun b24 => ?_)
    ·have g25 := of_decide_eq_true b24
     refine Z25 29 (.bool true) (congrArg Value.bool b24) ?_
     have g26 := of_decide_eq_true b24
     refine Ze 23 rfl (by kernel_rfl) (by kernel_rfl) (by kernel_rfl) (fun _ _ _ h => h) S16 (Zj 22 29 true rfl (by kernel_rfl) rfl (by kernel_rfl)) (d := 30) (v := (.pointer (some ⟨b, 0, none⟩))) rfl (fun _ H' => (by kernel_rfl)) ?_
     refine Ze 24 rfl (by kernel_rfl) (by kernel_rfl) (by kernel_rfl) (fun _ _ _ h => h) S16 (Zj 22 29 true rfl (by kernel_rfl) rfl (by kernel_rfl)) (d := 31) (v := (.pointer (some ⟨b6, 36, none⟩))) rfl (fun _ H' => (by kernel_rfl)) ?_
     refine Ze 25 rfl (by kernel_rfl) (by kernel_rfl) (by kernel_rfl) (fun _ _ _ h => h) S16 (Zj 22 29 true rfl (by kernel_rfl) rfl (by kernel_rfl)) (d := 32) (v := (.agg ⟨([(.int .i64 (s.sb)), (.int .i64 (s.sm))] : List Value)⟩)) rfl (fun _ H' => (ZB (vs := ([(.int .i64 (s.sb)), (.int .i64 (s.sm))] : List Value)) rfl (by kernel_rfl) (by kernel_rfl) (by exact Nat.le_of_ble_eq_true (by kernel_rfl)) (H'.at 2 rfl) (by kernel_rfl))) ?_
     refine Ze 26 rfl (by kernel_rfl) (by kernel_rfl) (by kernel_rfl) (fun _ _ _ h => h) S16 (Zj 22 29 true rfl (by kernel_rfl) rfl (by kernel_rfl)) (d := 33) (v := (.agg ⟨(([(.int .i64 (s.r)), (.int .i64 (s.cl)), (.int .i64 (s.seq))] : List Value) ++ hc s.h ++ ([(.int .u64 (s.t)), (.int .i64 (s.sb)), (.int .i64 (s.sm))] : List Value))⟩)) rfl (fun _ H' => (ZB (vs := (([(.int .i64 (s.r)), (.int .i64 (s.cl)), (.int .i64 (s.seq))] : List Value) ++ hc s.h ++ ([(.int .u64 (s.t)), (.int .i64 (s.sb)), (.int .i64 (s.sm))] : List Value))) rfl (by kernel_rfl) (by kernel_rfl) (by exact Nat.le_of_ble_eq_true (by kernel_rfl)) (H'.at 2 rfl) (by kernel_rfl))) ?_
     refine Z0r 27 rfl (by kernel_rfl) (Zj 22 29 true rfl (by kernel_rfl) rfl (by kernel_rfl)) (fun K27 hK27 => ?_)
     refine Zv (d := 34) rfl (by kernel_rfl) (Z40 w13 s hs) ?_
     rintro _ w28 ⟨u29, rfl, k30, p31, q32⟩
     have H33 : Sat w [Z6 w (fun _ => False), Z3 b2 36 ([(.int .i64 (f)), (.int .i64 (cn))] : List Value), Z3 b6 101 (([(.int .i64 (s.r)), (.int .i64 (s.cl)), (.int .i64 (s.seq))] : List Value) ++ hc s.h ++ ([(.int .u64 (s.t)), (.int .i64 (s.sb)), (.int .i64 (s.sm))] : List Value)), Zb 5 1 u29 ((Zw s).length) ((Zw s).flatMap Zr)] w28 := H14.addU p31 k30 q32
     obtain ⟨a34, c35, rfl⟩ := Zl (H33.at 3 rfl)
     refine ⟨_, rfl, ?_⟩
     have S36 := H33.pick [0, 1, 2] (by decide)
     refine hK27 _ _ S36 ?_
     clear hK27 K27
     refine Z0r 28 rfl (by kernel_rfl) (Zj 22 29 true rfl (by kernel_rfl) rfl (by kernel_rfl)) (fun K37 hK37 => ?_)
     refine Zv (d := 35) rfl (by kernel_rfl) (Z3g w28 b mb L (H33.roCk 0 rfl hb (fun _ _ h => h)) (H33.roMap 0 rfl hm (fun h => h)) a34 c35 (Zw s) (ListAt.row (enc := Zr) (sz := 1) Z05 (by decide) (H33.at 3 rfl)) s.sb s.sm) ?_
     rintro _ w38 ⟨rfl, u40⟩
     have H39 := H33.keepU u40
     refine ⟨_, rfl, ?_⟩
     have S41 := H39.pick [0, 1, 2] (by decide)
     refine hK37 _ _ S41 ?_
     clear hK37 K37
     refine Ze 29 rfl (by kernel_rfl) (by kernel_rfl) (by kernel_rfl) (fun _ _ _ h => h) S41 (Z1 rfl) (d := 36) (v := (.bool (Z2d L s.sb s.sm (Zw s)))) rfl (fun _ H' => (by kernel_rfl)) ?_
     refine Ze 30 rfl (by kernel_rfl) (by kernel_rfl) (by kernel_rfl) (fun _ _ _ h => h) S41 (Z1 rfl) (d := 6) (v := (.bool (Z2d L s.sb s.sm (Zw s)))) rfl (fun _ H' => (by kernel_rfl)) ?_
     refine Z0C (by kernel_rfl) ?_
     refine Z4 ?_
     refine ZY ?_
     refine Z0O rfl (ZF (v := (.bool (Z2d L s.sb s.sm (Zw s)))) rfl) ?_
     exact ⟨by simp [Z1S, b17, b18, b21, b24], H39.upd 0 rfl [] (fun _ h => h.elim)⟩
    ·have g42 := of_decide_eq_false b24
     refine Z25 29 (.bool false) (congrArg Value.bool b24) ?_
     have g43 := of_decide_eq_false b24
     refine ZT 23 rfl (by kernel_rfl) (by kernel_rfl) (by kernel_rfl) (fun _ _ _ h => h) S16 (Zh 22 29 true rfl (by kernel_rfl) rfl (by kernel_rfl)) rfl ?_
     refine ZT 24 rfl (by kernel_rfl) (by kernel_rfl) (by kernel_rfl) (fun _ _ _ h => h) S16 (Zh 22 29 true rfl (by kernel_rfl) rfl (by kernel_rfl)) rfl ?_
     refine ZT 25 rfl (by kernel_rfl) (by kernel_rfl) (by kernel_rfl) (fun _ _ _ h => h) S16 (Zh 22 29 true rfl (by kernel_rfl) rfl (by kernel_rfl)) rfl ?_
     refine ZT 26 rfl (by kernel_rfl) (by kernel_rfl) (by kernel_rfl) (fun _ _ _ h => h) S16 (Zh 22 29 true rfl (by kernel_rfl) rfl (by kernel_rfl)) rfl ?_
     refine ZT 27 rfl (by kernel_rfl) (by kernel_rfl) (by kernel_rfl) (fun _ _ _ h => h) S16 (Zh 22 29 true rfl (by kernel_rfl) rfl (by kernel_rfl)) rfl ?_
     refine ZT 28 rfl (by kernel_rfl) (by kernel_rfl) (by kernel_rfl) (fun _ _ _ h => h) S16 (Zh 22 29 true rfl (by kernel_rfl) rfl (by kernel_rfl)) rfl ?_
     refine Ze 29 rfl (by kernel_rfl) (by kernel_rfl) (by kernel_rfl) (fun _ _ _ h => h) S16 (Z1 rfl) (d := 36) (v := (.bool false)) rfl (fun _ H' => (by kernel_rfl)) ?_
     refine Ze 30 rfl (by kernel_rfl) (by kernel_rfl) (by kernel_rfl) (fun _ _ _ h => h) S16 (Z1 rfl) (d := 6) (v := (.bool false)) rfl (fun _ H' => (by kernel_rfl)) ?_
     refine Z0C (by kernel_rfl) ?_
     refine Z4 ?_
     refine ZY ?_
     refine Z0O rfl (ZF (v := (.bool false)) rfl) ?_
     exact ⟨by simp [Z1S, b17, b18, b21, b24], H14.upd 0 rfl [] (fun _ h => h.elim)⟩
   ·have g44 := of_decide_eq_false b21
    refine Z25 21 (.bool false) (congrArg Value.bool b21) ?_
    have g45 := of_decide_eq_false b21
    refine ZT 15 rfl (by kernel_rfl) (by kernel_rfl) (by kernel_rfl) (fun _ _ _ h => h) S16 (Zh 14 21 true rfl (by kernel_rfl) rfl (by kernel_rfl)) rfl ?_
    refine ZT 16 rfl (by kernel_rfl) (by kernel_rfl) (by kernel_rfl) (fun _ _ _ h => h) S16 (Zh 14 21 true rfl (by kernel_rfl) rfl (by kernel_rfl)) rfl ?_
    refine ZT 17 rfl (by kernel_rfl) (by kernel_rfl) (by kernel_rfl) (fun _ _ _ h => h) S16 (Zh 14 21 true rfl (by kernel_rfl) rfl (by kernel_rfl)) rfl ?_
    refine ZT 18 rfl (by kernel_rfl) (by kernel_rfl) (by kernel_rfl) (fun _ _ _ h => h) S16 (Zh 14 21 true rfl (by kernel_rfl) rfl (by kernel_rfl)) rfl ?_
    refine ZT 19 rfl (by kernel_rfl) (by kernel_rfl) (by kernel_rfl) (fun _ _ _ h => h) S16 (Zh 14 21 true rfl (by kernel_rfl) rfl (by kernel_rfl)) rfl ?_
    refine ZT 20 rfl (by kernel_rfl) (by kernel_rfl) (by kernel_rfl) (fun _ _ _ h => h) S16 (Zh 14 21 true rfl (by kernel_rfl) rfl (by kernel_rfl)) rfl ?_
    refine Ze 21 rfl (by kernel_rfl) (by kernel_rfl) (by kernel_rfl) (fun _ _ _ h => h) S16 (Z1 rfl) (d := 28) (v := (.bool false)) rfl (fun _ H' => (by kernel_rfl)) ?_
    refine Ze 22 rfl (by kernel_rfl) (by kernel_rfl) (by kernel_rfl) (fun _ _ _ h => h) S16 (Z1 rfl) (d := 29) (v := (.bool false)) rfl (fun _ H' => (by kernel_rfl)) ?_
    refine ZT 23 rfl (by kernel_rfl) (by kernel_rfl) (by kernel_rfl) (fun _ _ _ h => h) S16 (Zh 22 29 true rfl (by kernel_rfl) rfl (by kernel_rfl)) rfl ?_
    refine ZT 24 rfl (by kernel_rfl) (by kernel_rfl) (by kernel_rfl) (fun _ _ _ h => h) S16 (Zh 22 29 true rfl (by kernel_rfl) rfl (by kernel_rfl)) rfl ?_
    refine ZT 25 rfl (by kernel_rfl) (by kernel_rfl) (by kernel_rfl) (fun _ _ _ h => h) S16 (Zh 22 29 true rfl (by kernel_rfl) rfl (by kernel_rfl)) rfl ?_
    refine ZT 26 rfl (by kernel_rfl) (by kernel_rfl) (by kernel_rfl) (fun _ _ _ h => h) S16 (Zh 22 29 true rfl (by kernel_rfl) rfl (by kernel_rfl)) rfl ?_
    refine ZT 27 rfl (by kernel_rfl) (by kernel_rfl) (by kernel_rfl) (fun _ _ _ h => h) S16 (Zh 22 29 true rfl (by kernel_rfl) rfl (by kernel_rfl)) rfl ?_
    refine ZT 28 rfl (by kernel_rfl) (by kernel_rfl) (by kernel_rfl) (fun _ _ _ h => h) S16 (Zh 22 29 true rfl (by kernel_rfl) rfl (by kernel_rfl)) rfl ?_
    refine Ze 29 rfl (by kernel_rfl) (by kernel_rfl) (by kernel_rfl) (fun _ _ _ h => h) S16 (Z1 rfl) (d := 36) (v := (.bool false)) rfl (fun _ H' => (by kernel_rfl)) ?_
    refine Ze 30 rfl (by kernel_rfl) (by kernel_rfl) (by kernel_rfl) (fun _ _ _ h => h) S16 (Z1 rfl) (d := 6) (v := (.bool false)) rfl (fun _ H' => (by kernel_rfl)) ?_
    refine Z0C (by kernel_rfl) ?_
    refine Z4 ?_
    refine ZY ?_
    refine Z0O rfl (ZF (v := (.bool false)) rfl) ?_
    exact ⟨by simp [Z1S, b17, b18, b21], H14.upd 0 rfl [] (fun _ h => h.elim)⟩
  ·have g46 := of_decide_eq_false b18
   refine Z25 16 (.bool false) (congrArg Value.bool b18) ?_
   have g47 := of_decide_eq_false b18
   refine ZT 10 rfl (by kernel_rfl) (by kernel_rfl) (by kernel_rfl) (fun _ _ _ h => h) S16 (Zh 9 16 true rfl (by kernel_rfl) rfl (by kernel_rfl)) rfl ?_
   refine ZT 11 rfl (by kernel_rfl) (by kernel_rfl) (by kernel_rfl) (fun _ _ _ h => h) S16 (Zh 9 16 true rfl (by kernel_rfl) rfl (by kernel_rfl)) rfl ?_
   refine ZT 12 rfl (by kernel_rfl) (by kernel_rfl) (by kernel_rfl) (fun _ _ _ h => h) S16 (Zh 9 16 true rfl (by kernel_rfl) rfl (by kernel_rfl)) rfl ?_
   refine Ze 13 rfl (by kernel_rfl) (by kernel_rfl) (by kernel_rfl) (fun _ _ _ h => h) S16 (Z1 rfl) (d := 20) (v := (.bool false)) rfl (fun _ H' => (by kernel_rfl)) ?_
   refine Ze 14 rfl (by kernel_rfl) (by kernel_rfl) (by kernel_rfl) (fun _ _ _ h => h) S16 (Z1 rfl) (d := 21) (v := (.bool false)) rfl (fun _ H' => (by kernel_rfl)) ?_
   refine ZT 15 rfl (by kernel_rfl) (by kernel_rfl) (by kernel_rfl) (fun _ _ _ h => h) S16 (Zh 14 21 true rfl (by kernel_rfl) rfl (by kernel_rfl)) rfl ?_
   refine ZT 16 rfl (by kernel_rfl) (by kernel_rfl) (by kernel_rfl) (fun _ _ _ h => h) S16 (Zh 14 21 true rfl (by kernel_rfl) rfl (by kernel_rfl)) rfl ?_
   refine ZT 17 rfl (by kernel_rfl) (by kernel_rfl) (by kernel_rfl) (fun _ _ _ h => h) S16 (Zh 14 21 true rfl (by kernel_rfl) rfl (by kernel_rfl)) rfl ?_
   refine ZT 18 rfl (by kernel_rfl) (by kernel_rfl) (by kernel_rfl) (fun _ _ _ h => h) S16 (Zh 14 21 true rfl (by kernel_rfl) rfl (by kernel_rfl)) rfl ?_
   refine ZT 19 rfl (by kernel_rfl) (by kernel_rfl) (by kernel_rfl) (fun _ _ _ h => h) S16 (Zh 14 21 true rfl (by kernel_rfl) rfl (by kernel_rfl)) rfl ?_
   refine ZT 20 rfl (by kernel_rfl) (by kernel_rfl) (by kernel_rfl) (fun _ _ _ h => h) S16 (Zh 14 21 true rfl (by kernel_rfl) rfl (by kernel_rfl)) rfl ?_
   refine Ze 21 rfl (by kernel_rfl) (by kernel_rfl) (by kernel_rfl) (fun _ _ _ h => h) S16 (Z1 rfl) (d := 28) (v := (.bool false)) rfl (fun _ H' => (by kernel_rfl)) ?_
   refine Ze 22 rfl (by kernel_rfl) (by kernel_rfl) (by kernel_rfl) (fun _ _ _ h => h) S16 (Z1 rfl) (d := 29) (v := (.bool false)) rfl (fun _ H' => (by kernel_rfl)) ?_
   refine ZT 23 rfl (by kernel_rfl) (by kernel_rfl) (by kernel_rfl) (fun _ _ _ h => h) S16 (Zh 22 29 true rfl (by kernel_rfl) rfl (by kernel_rfl)) rfl ?_
   refine ZT 24 rfl (by kernel_rfl) (by kernel_rfl) (by kernel_rfl) (fun _ _ _ h => h) S16 (Zh 22 29 true rfl (by kernel_rfl) rfl (by kernel_rfl)) rfl ?_
   refine ZT 25 rfl (by kernel_rfl) (by kernel_rfl) (by kernel_rfl) (fun _ _ _ h => h) S16 (Zh 22 29 true rfl (by kernel_rfl) rfl (by kernel_rfl)) rfl ?_
   refine ZT 26 rfl (by kernel_rfl) (by kernel_rfl) (by kernel_rfl) (fun _ _ _ h => h) S16 (Zh 22 29 true rfl (by kernel_rfl) rfl (by kernel_rfl)) rfl ?_
   refine ZT 27 rfl (by kernel_rfl) (by kernel_rfl) (by kernel_rfl) (fun _ _ _ h => h) S16 (Zh 22 29 true rfl (by kernel_rfl) rfl (by kernel_rfl)) rfl ?_
   refine ZT 28 rfl (by kernel_rfl) (by kernel_rfl) (by kernel_rfl) (fun _ _ _ h => h) S16 (Zh 22 29 true rfl (by kernel_rfl) rfl (by kernel_rfl)) rfl ?_
   refine Ze 29 rfl (by kernel_rfl) (by kernel_rfl) (by kernel_rfl) (fun _ _ _ h => h) S16 (Z1 rfl) (d := 36) (v := (.bool false)) rfl (fun _ H' => (by kernel_rfl)) ?_
   refine Ze 30 rfl (by kernel_rfl) (by kernel_rfl) (by kernel_rfl) (fun _ _ _ h => h) S16 (Z1 rfl) (d := 6) (v := (.bool false)) rfl (fun _ H' => (by kernel_rfl)) ?_
   refine Z0C (by kernel_rfl) ?_
   refine Z4 ?_
   refine ZY ?_
   refine Z0O rfl (ZF (v := (.bool false)) rfl) ?_
   exact ⟨by simp [Z1S, b17, b18], H14.upd 0 rfl [] (fun _ h => h.elim)⟩
 ·refine Z25 11 (.bool false) (congrArg Value.bool b17) ?_
  refine ZT 5 rfl (by kernel_rfl) (by kernel_rfl) (by kernel_rfl) (fun _ _ _ h => h) S16 (Zh 4 11 true rfl (by kernel_rfl) rfl (by kernel_rfl)) rfl ?_
  refine ZT 6 rfl (by kernel_rfl) (by kernel_rfl) (by kernel_rfl) (fun _ _ _ h => h) S16 (Zh 4 11 true rfl (by kernel_rfl) rfl (by kernel_rfl)) rfl ?_
  refine ZT 7 rfl (by kernel_rfl) (by kernel_rfl) (by kernel_rfl) (fun _ _ _ h => h) S16 (Zh 4 11 true rfl (by kernel_rfl) rfl (by kernel_rfl)) rfl ?_
  refine Ze 8 rfl (by kernel_rfl) (by kernel_rfl) (by kernel_rfl) (fun _ _ _ h => h) S16 (Z1 rfl) (d := 15) (v := (.bool false)) rfl (fun _ H' => (by kernel_rfl)) ?_
  refine Ze 9 rfl (by kernel_rfl) (by kernel_rfl) (by kernel_rfl) (fun _ _ _ h => h) S16 (Z1 rfl) (d := 16) (v := (.bool false)) rfl (fun _ H' => (by kernel_rfl)) ?_
  refine ZT 10 rfl (by kernel_rfl) (by kernel_rfl) (by kernel_rfl) (fun _ _ _ h => h) S16 (Zh 9 16 true rfl (by kernel_rfl) rfl (by kernel_rfl)) rfl ?_
  refine ZT 11 rfl (by kernel_rfl) (by kernel_rfl) (by kernel_rfl) (fun _ _ _ h => h) S16 (Zh 9 16 true rfl (by kernel_rfl) rfl (by kernel_rfl)) rfl ?_
  refine ZT 12 rfl (by kernel_rfl) (by kernel_rfl) (by kernel_rfl) (fun _ _ _ h => h) S16 (Zh 9 16 true rfl (by kernel_rfl) rfl (by kernel_rfl)) rfl ?_
  refine Ze 13 rfl (by kernel_rfl) (by kernel_rfl) (by kernel_rfl) (fun _ _ _ h => h) S16 (Z1 rfl) (d := 20) (v := (.bool false)) rfl (fun _ H' => (by kernel_rfl)) ?_
  refine Ze 14 rfl (by kernel_rfl) (by kernel_rfl) (by kernel_rfl) (fun _ _ _ h => h) S16 (Z1 rfl) (d := 21) (v := (.bool false)) rfl (fun _ H' => (by kernel_rfl)) ?_
  refine ZT 15 rfl (by kernel_rfl) (by kernel_rfl) (by kernel_rfl) (fun _ _ _ h => h) S16 (Zh 14 21 true rfl (by kernel_rfl) rfl (by kernel_rfl)) rfl ?_
  refine ZT 16 rfl (by kernel_rfl) (by kernel_rfl) (by kernel_rfl) (fun _ _ _ h => h) S16 (Zh 14 21 true rfl (by kernel_rfl) rfl (by kernel_rfl)) rfl ?_
  refine ZT 17 rfl (by kernel_rfl) (by kernel_rfl) (by kernel_rfl) (fun _ _ _ h => h) S16 (Zh 14 21 true rfl (by kernel_rfl) rfl (by kernel_rfl)) rfl ?_
  refine ZT 18 rfl (by kernel_rfl) (by kernel_rfl) (by kernel_rfl) (fun _ _ _ h => h) S16 (Zh 14 21 true rfl (by kernel_rfl) rfl (by kernel_rfl)) rfl ?_
  refine ZT 19 rfl (by kernel_rfl) (by kernel_rfl) (by kernel_rfl) (fun _ _ _ h => h) S16 (Zh 14 21 true rfl (by kernel_rfl) rfl (by kernel_rfl)) rfl ?_
  refine ZT 20 rfl (by kernel_rfl) (by kernel_rfl) (by kernel_rfl) (fun _ _ _ h => h) S16 (Zh 14 21 true rfl (by kernel_rfl) rfl (by kernel_rfl)) rfl ?_
  refine Ze 21 rfl (by kernel_rfl) (by kernel_rfl) (by kernel_rfl) (fun _ _ _ h => h) S16 (Z1 rfl) (d := 28) (v := (.bool false)) rfl (fun _ H' => (by kernel_rfl)) ?_
  refine Ze 22 rfl (by kernel_rfl) (by kernel_rfl) (by kernel_rfl) (fun _ _ _ h => h) S16 (Z1 rfl) (d := 29) (v := (.bool false)) rfl (fun _ H' => (by kernel_rfl)) ?_
  refine ZT 23 rfl (by kernel_rfl) (by kernel_rfl) (by kernel_rfl) (fun _ _ _ h => h) S16 (Zh 22 29 true rfl (by kernel_rfl) rfl (by kernel_rfl)) rfl ?_
  refine ZT 24 rfl (by kernel_rfl) (by kernel_rfl) (by kernel_rfl) (fun _ _ _ h => h) S16 (Zh 22 29 true rfl (by kernel_rfl) rfl (by kernel_rfl)) rfl ?_
  refine ZT 25 rfl (by kernel_rfl) (by kernel_rfl) (by kernel_rfl) (fun _ _ _ h => h) S16 (Zh 22 29 true rfl (by kernel_rfl) rfl (by kernel_rfl)) rfl ?_
  refine ZT 26 rfl (by kernel_rfl) (by kernel_rfl) (by kernel_rfl) (fun _ _ _ h => h) S16 (Zh 22 29 true rfl (by kernel_rfl) rfl (by kernel_rfl)) rfl ?_
  refine ZT 27 rfl (by kernel_rfl) (by kernel_rfl) (by kernel_rfl) (fun _ _ _ h => h) S16 (Zh 22 29 true rfl (by kernel_rfl) rfl (by kernel_rfl)) rfl ?_
  refine ZT 28 rfl (by kernel_rfl) (by kernel_rfl) (by kernel_rfl) (fun _ _ _ h => h) S16 (Zh 22 29 true rfl (by kernel_rfl) rfl (by kernel_rfl)) rfl ?_
  refine Ze 29 rfl (by kernel_rfl) (by kernel_rfl) (by kernel_rfl) (fun _ _ _ h => h) S16 (Z1 rfl) (d := 36) (v := (.bool false)) rfl (fun _ H' => (by kernel_rfl)) ?_
  refine Ze 30 rfl (by kernel_rfl) (by kernel_rfl) (by kernel_rfl) (fun _ _ _ h => h) S16 (Z1 rfl) (d := 6) (v := (.bool false)) rfl (fun _ H' => (by kernel_rfl)) ?_
  refine Z0C (by kernel_rfl) ?_
  refine Z4 ?_
  refine ZY ?_
  refine Z0O rfl (ZF (v := (.bool false)) rfl) ?_
  exact ⟨by simp [Z1S, b17], H14.upd 0 rfl [] (fun _ h => h.elim)⟩
theorem Z5w (w : World) (f cn : Int) (hf : -1099511627776 ≤ f ∧ f ≤ 1099511627776) (b mb : Nat) (L : List Signed) (hb : (Z3 b 110 [.map (some mb)]).ok w) (hm : MapAt w mb Za (Value.int .i64) (Zq L)) (x : Zn) (hx : Z8u x) (sa : Option Addr) (sc : Nat) (S : List Zd) (hS : ListAt Z0l 38 w (.slice sa S.length sc) S) (hok : Z8G S) (hlS : S.length ≤ 1000000) :
  Calls Tryz.prog 54 #[(.agg ⟨([(.int .i64 (f)), (.int .i64 (cn))] : List Value)⟩), (.pointer (some ⟨b, 0, none⟩)), (.agg ⟨(([(.int .i64 (x.cl)), (.int .i64 (x.seq))] : List Value) ++ hc x.h ++ ([(.int .i64 (x.len)), (.int .i64 (x.sb)), (.int .i64 (x.sm)), (.slice sa S.length sc)] : List Value))⟩)] w fun e w' => e = .returned (.bool (Z12 f cn L x S)) ∧ Upd [] w w' := by
 have H := Sat.start0 w
 refine ZE Tryz.func54 rfl 67 rfl (Nat.le_of_ble_eq_true rfl) ?_
 refine Zc ?_
 refine Zp ?_
 refine ZA (Z1 rfl) (fun K1 hK1 => ?_)
 refine Z0H (vs := ([(.int .i64 (f)), (.int .i64 (cn))] : List Value)) rfl H rfl rfl ?_
 intro b2 w3 (H4 : Sat w [Z6 w (fun _ => False), Z3 b2 36 ([(.int .i64 (f)), (.int .i64 (cn))] : List Value)] w3)
 refine hK1 _ _ ?_
 clear hK1 K1
 refine ZA (Z1 rfl) (fun K5 hK5 => ?_)
 refine Z0H (vs := (([(.int .i64 (x.cl)), (.int .i64 (x.seq))] : List Value) ++ hc x.h ++ ([(.int .i64 (x.len)), (.int .i64 (x.sb)), (.int .i64 (x.sm)), (.slice sa S.length sc)] : List Value))) rfl H4 rfl rfl ?_
 intro b6 w7 (H8 : Sat w [Z6 w (fun _ => False), Z3 b2 36 ([(.int .i64 (f)), (.int .i64 (cn))] : List Value), Z3 b6 53 (([(.int .i64 (x.cl)), (.int .i64 (x.seq))] : List Value) ++ hc x.h ++ ([(.int .i64 (x.len)), (.int .i64 (x.sb)), (.int .i64 (x.sm)), (.slice sa S.length sc)] : List Value))] w7)
 refine hK5 _ _ ?_
 clear hK5 K5
 refine Z2 (Z1 rfl) (d := 6) (v := (.bool false)) rfl (by kernel_rfl) ?_
 refine Zm ?_
 refine Z4 ?_
 refine Zc ?_
 refine Zc ?_
 refine Z1d H8 (by kernel_rfl) (by kernel_rfl) ?_
 refine Zz (Z1 rfl) (d := 9) (v := (.agg ⟨([(.int .i64 (f)), (.int .i64 (cn))] : List Value)⟩)) rfl (fun _ H' => (ZB (vs := ([(.int .i64 (f)), (.int .i64 (cn))] : List Value)) rfl (by kernel_rfl) (by kernel_rfl) (by exact Nat.le_of_ble_eq_true (by kernel_rfl)) (H'.at 1 rfl) (by kernel_rfl))) ?_
 refine Zz (Z1 rfl) (d := 10) (v := (.pointer (some ⟨b, 0, none⟩))) rfl (fun _ H' => (by kernel_rfl)) ?_
 refine Zz (Z1 rfl) (d := 11) (v := (.pointer (some ⟨b6, 0, none⟩))) rfl (fun _ H' => (by kernel_rfl)) ?_
 refine Zz (Z1 rfl) (d := 12) (v := (.agg ⟨(([(.int .i64 (x.cl)), (.int .i64 (x.seq))] : List Value) ++ hc x.h ++ ([(.int .i64 (x.len)), (.int .i64 (x.sb)), (.int .i64 (x.sm))] : List Value))⟩)) rfl (fun _ H' => (ZB (vs := (([(.int .i64 (x.cl)), (.int .i64 (x.seq))] : List Value) ++ hc x.h ++ ([(.int .i64 (x.len)), (.int .i64 (x.sb)), (.int .i64 (x.sm))] : List Value))) rfl (by kernel_rfl) (by kernel_rfl) (by exact Nat.le_of_ble_eq_true (by kernel_rfl)) (H'.at 2 rfl) (by kernel_rfl))) ?_
 refine Z1H (Z1 rfl) (d := 13) (v := (.bool (Z2N cn L x))) rfl (fun _ _ => by kernel_rfl) (fun w' H' => (Z5G w' f cn (by omega) b mb L (H'.roCk 0 rfl hb (fun _ _ h => h)) (H'.roMap 0 rfl hm (fun h => h)) x hx).mono fun _ _ h => ⟨h.1, H'.keepU h.2⟩) ?_
 refine Zz (Z1 rfl) (d := 14) (v := (.bool (!(Z2N cn L x)))) rfl (fun _ H' => (by kernel_rfl)) ?_
 refine Zz (Z1 rfl) (d := 15) (v := (.bool (!(Z2N cn L x)))) rfl (fun _ H' => (by kernel_rfl)) ?_
 refine (ZS (!(Z2N cn L x))).elim (fun b9 => ?_) (fun b9 => ?_)
 ·have g10 := ZW b9
  refine Z1O 15 (.bool true) (congrArg Value.bool b9) ?_
  have g11 := ZW b9
  refine Z07 (Zh 6 15 false rfl (by kernel_rfl) rfl (by kernel_rfl)) rfl ?_
  refine Z07 (Zh 6 15 false rfl (by kernel_rfl) rfl (by kernel_rfl)) rfl ?_
  refine Z07 (Zh 6 15 false rfl (by kernel_rfl) rfl (by kernel_rfl)) rfl ?_
  refine Z07 (Zh 6 15 false rfl (by kernel_rfl) rfl (by kernel_rfl)) rfl ?_
  refine Z07 (Zh 6 15 false rfl (by kernel_rfl) rfl (by kernel_rfl)) rfl ?_
  refine Z07 (Zh 6 15 false rfl (by kernel_rfl) rfl (by kernel_rfl)) rfl ?_
  refine Zz (Z1 rfl) (d := 22) (v := (.bool true)) rfl (fun _ H' => (by kernel_rfl)) ?_
  refine Z1U ?_
  intro w12 H13
  refine Z4 ?_
  refine Z0h rfl ?_
  refine Zc ?_
  refine Zp ?_
  refine Z2 (Z1 rfl) (d := 6) (v := (.bool false)) rfl (by kernel_rfl) ?_
  refine Zm ?_
  refine Z4 ?_
  refine ZY ?_
  refine Z0d ?_
  refine Z0O rfl (ZF (v := (.bool false)) rfl) ?_
  have n14 := ZW b9
  exact ⟨by simp only [Z12, n14, Bool.not_true, Bool.not_false, Bool.true_or, Bool.false_or, Bool.or_true, Bool.or_false, Bool.and_true, Bool.true_and, Bool.and_false, Bool.false_and], H13.upd 0 rfl [] (fun _ h => h.elim)⟩
 ·have g15 := ZG b9
  refine Z1O 15 (.bool false) (congrArg Value.bool b9) ?_
  have g16 := ZG b9
  refine Zz (Zj 6 15 false rfl (by kernel_rfl) rfl (by kernel_rfl)) (d := 16) (v := (.pointer (some ⟨b6, 37, none⟩))) rfl (fun _ H' => (by kernel_rfl)) ?_
  refine Zz (Zj 6 15 false rfl (by kernel_rfl) rfl (by kernel_rfl)) (d := 17) (v := (.slice sa S.length sc)) rfl (fun _ H' => (Zi rfl (by kernel_rfl) (H'.cell 2 rfl (by kernel_rfl)))) ?_
  refine Zz (Zj 6 15 false rfl (by kernel_rfl) rfl (by kernel_rfl)) (d := 18) (v := (.int .i64 ((S.length : Int)))) rfl (fun _ H' => (by kernel_rfl)) ?_
  refine Zz (Zj 6 15 false rfl (by kernel_rfl) rfl (by kernel_rfl)) (d := 19) (v := (.agg ⟨([(.int .i64 (f)), (.int .i64 (cn))] : List Value)⟩)) rfl (fun _ H' => (ZB (vs := ([(.int .i64 (f)), (.int .i64 (cn))] : List Value)) rfl (by kernel_rfl) (by kernel_rfl) (by exact Nat.le_of_ble_eq_true (by kernel_rfl)) (H'.at 1 rfl) (by kernel_rfl))) ?_
  refine Z1H (Zj 6 15 false rfl (by kernel_rfl) rfl (by kernel_rfl)) (d := 20) (v := (.int .i64 (2 * f + 1))) rfl (fun _ _ => by kernel_rfl) (fun w' H' => (wQ_any w' f cn (by omega)).mono fun _ _ h => ⟨h.1, H'.keepU h.2⟩) ?_
  refine Zz (Zj 6 15 false rfl (by kernel_rfl) rfl (by kernel_rfl)) (d := 21) (v := (.bool (!(decide ((S.length : Int) = (2 * f + 1)))))) rfl (fun _ H' => (by kernel_rfl)) ?_
  refine Zz (Z1 rfl) (d := 22) (v := (.bool (!(decide ((S.length : Int) = (2 * f + 1)))))) rfl (fun _ H' => (by kernel_rfl)) ?_
  refine Z1U ?_
  intro w17 H18
  refine Z4 ?_
  refine (ZS (!(decide ((S.length : Int) = (2 * f + 1))))).elim (fun b19 => ?_) (fun b19 => ?_)
  ·have g20 := ZW b19
   have g21 := of_decide_eq_false g20
   refine Zs 22 (.bool true) (congrArg Value.bool b19) ?_
   have g22 := ZW b19
   have g23 := of_decide_eq_false g22
   refine Z0h rfl ?_
   refine Zc ?_
   refine Zp ?_
   refine Z2 (Z1 rfl) (d := 6) (v := (.bool false)) rfl (by kernel_rfl) ?_
   refine Zm ?_
   refine Z4 ?_
   refine ZY ?_
   refine Z0d ?_
   refine Z0O rfl (ZF (v := (.bool false)) rfl) ?_
   have n24 := ZG b9
   have n25 := ZW b19
   exact ⟨by simp only [Z12, n24, n25, Bool.not_true, Bool.not_false, Bool.true_or, Bool.false_or, Bool.or_true, Bool.or_false, Bool.and_true, Bool.true_and, Bool.and_false, Bool.false_and], H18.upd 0 rfl [] (fun _ h => h.elim)⟩
  ·have g26 := ZG b19
   have g27 := of_decide_eq_true g26
   refine Zs 22 (.bool false) (congrArg Value.bool b19) ?_
   have g28 := ZG b19
   have g29 := of_decide_eq_true g28
   refine Z09 rfl ?_
   refine Z0b ?_
   refine Z4 ?_
   refine Zc ?_
   refine Zc ?_
   refine Zp ?_
   refine Z2 (Z1 rfl) (d := 23) (v := (.pointer (some ⟨b6, 37, none⟩))) rfl (by kernel_rfl) ?_
   refine Z2 (Z1 rfl) (d := 24) (v := (.slice sa S.length sc)) rfl (Zi rfl (by kernel_rfl) (H18.cell 2 rfl (by kernel_rfl))) ?_
   refine Z2 (Z1 rfl) (d := 25) (v := (.int .i64 ((S.length : Int)))) rfl (by kernel_rfl) ?_
   refine Z2 (Z1 rfl) (d := 26) (v := (.int .i64 (0))) rfl (by kernel_rfl) ?_
   refine Zm ?_
   refine Z4 ?_
   refine ZR ?_
   have n30 := ZG b9
   have n31 := ZG b19
   refine Z0m [6, 7, 8, 26, 27, 28, 29, 30, 31, 32, 33, 34, 35, 36, 37, 38, 39, 40, 41, 42, 43, 44, 45, 46, 47, 48, 49, 50, 51, 52, 53, 54, 55, 56, 57, 58, 59, 60, 61, 62, 63, 64, 65, 66] (fun F_ W_ m_ => ∃ (i : Nat), F_ 26 = (.int .i64 ((i : Int))) ∧ (i ≤ S.length) ∧ (∀ j, j < i → Z4g f L x S j = true) ∧ Sat w [Z6 w (fun _ => False), Z3 b2 36 ([(.int .i64 (f)), (.int .i64 (cn))] : List Value), Z3 b6 53 (([(.int .i64 (x.cl)), (.int .i64 (x.seq))] : List Value) ++ hc x.h ++ ([(.int .i64 (x.len)), (.int .i64 (x.sb)), (.int .i64 (x.sm)), (.slice sa S.length sc)] : List Value))] W_ ∧ m_ = S.length - i) _ ⟨0, (show ((.int .i64 (0)) : Value) = _ by first | rfl | go_num), (Nat.zero_le _), (fun _ h => absurd h (Nat.not_lt_zero _)), H18, rfl⟩ ?_
   rintro g32 w33 _ ⟨i, v35, hi, hall, H34, rfl⟩
   refine Zs 26 _ v35 ?_
   refine Zc ?_
   refine Zp ?_
   refine Z2 (Z1 rfl) (d := 27) (v := (.bool (decide ((i : Int) < (S.length : Int))))) rfl (by kernel_rfl) ?_
   refine Zm ?_
   refine Z4 ?_
   refine Zc ?_
   refine (ZS (decide ((i : Int) < (S.length : Int)))).elim (fun b37 => ?_) (fun b37 => ?_)
   ·have g38 := of_decide_eq_true b37
    refine Zs 27 (.bool true) (congrArg Value.bool b37) ?_
    have g39 := of_decide_eq_true b37
    refine Z0h rfl ?_
    refine Z0b ?_
    refine Z4 ?_
    refine Zc ?_
    refine ZR ?_
    refine Zc ?_
    refine Zp ?_
    refine Z2 (Z1 rfl) (d := 28) (v := (.int .i64 ((i : Int)))) rfl (by kernel_rfl) ?_
    obtain ⟨g40, o41, c42, e43, R44⟩ := SliceOf.atD hS Z8 (show i < S.length by omega)
    refine Z2 (Z1 rfl) (d := 29) (v := (.pointer (some ⟨g40, o41 + ((i : Int)).toNat * 38, none⟩))) rfl (ZZ (E := 101) (by kernel_rfl) (by kernel_rfl) (Nat.le_of_ble_eq_true rfl) rfl e43 rfl (by omega) (by omega)) ?_
    refine Z2 (Z1 rfl) (d := 30) (v := (.agg ⟨(([(.int .i64 ((S.getD i Z8).r)), (.int .i64 ((S.getD i Z8).cl)), (.int .i64 ((S.getD i Z8).seq))] : List Value) ++ hc (S.getD i Z8).h ++ ([(.int .u64 ((S.getD i Z8).t)), (.int .i64 ((S.getD i Z8).sb)), (.int .i64 ((S.getD i Z8).sm))] : List Value))⟩)) rfl (Z0F (vs := (([(.int .i64 ((S.getD i Z8).r)), (.int .i64 ((S.getD i Z8).cl)), (.int .i64 ((S.getD i Z8).seq))] : List Value) ++ hc (S.getD i Z8).h ++ ([(.int .u64 ((S.getD i Z8).t)), (.int .i64 ((S.getD i Z8).sb)), (.int .i64 ((S.getD i Z8).sm))] : List Value))) rfl (by kernel_rfl) (by kernel_rfl) (Nat.le_of_ble_eq_true (by kernel_rfl)) (H34.runR 0 rfl (Z1T R44 0 (by kernel_rfl) (show o41 + ((i : Int)).toNat * 38 = o41 + i * 38 + 0 by omega)) (fun h => h))) ?_
    refine ZA (Z1 rfl) (fun K45 hK45 => ?_)
    refine Z0e (zs := (([(.int .i64 (0)), (.int .i64 (0)), (.int .i64 (0))] : List Value) ++ hc Zo ++ ([(.int .u64 (0)), (.int .i64 (0)), (.int .i64 (0))] : List Value))) (z := (.agg ⟨(([(.int .i64 (0)), (.int .i64 (0)), (.int .i64 (0))] : List Value) ++ hc Zo ++ ([(.int .u64 (0)), (.int .i64 (0)), (.int .i64 (0))] : List Value))⟩)) rfl H34 (by kernel_rfl) (by kernel_rfl) ?_
    intro b46 w47 (H48 : Sat w [Z6 w (fun _ => False), Z3 b2 36 ([(.int .i64 (f)), (.int .i64 (cn))] : List Value), Z3 b6 53 (([(.int .i64 (x.cl)), (.int .i64 (x.seq))] : List Value) ++ hc x.h ++ ([(.int .i64 (x.len)), (.int .i64 (x.sb)), (.int .i64 (x.sm)), (.slice sa S.length sc)] : List Value)), Z3 b46 101 (([(.int .i64 (0)), (.int .i64 (0)), (.int .i64 (0))] : List Value) ++ hc Zo ++ ([(.int .u64 (0)), (.int .i64 (0)), (.int .i64 (0))] : List Value))] w47)
    refine hK45 _ _ ?_
    clear hK45 K45
    refine Z2 (Z1 rfl) (d := 7) (v := (.int .i64 ((i : Int)))) rfl (by kernel_rfl) ?_
    refine ZA (Z1 rfl) (fun K49 hK49 => ?_)
    refine ZU (vs := (([(.int .i64 ((S.getD i Z8).r)), (.int .i64 ((S.getD i Z8).cl)), (.int .i64 ((S.getD i Z8).seq))] : List Value) ++ hc (S.getD i Z8).h ++ ([(.int .u64 ((S.getD i Z8).t)), (.int .i64 ((S.getD i Z8).sb)), (.int .i64 ((S.getD i Z8).sm))] : List Value))) (cs' := (([(.int .i64 ((S.getD i Z8).r)), (.int .i64 ((S.getD i Z8).cl)), (.int .i64 ((S.getD i Z8).seq))] : List Value) ++ hc (S.getD i Z8).h ++ ([(.int .u64 ((S.getD i Z8).t)), (.int .i64 ((S.getD i Z8).sb)), (.int .i64 ((S.getD i Z8).sm))] : List Value))) rfl H48 3 rfl rfl rfl rfl (by kernel_rfl) (Nat.le_of_ble_eq_true (by kernel_rfl)) (Nat.le_of_ble_eq_true (by kernel_rfl)) (by kernel_rfl) (by kernel_rfl) ?_
    intro w50 (H51 : Sat w [Z6 w (fun _ => False), Z3 b2 36 ([(.int .i64 (f)), (.int .i64 (cn))] : List Value), Z3 b6 53 (([(.int .i64 (x.cl)), (.int .i64 (x.seq))] : List Value) ++ hc x.h ++ ([(.int .i64 (x.len)), (.int .i64 (x.sb)), (.int .i64 (x.sm)), (.slice sa S.length sc)] : List Value)), Z3 b46 101 (([(.int .i64 ((S.getD i Z8).r)), (.int .i64 ((S.getD i Z8).cl)), (.int .i64 ((S.getD i Z8).seq))] : List Value) ++ hc (S.getD i Z8).h ++ ([(.int .u64 ((S.getD i Z8).t)), (.int .i64 ((S.getD i Z8).sb)), (.int .i64 ((S.getD i Z8).sm))] : List Value))] w50)
    refine hK49 _ _ ?_
    clear hK49 K49
    refine Zm ?_
    refine Z4 ?_
    refine Zc ?_
    refine Zc ?_
    refine Z1d H51 (by kernel_rfl) (by kernel_rfl) ?_
    refine Zz (Z1 rfl) (d := 31) (v := (.int .i64 ((i : Int)))) rfl (fun _ H' => (by kernel_rfl)) ?_
    refine Zz (Z1 rfl) (d := 32) (v := (.bool (decide ((i : Int) > 0)))) rfl (fun _ H' => (by kernel_rfl)) ?_
    refine Zz (Z1 rfl) (d := 33) (v := (.bool (decide ((i : Int) > 0)))) rfl (fun _ H' => (by kernel_rfl)) ?_
    refine (ZS (decide ((i : Int) > 0))).elim (fun b53 => ?_) (fun b53 => ?_)
    ·have g54 := of_decide_eq_true b53
     refine Z1O 33 (.bool true) (congrArg Value.bool b53) ?_
     have g55 := of_decide_eq_true b53
     refine Zz (Zj 2 33 true rfl (by kernel_rfl) rfl (by kernel_rfl)) (d := 34) (v := (.pointer (some ⟨b46, 0, none⟩))) rfl (fun _ H' => (by kernel_rfl)) ?_
     refine Zz (Zj 2 33 true rfl (by kernel_rfl) rfl (by kernel_rfl)) (d := 35) (v := (.int .i64 ((S.getD i Z8).r))) rfl (fun _ H' => (Zi rfl (by kernel_rfl) (H'.cell 3 rfl (by kernel_rfl)))) ?_
     refine Zz (Zj 2 33 true rfl (by kernel_rfl) rfl (by kernel_rfl)) (d := 36) (v := (.pointer (some ⟨b6, 37, none⟩))) rfl (fun _ H' => (by kernel_rfl)) ?_
     refine Zz (Zj 2 33 true rfl (by kernel_rfl) rfl (by kernel_rfl)) (d := 37) (v := (.slice sa S.length sc)) rfl (fun _ H' => (Zi rfl (by kernel_rfl) (H'.cell 2 rfl (by kernel_rfl)))) ?_
     refine Zz (Zj 2 33 true rfl (by kernel_rfl) rfl (by kernel_rfl)) (d := 38) (v := (.int .i64 ((i : Int)))) rfl (fun _ H' => (by kernel_rfl)) ?_
     refine Zz (Zj 2 33 true rfl (by kernel_rfl) rfl (by kernel_rfl)) (d := 39) (v := (.int .i64 ((i : Int) - 1))) rfl (fun _ H' => (Z04 (z := (i : Int) - 1) (by kernel_rfl) (IntWalk.i64_in _ (by omega)))) ?_
     obtain ⟨g56, o57, c58, e59, R60⟩ := SliceOf.atD hS Z8 (show ((i : Int) - 1).toNat < S.length by omega)
     refine Zz (Zj 2 33 true rfl (by kernel_rfl) rfl (by kernel_rfl)) (d := 40) (v := (.pointer (some ⟨g56, o57 + ((i : Int) - 1).toNat * 38, none⟩))) rfl (fun _ H' => (ZZ (E := 101) (by kernel_rfl) (by kernel_rfl) (Nat.le_of_ble_eq_true rfl) rfl e59 rfl (by omega) (by omega))) ?_
     refine Zz (Zj 2 33 true rfl (by kernel_rfl) rfl (by kernel_rfl)) (d := 41) (v := (.pointer (some ⟨g56, o57 + ((i : Int) - 1).toNat * 38, none⟩))) rfl (fun _ H' => (by kernel_rfl)) ?_
     refine Zz (Zj 2 33 true rfl (by kernel_rfl) rfl (by kernel_rfl)) (d := 42) (v := (.int .i64 ((S.getD ((i : Int) - 1).toNat Z8).r))) rfl (fun _ H' => (Zi rfl (by kernel_rfl) (H'.cellR 0 rfl (Z18 R60 0 (by kernel_rfl) (show o57 + ((i : Int) - 1).toNat * 38 = o57 + ((i : Int) - 1).toNat * 38 + 0 by omega)) (fun h => h)))) ?_
     refine Zz (Zj 2 33 true rfl (by kernel_rfl) rfl (by kernel_rfl)) (d := 43) (v := (.bool (decide (((S.getD i Z8).r) ≤ ((S.getD ((i : Int) - 1).toNat Z8).r))))) rfl (fun _ H' => (by kernel_rfl)) ?_
     refine Zz (Z1 rfl) (d := 44) (v := (.bool (decide (((S.getD i Z8).r) ≤ ((S.getD ((i : Int) - 1).toNat Z8).r))))) rfl (fun _ H' => (by kernel_rfl)) ?_
     refine Z1U ?_
     intro w61 H62
     refine Z4 ?_
     refine (ZS (decide (((S.getD i Z8).r) ≤ ((S.getD ((i : Int) - 1).toNat Z8).r)))).elim (fun b63 => ?_) (fun b63 => ?_)
     ·have g64 := of_decide_eq_true b63
      refine Zs 44 (.bool true) (congrArg Value.bool b63) ?_
      have g65 := of_decide_eq_true b63
      refine Z0h rfl ?_
      refine Zc ?_
      refine Zp ?_
      refine Z2 (Z1 rfl) (d := 6) (v := (.bool false)) rfl (by kernel_rfl) ?_
      refine Zm ?_
      refine Z4 ?_
      refine ZY ?_
      refine Z0d ?_
      refine Z0N ?_
      refine Z0d ?_
      refine Z1n ?_
      refine Z0N ?_
      refine Z0d ?_
      refine Z0O rfl (ZF (v := (.bool false)) rfl) ?_
      have e1 : ((i : Int) - 1).toNat = i - 1 := by omega
      have ho : Z4g f L x S i = false := by unfold Z4g Z2p; rw [← e1]; simp only [b37, b53, b63, Bool.not_true, Bool.not_false, Bool.true_or, Bool.false_or, Bool.or_true, Bool.or_false, Bool.and_true, Bool.true_and, Bool.and_false, Bool.false_and]
      exact ⟨by simp only [Z12, Z2w (show i < S.length by omega) ho, Bool.and_false], H62.upd 0 rfl [] (fun _ h => h.elim)⟩
     ·have g66 := of_decide_eq_false b63
      refine Zs 44 (.bool false) (congrArg Value.bool b63) ?_
      have g67 := of_decide_eq_false b63
      refine Z09 rfl ?_
      refine Z0b ?_
      refine Z4 ?_
      refine Zc ?_
      refine Zp ?_
      refine Z2 (Z1 rfl) (d := 45) (v := (.pointer (some ⟨b46, 1, none⟩))) rfl (by kernel_rfl) ?_
      refine Z2 (Z1 rfl) (d := 46) (v := (.agg ⟨([(.int .i64 ((S.getD i Z8).cl)), (.int .i64 ((S.getD i Z8).seq))] : List Value)⟩)) rfl (ZB (vs := ([(.int .i64 ((S.getD i Z8).cl)), (.int .i64 ((S.getD i Z8).seq))] : List Value)) rfl (by kernel_rfl) (by kernel_rfl) (by exact Nat.le_of_ble_eq_true (by kernel_rfl)) (H62.at 3 rfl) (by kernel_rfl)) ?_
      refine Z2 (Z1 rfl) (d := 47) (v := (.pointer (some ⟨b6, 0, none⟩))) rfl (by kernel_rfl) ?_
      refine Z2 (Z1 rfl) (d := 48) (v := (.pointer (some ⟨b6, 0, none⟩))) rfl (by kernel_rfl) ?_
      refine Z2 (Z1 rfl) (d := 49) (v := (.agg ⟨([(.int .i64 (x.cl)), (.int .i64 (x.seq))] : List Value)⟩)) rfl (ZB (vs := ([(.int .i64 (x.cl)), (.int .i64 (x.seq))] : List Value)) rfl (by kernel_rfl) (by kernel_rfl) (by exact Nat.le_of_ble_eq_true (by kernel_rfl)) (H62.at 2 rfl) (by kernel_rfl)) ?_
      refine Z2 (Z1 rfl) (d := 50) (v := (.bool (!(decide (((S.getD i Z8).cl) = x.cl ∧ ((S.getD i Z8).seq) = x.seq))))) rfl (Z53 ((S.getD i Z8).cl) ((S.getD i Z8).seq) x.cl x.seq rfl rfl) ?_
      refine Z2 (Z1 rfl) (d := 51) (v := (.bool (!(decide (((S.getD i Z8).cl) = x.cl ∧ ((S.getD i Z8).seq) = x.seq))))) rfl (by kernel_rfl) ?_
      refine (ZS (!(decide (((S.getD i Z8).cl) = x.cl ∧ ((S.getD i Z8).seq) = x.seq)))).elim (fun b68 => ?_) (fun b68 => ?_)
      ·have g69 := ZW b68
       refine Z02 51 (.bool true) (congrArg Value.bool b68) ?_
       have g70 := ZW b68
       refine Zx (Zh 6 51 false rfl (by kernel_rfl) rfl (by kernel_rfl)) rfl ?_
       refine Zx (Zh 6 51 false rfl (by kernel_rfl) rfl (by kernel_rfl)) rfl ?_
       refine Zx (Zh 6 51 false rfl (by kernel_rfl) rfl (by kernel_rfl)) rfl ?_
       refine Zx (Zh 6 51 false rfl (by kernel_rfl) rfl (by kernel_rfl)) rfl ?_
       refine Zx (Zh 6 51 false rfl (by kernel_rfl) rfl (by kernel_rfl)) rfl ?_
       refine Zx (Zh 6 51 false rfl (by kernel_rfl) rfl (by kernel_rfl)) rfl ?_
       refine Z2 (Z1 rfl) (d := 58) (v := (.bool true)) rfl (by kernel_rfl) ?_
       refine Z2 (Z1 rfl) (d := 59) (v := (.bool true)) rfl (by kernel_rfl) ?_
       refine Zx (Zh 14 59 false rfl (by kernel_rfl) rfl (by kernel_rfl)) rfl ?_
       refine Zx (Zh 14 59 false rfl (by kernel_rfl) rfl (by kernel_rfl)) rfl ?_
       refine Zx (Zh 14 59 false rfl (by kernel_rfl) rfl (by kernel_rfl)) rfl ?_
       refine Zx (Zh 14 59 false rfl (by kernel_rfl) rfl (by kernel_rfl)) rfl ?_
       refine Zx (Zh 14 59 false rfl (by kernel_rfl) rfl (by kernel_rfl)) rfl ?_
       refine Z2 (Z1 rfl) (d := 65) (v := (.bool true)) rfl (by kernel_rfl) ?_
       refine Zm ?_
       refine Z4 ?_
       refine Z0h rfl ?_
       refine Zc ?_
       refine Zp ?_
       refine Z2 (Z1 rfl) (d := 6) (v := (.bool false)) rfl (by kernel_rfl) ?_
       refine Zm ?_
       refine Z4 ?_
       refine ZY ?_
       refine Z0N ?_
       refine Z0d ?_
       refine Z1n ?_
       refine Z0N ?_
       refine Z0d ?_
       refine Z0O rfl (ZF (v := (.bool false)) rfl) ?_
       have n71 := ZW b68
       have e1 : ((i : Int) - 1).toNat = i - 1 := by omega
       have ho : Z4g f L x S i = false := by unfold Z4g Z2p; rw [← e1]; simp only [b37, b53, b63, n71, Bool.not_true, Bool.not_false, Bool.true_or, Bool.false_or, Bool.or_true, Bool.or_false, Bool.and_true, Bool.true_and, Bool.and_false, Bool.false_and]
       exact ⟨by simp only [Z12, Z2w (show i < S.length by omega) ho, Bool.and_false], H62.upd 0 rfl [] (fun _ h => h.elim)⟩
      ·have g72 := ZG b68
       refine Z02 51 (.bool false) (congrArg Value.bool b68) ?_
       have g73 := ZG b68
       refine Z2 (Zj 6 51 false rfl (by kernel_rfl) rfl (by kernel_rfl)) (d := 52) (v := (.pointer (some ⟨b46, 3, none⟩))) rfl (by kernel_rfl) ?_
       refine Z2 (Zj 6 51 false rfl (by kernel_rfl) rfl (by kernel_rfl)) (d := 53) (v := (.agg ⟨(hc (S.getD i Z8).h)⟩)) rfl (ZB (vs := (hc (S.getD i Z8).h)) rfl (by kernel_rfl) (by kernel_rfl) (by exact Nat.le_of_ble_eq_true (by kernel_rfl)) (H62.at 3 rfl) (by kernel_rfl)) ?_
       refine Z2 (Zj 6 51 false rfl (by kernel_rfl) rfl (by kernel_rfl)) (d := 54) (v := (.pointer (some ⟨b6, 0, none⟩))) rfl (by kernel_rfl) ?_
       refine Z2 (Zj 6 51 false rfl (by kernel_rfl) rfl (by kernel_rfl)) (d := 55) (v := (.pointer (some ⟨b6, 2, none⟩))) rfl (by kernel_rfl) ?_
       refine Z2 (Zj 6 51 false rfl (by kernel_rfl) rfl (by kernel_rfl)) (d := 56) (v := (.agg ⟨(hc x.h)⟩)) rfl (ZB (vs := (hc x.h)) rfl (by kernel_rfl) (by kernel_rfl) (by exact Nat.le_of_ble_eq_true (by kernel_rfl)) (H62.at 2 rfl) (by kernel_rfl)) ?_
       refine Z2 (Zj 6 51 false rfl (by kernel_rfl) rfl (by kernel_rfl)) (d := 57) (v := (.bool (!(decide (((S.getD i Z8).h) = x.h))))) rfl (Z4w ((S.getD i Z8).h) x.h rfl rfl) ?_
       refine Z2 (Z1 rfl) (d := 58) (v := (.bool (!(decide (((S.getD i Z8).h) = x.h))))) rfl (by kernel_rfl) ?_
       refine Z2 (Z1 rfl) (d := 59) (v := (.bool (!(decide (((S.getD i Z8).h) = x.h))))) rfl (by kernel_rfl) ?_
       refine (ZS (!(decide (((S.getD i Z8).h) = x.h)))).elim (fun b74 => ?_) (fun b74 => ?_)
       ·have g75 := ZW b74
        have g76 := of_decide_eq_false g75
        refine Z02 59 (.bool true) (congrArg Value.bool b74) ?_
        have g77 := ZW b74
        have g78 := of_decide_eq_false g77
        refine Zx (Zh 14 59 false rfl (by kernel_rfl) rfl (by kernel_rfl)) rfl ?_
        refine Zx (Zh 14 59 false rfl (by kernel_rfl) rfl (by kernel_rfl)) rfl ?_
        refine Zx (Zh 14 59 false rfl (by kernel_rfl) rfl (by kernel_rfl)) rfl ?_
        refine Zx (Zh 14 59 false rfl (by kernel_rfl) rfl (by kernel_rfl)) rfl ?_
        refine Zx (Zh 14 59 false rfl (by kernel_rfl) rfl (by kernel_rfl)) rfl ?_
        refine Z2 (Z1 rfl) (d := 65) (v := (.bool true)) rfl (by kernel_rfl) ?_
        refine Zm ?_
        refine Z4 ?_
        refine Z0h rfl ?_
        refine Zc ?_
        refine Zp ?_
        refine Z2 (Z1 rfl) (d := 6) (v := (.bool false)) rfl (by kernel_rfl) ?_
        refine Zm ?_
        refine Z4 ?_
        refine ZY ?_
        refine Z0N ?_
        refine Z0d ?_
        refine Z1n ?_
        refine Z0N ?_
        refine Z0d ?_
        refine Z0O rfl (ZF (v := (.bool false)) rfl) ?_
        have n79 := ZG b68
        have n80 := ZW b74
        have e1 : ((i : Int) - 1).toNat = i - 1 := by omega
        have ho : Z4g f L x S i = false := by unfold Z4g Z2p; rw [← e1]; simp only [b37, b53, b63, n79, n80, Bool.not_true, Bool.not_false, Bool.true_or, Bool.false_or, Bool.or_true, Bool.or_false, Bool.and_true, Bool.true_and, Bool.and_false, Bool.false_and]
        exact ⟨by simp only [Z12, Z2w (show i < S.length by omega) ho, Bool.and_false], H62.upd 0 rfl [] (fun _ h => h.elim)⟩
       ·have g81 := ZG b74
        have g82 := of_decide_eq_true g81
        refine Z02 59 (.bool false) (congrArg Value.bool b74) ?_
        have g83 := ZG b74
        have g84 := of_decide_eq_true g83
        refine Z2 (Zj 14 59 false rfl (by kernel_rfl) rfl (by kernel_rfl)) (d := 60) (v := (.agg ⟨([(.int .i64 (f)), (.int .i64 (cn))] : List Value)⟩)) rfl (ZB (vs := ([(.int .i64 (f)), (.int .i64 (cn))] : List Value)) rfl (by kernel_rfl) (by kernel_rfl) (by exact Nat.le_of_ble_eq_true (by kernel_rfl)) (H62.at 1 rfl) (by kernel_rfl)) ?_
        refine Z2 (Zj 14 59 false rfl (by kernel_rfl) rfl (by kernel_rfl)) (d := 61) (v := (.pointer (some ⟨b, 0, none⟩))) rfl (by kernel_rfl) ?_
        refine Z2 (Zj 14 59 false rfl (by kernel_rfl) rfl (by kernel_rfl)) (d := 62) (v := (.agg ⟨(([(.int .i64 ((S.getD i Z8).r)), (.int .i64 ((S.getD i Z8).cl)), (.int .i64 ((S.getD i Z8).seq))] : List Value) ++ hc (S.getD i Z8).h ++ ([(.int .u64 ((S.getD i Z8).t)), (.int .i64 ((S.getD i Z8).sb)), (.int .i64 ((S.getD i Z8).sm))] : List Value))⟩)) rfl (ZB (vs := (([(.int .i64 ((S.getD i Z8).r)), (.int .i64 ((S.getD i Z8).cl)), (.int .i64 ((S.getD i Z8).seq))] : List Value) ++ hc (S.getD i Z8).h ++ ([(.int .u64 ((S.getD i Z8).t)), (.int .i64 ((S.getD i Z8).sb)), (.int .i64 ((S.getD i Z8).sm))] : List Value))) rfl (by kernel_rfl) (by kernel_rfl) (by exact Nat.le_of_ble_eq_true (by kernel_rfl)) (H62.at 3 rfl) (by kernel_rfl)) ?_
        refine ZA (Zj 14 59 false rfl (by kernel_rfl) rfl (by kernel_rfl)) (fun K85 hK85 => ?_)
        refine Zv (d := 63) rfl (by kernel_rfl) (Z3S w61 f cn (by omega) b mb L (H62.roCk 0 rfl hb (fun _ _ h => h)) (H62.roMap 0 rfl hm (fun h => h)) (S.getD i Z8) (hok _ (by omega))) ?_
        rintro _ w86 ⟨rfl, u88⟩
        have H87 := H62.keepU u88
        refine ⟨_, rfl, ?_⟩
        refine hK85 _ _ ?_
        clear hK85 K85
        refine Z2 (Zj 14 59 false rfl (by kernel_rfl) rfl (by kernel_rfl)) (d := 64) (v := (.bool (!(Z1S f L (S.getD i Z8))))) rfl (by kernel_rfl) ?_
        refine Z2 (Z1 rfl) (d := 65) (v := (.bool (!(Z1S f L (S.getD i Z8))))) rfl (by kernel_rfl) ?_
        refine Zm ?_
        refine Z4 ?_
        refine (ZS (!(Z1S f L (S.getD i Z8)))).elim (fun b89 => ?_) (fun b89 => ?_)
        ·have g90 := ZW b89
         refine Zs 65 (.bool true) (congrArg Value.bool b89) ?_
         have g91 := ZW b89
         refine Z0h rfl ?_
         refine Zc ?_
         refine Zp ?_
         refine Z2 (Z1 rfl) (d := 6) (v := (.bool false)) rfl (by kernel_rfl) ?_
         refine Zm ?_
         refine Z4 ?_
         refine ZY ?_
         refine Z0N ?_
         refine Z0d ?_
         refine Z1n ?_
         refine Z0N ?_
         refine Z0d ?_
         refine Z0O rfl (ZF (v := (.bool false)) rfl) ?_
         have n92 := ZG b68
         have n93 := ZG b74
         have n94 := ZW b89
         have e1 : ((i : Int) - 1).toNat = i - 1 := by omega
         have ho : Z4g f L x S i = false := by unfold Z4g Z2p; rw [← e1]; simp only [b37, b53, b63, n92, n93, n94, Bool.not_true, Bool.not_false, Bool.true_or, Bool.false_or, Bool.or_true, Bool.or_false, Bool.and_true, Bool.true_and, Bool.and_false, Bool.false_and]
         exact ⟨by simp only [Z12, Z2w (show i < S.length by omega) ho, Bool.and_false], H87.upd 0 rfl [] (fun _ h => h.elim)⟩
        ·have g95 := ZG b89
         refine Zs 65 (.bool false) (congrArg Value.bool b89) ?_
         have g96 := ZG b89
         refine Z09 rfl ?_
         refine Z0b ?_
         refine ZL ?_
         refine Z4 ?_
         refine Zp ?_
         refine Z2 (Z1 rfl) (d := 66) (v := (.int .i64 ((i : Int) + 1))) rfl (Z04 (z := (i : Int) + 1) (by kernel_rfl) (IntWalk.i64_in _ (by omega))) ?_
         refine Z2 (Z1 rfl) (d := 26) (v := (.int .i64 ((i : Int) + 1))) rfl (by kernel_rfl) ?_
         refine Zm ?_
         have n97 := ZG b68
         have n98 := ZG b74
         have n99 := ZG b89
         have e1 : ((i : Int) - 1).toNat = i - 1 := by omega
         have ho : Z4g f L x S i = true := by unfold Z4g Z2p; rw [← e1]; simp only [b37, b53, b63, n97, n98, n99, Bool.not_true, Bool.not_false, Bool.true_or, Bool.false_or, Bool.or_true, Bool.or_false, Bool.and_true, Bool.true_and, Bool.and_false, Bool.false_and]
         have H100 : Sat w [Z6 w (fun _ => False), Z3 b2 36 ([(.int .i64 (f)), (.int .i64 (cn))] : List Value), Z3 b6 53 (([(.int .i64 (x.cl)), (.int .i64 (x.seq))] : List Value) ++ hc x.h ++ ([(.int .i64 (x.len)), (.int .i64 (x.sb)), (.int .i64 (x.sm)), (.slice sa S.length sc)] : List Value))] w86 := H87.pick [0, 1, 2] (by decide)
         refine ZM ?_ _ ⟨(i + 1), (show ((.int .i64 ((i : Int) + 1)) : Value) = _ by first | rfl | go_num), (by omega), (fun j hj => by rcases Nat.lt_or_ge j i with h | h; exact hall j h; rw [show j = i by omega]; exact ho), H100, rfl⟩ (by omega)
         exact (Z0 rfl (Z0 rfl (Z0 rfl (Z0 rfl (Z0 rfl (Z0 rfl (Z0 rfl (Z0 rfl (Z0 rfl (Z0 rfl (Z0 rfl (Z0 rfl (Z0 rfl (Z0 rfl (Z0 rfl (Z0 rfl (Z0 rfl (Z0 rfl (Z0 rfl (Z0 rfl (Z0 rfl (Z0 rfl (Z0 rfl (Z0 rfl (Z0 rfl (Z0 rfl (Z0 rfl (Z0 rfl (Z0 rfl (Z0 rfl (Z0 rfl (Z0 rfl (Z0 rfl (Z0 rfl (Z0 rfl (Z0 rfl (Z0 rfl (Z0 rfl (Z0 rfl (Z0 rfl (Z0 rfl (Z0 rfl (Z0 rfl (Z0 rfl (Z0 rfl (Z0 rfl (Z0 rfl (Z0 rfl (Z0 rfl (Z0 rfl (Z06)))))))))))))))))))))))))))))))))))))))))))))))))))
    ·have g101 := of_decide_eq_false b53
     refine Z1O 33 (.bool false) (congrArg Value.bool b53) ?_
     have g102 := of_decide_eq_false b53
     refine Z07 (Zh 2 33 true rfl (by kernel_rfl) rfl (by kernel_rfl)) rfl ?_
     refine Z07 (Zh 2 33 true rfl (by kernel_rfl) rfl (by kernel_rfl)) rfl ?_
     refine Z07 (Zh 2 33 true rfl (by kernel_rfl) rfl (by kernel_rfl)) rfl ?_
     refine Z07 (Zh 2 33 true rfl (by kernel_rfl) rfl (by kernel_rfl)) rfl ?_
     refine Z07 (Zh 2 33 true rfl (by kernel_rfl) rfl (by kernel_rfl)) rfl ?_
     refine Z07 (Zh 2 33 true rfl (by kernel_rfl) rfl (by kernel_rfl)) rfl ?_
     refine Z07 (Zh 2 33 true rfl (by kernel_rfl) rfl (by kernel_rfl)) rfl ?_
     refine Z07 (Zh 2 33 true rfl (by kernel_rfl) rfl (by kernel_rfl)) rfl ?_
     refine Z07 (Zh 2 33 true rfl (by kernel_rfl) rfl (by kernel_rfl)) rfl ?_
     refine Z07 (Zh 2 33 true rfl (by kernel_rfl) rfl (by kernel_rfl)) rfl ?_
     refine Zz (Z1 rfl) (d := 44) (v := (.bool false)) rfl (fun _ H' => (by kernel_rfl)) ?_
     refine Z1U ?_
     intro w103 H104
     refine Z4 ?_
     refine Z09 rfl ?_
     refine Z0b ?_
     refine Z4 ?_
     refine Zc ?_
     refine Zp ?_
     refine Z2 (Z1 rfl) (d := 45) (v := (.pointer (some ⟨b46, 1, none⟩))) rfl (by kernel_rfl) ?_
     refine Z2 (Z1 rfl) (d := 46) (v := (.agg ⟨([(.int .i64 ((S.getD i Z8).cl)), (.int .i64 ((S.getD i Z8).seq))] : List Value)⟩)) rfl (ZB (vs := ([(.int .i64 ((S.getD i Z8).cl)), (.int .i64 ((S.getD i Z8).seq))] : List Value)) rfl (by kernel_rfl) (by kernel_rfl) (by exact Nat.le_of_ble_eq_true (by kernel_rfl)) (H104.at 3 rfl) (by kernel_rfl)) ?_
     refine Z2 (Z1 rfl) (d := 47) (v := (.pointer (some ⟨b6, 0, none⟩))) rfl (by kernel_rfl) ?_
     refine Z2 (Z1 rfl) (d := 48) (v := (.pointer (some ⟨b6, 0, none⟩))) rfl (by kernel_rfl) ?_
     refine Z2 (Z1 rfl) (d := 49) (v := (.agg ⟨([(.int .i64 (x.cl)), (.int .i64 (x.seq))] : List Value)⟩)) rfl (ZB (vs := ([(.int .i64 (x.cl)), (.int .i64 (x.seq))] : List Value)) rfl (by kernel_rfl) (by kernel_rfl) (by exact Nat.le_of_ble_eq_true (by kernel_rfl)) (H104.at 2 rfl) (by kernel_rfl)) ?_
     refine Z2 (Z1 rfl) (d := 50) (v := (.bool (!(decide (((S.getD i Z8).cl) = x.cl ∧ ((S.getD i Z8).seq) = x.seq))))) rfl (Z53 ((S.getD i Z8).cl) ((S.getD i Z8).seq) x.cl x.seq rfl rfl) ?_
     refine Z2 (Z1 rfl) (d := 51) (v := (.bool (!(decide (((S.getD i Z8).cl) = x.cl ∧ ((S.getD i Z8).seq) = x.seq))))) rfl (by kernel_rfl) ?_
     refine (ZS (!(decide (((S.getD i Z8).cl) = x.cl ∧ ((S.getD i Z8).seq) = x.seq)))).elim (fun b105 => ?_) (fun b105 => ?_)
     ·have g106 := ZW b105
      refine Z02 51 (.bool true) (congrArg Value.bool b105) ?_
      have g107 := ZW b105
      refine Zx (Zh 6 51 false rfl (by kernel_rfl) rfl (by kernel_rfl)) rfl ?_
      refine Zx (Zh 6 51 false rfl (by kernel_rfl) rfl (by kernel_rfl)) rfl ?_
      refine Zx (Zh 6 51 false rfl (by kernel_rfl) rfl (by kernel_rfl)) rfl ?_
      refine Zx (Zh 6 51 false rfl (by kernel_rfl) rfl (by kernel_rfl)) rfl ?_
      refine Zx (Zh 6 51 false rfl (by kernel_rfl) rfl (by kernel_rfl)) rfl ?_
      refine Zx (Zh 6 51 false rfl (by kernel_rfl) rfl (by kernel_rfl)) rfl ?_
      refine Z2 (Z1 rfl) (d := 58) (v := (.bool true)) rfl (by kernel_rfl) ?_
      refine Z2 (Z1 rfl) (d := 59) (v := (.bool true)) rfl (by kernel_rfl) ?_
      refine Zx (Zh 14 59 false rfl (by kernel_rfl) rfl (by kernel_rfl)) rfl ?_
      refine Zx (Zh 14 59 false rfl (by kernel_rfl) rfl (by kernel_rfl)) rfl ?_
      refine Zx (Zh 14 59 false rfl (by kernel_rfl) rfl (by kernel_rfl)) rfl ?_
      refine Zx (Zh 14 59 false rfl (by kernel_rfl) rfl (by kernel_rfl)) rfl ?_
      refine Zx (Zh 14 59 false rfl (by kernel_rfl) rfl (by kernel_rfl)) rfl ?_
      refine Z2 (Z1 rfl) (d := 65) (v := (.bool true)) rfl (by kernel_rfl) ?_
      refine Zm ?_
      refine Z4 ?_
      refine Z0h rfl ?_
      refine Zc ?_
      refine Zp ?_
      refine Z2 (Z1 rfl) (d := 6) (v := (.bool false)) rfl (by kernel_rfl) ?_
      refine Zm ?_
      refine Z4 ?_
      refine ZY ?_
      refine Z0N ?_
      refine Z0d ?_
      refine Z1n ?_
      refine Z0N ?_
      refine Z0d ?_
      refine Z0O rfl (ZF (v := (.bool false)) rfl) ?_
      have n108 := ZW b105
      have e1 : ((i : Int) - 1).toNat = i - 1 := by omega
      have ho : Z4g f L x S i = false := by unfold Z4g Z2p; rw [← e1]; simp only [b37, b53, n108, Bool.not_true, Bool.not_false, Bool.true_or, Bool.false_or, Bool.or_true, Bool.or_false, Bool.and_true, Bool.true_and, Bool.and_false, Bool.false_and]
      exact ⟨by simp only [Z12, Z2w (show i < S.length by omega) ho, Bool.and_false], H104.upd 0 rfl [] (fun _ h => h.elim)⟩
     ·have g109 := ZG b105
      refine Z02 51 (.bool false) (congrArg Value.bool b105) ?_
      have g110 := ZG b105
      refine Z2 (Zj 6 51 false rfl (by kernel_rfl) rfl (by kernel_rfl)) (d := 52) (v := (.pointer (some ⟨b46, 3, none⟩))) rfl (by kernel_rfl) ?_
      refine Z2 (Zj 6 51 false rfl (by kernel_rfl) rfl (by kernel_rfl)) (d := 53) (v := (.agg ⟨(hc (S.getD i Z8).h)⟩)) rfl (ZB (vs := (hc (S.getD i Z8).h)) rfl (by kernel_rfl) (by kernel_rfl) (by exact Nat.le_of_ble_eq_true (by kernel_rfl)) (H104.at 3 rfl) (by kernel_rfl)) ?_
      refine Z2 (Zj 6 51 false rfl (by kernel_rfl) rfl (by kernel_rfl)) (d := 54) (v := (.pointer (some ⟨b6, 0, none⟩))) rfl (by kernel_rfl) ?_
      refine Z2 (Zj 6 51 false rfl (by kernel_rfl) rfl (by kernel_rfl)) (d := 55) (v := (.pointer (some ⟨b6, 2, none⟩))) rfl (by kernel_rfl) ?_
      refine Z2 (Zj 6 51 false rfl (by kernel_rfl) rfl (by kernel_rfl)) (d := 56) (v := (.agg ⟨(hc x.h)⟩)) rfl (ZB (vs := (hc x.h)) rfl (by kernel_rfl) (by kernel_rfl) (by exact Nat.le_of_ble_eq_true (by kernel_rfl)) (H104.at 2 rfl) (by kernel_rfl)) ?_
      refine Z2 (Zj 6 51 false rfl (by kernel_rfl) rfl (by kernel_rfl)) (d := 57) (v := (.bool (!(decide (((S.getD i Z8).h) = x.h))))) rfl (Z4w ((S.getD i Z8).h) x.h rfl rfl) ?_
      refine Z2 (Z1 rfl) (d := 58) (v := (.bool (!(decide (((S.getD i Z8).h) = x.h))))) rfl (by kernel_rfl) ?_
      refine Z2 (Z1 rfl) (d := 59) (v := (.bool (!(decide (((S.getD i Z8).h) = x.h))))) rfl (by kernel_rfl) ?_
      refine (ZS (!(decide (((S.getD i Z8).h) = x.h)))).elim (fun b111 => ?_) (fun b111 => ?_)
      ·have g112 := ZW b111
       have g113 := of_decide_eq_false g112
       refine Z02 59 (.bool true) (congrArg Value.bool b111) ?_
       have g114 := ZW b111
       have g115 := of_decide_eq_false g114
       refine Zx (Zh 14 59 false rfl (by kernel_rfl) rfl (by kernel_rfl)) rfl ?_
       refine Zx (Zh 14 59 false rfl (by kernel_rfl) rfl (by kernel_rfl)) rfl ?_
       refine Zx (Zh 14 59 false rfl (by kernel_rfl) rfl (by kernel_rfl)) rfl ?_
       refine Zx (Zh 14 59 false rfl (by kernel_rfl) rfl (by kernel_rfl)) rfl ?_
       refine Zx (Zh 14 59 false rfl (by kernel_rfl) rfl (by kernel_rfl)) rfl ?_
       refine Z2 (Z1 rfl) (d := 65) (v := (.bool true)) rfl (by kernel_rfl) ?_
       refine Zm ?_
       refine Z4 ?_
       refine Z0h rfl ?_
       refine Zc ?_
       refine Zp ?_
       refine Z2 (Z1 rfl) (d := 6) (v := (.bool false)) rfl (by kernel_rfl) ?_
       refine Zm ?_
       refine Z4 ?_
       refine ZY ?_
       refine Z0N ?_
       refine Z0d ?_
       refine Z1n ?_
       refine Z0N ?_
       refine Z0d ?_
       refine Z0O rfl (ZF (v := (.bool false)) rfl) ?_
       have n116 := ZG b105
       have n117 := ZW b111
       have e1 : ((i : Int) - 1).toNat = i - 1 := by omega
       have ho : Z4g f L x S i = false := by unfold Z4g Z2p; rw [← e1]; simp only [b37, b53, n116, n117, Bool.not_true, Bool.not_false, Bool.true_or, Bool.false_or, Bool.or_true, Bool.or_false, Bool.and_true, Bool.true_and, Bool.and_false, Bool.false_and]
       exact ⟨by simp only [Z12, Z2w (show i < S.length by omega) ho, Bool.and_false], H104.upd 0 rfl [] (fun _ h => h.elim)⟩
      ·have g118 := ZG b111
       have g119 := of_decide_eq_true g118
       refine Z02 59 (.bool false) (congrArg Value.bool b111) ?_
       have g120 := ZG b111
       have g121 := of_decide_eq_true g120
       refine Z2 (Zj 14 59 false rfl (by kernel_rfl) rfl (by kernel_rfl)) (d := 60) (v := (.agg ⟨([(.int .i64 (f)), (.int .i64 (cn))] : List Value)⟩)) rfl (ZB (vs := ([(.int .i64 (f)), (.int .i64 (cn))] : List Value)) rfl (by kernel_rfl) (by kernel_rfl) (by exact Nat.le_of_ble_eq_true (by kernel_rfl)) (H104.at 1 rfl) (by kernel_rfl)) ?_
       refine Z2 (Zj 14 59 false rfl (by kernel_rfl) rfl (by kernel_rfl)) (d := 61) (v := (.pointer (some ⟨b, 0, none⟩))) rfl (by kernel_rfl) ?_
       refine Z2 (Zj 14 59 false rfl (by kernel_rfl) rfl (by kernel_rfl)) (d := 62) (v := (.agg ⟨(([(.int .i64 ((S.getD i Z8).r)), (.int .i64 ((S.getD i Z8).cl)), (.int .i64 ((S.getD i Z8).seq))] : List Value) ++ hc (S.getD i Z8).h ++ ([(.int .u64 ((S.getD i Z8).t)), (.int .i64 ((S.getD i Z8).sb)), (.int .i64 ((S.getD i Z8).sm))] : List Value))⟩)) rfl (ZB (vs := (([(.int .i64 ((S.getD i Z8).r)), (.int .i64 ((S.getD i Z8).cl)), (.int .i64 ((S.getD i Z8).seq))] : List Value) ++ hc (S.getD i Z8).h ++ ([(.int .u64 ((S.getD i Z8).t)), (.int .i64 ((S.getD i Z8).sb)), (.int .i64 ((S.getD i Z8).sm))] : List Value))) rfl (by kernel_rfl) (by kernel_rfl) (by exact Nat.le_of_ble_eq_true (by kernel_rfl)) (H104.at 3 rfl) (by kernel_rfl)) ?_
       refine ZA (Zj 14 59 false rfl (by kernel_rfl) rfl (by kernel_rfl)) (fun K122 hK122 => ?_)
       refine Zv (d := 63) rfl (by kernel_rfl) (Z3S w103 f cn (by omega) b mb L (H104.roCk 0 rfl hb (fun _ _ h => h)) (H104.roMap 0 rfl hm (fun h => h)) (S.getD i Z8) (hok _ (by omega))) ?_
       rintro _ w123 ⟨rfl, u125⟩
       have H124 := H104.keepU u125
       refine ⟨_, rfl, ?_⟩
       refine hK122 _ _ ?_
       clear hK122 K122
       refine Z2 (Zj 14 59 false rfl (by kernel_rfl) rfl (by kernel_rfl)) (d := 64) (v := (.bool (!(Z1S f L (S.getD i Z8))))) rfl (by kernel_rfl) ?_
       refine Z2 (Z1 rfl) (d := 65) (v := (.bool (!(Z1S f L (S.getD i Z8))))) rfl (by kernel_rfl) ?_
       refine Zm ?_
       refine Z4 ?_
       refine (ZS (!(Z1S f L (S.getD i Z8)))).elim (fun b126 => ?_) (fun b126 => ?_)
       ·have g127 := ZW b126
        refine Zs 65 (.bool true) (congrArg Value.bool b126) ?_
        have g128 := ZW b126
        refine Z0h rfl ?_
        refine Zc ?_
        refine Zp ?_
        refine Z2 (Z1 rfl) (d := 6) (v := (.bool false)) rfl (by kernel_rfl) ?_
        refine Zm ?_
        refine Z4 ?_
        refine ZY ?_
        refine Z0N ?_
        refine Z0d ?_
        refine Z1n ?_
        refine Z0N ?_
        refine Z0d ?_
        refine Z0O rfl (ZF (v := (.bool false)) rfl) ?_
        have n129 := ZG b105
        have n130 := ZG b111
        have n131 := ZW b126
        have e1 : ((i : Int) - 1).toNat = i - 1 := by omega
        have ho : Z4g f L x S i = false := by unfold Z4g Z2p; rw [← e1]; simp only [b37, b53, n129, n130, n131, Bool.not_true, Bool.not_false, Bool.true_or, Bool.false_or, Bool.or_true, Bool.or_false, Bool.and_true, Bool.true_and, Bool.and_false, Bool.false_and]
        exact ⟨by simp only [Z12, Z2w (show i < S.length by omega) ho, Bool.and_false], H124.upd 0 rfl [] (fun _ h => h.elim)⟩
       ·have g132 := ZG b126
        refine Zs 65 (.bool false) (congrArg Value.bool b126) ?_
        have g133 := ZG b126
        refine Z09 rfl ?_
        refine Z0b ?_
        refine ZL ?_
        refine Z4 ?_
        refine Zp ?_
        refine Z2 (Z1 rfl) (d := 66) (v := (.int .i64 ((i : Int) + 1))) rfl (Z04 (z := (i : Int) + 1) (by kernel_rfl) (IntWalk.i64_in _ (by omega))) ?_
        refine Z2 (Z1 rfl) (d := 26) (v := (.int .i64 ((i : Int) + 1))) rfl (by kernel_rfl) ?_
        refine Zm ?_
        have n134 := ZG b105
        have n135 := ZG b111
        have n136 := ZG b126
        have e1 : ((i : Int) - 1).toNat = i - 1 := by omega
        have ho : Z4g f L x S i = true := by unfold Z4g Z2p; rw [← e1]; simp only [b37, b53, n134, n135, n136, Bool.not_true, Bool.not_false, Bool.true_or, Bool.false_or, Bool.or_true, Bool.or_false, Bool.and_true, Bool.true_and, Bool.and_false, Bool.false_and]
        have H137 : Sat w [Z6 w (fun _ => False), Z3 b2 36 ([(.int .i64 (f)), (.int .i64 (cn))] : List Value), Z3 b6 53 (([(.int .i64 (x.cl)), (.int .i64 (x.seq))] : List Value) ++ hc x.h ++ ([(.int .i64 (x.len)), (.int .i64 (x.sb)), (.int .i64 (x.sm)), (.slice sa S.length sc)] : List Value))] w123 := H124.pick [0, 1, 2] (by decide)
        refine ZM ?_ _ ⟨(i + 1), (show ((.int .i64 ((i : Int) + 1)) : Value) = _ by first | rfl | go_num), (by omega), (fun j hj => by rcases Nat.lt_or_ge j i with h | h; exact hall j h; rw [show j = i by omega]; exact ho), H137, rfl⟩ (by omega)
        exact (Z0 rfl (Z0 rfl (Z0 rfl (Z0 rfl (Z0 rfl (Z0 rfl (Z0 rfl (Z0 rfl (Z0 rfl (Z0 rfl (Z0 rfl (Z0 rfl (Z0 rfl (Z0 rfl (Z0 rfl (Z0 rfl (Z0 rfl (Z0 rfl (Z0 rfl (Z0 rfl (Z0 rfl (Z0 rfl (Z0 rfl (Z0 rfl (Z0 rfl (Z0 rfl (Z0 rfl (Z0 rfl (Z0 rfl (Z0 rfl (Z0 rfl (Z0 rfl (Z0 rfl (Z0 rfl (Z0 rfl (Z0 rfl (Z0 rfl (Z0 rfl (Z0 rfl (Z0 rfl (Z0 rfl (Z0 rfl (Z0 rfl (Z0 rfl (Z0 rfl (Z0 rfl (Z0 rfl (Z0 rfl (Z0 rfl (Z06))))))))))))))))))))))))))))))))))))))))))))))))))
   ·have g138 := of_decide_eq_false b37
    refine Zs 27 (.bool false) (congrArg Value.bool b37) ?_
    have g139 := of_decide_eq_false b37
    refine Z09 rfl ?_
    refine Z0M ?_
    refine Z0a ?_
    refine Z0c ?_
    refine Z0B ?_
    refine Z4 ?_
    refine Zc ?_
    refine Zp ?_
    refine Z2 (Z1 rfl) (d := 6) (v := (.bool true)) rfl (by kernel_rfl) ?_
    refine Zm ?_
    refine Z4 ?_
    refine ZY ?_
    refine Z0O rfl (ZF (v := (.bool true)) rfl) ?_
    have hn0 : i = S.length := by omega
    subst hn0
    exact ⟨by simp only [Z12, Z81 hall, n30, n31, Bool.not_true, Bool.not_false, Bool.true_or, Bool.false_or, Bool.or_true, Bool.or_false, Bool.and_true, Bool.true_and, Bool.and_false, Bool.false_and], H34.upd 0 rfl [] (fun _ h => h.elim)⟩
end Go.Proofs.YtoaifondpohniaaGreat
