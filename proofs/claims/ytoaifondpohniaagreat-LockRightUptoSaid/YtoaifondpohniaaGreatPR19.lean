/- WHAT IS PROVED: contracts and plain laws of Rg1t. Conditions: stated with each. -/
import Derived.Test.YtoaifondpohniaaGreatPR04
import Derived.Test.YtoaifondpohniaaGreatPR11
import Derived.Test.YtoaifondpohniaaGreatPR15
import Derived.Test.YtoaifondpohniaaGreatPR18
set_option maxHeartbeats 4000000
set_option maxRecDepth 100000
namespace Go.Proofs.YtoaifondpohniaaGreat
open Go.RowKit
abbrev Z0w (p0 : Int) (p1 : Int) : List Value := ([(.int .i64 p0), (.int .i64 p1)] : List Value)
abbrev Z2L (p0 : Zg) : List Value := ([(.int .i64 p0.cl), (.int .i64 p0.seq)] : List Value) ++ hc p0.h ++ ([(.int .i64 p0.len), (.int .i64 p0.sb), (.int .i64 p0.sm)] : List Value)
abbrev Z2s (p0 : Z5) : List Value := ([(.int .i64 p0.r), (.int .i64 p0.cl), (.int .i64 p0.seq)] : List Value) ++ hc p0.h ++ ([(.int .u64 p0.t), (.int .i64 p0.sb), (.int .i64 p0.sm)] : List Value)
abbrev Zac (p0 : Zg) (p1 : Option Addr) (p2 : Nat) (p3 : Nat) : List Value := ([(.int .i64 p0.cl), (.int .i64 p0.seq)] : List Value) ++ hc p0.h ++ ([(.int .i64 p0.len), (.int .i64 p0.sb), (.int .i64 p0.sm), (.slice p1 p2 p3)] : List Value)
abbrev Zcl : List Value := ([(.int .i64 (0)), (.int .i64 (0)), (.int .i64 (0))] : List Value) ++ hc Z0d ++ ([(.int .u64 (0)), (.int .i64 (0)), (.int .i64 (0))] : List Value)
abbrev Zad (p0 : Z5) : List Value := ([(.int .i64 p0.cl), (.int .i64 p0.seq)] : List Value)
theorem Z59 (w : World) (b mb : Nat) (L : List Signed) (hb : (Z0 b 110 [.map (some mb)]).ok w) (hm : MapAt w mb Z0e (Value.int .i64) (Z04 L)) (ta : Option Addr) (tc : Nat) (tx : List UInt8) (ht : ListAt ZN 1 w (.slice ta tx.length tc) tx) (p m : Int) :
  Calls Tryz.prog 49 #[(.pointer (some ⟨b, 0, none⟩)), (.agg ⟨([(.int .i64 (p)), (.int .i64 (m))] : List Value)⟩), (.slice ta tx.length tc)] w fun e w' => e = .returned (.bool (Z0p L p m tx)) ∧ Upd [] w w' := by
 have H := Sat.start0 w
 have hmk : (ZV (Z04 L) (⟨p, tx⟩ : Signed)).getD 0 = Zu L (⟨p, tx⟩ : Signed) := by rw [Z3I]; rfl
 refine Zp Tryz.func49 rfl 26 rfl (Nat.le_of_ble_eq_true rfl) ?_
 apply zsl
 refine zwd fun Kq kq => ?_
 refine zdb (Z0w p m) H ?_
 intro b2 w3 H4
 refine kq _ _ ?_
 clear kq Kq
 refine wv 6 (.bool false) ?_
 apply znt
 apply Zt
 refine zqs H4 ?_
 refine qv 8 (pt b 0) ?_
 refine qv 9 (pt b 0) ?_
 refine qv 10 (pt b 0) ?_
 refine qv 11 (.map (some mb)) ?_ (hr := fun _ H' => (Z2 rfl (by kernel_rfl) (H'.roCell 0 rfl hb (fun h => h) rfl)))
 refine qv 12 (pt b2 0) ?_
 refine qv 13 (.int .i64 (p)) ?_ (hr := fun _ H' => (Z2 rfl (by kernel_rfl) (H'.cell 1 rfl rfl)))
 refine qv 14 (.slice ta tx.length tc) ?_
 refine qv 15 (Z2O tx) ?_ (hr := fun _ H' => (Z21 (e := 5) (s := tx) (by kernel_rfl) (by kernel_rfl) (by kernel_rfl) rfl (Z25 (ListAt.now H' 0 rfl ht))))
 refine Z8q (Zs rfl) (d := 16) (v := (.agg ⟨([(.int .i64 (p)), (Z2O tx)] : List Value)⟩)) rfl (fun _ H' => (by kernel_rfl)) ?_
 refine qv 17 (.int .i64 ((ZV (Z04 L) (⟨p, tx⟩ : Signed)).getD 0)) ?_ (hr := fun _ H' => (Z3A (kt := 107) (et := 3) Z4Y (by kernel_rfl) (fun w => by kernel_rfl) rfl (⟨p, tx⟩ : Signed) rfl (H'.roMap 0 rfl hm (fun h => h)) (ZcI (Value.int .i64) _ _)))
 refine qv 7 (.int .i64 ((ZV (Z04 L) (⟨p, tx⟩ : Signed)).getD 0)) ?_
 refine Z0S ?_
 intro w5 H6
 apply ztn
 apply zsl
 refine wv 18 (.int .i64 ((ZV (Z04 L) (⟨p, tx⟩ : Signed)).getD 0)) ?_
 refine wv 19 (.bool (decide (((ZV (Z04 L) (⟨p, tx⟩ : Signed)).getD 0) > 0))) ?_
 refine wv 20 (.bool (decide (((ZV (Z04 L) (⟨p, tx⟩ : Signed)).getD 0) > 0))) ?_
 refine (Zl (decide (((ZV (Z04 L) (⟨p, tx⟩ : Signed)).getD 0) > 0))).elim (fun b7 => ?_) (fun b7 => ?_)
 ·have g8 := of_decide_eq_true b7
  refine ZI 20 (.bool true) (congrArg Value.bool b7) ?_
  refine wy 2 20 true 21 (.int .i64 ((ZV (Z04 L) (⟨p, tx⟩ : Signed)).getD 0)) ?_
  refine wy 2 20 true 22 (pt b2 1) ?_
  refine wy 2 20 true 23 (.int .i64 (m)) ?_ (hr := Z2 rfl (by kernel_rfl) (H6.cell 1 rfl rfl))
  refine wy 2 20 true 24 (.bool (decide (((ZV (Z04 L) (⟨p, tx⟩ : Signed)).getD 0) = m))) ?_
  refine wv 25 (.bool (decide (((ZV (Z04 L) (⟨p, tx⟩ : Signed)).getD 0) = m))) ?_
  refine wv 6 (.bool (decide (((ZV (Z04 L) (⟨p, tx⟩ : Signed)).getD 0) = m))) ?_
  apply znt
  apply ZA
  refine ze1 (.bool (decide (((ZV (Z04 L) (⟨p, tx⟩ : Signed)).getD 0) = m))) ?_
  exact ⟨by unfold Z0p; rw [← hmk]; simp [b7], H6.upd 0 rfl [] (fun _ h => h.elim)⟩
 have g10 := of_decide_eq_false b7
 refine ZI 20 (.bool false) (congrArg Value.bool b7) ?_
 iterate 4 refine wn 2 20 true ?_
 refine wv 25 (.bool false) ?_
 refine wv 6 (.bool false) ?_
 apply znt
 apply ZA
 refine ze1 (.bool false) ?_
 exact ⟨by unfold Z0p; rw [← hmk]; simp [b7], H6.upd 0 rfl [] (fun _ h => h.elim)⟩
theorem Z9A (w : World) (f cn : Int) (x : Zg) :
  Calls Tryz.prog 110 #[(.agg ⟨([(.int .i64 (f)), (.int .i64 (cn))] : List Value)⟩), (.agg ⟨(([(.int .i64 (x.cl)), (.int .i64 (x.seq))] : List Value) ++ hc x.h ++ ([(.int .i64 (x.len)), (.int .i64 (x.sb)), (.int .i64 (x.sm))] : List Value))⟩)] w fun e w' => e = .returned (.bool (Z0O cn x)) ∧ Upd [] w w' := by
 have H := Sat.start0 w
 refine Zp Tryz.func110 rfl 38 rfl (Nat.le_of_ble_eq_true rfl) ?_
 apply zsl
 refine zwd fun Kq kq => ?_
 refine zdb (Z0w f cn) H ?_
 intro b2 w3 H4
 refine kq _ _ ?_
 clear kq Kq
 refine zwd fun Kq kq => ?_
 refine zdb (Z2L x) H4 ?_
 intro b6 w7 H8
 refine kq _ _ ?_
 clear kq Kq
 refine wv 4 (.bool false) ?_
 apply Z1y
 refine wv 6 (pt b6 0) ?_
 refine zwN 7 (Z0w x.cl x.seq) (H8.at 2 rfl) ?_
 refine zwd fun Kq kq => ?_
 refine zda ([(.int .i64 (0)), (.int .i64 (0))] : List Value) H8 ?_
 intro b10 w11 H12
 refine kq _ _ ?_
 clear kq Kq
 refine zwd fun Kq kq => ?_
 refine Z2k (Z0w x.cl x.seq) H12 3 ?_
 intro w14 H15
 refine kq _ _ ?_
 clear kq Kq
 apply znt
 refine Z0X ([4] ++ List.range' 8 30) (fun G_ W_ => G_ 4 = (.bool (Z0O cn x)) ∧ Sat w [Z6 w (fun _ => False), Z0 b2 36 (Z0w f cn), Z0 b6 50 (Z2L x), Z0 b10 24 (Z0w x.cl x.seq)] W_) ?_ ?_
 ·apply ZU
  refine wv 8 (pt b10 0) ?_
  refine zw1 9 (.int .i64 (x.cl)) (H15.cell 3 rfl rfl) ?_
  refine wv 10 (.bool (decide (x.cl ≥ 0))) ?_
  refine wv 11 (.bool (decide (x.cl ≥ 0))) ?_
  refine (Zl (decide (x.cl ≥ 0))).elim (fun b18 => ?_) (fun b18 => ?_)
  ·have g19 := of_decide_eq_true b18
   refine ZI 11 (.bool true) (congrArg Value.bool b18) ?_
   refine wy 3 11 true 12 (pt b10 0) ?_
   refine wy 3 11 true 13 (.int .i64 (x.cl)) ?_ (hr := Z2 rfl (by kernel_rfl) (H15.cell 3 rfl rfl))
   refine wy 3 11 true 14 (pt b2 1) ?_
   refine wy 3 11 true 15 (.int .i64 (cn)) ?_ (hr := Z2 rfl (by kernel_rfl) (H15.cell 1 rfl rfl))
   refine wy 3 11 true 16 (.bool (decide (x.cl < cn))) ?_
   refine wv 17 (.bool (decide (x.cl < cn))) ?_
   refine wv 18 (.bool (decide (x.cl < cn))) ?_
   refine (Zl (decide (x.cl < cn))).elim (fun b20 => ?_) (fun b20 => ?_)
   ·have g21 := of_decide_eq_true b20
    refine ZI 18 (.bool true) (congrArg Value.bool b20) ?_
    refine wy 10 18 true 19 (pt b10 1) ?_
    refine wy 10 18 true 20 (.int .i64 (x.seq)) ?_ (hr := Z2 rfl (by kernel_rfl) (H15.cell 3 rfl rfl))
    refine wy 10 18 true 21 (.bool (decide (x.seq ≥ 1))) ?_
    refine wv 22 (.bool (decide (x.seq ≥ 1))) ?_
    refine wv 23 (.bool (decide (x.seq ≥ 1))) ?_
    refine (Zl (decide (x.seq ≥ 1))).elim (fun b22 => ?_) (fun b22 => ?_)
    ·have g23 := of_decide_eq_true b22
     refine ZI 23 (.bool true) (congrArg Value.bool b22) ?_
     refine wy 15 23 true 24 (pt b10 1) ?_
     refine wy 15 23 true 25 (.int .i64 (x.seq)) ?_ (hr := Z2 rfl (by kernel_rfl) (H15.cell 3 rfl rfl))
     refine wy 15 23 true 26 (.bool (decide (x.seq ≤ 1048576))) ?_
     refine wv 27 (.bool (decide (x.seq ≤ 1048576))) ?_
     refine wv 28 (.bool (decide (x.seq ≤ 1048576))) ?_
     refine (Zl (decide (x.seq ≤ 1048576))).elim (fun b24 => ?_) (fun b24 => ?_)
     ·have g25 := of_decide_eq_true b24
      refine ZI 28 (.bool true) (congrArg Value.bool b24) ?_
      refine wy 20 28 true 29 (pt b6 34) ?_
      refine wy 20 28 true 30 (.int .i64 (x.len)) ?_ (hr := Z2 rfl (by kernel_rfl) (H15.cell 2 rfl (by kernel_rfl)))
      refine wy 20 28 true 31 (.bool (decide (x.len ≥ 0))) ?_
      refine wv 32 (.bool (decide (x.len ≥ 0))) ?_
      refine wv 33 (.bool (decide (x.len ≥ 0))) ?_
      refine (Zl (decide (x.len ≥ 0))).elim (fun b26 => ?_) (fun b26 => ?_)
      ·have g27 := of_decide_eq_true b26
       refine ZI 33 (.bool true) (congrArg Value.bool b26) ?_
       refine wy 25 33 true 34 (pt b6 34) ?_
       refine wy 25 33 true 35 (.int .i64 (x.len)) ?_ (hr := Z2 rfl (by kernel_rfl) (H15.cell 2 rfl (by kernel_rfl)))
       refine wy 25 33 true 36 (.bool (decide (x.len ≤ 256))) ?_
       refine wv 37 (.bool (decide (x.len ≤ 256))) ?_
       refine wv 4 (.bool (decide (x.len ≤ 256))) ?_
       apply ZQ
       refine ZJ ?_ ⟨(congrArg Value.bool (show (decide (x.len ≤ 256)) = (Z0O cn x) by simp [Z0O, b18, b20, b22, b24, b26])), H15⟩
       exact zs
      have g28 := of_decide_eq_false b26
      refine ZI 33 (.bool false) (congrArg Value.bool b26) ?_
      iterate 3 refine wn 25 33 true ?_
      refine wv 37 (.bool false) ?_
      refine wv 4 (.bool false) ?_
      apply ZQ
      refine ZJ ?_ ⟨(congrArg Value.bool (show false = (Z0O cn x) by simp [Z0O, b18, b20, b22, b24, b26])), H15⟩
      exact zs
     have g29 := of_decide_eq_false b24
     refine ZI 28 (.bool false) (congrArg Value.bool b24) ?_
     iterate 3 refine wn 20 28 true ?_
     refine wv 32 (.bool false) ?_
     refine wv 33 (.bool false) ?_
     iterate 3 refine wn 25 33 true ?_
     refine wv 37 (.bool false) ?_
     refine wv 4 (.bool false) ?_
     apply ZQ
     refine ZJ ?_ ⟨(congrArg Value.bool (show false = (Z0O cn x) by simp [Z0O, b18, b20, b22, b24])), H15⟩
     exact zs
    have g30 := of_decide_eq_false b22
    refine ZI 23 (.bool false) (congrArg Value.bool b22) ?_
    iterate 3 refine wn 15 23 true ?_
    refine wv 27 (.bool false) ?_
    refine wv 28 (.bool false) ?_
    iterate 3 refine wn 20 28 true ?_
    refine wv 32 (.bool false) ?_
    refine wv 33 (.bool false) ?_
    iterate 3 refine wn 25 33 true ?_
    refine wv 37 (.bool false) ?_
    refine wv 4 (.bool false) ?_
    apply ZQ
    refine ZJ ?_ ⟨(congrArg Value.bool (show false = (Z0O cn x) by simp [Z0O, b18, b20, b22])), H15⟩
    exact zs
   have g31 := of_decide_eq_false b20
   refine ZI 18 (.bool false) (congrArg Value.bool b20) ?_
   iterate 3 refine wn 10 18 true ?_
   refine wv 22 (.bool false) ?_
   refine wv 23 (.bool false) ?_
   iterate 3 refine wn 15 23 true ?_
   refine wv 27 (.bool false) ?_
   refine wv 28 (.bool false) ?_
   iterate 3 refine wn 20 28 true ?_
   refine wv 32 (.bool false) ?_
   refine wv 33 (.bool false) ?_
   iterate 3 refine wn 25 33 true ?_
   refine wv 37 (.bool false) ?_
   refine wv 4 (.bool false) ?_
   apply ZQ
   refine ZJ ?_ ⟨(congrArg Value.bool (show false = (Z0O cn x) by simp [Z0O, b18, b20])), H15⟩
   exact zs
  have g32 := of_decide_eq_false b18
  refine ZI 11 (.bool false) (congrArg Value.bool b18) ?_
  iterate 5 refine wn 3 11 true ?_
  refine wv 17 (.bool false) ?_
  refine wv 18 (.bool false) ?_
  iterate 3 refine wn 10 18 true ?_
  refine wv 22 (.bool false) ?_
  refine wv 23 (.bool false) ?_
  iterate 3 refine wn 15 23 true ?_
  refine wv 27 (.bool false) ?_
  refine wv 28 (.bool false) ?_
  iterate 3 refine wn 20 28 true ?_
  refine wv 32 (.bool false) ?_
  refine wv 33 (.bool false) ?_
  iterate 3 refine wn 25 33 true ?_
  refine wv 37 (.bool false) ?_
  refine wv 4 (.bool false) ?_
  apply ZQ
  refine ZJ ?_ ⟨(congrArg Value.bool (show false = (Z0O cn x) by simp [Z0O, b18])), H15⟩
  exact zs
 rintro f33 w34 ⟨v36, H35⟩
 refine ZF 4 _ v36 ?_
 apply ZA
 refine ze1 (.bool (Z0O cn x)) ?_
 exact ⟨rfl, H35.upd 0 rfl [] (fun _ h => h.elim)⟩
theorem Z8B (w : World) (c : Int) :
  Calls Tryz.prog 111 #[(.int .i64 (c))] w fun e w' => e = .returned (.int .i64 (IntKind.i64.wrap (1000 + c))) ∧ Upd [] w w' := by
 have H := Sat.start0 w
 refine Zp Tryz.func111 rfl 5 rfl (Nat.le_of_ble_eq_true rfl) ?_
 apply zsl
 refine wv 2 (.int .i64 (0)) ?_
 apply Z1y
 refine wv 3 (.int .i64 (c)) ?_
 refine wv 4 (.int .i64 (IntKind.i64.wrap (1000 + c))) ?_
 refine wv 2 (.int .i64 (IntKind.i64.wrap (1000 + c))) ?_
 apply znt
 apply ZA
 refine ze1 (.int .i64 (IntKind.i64.wrap (1000 + c))) ?_
 exact ⟨rfl, H.upd 0 rfl [] (fun _ h => h.elim)⟩
theorem Z8A (w : World) (f cn : Int) (hf : -1099511627776 ≤ f ∧ f ≤ 1099511627776) (b mb : Nat) (L : List Signed) (hb : (Z0 b 110 [.map (some mb)]).ok w) (hm : MapAt w mb Z0e (Value.int .i64) (Z04 L)) (s : Zg) (hs : ZbL s) :
  Calls Tryz.prog 89 #[(.agg ⟨([(.int .i64 (f)), (.int .i64 (cn))] : List Value)⟩), (.pointer (some ⟨b, 0, none⟩)), (.agg ⟨(([(.int .i64 (s.cl)), (.int .i64 (s.seq))] : List Value) ++ hc s.h ++ ([(.int .i64 (s.len)), (.int .i64 (s.sb)), (.int .i64 (s.sm))] : List Value))⟩)] w fun e w' => e = .returned (.bool (Z2e cn L s)) ∧ Upd [] w w' := by
 have H := Sat.start0 w
 have hs2 := hs
 unfold ZbL at hs2
 refine Zp Tryz.func89 rfl 28 rfl (Nat.le_of_ble_eq_true rfl) ?_
 apply zsl
 refine zwd fun Kq kq => ?_
 refine zdb (Z0w f cn) H ?_
 intro b2 w3 H4
 refine kq _ _ ?_
 clear kq Kq
 refine zwd fun Kq kq => ?_
 refine zdb (Z2L s) H4 ?_
 intro b6 w7 H8
 refine kq _ _ ?_
 clear kq Kq
 refine wv 6 (.bool false) ?_
 apply znt
 apply Zt
 refine Z00 H8 [Z6 w (fun _ => False), Z0 b2 36 (Z0w f cn), Z0 b6 50 (Z2L s)] 22 rfl (by kernel_rfl) (fun Hx => (Hx.pk [0, 1, 2])) ?_
 intro w9 H10 S11
 refine hv0 0 S11 7 (.agg ⟨(Z0w f cn)⟩) ?_ (he := fun _ H' => (Zc (vs := (Z0w f cn)) rfl (by kernel_rfl) (by kernel_rfl) (by exact Nat.le_of_ble_eq_true (by kernel_rfl)) (H'.at 1 rfl) (by kernel_rfl)))
 refine hv0 1 S11 8 (.agg ⟨(Z2L s)⟩) ?_ (he := fun _ H' => (Zc (vs := (Z2L s)) rfl (by kernel_rfl) (by kernel_rfl) (by exact Nat.le_of_ble_eq_true (by kernel_rfl)) (H'.at 2 rfl) (by kernel_rfl)))
 refine Z09 2 fun Kq kq => ?_
 refine zdq 9 (Z9A w9 f cn s) H10 ?_
 intro w13 H14
 have S16 := H14.pk [0, 1, 2]
 refine kq _ _ S16 ?_
 clear kq Kq
 refine hv0 3 S16 10 (.bool (Z0O cn s)) ?_
 refine (Zl (Z0O cn s)).elim (fun b17 => ?_) (fun b17 => ?_)
 ·refine Z0j 10 (.bool true) (congrArg Value.bool b17) ?_
  refine Z0N 4 S16 3 10 true 11 (pt b6 35) ?_
  refine Z0N 5 S16 3 10 true 12 (pt b6 35) ?_
  refine Z0N 6 S16 3 10 true 13 (.int .i64 (s.sb)) ?_ (he := fun _ H' => (Z2 rfl (by kernel_rfl) (H'.cell 2 rfl (by kernel_rfl))))
  refine Z0N 7 S16 3 10 true 14 (pt b6 0) ?_
  refine Z0N 8 S16 3 10 true 15 (pt b6 0) ?_
  refine Z0N 9 S16 3 10 true 16 (.int .i64 (s.cl)) ?_ (he := fun _ H' => (Z2 rfl (by kernel_rfl) (H'.cell 2 rfl (by kernel_rfl))))
  refine Z5v 10 rfl (by kernel_rfl) (Z01 3 10 true rfl (by kernel_rfl) rfl (by kernel_rfl)) (fun Kq kq => ?_)
  refine zdq 17 (Z8B w13 s.cl) H14 ?_
  intro w19 H20
  have S22 := H20.pk [0, 1, 2]
  refine kq _ _ S22 ?_
  clear kq Kq
  refine Z0N 11 S22 3 10 true 18 (.bool (decide (s.sb = (IntKind.i64.wrap (1000 + s.cl))))) ?_
  refine hv0 12 S22 19 (.bool (decide (s.sb = (IntKind.i64.wrap (1000 + s.cl))))) ?_
  refine hv0 13 S22 20 (.bool (decide (s.sb = (IntKind.i64.wrap (1000 + s.cl))))) ?_
  refine (Zl (decide (s.sb = (IntKind.i64.wrap (1000 + s.cl))))).elim (fun b23 => ?_) (fun b23 => ?_)
  ·have g24 := of_decide_eq_true b23
   refine Z0j 20 (.bool true) (congrArg Value.bool b23) ?_
   refine Z0N 14 S22 13 20 true 21 (pt b 0) ?_
   refine Z0N 15 S22 13 20 true 22 (pt b6 35) ?_
   refine Z0N 16 S22 13 20 true 23 (.agg ⟨(Z0w s.sb s.sm)⟩) ?_ (he := fun _ H' => (Zc (vs := (Z0w s.sb s.sm)) rfl (by kernel_rfl) (by kernel_rfl) (by exact Nat.le_of_ble_eq_true (by kernel_rfl)) (H'.at 2 rfl) (by kernel_rfl)))
   refine Z0N 17 S22 13 20 true 24 (.agg ⟨(Z2L s)⟩) ?_ (he := fun _ H' => (Zc (vs := (Z2L s)) rfl (by kernel_rfl) (by kernel_rfl) (by exact Nat.le_of_ble_eq_true (by kernel_rfl)) (H'.at 2 rfl) (by kernel_rfl)))
   refine Z5v 18 rfl (by kernel_rfl) (Z01 13 20 true rfl (by kernel_rfl) rfl (by kernel_rfl)) (fun Kq kq => ?_)
   refine zdc 25 (Z5R w19 s hs) ?_
   rintro _ w27 ⟨u28, rfl, k29, p30, q31⟩
   have H32 := H20.addU p30 k29 q31
   obtain ⟨a33, c34, rfl⟩ := Z1 (H32.at 3 rfl)
   refine ⟨_, rfl, ?_⟩
   have S35 := H32.pk [0, 1, 2]
   refine kq _ _ S35 ?_
   clear kq Kq
   refine Z5v 19 rfl (by kernel_rfl) (Z01 13 20 true rfl (by kernel_rfl) rfl (by kernel_rfl)) (fun Kq kq => ?_)
   refine zdq 26 (Z59 w27 b mb L (H32.roCk 0 rfl hb (fun _ _ h => h)) (H32.roMap 0 rfl hm (fun h => h)) a33 c34 (Zv s) (ListAt.row (enc := ZN) (sz := 1) ZE (by decide) (H32.at 3 rfl)) s.sb s.sm) H32 ?_
   intro w37 H38
   have S40 := H38.pk [0, 1, 2]
   refine kq _ _ S40 ?_
   clear kq Kq
   refine hv0 20 S40 27 (.bool (Z0p L s.sb s.sm (Zv s))) ?_
   refine hv0 21 S40 6 (.bool (Z0p L s.sb s.sm (Zv s))) ?_
   refine zhf ?_
   apply ztn
   apply ZA
   refine ze1 (.bool (Z0p L s.sb s.sm (Zv s))) ?_
   exact ⟨by simp [Z2e, b17, b23], H38.upd 0 rfl [] (fun _ h => h.elim)⟩
  have g41 := of_decide_eq_false b23
  refine Z0j 20 (.bool false) (congrArg Value.bool b23) ?_
  refine Zx 14 S22 13 20 true ?_
  refine Zx 15 S22 13 20 true ?_
  refine Zx 16 S22 13 20 true ?_
  refine Zx 17 S22 13 20 true ?_
  refine Zx 18 S22 13 20 true ?_
  refine Zx 19 S22 13 20 true ?_
  refine hv0 20 S22 27 (.bool false) ?_
  refine hv0 21 S22 6 (.bool false) ?_
  refine zhf ?_
  apply ztn
  apply ZA
  refine ze1 (.bool false) ?_
  exact ⟨by simp [Z2e, b17, b23], H20.upd 0 rfl [] (fun _ h => h.elim)⟩
 refine Z0j 10 (.bool false) (congrArg Value.bool b17) ?_
 refine Zx 4 S16 3 10 true ?_
 refine Zx 5 S16 3 10 true ?_
 refine Zx 6 S16 3 10 true ?_
 refine Zx 7 S16 3 10 true ?_
 refine Zx 8 S16 3 10 true ?_
 refine Zx 9 S16 3 10 true ?_
 refine Zx 10 S16 3 10 true ?_
 refine Zx 11 S16 3 10 true ?_
 refine hv0 12 S16 19 (.bool false) ?_
 refine hv0 13 S16 20 (.bool false) ?_
 refine Zx 14 S16 13 20 true ?_
 refine Zx 15 S16 13 20 true ?_
 refine Zx 16 S16 13 20 true ?_
 refine Zx 17 S16 13 20 true ?_
 refine Zx 18 S16 13 20 true ?_
 refine Zx 19 S16 13 20 true ?_
 refine hv0 20 S16 27 (.bool false) ?_
 refine hv0 21 S16 6 (.bool false) ?_
 refine zhf ?_
 apply ztn
 apply ZA
 refine ze1 (.bool false) ?_
 exact ⟨by simp [Z2e, b17], H14.upd 0 rfl [] (fun _ h => h.elim)⟩
theorem Z5T (w : World) (f cn : Int) (hf : -1099511627776 ≤ f ∧ f ≤ 1099511627776) (b mb : Nat) (L : List Signed) (hb : (Z0 b 110 [.map (some mb)]).ok w) (hm : MapAt w mb Z0e (Value.int .i64) (Z04 L)) (s : Z5) (hs : Z8E s) :
  Calls Tryz.prog 91 #[(.agg ⟨([(.int .i64 (f)), (.int .i64 (cn))] : List Value)⟩), (.pointer (some ⟨b, 0, none⟩)), (.agg ⟨(([(.int .i64 (s.r)), (.int .i64 (s.cl)), (.int .i64 (s.seq))] : List Value) ++ hc s.h ++ ([(.int .u64 (s.t)), (.int .i64 (s.sb)), (.int .i64 (s.sm))] : List Value))⟩)] w fun e w' => e = .returned (.bool (Z0Y f L s)) ∧ Upd [] w w' := by
 have H := Sat.start0 w
 have hs2 := hs
 unfold Z8E at hs2
 refine Zp Tryz.func91 rfl 37 rfl (Nat.le_of_ble_eq_true rfl) ?_
 apply zsl
 refine zwd fun Kq kq => ?_
 refine zdb (Z0w f cn) H ?_
 intro b2 w3 H4
 refine kq _ _ ?_
 clear kq Kq
 refine zwd fun Kq kq => ?_
 refine zdb (Z2s s) H4 ?_
 intro b6 w7 H8
 refine kq _ _ ?_
 clear kq Kq
 refine wv 6 (.bool false) ?_
 apply znt
 apply Zt
 refine Z00 H8 [Z6 w (fun _ => False), Z0 b2 36 (Z0w f cn), Z0 b6 101 (Z2s s)] 31 rfl (by kernel_rfl) (fun Hx => (Hx.pk [0, 1, 2])) ?_
 intro w9 H10 S11
 refine hv0 0 S11 7 (.agg ⟨(Z0w f cn)⟩) ?_ (he := fun _ H' => (Zc (vs := (Z0w f cn)) rfl (by kernel_rfl) (by kernel_rfl) (by exact Nat.le_of_ble_eq_true (by kernel_rfl)) (H'.at 1 rfl) (by kernel_rfl)))
 refine hv0 1 S11 8 (pt b6 0) ?_
 refine hv0 2 S11 9 (.int .i64 (s.r)) ?_ (he := fun _ H' => (Z2 rfl (by kernel_rfl) (H'.cell 2 rfl (by kernel_rfl))))
 refine Z09 3 fun Kq kq => ?_
 refine zdq 10 (Z74 w9 f cn s.r (by omega)) H10 ?_
 intro w13 H14
 have S16 := H14.pk [0, 1, 2]
 refine kq _ _ S16 ?_
 clear kq Kq
 refine hv0 4 S16 11 (.bool (inB f s.r)) ?_
 refine (Zl (inB f s.r)).elim (fun b17 => ?_) (fun b17 => ?_)
 ·refine Z0j 11 (.bool true) (congrArg Value.bool b17) ?_
  refine Z0N 5 S16 4 11 true 12 (pt b6 35) ?_
  refine Z0N 6 S16 4 11 true 13 (.int .u64 (s.t)) ?_ (he := fun _ H' => (Z2 rfl (by kernel_rfl) (H'.cell 2 rfl (by kernel_rfl))))
  refine Z0N 7 S16 4 11 true 14 (.bool (decide (s.t ≥ 1))) ?_
  refine hv0 8 S16 15 (.bool (decide (s.t ≥ 1))) ?_
  refine hv0 9 S16 16 (.bool (decide (s.t ≥ 1))) ?_
  refine (Zl (decide (s.t ≥ 1))).elim (fun b18 => ?_) (fun b18 => ?_)
  ·have g19 := of_decide_eq_true b18
   refine Z0j 16 (.bool true) (congrArg Value.bool b18) ?_
   refine Z0N 10 S16 9 16 true 17 (pt b6 35) ?_
   refine Z0N 11 S16 9 16 true 18 (.int .u64 (s.t)) ?_ (he := fun _ H' => (Z2 rfl (by kernel_rfl) (H'.cell 2 rfl (by kernel_rfl))))
   refine Z0N 12 S16 9 16 true 19 (.bool (decide (s.t < 18446744073709551615))) ?_
   refine hv0 13 S16 20 (.bool (decide (s.t < 18446744073709551615))) ?_
   refine hv0 14 S16 21 (.bool (decide (s.t < 18446744073709551615))) ?_
   refine (Zl (decide (s.t < 18446744073709551615))).elim (fun b21 => ?_) (fun b21 => ?_)
   ·have g22 := of_decide_eq_true b21
    refine Z0j 21 (.bool true) (congrArg Value.bool b21) ?_
    refine Z0N 15 S16 14 21 true 22 (pt b6 36) ?_
    refine Z0N 16 S16 14 21 true 23 (pt b6 36) ?_
    refine Z0N 17 S16 14 21 true 24 (.int .i64 (s.sb)) ?_ (he := fun _ H' => (Z2 rfl (by kernel_rfl) (H'.cell 2 rfl (by kernel_rfl))))
    refine Z0N 18 S16 14 21 true 25 (pt b6 0) ?_
    refine Z0N 19 S16 14 21 true 26 (.int .i64 (s.r)) ?_ (he := fun _ H' => (Z2 rfl (by kernel_rfl) (H'.cell 2 rfl (by kernel_rfl))))
    refine Z0N 20 S16 14 21 true 27 (.bool (decide (s.sb = s.r))) ?_
    refine hv0 21 S16 28 (.bool (decide (s.sb = s.r))) ?_
    refine hv0 22 S16 29 (.bool (decide (s.sb = s.r))) ?_
    refine (Zl (decide (s.sb = s.r))).elim (fun b24 => ?_) (fun b24 => ?_)
    ·have g24 := of_decide_eq_true b24
     refine Z0j 29 (.bool true) (congrArg Value.bool b24) ?_
     refine Z0N 23 S16 22 29 true 30 (pt b 0) ?_
     refine Z0N 24 S16 22 29 true 31 (pt b6 36) ?_
     refine Z0N 25 S16 22 29 true 32 (.agg ⟨(Z0w s.sb s.sm)⟩) ?_ (he := fun _ H' => (Zc (vs := (Z0w s.sb s.sm)) rfl (by kernel_rfl) (by kernel_rfl) (by exact Nat.le_of_ble_eq_true (by kernel_rfl)) (H'.at 2 rfl) (by kernel_rfl)))
     refine Z0N 26 S16 22 29 true 33 (.agg ⟨(Z2s s)⟩) ?_ (he := fun _ H' => (Zc (vs := (Z2s s)) rfl (by kernel_rfl) (by kernel_rfl) (by exact Nat.le_of_ble_eq_true (by kernel_rfl)) (H'.at 2 rfl) (by kernel_rfl)))
     refine Z5v 27 rfl (by kernel_rfl) (Z01 22 29 true rfl (by kernel_rfl) rfl (by kernel_rfl)) (fun Kq kq => ?_)
     refine zdc 34 (Z68 w13 s hs) ?_
     rintro _ w28 ⟨u29, rfl, k30, p31, q32⟩
     have H33 := H14.addU p31 k30 q32
     obtain ⟨a34, c35, rfl⟩ := Z1 (H33.at 3 rfl)
     refine ⟨_, rfl, ?_⟩
     have S36 := H33.pk [0, 1, 2]
     refine kq _ _ S36 ?_
     clear kq Kq
     refine Z5v 28 rfl (by kernel_rfl) (Z01 22 29 true rfl (by kernel_rfl) rfl (by kernel_rfl)) (fun Kq kq => ?_)
     refine zdq 35 (Z59 w28 b mb L (H33.roCk 0 rfl hb (fun _ _ h => h)) (H33.roMap 0 rfl hm (fun h => h)) a34 c35 (Zz s) (ListAt.row (enc := ZN) (sz := 1) ZE (by decide) (H33.at 3 rfl)) s.sb s.sm) H33 ?_
     intro w38 H39
     have S41 := H39.pk [0, 1, 2]
     refine kq _ _ S41 ?_
     clear kq Kq
     refine hv0 29 S41 36 (.bool (Z0p L s.sb s.sm (Zz s))) ?_
     refine hv0 30 S41 6 (.bool (Z0p L s.sb s.sm (Zz s))) ?_
     refine zhf ?_
     apply ztn
     apply ZA
     refine ze1 (.bool (Z0p L s.sb s.sm (Zz s))) ?_
     exact ⟨by simp [Z0Y, b17, b18, b21, b24], H39.upd 0 rfl [] (fun _ h => h.elim)⟩
    have g41 := of_decide_eq_false b24
    refine Z0j 29 (.bool false) (congrArg Value.bool b24) ?_
    refine Zx 23 S16 22 29 true ?_
    refine Zx 24 S16 22 29 true ?_
    refine Zx 25 S16 22 29 true ?_
    refine Zx 26 S16 22 29 true ?_
    refine Zx 27 S16 22 29 true ?_
    refine Zx 28 S16 22 29 true ?_
    refine hv0 29 S16 36 (.bool false) ?_
    refine hv0 30 S16 6 (.bool false) ?_
    refine zhf ?_
    apply ztn
    apply ZA
    refine ze1 (.bool false) ?_
    exact ⟨by simp [Z0Y, b17, b18, b21, b24], H14.upd 0 rfl [] (fun _ h => h.elim)⟩
   have g44 := of_decide_eq_false b21
   refine Z0j 21 (.bool false) (congrArg Value.bool b21) ?_
   refine Zx 15 S16 14 21 true ?_
   refine Zx 16 S16 14 21 true ?_
   refine Zx 17 S16 14 21 true ?_
   refine Zx 18 S16 14 21 true ?_
   refine Zx 19 S16 14 21 true ?_
   refine Zx 20 S16 14 21 true ?_
   refine hv0 21 S16 28 (.bool false) ?_
   refine hv0 22 S16 29 (.bool false) ?_
   refine Zx 23 S16 22 29 true ?_
   refine Zx 24 S16 22 29 true ?_
   refine Zx 25 S16 22 29 true ?_
   refine Zx 26 S16 22 29 true ?_
   refine Zx 27 S16 22 29 true ?_
   refine Zx 28 S16 22 29 true ?_
   refine hv0 29 S16 36 (.bool false) ?_
   refine hv0 30 S16 6 (.bool false) ?_
   refine zhf ?_
   apply ztn
   apply ZA
   refine ze1 (.bool false) ?_
   exact ⟨by simp [Z0Y, b17, b18, b21], H14.upd 0 rfl [] (fun _ h => h.elim)⟩
  have g46 := of_decide_eq_false b18
  refine Z0j 16 (.bool false) (congrArg Value.bool b18) ?_
  refine Zx 10 S16 9 16 true ?_
  refine Zx 11 S16 9 16 true ?_
  refine Zx 12 S16 9 16 true ?_
  refine hv0 13 S16 20 (.bool false) ?_
  refine hv0 14 S16 21 (.bool false) ?_
  refine Zx 15 S16 14 21 true ?_
  refine Zx 16 S16 14 21 true ?_
  refine Zx 17 S16 14 21 true ?_
  refine Zx 18 S16 14 21 true ?_
  refine Zx 19 S16 14 21 true ?_
  refine Zx 20 S16 14 21 true ?_
  refine hv0 21 S16 28 (.bool false) ?_
  refine hv0 22 S16 29 (.bool false) ?_
  refine Zx 23 S16 22 29 true ?_
  refine Zx 24 S16 22 29 true ?_
  refine Zx 25 S16 22 29 true ?_
  refine Zx 26 S16 22 29 true ?_
  refine Zx 27 S16 22 29 true ?_
  refine Zx 28 S16 22 29 true ?_
  refine hv0 29 S16 36 (.bool false) ?_
  refine hv0 30 S16 6 (.bool false) ?_
  refine zhf ?_
  apply ztn
  apply ZA
  refine ze1 (.bool false) ?_
  exact ⟨by simp [Z0Y, b17, b18], H14.upd 0 rfl [] (fun _ h => h.elim)⟩
 refine Z0j 11 (.bool false) (congrArg Value.bool b17) ?_
 refine Zx 5 S16 4 11 true ?_
 refine Zx 6 S16 4 11 true ?_
 refine Zx 7 S16 4 11 true ?_
 refine hv0 8 S16 15 (.bool false) ?_
 refine hv0 9 S16 16 (.bool false) ?_
 refine Zx 10 S16 9 16 true ?_
 refine Zx 11 S16 9 16 true ?_
 refine Zx 12 S16 9 16 true ?_
 refine hv0 13 S16 20 (.bool false) ?_
 refine hv0 14 S16 21 (.bool false) ?_
 refine Zx 15 S16 14 21 true ?_
 refine Zx 16 S16 14 21 true ?_
 refine Zx 17 S16 14 21 true ?_
 refine Zx 18 S16 14 21 true ?_
 refine Zx 19 S16 14 21 true ?_
 refine Zx 20 S16 14 21 true ?_
 refine hv0 21 S16 28 (.bool false) ?_
 refine hv0 22 S16 29 (.bool false) ?_
 refine Zx 23 S16 22 29 true ?_
 refine Zx 24 S16 22 29 true ?_
 refine Zx 25 S16 22 29 true ?_
 refine Zx 26 S16 22 29 true ?_
 refine Zx 27 S16 22 29 true ?_
 refine Zx 28 S16 22 29 true ?_
 refine hv0 29 S16 36 (.bool false) ?_
 refine hv0 30 S16 6 (.bool false) ?_
 refine zhf ?_
 apply ztn
 apply ZA
 refine ze1 (.bool false) ?_
 exact ⟨by simp [Z0Y, b17], H14.upd 0 rfl [] (fun _ h => h.elim)⟩
theorem Z5U (w : World) (f cn : Int) (hf : -1099511627776 ≤ f ∧ f ≤ 1099511627776) (b mb : Nat) (L : List Signed) (hb : (Z0 b 110 [.map (some mb)]).ok w) (hm : MapAt w mb Z0e (Value.int .i64) (Z04 L)) (x : Zg) (hx : ZbL x) (sa : Option Addr) (sc : Nat) (S : List Z5) (hS : ListAt Z0J 38 w (.slice sa S.length sc) S) (hok : Zb0 S) (hlS : S.length ≤ 1000000) :
  Calls Tryz.prog 54 #[(.agg ⟨([(.int .i64 (f)), (.int .i64 (cn))] : List Value)⟩), (.pointer (some ⟨b, 0, none⟩)), (.agg ⟨(([(.int .i64 (x.cl)), (.int .i64 (x.seq))] : List Value) ++ hc x.h ++ ([(.int .i64 (x.len)), (.int .i64 (x.sb)), (.int .i64 (x.sm)), (.slice sa S.length sc)] : List Value))⟩)] w fun e w' => e = .returned (.bool (Z06 f cn L x S)) ∧ Upd [] w w' := by
 have H := Sat.start0 w
 refine Zp Tryz.func54 rfl 67 rfl (Nat.le_of_ble_eq_true rfl) ?_
 apply zsl
 refine zwd fun Kq kq => ?_
 refine zdb (Z0w f cn) H ?_
 intro b2 w3 H4
 refine kq _ _ ?_
 clear kq Kq
 refine zwd fun Kq kq => ?_
 refine zdb (Zac x sa S.length sc) H4 ?_
 intro b6 w7 H8
 refine kq _ _ ?_
 clear kq Kq
 refine wv 6 (.bool false) ?_
 apply znt
 apply Zt
 apply Zt
 refine zqs H8 ?_
 refine qv 9 (.agg ⟨(Z0w f cn)⟩) ?_ (hr := fun _ H' => (Zc (vs := (Z0w f cn)) rfl (by kernel_rfl) (by kernel_rfl) (by exact Nat.le_of_ble_eq_true (by kernel_rfl)) (H'.at 1 rfl) (by kernel_rfl)))
 refine qv 10 (pt b 0) ?_
 refine qv 11 (pt b6 0) ?_
 refine qv 12 (.agg ⟨(Z2L x)⟩) ?_ (hr := fun _ H' => (Zc (vs := (Z2L x)) rfl (by kernel_rfl) (by kernel_rfl) (by exact Nat.le_of_ble_eq_true (by kernel_rfl)) (H'.at 2 rfl) (by kernel_rfl)))
 refine Z0B (Zs rfl) (d := 13) (v := (.bool (Z2e cn L x))) rfl (fun _ _ => by kernel_rfl) (fun w' H' => (Z8A w' f cn (by omega) b mb L (H'.roCk 0 rfl hb (fun _ _ h => h)) (H'.roMap 0 rfl hm (fun h => h)) x hx).mono fun _ _ h => ⟨h.1, H'.keepU h.2⟩) ?_
 refine qv 14 (.bool (!(Z2e cn L x))) ?_
 refine qv 15 (.bool (!(Z2e cn L x))) ?_
 refine (Zl (!(Z2e cn L x))).elim (fun b9 => ?_) (fun b9 => ?_)
 ·have g10 := Zy b9
  refine Z0k 15 (.bool true) (congrArg Value.bool b9) ?_
  iterate 6 refine qn 6 15 false ?_
  refine qv 22 (.bool true) ?_
  refine Z0S ?_
  intro w12 H13
  apply ztn
  refine Z0P rfl ?_
  apply zsl
  refine wv 6 (.bool false) ?_
  apply znt
  apply ZA
  apply Zr
  refine ze1 (.bool false) ?_
  have n14 := Zy b9
  exact ⟨by simp only [Z06, n14, Bool.not_true, Bool.not_false, Bool.true_or, Bool.false_or, Bool.or_true, Bool.or_false, Bool.and_true, Bool.true_and, Bool.and_false, Bool.false_and], H13.upd 0 rfl [] (fun _ h => h.elim)⟩
 have g15 := Za b9
 refine Z0k 15 (.bool false) (congrArg Value.bool b9) ?_
 refine qy 6 15 false 16 (pt b6 37) ?_
 refine qy 6 15 false 17 (.slice sa S.length sc) ?_ (hr := fun _ H' => (Z2 rfl (by kernel_rfl) (H'.cell 2 rfl (by kernel_rfl))))
 refine Z8q (Z01 6 15 false rfl (by kernel_rfl) rfl (by kernel_rfl)) (d := 18) (v := (.int .i64 ((S.length : Int)))) rfl (fun _ H' => (by kernel_rfl)) ?_
 refine qy 6 15 false 19 (.agg ⟨(Z0w f cn)⟩) ?_ (hr := fun _ H' => (Zc (vs := (Z0w f cn)) rfl (by kernel_rfl) (by kernel_rfl) (by exact Nat.le_of_ble_eq_true (by kernel_rfl)) (H'.at 1 rfl) (by kernel_rfl)))
 refine Z0B (Z01 6 15 false rfl (by kernel_rfl) rfl (by kernel_rfl)) (d := 20) (v := (.int .i64 (2 * f + 1))) rfl (fun _ _ => by kernel_rfl) (fun w' H' => (wQ_any w' f cn (by omega)).mono fun _ _ h => ⟨h.1, H'.keepU h.2⟩) ?_
 refine qy 6 15 false 21 (.bool (!(decide ((S.length : Int) = (2 * f + 1))))) ?_
 refine qv 22 (.bool (!(decide ((S.length : Int) = (2 * f + 1))))) ?_
 refine Z0S ?_
 intro w17 H18
 apply ztn
 refine (Zl (!(decide ((S.length : Int) = (2 * f + 1))))).elim (fun b19 => ?_) (fun b19 => ?_)
 ·have g20 := Zy b19
  have g21 := of_decide_eq_false g20
  refine Z1o _ b19 ?_
  apply zsl
  refine wv 6 (.bool false) ?_
  apply znt
  apply ZA
  apply Zr
  refine ze1 (.bool false) ?_
  have n24 := Za b9
  have n25 := Zy b19
  exact ⟨by simp only [Z06, n24, n25, Bool.not_true, Bool.not_false, Bool.true_or, Bool.false_or, Bool.or_true, Bool.or_false, Bool.and_true, Bool.true_and, Bool.and_false, Bool.false_and], H18.upd 0 rfl [] (fun _ h => h.elim)⟩
 have g26 := Za b19
 have g27 := of_decide_eq_true g26
 refine Z18 _ b19 ?_
 apply ZL
 apply ztn
 apply Zt
 apply zsl
 refine wv 23 (pt b6 37) ?_
 refine zw1 24 (.slice sa S.length sc) (H18.cell 2 rfl (by kernel_rfl)) ?_
 refine wv 25 (.int .i64 ((S.length : Int))) ?_
 refine wv 26 (.int .i64 (0)) ?_
 apply znt
 apply ZG
 have n30 := Za b9
 have n31 := Za b19
 refine Z02 ([6, 7, 8] ++ List.range' 26 41) (fun F_ W_ m_ => ∃ (i : Nat), F_ 26 = (.int .i64 ((i : Int))) ∧ (i ≤ S.length) ∧ (∀ j, j < i → Z2P f L x S j = true) ∧ Sat w [Z6 w (fun _ => False), Z0 b2 36 (Z0w f cn), Z0 b6 53 (Zac x sa S.length sc)] W_ ∧ m_ = S.length - i) _ ⟨0, (show ((.int .i64 (0)) : Value) = _ by first | rfl | go_num), (Nat.zero_le _), (fun _ h => absurd h (Nat.not_lt_zero _)), H18, rfl⟩ ?_
 rintro g32 w33 _ ⟨i, v35, hi, hall, H34, rfl⟩
 refine ZF 26 _ v35 ?_
 apply zsl
 refine wv 27 (.bool (decide ((i : Int) < (S.length : Int)))) ?_
 apply znt
 apply Zt
 refine (Zl (decide ((i : Int) < (S.length : Int)))).elim (fun b37 => ?_) (fun b37 => ?_)
 ·have g38 := of_decide_eq_true b37
  refine Z1o _ b37 ?_
  apply ZL
  apply ztn
  apply Zt
  apply ZG
  apply zsl
  refine wv 28 (.int .i64 ((i : Int))) ?_
  obtain ⟨g40, o41, c42, e43, R44⟩ := SliceOf.atD hS Z9 (show i < S.length by omega)
  refine wv 29 (.pointer (some ⟨g40, o41 + ((i : Int)).toNat * 38, none⟩)) ?_ (hr := ZC (E := 101) (by kernel_rfl) (by kernel_rfl) (Nat.le_of_ble_eq_true rfl) rfl e43 rfl (by omega) (by omega))
  refine wv 30 (.agg ⟨(Z2s (S.getD i Z9))⟩) ?_ (hr := Z0f (vs := (Z2s (S.getD i Z9))) rfl (by kernel_rfl) (by kernel_rfl) (Nat.le_of_ble_eq_true (by kernel_rfl)) (H34.runR 0 rfl (Z10 R44 0 (by kernel_rfl) (show o41 + ((i : Int)).toNat * 38 = o41 + i * 38 + 0 by omega)) (fun h => h)))
  refine zwd fun Kq kq => ?_
  refine zda (Zcl) H34 ?_
  intro b46 w47 H48
  refine kq _ _ ?_
  clear kq Kq
  refine wv 7 (.int .i64 ((i : Int))) ?_
  refine zwd fun Kq kq => ?_
  refine Z2k (Z2s (S.getD i Z9)) H48 3 ?_
  intro w50 H51
  refine kq _ _ ?_
  clear kq Kq
  apply znt
  apply Zt
  apply Zt
  refine zqs H51 ?_
  refine qv 31 (.int .i64 ((i : Int))) ?_
  refine qv 32 (.bool (decide ((i : Int) > 0))) ?_
  refine qv 33 (.bool (decide ((i : Int) > 0))) ?_
  refine (Zl (decide ((i : Int) > 0))).elim (fun b53 => ?_) (fun b53 => ?_)
  ·have g54 := of_decide_eq_true b53
   refine Z0k 33 (.bool true) (congrArg Value.bool b53) ?_
   refine qy 2 33 true 34 (pt b46 0) ?_
   refine qy 2 33 true 35 (.int .i64 ((S.getD i Z9).r)) ?_ (hr := fun _ H' => (Z2 rfl (by kernel_rfl) (H'.cell 3 rfl (by kernel_rfl))))
   refine qy 2 33 true 36 (pt b6 37) ?_
   refine qy 2 33 true 37 (.slice sa S.length sc) ?_ (hr := fun _ H' => (Z2 rfl (by kernel_rfl) (H'.cell 2 rfl (by kernel_rfl))))
   refine qy 2 33 true 38 (.int .i64 ((i : Int))) ?_
   refine qy 2 33 true 39 (.int .i64 ((i : Int) - 1)) ?_ (hr := fun _ H' => (Z0I (z := (i : Int) - 1) (by kernel_rfl) (IntWalk.i64_in _ (by omega))))
   obtain ⟨g56, o57, c58, e59, R60⟩ := SliceOf.atD hS Z9 (show ((i : Int) - 1).toNat < S.length by omega)
   refine qy 2 33 true 40 (.pointer (some ⟨g56, o57 + ((i : Int) - 1).toNat * 38, none⟩)) ?_ (hr := fun _ H' => (ZC (E := 101) (by kernel_rfl) (by kernel_rfl) (Nat.le_of_ble_eq_true rfl) rfl e59 rfl (by omega) (by omega)))
   refine qy 2 33 true 41 (.pointer (some ⟨g56, o57 + ((i : Int) - 1).toNat * 38, none⟩)) ?_
   refine qy 2 33 true 42 (.int .i64 ((S.getD ((i : Int) - 1).toNat Z9).r)) ?_ (hr := fun _ H' => (Z2 rfl (by kernel_rfl) (H'.cellR 0 rfl (Z13 R60 0 (by kernel_rfl) (show o57 + ((i : Int) - 1).toNat * 38 = o57 + ((i : Int) - 1).toNat * 38 + 0 by omega)) (fun h => h))))
   refine qy 2 33 true 43 (.bool (decide (((S.getD i Z9).r) ≤ ((S.getD ((i : Int) - 1).toNat Z9).r)))) ?_
   refine qv 44 (.bool (decide (((S.getD i Z9).r) ≤ ((S.getD ((i : Int) - 1).toNat Z9).r)))) ?_
   refine Z0S ?_
   intro w61 H62
   apply ztn
   refine (Zl (decide (((S.getD i Z9).r) ≤ ((S.getD ((i : Int) - 1).toNat Z9).r)))).elim (fun b63 => ?_) (fun b63 => ?_)
   ·have g64 := of_decide_eq_true b63
    refine Z1o _ b63 ?_
    apply zsl
    refine wv 6 (.bool false) ?_
    apply znt
    apply ZA
    apply Zr
    apply ZP
    apply Zr
    apply Z0l
    apply ZP
    apply Zr
    refine ze1 (.bool false) ?_
    have e1 : ((i : Int) - 1).toNat = i - 1 := by omega
    have ho : Z2P f L x S i = false := by unfold Z2P Z1Z; rw [← e1]; simp only [b37, b53, b63, Bool.not_true, Bool.not_false, Bool.true_or, Bool.false_or, Bool.or_true, Bool.or_false, Bool.and_true, Bool.true_and, Bool.and_false, Bool.false_and]
    exact ⟨by simp only [Z06, Z0T (show i < S.length by omega) ho, Bool.and_false], H62.upd 0 rfl [] (fun _ h => h.elim)⟩
   have g66 := of_decide_eq_false b63
   refine Z18 _ b63 ?_
   apply ZL
   apply ztn
   apply zsl
   refine wv 45 (pt b46 1) ?_
   refine zwN 46 (Zad (S.getD i Z9)) (H62.at 3 rfl) ?_
   refine wv 47 (pt b6 0) ?_
   refine wv 48 (pt b6 0) ?_
   refine zwN 49 (Z0w x.cl x.seq) (H62.at 2 rfl) ?_
   refine wv 50 (.bool (!(decide (((S.getD i Z9).cl) = x.cl ∧ ((S.getD i Z9).seq) = x.seq)))) ?_ (hr := Z4l ((S.getD i Z9).cl) ((S.getD i Z9).seq) x.cl x.seq rfl rfl)
   refine wv 51 (.bool (!(decide (((S.getD i Z9).cl) = x.cl ∧ ((S.getD i Z9).seq) = x.seq)))) ?_
   refine (Zl (!(decide (((S.getD i Z9).cl) = x.cl ∧ ((S.getD i Z9).seq) = x.seq)))).elim (fun b68 => ?_) (fun b68 => ?_)
   ·have g69 := Zy b68
    refine ZI 51 (.bool true) (congrArg Value.bool b68) ?_
    iterate 6 refine wn 6 51 false ?_
    refine wv 58 (.bool true) ?_
    refine wv 59 (.bool true) ?_
    iterate 5 refine wn 14 59 false ?_
    refine wv 65 (.bool true) ?_
    apply znt
    refine Z0P rfl ?_
    apply zsl
    refine wv 6 (.bool false) ?_
    apply znt
    apply ZA
    apply ZP
    apply Zr
    apply Z0l
    apply ZP
    apply Zr
    refine ze1 (.bool false) ?_
    have n71 := Zy b68
    have e1 : ((i : Int) - 1).toNat = i - 1 := by omega
    have ho : Z2P f L x S i = false := by unfold Z2P Z1Z; rw [← e1]; simp only [b37, b53, b63, n71, Bool.not_true, Bool.not_false, Bool.true_or, Bool.false_or, Bool.or_true, Bool.or_false, Bool.and_true, Bool.true_and, Bool.and_false, Bool.false_and]
    exact ⟨by simp only [Z06, Z0T (show i < S.length by omega) ho, Bool.and_false], H62.upd 0 rfl [] (fun _ h => h.elim)⟩
   have g72 := Za b68
   refine ZI 51 (.bool false) (congrArg Value.bool b68) ?_
   refine wy 6 51 false 52 (pt b46 3) ?_
   refine wy 6 51 false 53 (.agg ⟨(hc (S.getD i Z9).h)⟩) ?_ (hr := Zc (vs := (hc (S.getD i Z9).h)) rfl (by kernel_rfl) (by kernel_rfl) (by exact Nat.le_of_ble_eq_true (by kernel_rfl)) (H62.at 3 rfl) (by kernel_rfl))
   refine wy 6 51 false 54 (pt b6 0) ?_
   refine wy 6 51 false 55 (pt b6 2) ?_
   refine wy 6 51 false 56 (.agg ⟨(hc x.h)⟩) ?_ (hr := Zc (vs := (hc x.h)) rfl (by kernel_rfl) (by kernel_rfl) (by exact Nat.le_of_ble_eq_true (by kernel_rfl)) (H62.at 2 rfl) (by kernel_rfl))
   refine wy 6 51 false 57 (.bool (!(decide (((S.getD i Z9).h) = x.h)))) ?_ (hr := Z4k ((S.getD i Z9).h) x.h rfl rfl)
   refine wv 58 (.bool (!(decide (((S.getD i Z9).h) = x.h)))) ?_
   refine wv 59 (.bool (!(decide (((S.getD i Z9).h) = x.h)))) ?_
   refine (Zl (!(decide (((S.getD i Z9).h) = x.h)))).elim (fun b74 => ?_) (fun b74 => ?_)
   ·have g75 := Zy b74
    have g76 := of_decide_eq_false g75
    refine ZI 59 (.bool true) (congrArg Value.bool b74) ?_
    iterate 5 refine wn 14 59 false ?_
    refine wv 65 (.bool true) ?_
    apply znt
    refine Z0P rfl ?_
    apply zsl
    refine wv 6 (.bool false) ?_
    apply znt
    apply ZA
    apply ZP
    apply Zr
    apply Z0l
    apply ZP
    apply Zr
    refine ze1 (.bool false) ?_
    have n79 := Za b68
    have n80 := Zy b74
    have e1 : ((i : Int) - 1).toNat = i - 1 := by omega
    have ho : Z2P f L x S i = false := by unfold Z2P Z1Z; rw [← e1]; simp only [b37, b53, b63, n79, n80, Bool.not_true, Bool.not_false, Bool.true_or, Bool.false_or, Bool.or_true, Bool.or_false, Bool.and_true, Bool.true_and, Bool.and_false, Bool.false_and]
    exact ⟨by simp only [Z06, Z0T (show i < S.length by omega) ho, Bool.and_false], H62.upd 0 rfl [] (fun _ h => h.elim)⟩
   have g81 := Za b74
   have g82 := of_decide_eq_true g81
   refine ZI 59 (.bool false) (congrArg Value.bool b74) ?_
   refine wy 14 59 false 60 (.agg ⟨(Z0w f cn)⟩) ?_ (hr := Zc (vs := (Z0w f cn)) rfl (by kernel_rfl) (by kernel_rfl) (by exact Nat.le_of_ble_eq_true (by kernel_rfl)) (H62.at 1 rfl) (by kernel_rfl))
   refine wy 14 59 false 61 (pt b 0) ?_
   refine wy 14 59 false 62 (.agg ⟨(Z2s (S.getD i Z9))⟩) ?_ (hr := Zc (vs := (Z2s (S.getD i Z9))) rfl (by kernel_rfl) (by kernel_rfl) (by exact Nat.le_of_ble_eq_true (by kernel_rfl)) (H62.at 3 rfl) (by kernel_rfl))
   refine Z5d (Z01 14 59 false rfl (by kernel_rfl) rfl (by kernel_rfl)) (fun Kq kq => ?_)
   refine zdq 63 (Z5T w61 f cn (by omega) b mb L (H62.roCk 0 rfl hb (fun _ _ h => h)) (H62.roMap 0 rfl hm (fun h => h)) (S.getD i Z9) (hok _ (by omega))) H62 ?_
   intro w86 H87
   refine kq _ _ ?_
   clear kq Kq
   refine wy 14 59 false 64 (.bool (!(Z0Y f L (S.getD i Z9)))) ?_
   refine wv 65 (.bool (!(Z0Y f L (S.getD i Z9)))) ?_
   apply znt
   refine (Zl (!(Z0Y f L (S.getD i Z9)))).elim (fun b89 => ?_) (fun b89 => ?_)
   ·have g90 := Zy b89
    refine Z1o _ b89 ?_
    apply zsl
    refine wv 6 (.bool false) ?_
    apply znt
    apply ZA
    apply ZP
    apply Zr
    apply Z0l
    apply ZP
    apply Zr
    refine ze1 (.bool false) ?_
    have n92 := Za b68
    have n93 := Za b74
    have n94 := Zy b89
    have e1 : ((i : Int) - 1).toNat = i - 1 := by omega
    have ho : Z2P f L x S i = false := by unfold Z2P Z1Z; rw [← e1]; simp only [b37, b53, b63, n92, n93, n94, Bool.not_true, Bool.not_false, Bool.true_or, Bool.false_or, Bool.or_true, Bool.or_false, Bool.and_true, Bool.true_and, Bool.and_false, Bool.false_and]
    exact ⟨by simp only [Z06, Z0T (show i < S.length by omega) ho, Bool.and_false], H87.upd 0 rfl [] (fun _ h => h.elim)⟩
   have g95 := Za b89
   refine Z18 _ b89 ?_
   apply ZL
   apply Zq
   apply ztn
   apply ZU
   refine zwi 66 ((i : Int) + 1) ?_
   refine wv 26 (.int .i64 ((i : Int) + 1)) ?_
   apply ZQ
   have n97 := Za b68
   have n98 := Za b74
   have n99 := Za b89
   have e1 : ((i : Int) - 1).toNat = i - 1 := by omega
   have ho : Z2P f L x S i = true := by unfold Z2P Z1Z; rw [← e1]; simp only [b37, b53, b63, n97, n98, n99, Bool.not_true, Bool.not_false, Bool.true_or, Bool.false_or, Bool.or_true, Bool.or_false, Bool.and_true, Bool.true_and, Bool.and_false, Bool.false_and]
   have H100 := H87.pk [0, 1, 2]
   refine Zw ?_ _ ⟨(i + 1), rfl, (by omega), (fun j hj => by rcases Nat.lt_or_ge j i with h | h; exact hall j h; rw [show j = i by omega]; exact ho), H100, rfl⟩ (by omega)
   exact zs
  have g101 := of_decide_eq_false b53
  refine Z0k 33 (.bool false) (congrArg Value.bool b53) ?_
  iterate 10 refine qn 2 33 true ?_
  refine qv 44 (.bool false) ?_
  refine Z0S ?_
  intro w103 H104
  apply ztn
  refine Z3m rfl ?_
  apply ZL
  apply ztn
  apply zsl
  refine wv 45 (pt b46 1) ?_
  refine zwN 46 (Zad (S.getD i Z9)) (H104.at 3 rfl) ?_
  refine wv 47 (pt b6 0) ?_
  refine wv 48 (pt b6 0) ?_
  refine zwN 49 (Z0w x.cl x.seq) (H104.at 2 rfl) ?_
  refine wv 50 (.bool (!(decide (((S.getD i Z9).cl) = x.cl ∧ ((S.getD i Z9).seq) = x.seq)))) ?_ (hr := Z4l ((S.getD i Z9).cl) ((S.getD i Z9).seq) x.cl x.seq rfl rfl)
  refine wv 51 (.bool (!(decide (((S.getD i Z9).cl) = x.cl ∧ ((S.getD i Z9).seq) = x.seq)))) ?_
  refine (Zl (!(decide (((S.getD i Z9).cl) = x.cl ∧ ((S.getD i Z9).seq) = x.seq)))).elim (fun b105 => ?_) (fun b105 => ?_)
  ·have g106 := Zy b105
   refine ZI 51 (.bool true) (congrArg Value.bool b105) ?_
   iterate 6 refine wn 6 51 false ?_
   refine wv 58 (.bool true) ?_
   refine wv 59 (.bool true) ?_
   iterate 5 refine wn 14 59 false ?_
   refine wv 65 (.bool true) ?_
   apply znt
   refine Z0P rfl ?_
   apply zsl
   refine wv 6 (.bool false) ?_
   apply znt
   apply ZA
   apply ZP
   apply Zr
   apply Z0l
   apply ZP
   apply Zr
   refine ze1 (.bool false) ?_
   have n108 := Zy b105
   have e1 : ((i : Int) - 1).toNat = i - 1 := by omega
   have ho : Z2P f L x S i = false := by unfold Z2P Z1Z; rw [← e1]; simp only [b37, b53, n108, Bool.not_true, Bool.not_false, Bool.true_or, Bool.false_or, Bool.or_true, Bool.or_false, Bool.and_true, Bool.true_and, Bool.and_false, Bool.false_and]
   exact ⟨by simp only [Z06, Z0T (show i < S.length by omega) ho, Bool.and_false], H104.upd 0 rfl [] (fun _ h => h.elim)⟩
  have g109 := Za b105
  refine ZI 51 (.bool false) (congrArg Value.bool b105) ?_
  refine wy 6 51 false 52 (pt b46 3) ?_
  refine wy 6 51 false 53 (.agg ⟨(hc (S.getD i Z9).h)⟩) ?_ (hr := Zc (vs := (hc (S.getD i Z9).h)) rfl (by kernel_rfl) (by kernel_rfl) (by exact Nat.le_of_ble_eq_true (by kernel_rfl)) (H104.at 3 rfl) (by kernel_rfl))
  refine wy 6 51 false 54 (pt b6 0) ?_
  refine wy 6 51 false 55 (pt b6 2) ?_
  refine wy 6 51 false 56 (.agg ⟨(hc x.h)⟩) ?_ (hr := Zc (vs := (hc x.h)) rfl (by kernel_rfl) (by kernel_rfl) (by exact Nat.le_of_ble_eq_true (by kernel_rfl)) (H104.at 2 rfl) (by kernel_rfl))
  refine wy 6 51 false 57 (.bool (!(decide (((S.getD i Z9).h) = x.h)))) ?_ (hr := Z4k ((S.getD i Z9).h) x.h rfl rfl)
  refine wv 58 (.bool (!(decide (((S.getD i Z9).h) = x.h)))) ?_
  refine wv 59 (.bool (!(decide (((S.getD i Z9).h) = x.h)))) ?_
  refine (Zl (!(decide (((S.getD i Z9).h) = x.h)))).elim (fun b111 => ?_) (fun b111 => ?_)
  ·have g112 := Zy b111
   have g113 := of_decide_eq_false g112
   refine ZI 59 (.bool true) (congrArg Value.bool b111) ?_
   iterate 5 refine wn 14 59 false ?_
   refine wv 65 (.bool true) ?_
   apply znt
   refine Z0P rfl ?_
   apply zsl
   refine wv 6 (.bool false) ?_
   apply znt
   apply ZA
   apply ZP
   apply Zr
   apply Z0l
   apply ZP
   apply Zr
   refine ze1 (.bool false) ?_
   have n116 := Za b105
   have n117 := Zy b111
   have e1 : ((i : Int) - 1).toNat = i - 1 := by omega
   have ho : Z2P f L x S i = false := by unfold Z2P Z1Z; rw [← e1]; simp only [b37, b53, n116, n117, Bool.not_true, Bool.not_false, Bool.true_or, Bool.false_or, Bool.or_true, Bool.or_false, Bool.and_true, Bool.true_and, Bool.and_false, Bool.false_and]
   exact ⟨by simp only [Z06, Z0T (show i < S.length by omega) ho, Bool.and_false], H104.upd 0 rfl [] (fun _ h => h.elim)⟩
  have g118 := Za b111
  have g119 := of_decide_eq_true g118
  refine ZI 59 (.bool false) (congrArg Value.bool b111) ?_
  refine wy 14 59 false 60 (.agg ⟨(Z0w f cn)⟩) ?_ (hr := Zc (vs := (Z0w f cn)) rfl (by kernel_rfl) (by kernel_rfl) (by exact Nat.le_of_ble_eq_true (by kernel_rfl)) (H104.at 1 rfl) (by kernel_rfl))
  refine wy 14 59 false 61 (pt b 0) ?_
  refine wy 14 59 false 62 (.agg ⟨(Z2s (S.getD i Z9))⟩) ?_ (hr := Zc (vs := (Z2s (S.getD i Z9))) rfl (by kernel_rfl) (by kernel_rfl) (by exact Nat.le_of_ble_eq_true (by kernel_rfl)) (H104.at 3 rfl) (by kernel_rfl))
  refine Z5d (Z01 14 59 false rfl (by kernel_rfl) rfl (by kernel_rfl)) (fun Kq kq => ?_)
  refine zdq 63 (Z5T w103 f cn (by omega) b mb L (H104.roCk 0 rfl hb (fun _ _ h => h)) (H104.roMap 0 rfl hm (fun h => h)) (S.getD i Z9) (hok _ (by omega))) H104 ?_
  intro w123 H124
  refine kq _ _ ?_
  clear kq Kq
  refine wy 14 59 false 64 (.bool (!(Z0Y f L (S.getD i Z9)))) ?_
  refine wv 65 (.bool (!(Z0Y f L (S.getD i Z9)))) ?_
  apply znt
  refine (Zl (!(Z0Y f L (S.getD i Z9)))).elim (fun b126 => ?_) (fun b126 => ?_)
  ·have g127 := Zy b126
   refine Z1o _ b126 ?_
   apply zsl
   refine wv 6 (.bool false) ?_
   apply znt
   apply ZA
   apply ZP
   apply Zr
   apply Z0l
   apply ZP
   apply Zr
   refine ze1 (.bool false) ?_
   have n129 := Za b105
   have n130 := Za b111
   have n131 := Zy b126
   have e1 : ((i : Int) - 1).toNat = i - 1 := by omega
   have ho : Z2P f L x S i = false := by unfold Z2P Z1Z; rw [← e1]; simp only [b37, b53, n129, n130, n131, Bool.not_true, Bool.not_false, Bool.true_or, Bool.false_or, Bool.or_true, Bool.or_false, Bool.and_true, Bool.true_and, Bool.and_false, Bool.false_and]
   exact ⟨by simp only [Z06, Z0T (show i < S.length by omega) ho, Bool.and_false], H124.upd 0 rfl [] (fun _ h => h.elim)⟩
  have g132 := Za b126
  refine Z18 _ b126 ?_
  apply ZL
  apply Zq
  apply ztn
  apply ZU
  refine zwi 66 ((i : Int) + 1) ?_
  refine wv 26 (.int .i64 ((i : Int) + 1)) ?_
  apply ZQ
  have n134 := Za b105
  have n135 := Za b111
  have n136 := Za b126
  have e1 : ((i : Int) - 1).toNat = i - 1 := by omega
  have ho : Z2P f L x S i = true := by unfold Z2P Z1Z; rw [← e1]; simp only [b37, b53, n134, n135, n136, Bool.not_true, Bool.not_false, Bool.true_or, Bool.false_or, Bool.or_true, Bool.or_false, Bool.and_true, Bool.true_and, Bool.and_false, Bool.false_and]
  have H137 := H124.pk [0, 1, 2]
  refine Zw ?_ _ ⟨(i + 1), rfl, (by omega), (fun j hj => by rcases Nat.lt_or_ge j i with h | h; exact hall j h; rw [show j = i by omega]; exact ho), H137, rfl⟩ (by omega)
  exact zs
 have g138 := of_decide_eq_false b37
 refine Z18 _ b37 ?_
 apply zxb
 apply ztn
 apply zsl
 refine wv 6 (.bool true) ?_
 apply znt
 apply ZA
 refine ze1 (.bool true) ?_
 have hn0 : i = S.length := by omega
 subst hn0
 exact ⟨by simp only [Z06, Z5e hall, n30, n31, Bool.not_true, Bool.not_false, Bool.true_or, Bool.false_or, Bool.or_true, Bool.or_false, Bool.and_true, Bool.true_and, Bool.and_false, Bool.false_and], H34.upd 0 rfl [] (fun _ h => h.elim)⟩
end Go.Proofs.YtoaifondpohniaaGreat
