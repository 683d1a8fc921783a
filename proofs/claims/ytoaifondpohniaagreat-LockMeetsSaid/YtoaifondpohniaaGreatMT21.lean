/- WHAT IS PROVED: contracts and plain laws of Rg1t. Conditions: stated with each. -/
import Derived.Test.YtoaifondpohniaaGreatMT04
import Derived.Test.YtoaifondpohniaaGreatMT12
import Derived.Test.YtoaifondpohniaaGreatMT17
import Derived.Test.YtoaifondpohniaaGreatMT20
set_option maxHeartbeats 4000000
set_option maxRecDepth 100000
namespace Go.Proofs.YtoaifondpohniaaGreat
open Go.RowKit
abbrev Z0v (p0 : Int) (p1 : Int) : List Value := ([(.int .i64 p0), (.int .i64 p1)] : List Value)
abbrev Z2j (p0 : Zk) : List Value := ([(.int .i64 p0.cl), (.int .i64 p0.seq)] : List Value) ++ hc p0.h ++ ([(.int .i64 p0.len), (.int .i64 p0.sb), (.int .i64 p0.sm)] : List Value)
abbrev Z26 (p0 : Ze) : List Value := ([(.int .i64 p0.r), (.int .i64 p0.cl), (.int .i64 p0.seq)] : List Value) ++ hc p0.h ++ ([(.int .u64 p0.t), (.int .i64 p0.sb), (.int .i64 p0.sm)] : List Value)
abbrev Z80 (p0 : Zk) (p1 : Option Addr) (p2 : Nat) (p3 : Nat) : List Value := ([(.int .i64 p0.cl), (.int .i64 p0.seq)] : List Value) ++ hc p0.h ++ ([(.int .i64 p0.len), (.int .i64 p0.sb), (.int .i64 p0.sm), (.slice p1 p2 p3)] : List Value)
abbrev Z9l : List Value := ([(.int .i64 (0)), (.int .i64 (0)), (.int .i64 (0))] : List Value) ++ hc Zt ++ ([(.int .u64 (0)), (.int .i64 (0)), (.int .i64 (0))] : List Value)
abbrev Z7Z (p0 : Ze) : List Value := ([(.int .i64 p0.cl), (.int .i64 p0.seq)] : List Value)
theorem Z42 (w : World) (b mb : Nat) (L : List Signed) (hb : (Z1 b 110 [.map (some mb)]).ok w) (hm : MapAt w mb Z7 (Value.int .i64) (Zh L)) (ta : Option Addr) (tc : Nat) (tx : List UInt8) (ht : ListAt Zw 1 w (.slice ta tx.length tc) tx) (p m : Int) :
  Calls Tryz.prog 49 #[(.pointer (some ⟨b, 0, none⟩)), (.agg ⟨([(.int .i64 (p)), (.int .i64 (m))] : List Value)⟩), (.slice ta tx.length tc)] w fun e w' => e = .returned (.bool (Z1f L p m tx)) ∧ Upd [] w w' := by
 have H := Sat.start0 w
 have hmk : (Z6 (Zh L) (⟨p, tx⟩ : Signed)).getD 0 = Zm L (⟨p, tx⟩ : Signed) := by rw [Z30]; rfl
 refine Zr Tryz.func49 rfl 26 rfl (Nat.le_of_ble_eq_true rfl) ?_
 apply zsl
 refine zwd fun Kq kq => ?_
 refine zdb (Z0v p m) H ?_
 intro b2 w3 H4
 refine kq _ _ ?_
 clear kq Kq
 refine wv 6 (.bool false) ?_
 apply znt
 apply Zb
 refine zqs H4 ?_
 refine qv 8 (pt b 0) ?_
 refine qv 9 (pt b 0) ?_
 refine qv 10 (pt b 0) ?_
 refine qv 11 (.map (some mb)) ?_ (hr := fun _ H' => (Za rfl (by kernel_rfl) (H'.roCell 0 rfl hb (fun h => h) rfl)))
 refine qv 12 (pt b2 0) ?_
 refine qv 13 (.int .i64 (p)) ?_ (hr := fun _ H' => (Za rfl (by kernel_rfl) (H'.cell 1 rfl rfl)))
 refine qv 14 (.slice ta tx.length tc) ?_
 refine qv 15 (Z1L tx) ?_ (hr := fun _ H' => (Z21 (e := 5) (s := tx) (by kernel_rfl) (by kernel_rfl) (by kernel_rfl) rfl (Z1X (ListAt.now H' 0 rfl ht))))
 refine ZT (Z0 rfl) (d := 16) (v := (.agg ⟨([(.int .i64 (p)), (Z1L tx)] : List Value)⟩)) rfl (fun _ H' => (by kernel_rfl)) ?_
 refine qv 17 (.int .i64 ((Z6 (Zh L) (⟨p, tx⟩ : Signed)).getD 0)) ?_ (hr := fun _ H' => (Z2Y (kt := 107) (et := 3) Z3J (by kernel_rfl) (fun w => by kernel_rfl) rfl (⟨p, tx⟩ : Signed) rfl (H'.roMap 0 rfl hm (fun h => h)) (Z9B (Value.int .i64) _ _)))
 refine qv 7 (.int .i64 ((Z6 (Zh L) (⟨p, tx⟩ : Signed)).getD 0)) ?_
 refine Z1Q ?_
 intro w5 H6
 apply ztn
 apply zsl
 refine wv 18 (.int .i64 ((Z6 (Zh L) (⟨p, tx⟩ : Signed)).getD 0)) ?_
 refine wv 19 (.bool (decide (((Z6 (Zh L) (⟨p, tx⟩ : Signed)).getD 0) > 0))) ?_
 refine wv 20 (.bool (decide (((Z6 (Zh L) (⟨p, tx⟩ : Signed)).getD 0) > 0))) ?_
 refine (ZD (decide (((Z6 (Zh L) (⟨p, tx⟩ : Signed)).getD 0) > 0))).elim (fun b7 => ?_) (fun b7 => ?_)
 ·have g8 := of_decide_eq_true b7
  refine ZV 20 (.bool true) (congrArg Value.bool b7) ?_
  refine wy 2 20 true 21 (.int .i64 ((Z6 (Zh L) (⟨p, tx⟩ : Signed)).getD 0)) ?_
  refine wy 2 20 true 22 (pt b2 1) ?_
  refine wy 2 20 true 23 (.int .i64 (m)) ?_ (hr := Za rfl (by kernel_rfl) (H6.cell 1 rfl rfl))
  refine wy 2 20 true 24 (.bool (decide (((Z6 (Zh L) (⟨p, tx⟩ : Signed)).getD 0) = m))) ?_
  refine wv 25 (.bool (decide (((Z6 (Zh L) (⟨p, tx⟩ : Signed)).getD 0) = m))) ?_
  refine wv 6 (.bool (decide (((Z6 (Zh L) (⟨p, tx⟩ : Signed)).getD 0) = m))) ?_
  apply znt
  apply ZY
  refine ze1 (.bool (decide (((Z6 (Zh L) (⟨p, tx⟩ : Signed)).getD 0) = m))) ?_
  exact ⟨by unfold Z1f; rw [← hmk]; simp [b7], H6.upd 0 rfl [] (fun _ h => h.elim)⟩
 have g10 := of_decide_eq_false b7
 refine ZV 20 (.bool false) (congrArg Value.bool b7) ?_
 iterate 4 refine wn 2 20 true ?_
 refine wv 25 (.bool false) ?_
 refine wv 6 (.bool false) ?_
 apply znt
 apply ZY
 refine ze1 (.bool false) ?_
 exact ⟨by unfold Z1f; rw [← hmk]; simp [b7], H6.upd 0 rfl [] (fun _ h => h.elim)⟩
theorem Z7h (w : World) (f cn : Int) (x : Zk) :
  Calls Tryz.prog 110 #[(.agg ⟨([(.int .i64 (f)), (.int .i64 (cn))] : List Value)⟩), (.agg ⟨(([(.int .i64 (x.cl)), (.int .i64 (x.seq))] : List Value) ++ hc x.h ++ ([(.int .i64 (x.len)), (.int .i64 (x.sb)), (.int .i64 (x.sm))] : List Value))⟩)] w fun e w' => e = .returned (.bool (Z1B cn x)) ∧ Upd [] w w' := by
 have H := Sat.start0 w
 refine Zr Tryz.func110 rfl 38 rfl (Nat.le_of_ble_eq_true rfl) ?_
 apply zsl
 refine zwd fun Kq kq => ?_
 refine zdb (Z0v f cn) H ?_
 intro b2 w3 H4
 refine kq _ _ ?_
 clear kq Kq
 refine zwd fun Kq kq => ?_
 refine zdb (Z2j x) H4 ?_
 intro b6 w7 H8
 refine kq _ _ ?_
 clear kq Kq
 refine wv 4 (.bool false) ?_
 apply Z4Q
 refine wv 6 (pt b6 0) ?_
 refine zwN 7 (Z0v x.cl x.seq) (H8.at 2 rfl) ?_
 refine zwd fun Kq kq => ?_
 refine zda ([(.int .i64 (0)), (.int .i64 (0))] : List Value) H8 ?_
 intro b10 w11 H12
 refine kq _ _ ?_
 clear kq Kq
 refine zwd fun Kq kq => ?_
 refine Z2N (Z0v x.cl x.seq) H12 3 ?_
 intro w14 H15
 refine kq _ _ ?_
 clear kq Kq
 apply znt
 refine Z1j ([4] ++ List.range' 8 30) (fun G_ W_ => G_ 4 = (.bool (Z1B cn x)) ∧ Sat w [Z5 w (fun _ => False), Z1 b2 36 (Z0v f cn), Z1 b6 50 (Z2j x), Z1 b10 24 (Z0v x.cl x.seq)] W_) ?_ ?_
 ·apply Zl
  refine wv 8 (pt b10 0) ?_
  refine zw1 9 (.int .i64 (x.cl)) (H15.cell 3 rfl rfl) ?_
  refine wv 10 (.bool (decide (x.cl ≥ 0))) ?_
  refine wv 11 (.bool (decide (x.cl ≥ 0))) ?_
  refine (ZD (decide (x.cl ≥ 0))).elim (fun b18 => ?_) (fun b18 => ?_)
  ·have g19 := of_decide_eq_true b18
   refine ZV 11 (.bool true) (congrArg Value.bool b18) ?_
   refine wy 3 11 true 12 (pt b10 0) ?_
   refine wy 3 11 true 13 (.int .i64 (x.cl)) ?_ (hr := Za rfl (by kernel_rfl) (H15.cell 3 rfl rfl))
   refine wy 3 11 true 14 (pt b2 1) ?_
   refine wy 3 11 true 15 (.int .i64 (cn)) ?_ (hr := Za rfl (by kernel_rfl) (H15.cell 1 rfl rfl))
   refine wy 3 11 true 16 (.bool (decide (x.cl < cn))) ?_
   refine wv 17 (.bool (decide (x.cl < cn))) ?_
   refine wv 18 (.bool (decide (x.cl < cn))) ?_
   refine (ZD (decide (x.cl < cn))).elim (fun b20 => ?_) (fun b20 => ?_)
   ·have g21 := of_decide_eq_true b20
    refine ZV 18 (.bool true) (congrArg Value.bool b20) ?_
    refine wy 10 18 true 19 (pt b10 1) ?_
    refine wy 10 18 true 20 (.int .i64 (x.seq)) ?_ (hr := Za rfl (by kernel_rfl) (H15.cell 3 rfl rfl))
    refine wy 10 18 true 21 (.bool (decide (x.seq ≥ 1))) ?_
    refine wv 22 (.bool (decide (x.seq ≥ 1))) ?_
    refine wv 23 (.bool (decide (x.seq ≥ 1))) ?_
    refine (ZD (decide (x.seq ≥ 1))).elim (fun b22 => ?_) (fun b22 => ?_)
    ·have g23 := of_decide_eq_true b22
     refine ZV 23 (.bool true) (congrArg Value.bool b22) ?_
     refine wy 15 23 true 24 (pt b10 1) ?_
     refine wy 15 23 true 25 (.int .i64 (x.seq)) ?_ (hr := Za rfl (by kernel_rfl) (H15.cell 3 rfl rfl))
     refine wy 15 23 true 26 (.bool (decide (x.seq ≤ 1048576))) ?_
     refine wv 27 (.bool (decide (x.seq ≤ 1048576))) ?_
     refine wv 28 (.bool (decide (x.seq ≤ 1048576))) ?_
     refine (ZD (decide (x.seq ≤ 1048576))).elim (fun b24 => ?_) (fun b24 => ?_)
     ·have g25 := of_decide_eq_true b24
      refine ZV 28 (.bool true) (congrArg Value.bool b24) ?_
      refine wy 20 28 true 29 (pt b6 34) ?_
      refine wy 20 28 true 30 (.int .i64 (x.len)) ?_ (hr := Za rfl (by kernel_rfl) (H15.cell 2 rfl (by kernel_rfl)))
      refine wy 20 28 true 31 (.bool (decide (x.len ≥ 0))) ?_
      refine wv 32 (.bool (decide (x.len ≥ 0))) ?_
      refine wv 33 (.bool (decide (x.len ≥ 0))) ?_
      refine (ZD (decide (x.len ≥ 0))).elim (fun b26 => ?_) (fun b26 => ?_)
      ·have g27 := of_decide_eq_true b26
       refine ZV 33 (.bool true) (congrArg Value.bool b26) ?_
       refine wy 25 33 true 34 (pt b6 34) ?_
       refine wy 25 33 true 35 (.int .i64 (x.len)) ?_ (hr := Za rfl (by kernel_rfl) (H15.cell 2 rfl (by kernel_rfl)))
       refine wy 25 33 true 36 (.bool (decide (x.len ≤ 256))) ?_
       refine wv 37 (.bool (decide (x.len ≤ 256))) ?_
       refine wv 4 (.bool (decide (x.len ≤ 256))) ?_
       apply Zi
       refine Z02 ?_ ⟨(congrArg Value.bool (show (decide (x.len ≤ 256)) = (Z1B cn x) by simp [Z1B, b18, b20, b22, b24, b26])), H15⟩
       exact zs
      have g28 := of_decide_eq_false b26
      refine ZV 33 (.bool false) (congrArg Value.bool b26) ?_
      iterate 3 refine wn 25 33 true ?_
      refine wv 37 (.bool false) ?_
      refine wv 4 (.bool false) ?_
      apply Zi
      refine Z02 ?_ ⟨(congrArg Value.bool (show false = (Z1B cn x) by simp [Z1B, b18, b20, b22, b24, b26])), H15⟩
      exact zs
     have g29 := of_decide_eq_false b24
     refine ZV 28 (.bool false) (congrArg Value.bool b24) ?_
     iterate 3 refine wn 20 28 true ?_
     refine wv 32 (.bool false) ?_
     refine wv 33 (.bool false) ?_
     iterate 3 refine wn 25 33 true ?_
     refine wv 37 (.bool false) ?_
     refine wv 4 (.bool false) ?_
     apply Zi
     refine Z02 ?_ ⟨(congrArg Value.bool (show false = (Z1B cn x) by simp [Z1B, b18, b20, b22, b24])), H15⟩
     exact zs
    have g30 := of_decide_eq_false b22
    refine ZV 23 (.bool false) (congrArg Value.bool b22) ?_
    iterate 3 refine wn 15 23 true ?_
    refine wv 27 (.bool false) ?_
    refine wv 28 (.bool false) ?_
    iterate 3 refine wn 20 28 true ?_
    refine wv 32 (.bool false) ?_
    refine wv 33 (.bool false) ?_
    iterate 3 refine wn 25 33 true ?_
    refine wv 37 (.bool false) ?_
    refine wv 4 (.bool false) ?_
    apply Zi
    refine Z02 ?_ ⟨(congrArg Value.bool (show false = (Z1B cn x) by simp [Z1B, b18, b20, b22])), H15⟩
    exact zs
   have g31 := of_decide_eq_false b20
   refine ZV 18 (.bool false) (congrArg Value.bool b20) ?_
   iterate 3 refine wn 10 18 true ?_
   refine wv 22 (.bool false) ?_
   refine wv 23 (.bool false) ?_
   iterate 3 refine wn 15 23 true ?_
   refine wv 27 (.bool false) ?_
   refine wv 28 (.bool false) ?_
   iterate 3 refine wn 20 28 true ?_
   refine wv 32 (.bool false) ?_
   refine wv 33 (.bool false) ?_
   iterate 3 refine wn 25 33 true ?_
   refine wv 37 (.bool false) ?_
   refine wv 4 (.bool false) ?_
   apply Zi
   refine Z02 ?_ ⟨(congrArg Value.bool (show false = (Z1B cn x) by simp [Z1B, b18, b20])), H15⟩
   exact zs
  have g32 := of_decide_eq_false b18
  refine ZV 11 (.bool false) (congrArg Value.bool b18) ?_
  iterate 5 refine wn 3 11 true ?_
  refine wv 17 (.bool false) ?_
  refine wv 18 (.bool false) ?_
  iterate 3 refine wn 10 18 true ?_
  refine wv 22 (.bool false) ?_
  refine wv 23 (.bool false) ?_
  iterate 3 refine wn 15 23 true ?_
  refine wv 27 (.bool false) ?_
  refine wv 28 (.bool false) ?_
  iterate 3 refine wn 20 28 true ?_
  refine wv 32 (.bool false) ?_
  refine wv 33 (.bool false) ?_
  iterate 3 refine wn 25 33 true ?_
  refine wv 37 (.bool false) ?_
  refine wv 4 (.bool false) ?_
  apply Zi
  refine Z02 ?_ ⟨(congrArg Value.bool (show false = (Z1B cn x) by simp [Z1B, b18])), H15⟩
  exact zs
 rintro f33 w34 ⟨v36, H35⟩
 refine Zj 4 _ v36 ?_
 apply ZY
 refine ze1 (.bool (Z1B cn x)) ?_
 exact ⟨rfl, H35.upd 0 rfl [] (fun _ h => h.elim)⟩
theorem Z6t (w : World) (c : Int) :
  Calls Tryz.prog 111 #[(.int .i64 (c))] w fun e w' => e = .returned (.int .i64 (IntKind.i64.wrap (1000 + c))) ∧ Upd [] w w' := by
 have H := Sat.start0 w
 refine Zr Tryz.func111 rfl 5 rfl (Nat.le_of_ble_eq_true rfl) ?_
 apply zsl
 refine wv 2 (.int .i64 (0)) ?_
 apply Z4Q
 refine wv 3 (.int .i64 (c)) ?_
 refine wv 4 (.int .i64 (IntKind.i64.wrap (1000 + c))) ?_
 refine wv 2 (.int .i64 (IntKind.i64.wrap (1000 + c))) ?_
 apply znt
 apply ZY
 refine ze1 (.int .i64 (IntKind.i64.wrap (1000 + c))) ?_
 exact ⟨rfl, H.upd 0 rfl [] (fun _ h => h.elim)⟩
theorem Z6v (w : World) (f cn : Int) (hf : -1099511627776 ≤ f ∧ f ≤ 1099511627776) (b mb : Nat) (L : List Signed) (hb : (Z1 b 110 [.map (some mb)]).ok w) (hm : MapAt w mb Z7 (Value.int .i64) (Zh L)) (s : Zk) (hs : CoOk s) :
  Calls Tryz.prog 89 #[(.agg ⟨([(.int .i64 (f)), (.int .i64 (cn))] : List Value)⟩), (.pointer (some ⟨b, 0, none⟩)), (.agg ⟨(([(.int .i64 (s.cl)), (.int .i64 (s.seq))] : List Value) ++ hc s.h ++ ([(.int .i64 (s.len)), (.int .i64 (s.sb)), (.int .i64 (s.sm))] : List Value))⟩)] w fun e w' => e = .returned (.bool (Z2h cn L s)) ∧ Upd [] w w' := by
 have H := Sat.start0 w
 have hs2 := hs
 unfold CoOk at hs2
 refine Zr Tryz.func89 rfl 28 rfl (Nat.le_of_ble_eq_true rfl) ?_
 apply zsl
 refine zwd fun Kq kq => ?_
 refine zdb (Z0v f cn) H ?_
 intro b2 w3 H4
 refine kq _ _ ?_
 clear kq Kq
 refine zwd fun Kq kq => ?_
 refine zdb (Z2j s) H4 ?_
 intro b6 w7 H8
 refine kq _ _ ?_
 clear kq Kq
 refine wv 6 (.bool false) ?_
 apply znt
 apply Zb
 refine Z0f H8 [Z5 w (fun _ => False), Z1 b2 36 (Z0v f cn), Z1 b6 50 (Z2j s)] 22 rfl (by kernel_rfl) (fun Hx => (Hx.pk [0, 1, 2])) ?_
 intro w9 H10 S11
 refine hv0 0 S11 7 (.agg ⟨(Z0v f cn)⟩) ?_ (he := fun _ H' => (Zs (vs := (Z0v f cn)) rfl (by kernel_rfl) (by kernel_rfl) (by exact Nat.le_of_ble_eq_true (by kernel_rfl)) (H'.at 1 rfl) (by kernel_rfl)))
 refine hv0 1 S11 8 (.agg ⟨(Z2j s)⟩) ?_ (he := fun _ H' => (Zs (vs := (Z2j s)) rfl (by kernel_rfl) (by kernel_rfl) (by exact Nat.le_of_ble_eq_true (by kernel_rfl)) (H'.at 2 rfl) (by kernel_rfl)))
 refine Z0R 2 fun Kq kq => ?_
 refine zdq 9 (Z7h w9 f cn s) H10 ?_
 intro w13 H14
 have S16 := H14.pk [0, 1, 2]
 refine kq _ _ S16 ?_
 clear kq Kq
 refine hv0 3 S16 10 (.bool (Z1B cn s)) ?_
 refine (ZD (Z1B cn s)).elim (fun b17 => ?_) (fun b17 => ?_)
 ·refine Z2A 10 (.bool true) (congrArg Value.bool b17) ?_
  refine Z3O 4 S16 3 10 true 11 (pt b6 35) ?_
  refine Z3O 5 S16 3 10 true 12 (pt b6 35) ?_
  refine Z3O 6 S16 3 10 true 13 (.int .i64 (s.sb)) ?_ (he := fun _ H' => (Za rfl (by kernel_rfl) (H'.cell 2 rfl (by kernel_rfl))))
  refine Z3O 7 S16 3 10 true 14 (pt b6 0) ?_
  refine Z3O 8 S16 3 10 true 15 (pt b6 0) ?_
  refine Z3O 9 S16 3 10 true 16 (.int .i64 (s.cl)) ?_ (he := fun _ H' => (Za rfl (by kernel_rfl) (H'.cell 2 rfl (by kernel_rfl))))
  refine Z1l 10 rfl (by kernel_rfl) (Zu 3 10 true rfl (by kernel_rfl) rfl (by kernel_rfl)) (fun Kq kq => ?_)
  refine zdq 17 (Z6t w13 s.cl) H14 ?_
  intro w19 H20
  have S22 := H20.pk [0, 1, 2]
  refine kq _ _ S22 ?_
  clear kq Kq
  refine Z3O 11 S22 3 10 true 18 (.bool (decide (s.sb = (IntKind.i64.wrap (1000 + s.cl))))) ?_
  refine hv0 12 S22 19 (.bool (decide (s.sb = (IntKind.i64.wrap (1000 + s.cl))))) ?_
  refine hv0 13 S22 20 (.bool (decide (s.sb = (IntKind.i64.wrap (1000 + s.cl))))) ?_
  refine (ZD (decide (s.sb = (IntKind.i64.wrap (1000 + s.cl))))).elim (fun b23 => ?_) (fun b23 => ?_)
  ·have g24 := of_decide_eq_true b23
   refine Z2A 20 (.bool true) (congrArg Value.bool b23) ?_
   refine Z3O 14 S22 13 20 true 21 (pt b 0) ?_
   refine Z3O 15 S22 13 20 true 22 (pt b6 35) ?_
   refine Z3O 16 S22 13 20 true 23 (.agg ⟨(Z0v s.sb s.sm)⟩) ?_ (he := fun _ H' => (Zs (vs := (Z0v s.sb s.sm)) rfl (by kernel_rfl) (by kernel_rfl) (by exact Nat.le_of_ble_eq_true (by kernel_rfl)) (H'.at 2 rfl) (by kernel_rfl)))
   refine Z3O 17 S22 13 20 true 24 (.agg ⟨(Z2j s)⟩) ?_ (he := fun _ H' => (Zs (vs := (Z2j s)) rfl (by kernel_rfl) (by kernel_rfl) (by exact Nat.le_of_ble_eq_true (by kernel_rfl)) (H'.at 2 rfl) (by kernel_rfl)))
   refine Z1l 18 rfl (by kernel_rfl) (Zu 13 20 true rfl (by kernel_rfl) rfl (by kernel_rfl)) (fun Kq kq => ?_)
   refine zdc 25 (Z4e w19 s hs) ?_
   rintro _ w27 ⟨u28, rfl, k29, p30, q31⟩
   have H32 := H20.addU p30 k29 q31
   obtain ⟨a33, c34, rfl⟩ := Z9 (H32.at 3 rfl)
   refine ⟨_, rfl, ?_⟩
   have S35 := H32.pk [0, 1, 2]
   refine kq _ _ S35 ?_
   clear kq Kq
   refine Z1l 19 rfl (by kernel_rfl) (Zu 13 20 true rfl (by kernel_rfl) rfl (by kernel_rfl)) (fun Kq kq => ?_)
   refine zdq 26 (Z42 w27 b mb L (H32.roCk 0 rfl hb (fun _ _ h => h)) (H32.roMap 0 rfl hm (fun h => h)) a33 c34 (Zq s) (ListAt.row (enc := Zw) (sz := 1) Z06 (by decide) (H32.at 3 rfl)) s.sb s.sm) H32 ?_
   intro w37 H38
   have S40 := H38.pk [0, 1, 2]
   refine kq _ _ S40 ?_
   clear kq Kq
   refine hv0 20 S40 27 (.bool (Z1f L s.sb s.sm (Zq s))) ?_
   refine hv0 21 S40 6 (.bool (Z1f L s.sb s.sm (Zq s))) ?_
   refine zhf ?_
   apply ztn
   apply ZY
   refine ze1 (.bool (Z1f L s.sb s.sm (Zq s))) ?_
   exact ⟨by simp [Z2h, b17, b23], H38.upd 0 rfl [] (fun _ h => h.elim)⟩
  have g41 := of_decide_eq_false b23
  refine Z2A 20 (.bool false) (congrArg Value.bool b23) ?_
  refine Z1a 14 S22 13 20 true ?_
  refine Z1a 15 S22 13 20 true ?_
  refine Z1a 16 S22 13 20 true ?_
  refine Z1a 17 S22 13 20 true ?_
  refine Z1a 18 S22 13 20 true ?_
  refine Z1a 19 S22 13 20 true ?_
  refine hv0 20 S22 27 (.bool false) ?_
  refine hv0 21 S22 6 (.bool false) ?_
  refine zhf ?_
  apply ztn
  apply ZY
  refine ze1 (.bool false) ?_
  exact ⟨by simp [Z2h, b17, b23], H20.upd 0 rfl [] (fun _ h => h.elim)⟩
 refine Z2A 10 (.bool false) (congrArg Value.bool b17) ?_
 refine Z1a 4 S16 3 10 true ?_
 refine Z1a 5 S16 3 10 true ?_
 refine Z1a 6 S16 3 10 true ?_
 refine Z1a 7 S16 3 10 true ?_
 refine Z1a 8 S16 3 10 true ?_
 refine Z1a 9 S16 3 10 true ?_
 refine Z1a 10 S16 3 10 true ?_
 refine Z1a 11 S16 3 10 true ?_
 refine hv0 12 S16 19 (.bool false) ?_
 refine hv0 13 S16 20 (.bool false) ?_
 refine Z1a 14 S16 13 20 true ?_
 refine Z1a 15 S16 13 20 true ?_
 refine Z1a 16 S16 13 20 true ?_
 refine Z1a 17 S16 13 20 true ?_
 refine Z1a 18 S16 13 20 true ?_
 refine Z1a 19 S16 13 20 true ?_
 refine hv0 20 S16 27 (.bool false) ?_
 refine hv0 21 S16 6 (.bool false) ?_
 refine zhf ?_
 apply ztn
 apply ZY
 refine ze1 (.bool false) ?_
 exact ⟨by simp [Z2h, b17], H14.upd 0 rfl [] (fun _ h => h.elim)⟩
theorem Z4g (w : World) (f cn : Int) (hf : -1099511627776 ≤ f ∧ f ≤ 1099511627776) (b mb : Nat) (L : List Signed) (hb : (Z1 b 110 [.map (some mb)]).ok w) (hm : MapAt w mb Z7 (Value.int .i64) (Zh L)) (s : Ze) (hs : StOk s) :
  Calls Tryz.prog 91 #[(.agg ⟨([(.int .i64 (f)), (.int .i64 (cn))] : List Value)⟩), (.pointer (some ⟨b, 0, none⟩)), (.agg ⟨(([(.int .i64 (s.r)), (.int .i64 (s.cl)), (.int .i64 (s.seq))] : List Value) ++ hc s.h ++ ([(.int .u64 (s.t)), (.int .i64 (s.sb)), (.int .i64 (s.sm))] : List Value))⟩)] w fun e w' => e = .returned (.bool (Z1M f L s)) ∧ Upd [] w w' := by
 have H := Sat.start0 w
 have hs2 := hs
 unfold StOk at hs2
 refine Zr Tryz.func91 rfl 37 rfl (Nat.le_of_ble_eq_true rfl) ?_
 apply zsl
 refine zwd fun Kq kq => ?_
 refine zdb (Z0v f cn) H ?_
 intro b2 w3 H4
 refine kq _ _ ?_
 clear kq Kq
 refine zwd fun Kq kq => ?_
 refine zdb (Z26 s) H4 ?_
 intro b6 w7 H8
 refine kq _ _ ?_
 clear kq Kq
 refine wv 6 (.bool false) ?_
 apply znt
 apply Zb
 refine Z0f H8 [Z5 w (fun _ => False), Z1 b2 36 (Z0v f cn), Z1 b6 101 (Z26 s)] 31 rfl (by kernel_rfl) (fun Hx => (Hx.pk [0, 1, 2])) ?_
 intro w9 H10 S11
 refine hv0 0 S11 7 (.agg ⟨(Z0v f cn)⟩) ?_ (he := fun _ H' => (Zs (vs := (Z0v f cn)) rfl (by kernel_rfl) (by kernel_rfl) (by exact Nat.le_of_ble_eq_true (by kernel_rfl)) (H'.at 1 rfl) (by kernel_rfl)))
 refine hv0 1 S11 8 (pt b6 0) ?_
 refine hv0 2 S11 9 (.int .i64 (s.r)) ?_ (he := fun _ H' => (Za rfl (by kernel_rfl) (H'.cell 2 rfl (by kernel_rfl))))
 refine Z0R 3 fun Kq kq => ?_
 refine zdq 10 (Z6u w9 f cn s.r (by omega)) H10 ?_
 intro w13 H14
 have S16 := H14.pk [0, 1, 2]
 refine kq _ _ S16 ?_
 clear kq Kq
 refine hv0 4 S16 11 (.bool (inB f s.r)) ?_
 refine (ZD (inB f s.r)).elim (fun b17 => ?_) (fun b17 => ?_)
 ·refine Z2A 11 (.bool true) (congrArg Value.bool b17) ?_
  refine Z3O 5 S16 4 11 true 12 (pt b6 35) ?_
  refine Z3O 6 S16 4 11 true 13 (.int .u64 (s.t)) ?_ (he := fun _ H' => (Za rfl (by kernel_rfl) (H'.cell 2 rfl (by kernel_rfl))))
  refine Z3O 7 S16 4 11 true 14 (.bool (decide (s.t ≥ 1))) ?_
  refine hv0 8 S16 15 (.bool (decide (s.t ≥ 1))) ?_
  refine hv0 9 S16 16 (.bool (decide (s.t ≥ 1))) ?_
  refine (ZD (decide (s.t ≥ 1))).elim (fun b18 => ?_) (fun b18 => ?_)
  ·have g19 := of_decide_eq_true b18
   refine Z2A 16 (.bool true) (congrArg Value.bool b18) ?_
   refine Z3O 10 S16 9 16 true 17 (pt b6 35) ?_
   refine Z3O 11 S16 9 16 true 18 (.int .u64 (s.t)) ?_ (he := fun _ H' => (Za rfl (by kernel_rfl) (H'.cell 2 rfl (by kernel_rfl))))
   refine Z3O 12 S16 9 16 true 19 (.bool (decide (s.t < 18446744073709551615))) ?_
   refine hv0 13 S16 20 (.bool (decide (s.t < 18446744073709551615))) ?_
   refine hv0 14 S16 21 (.bool (decide (s.t < 18446744073709551615))) ?_
   refine (ZD (decide (s.t < 18446744073709551615))).elim (fun b21 => ?_) (fun b21 => ?_)
   ·have g22 := of_decide_eq_true b21
    refine Z2A 21 (.bool true) (congrArg Value.bool b21) ?_
    refine Z3O 15 S16 14 21 true 22 (pt b6 36) ?_
    refine Z3O 16 S16 14 21 true 23 (pt b6 36) ?_
    refine Z3O 17 S16 14 21 true 24 (.int .i64 (s.sb)) ?_ (he := fun _ H' => (Za rfl (by kernel_rfl) (H'.cell 2 rfl (by kernel_rfl))))
    refine Z3O 18 S16 14 21 true 25 (pt b6 0) ?_
    refine Z3O 19 S16 14 21 true 26 (.int .i64 (s.r)) ?_ (he := fun _ H' => (Za rfl (by kernel_rfl) (H'.cell 2 rfl (by kernel_rfl))))
    refine Z3O 20 S16 14 21 true 27 (.bool (decide (s.sb = s.r))) ?_
    refine hv0 21 S16 28 (.bool (decide (s.sb = s.r))) ?_
    refine hv0 22 S16 29 (.bool (decide (s.sb = s.r))) ?_
    refine (ZD (decide (s.sb = s.r))).elim (fun b24 => ?_) (fun b24 => ?_)
    ·have g24 := of_decide_eq_true b24
     refine Z2A 29 (.bool true) (congrArg Value.bool b24) ?_
     refine Z3O 23 S16 22 29 true 30 (pt b 0) ?_
     refine Z3O 24 S16 22 29 true 31 (pt b6 36) ?_
     refine Z3O 25 S16 22 29 true 32 (.agg ⟨(Z0v s.sb s.sm)⟩) ?_ (he := fun _ H' => (Zs (vs := (Z0v s.sb s.sm)) rfl (by kernel_rfl) (by kernel_rfl) (by exact Nat.le_of_ble_eq_true (by kernel_rfl)) (H'.at 2 rfl) (by kernel_rfl)))
     refine Z3O 26 S16 22 29 true 33 (.agg ⟨(Z26 s)⟩) ?_ (he := fun _ H' => (Zs (vs := (Z26 s)) rfl (by kernel_rfl) (by kernel_rfl) (by exact Nat.le_of_ble_eq_true (by kernel_rfl)) (H'.at 2 rfl) (by kernel_rfl)))
     refine Z1l 27 rfl (by kernel_rfl) (Zu 22 29 true rfl (by kernel_rfl) rfl (by kernel_rfl)) (fun Kq kq => ?_)
     refine zdc 34 (Z4M w13 s hs) ?_
     rintro _ w28 ⟨u29, rfl, k30, p31, q32⟩
     have H33 := H14.addU p31 k30 q32
     obtain ⟨a34, c35, rfl⟩ := Z9 (H33.at 3 rfl)
     refine ⟨_, rfl, ?_⟩
     have S36 := H33.pk [0, 1, 2]
     refine kq _ _ S36 ?_
     clear kq Kq
     refine Z1l 28 rfl (by kernel_rfl) (Zu 22 29 true rfl (by kernel_rfl) rfl (by kernel_rfl)) (fun Kq kq => ?_)
     refine zdq 35 (Z42 w28 b mb L (H33.roCk 0 rfl hb (fun _ _ h => h)) (H33.roMap 0 rfl hm (fun h => h)) a34 c35 (Zx s) (ListAt.row (enc := Zw) (sz := 1) Z06 (by decide) (H33.at 3 rfl)) s.sb s.sm) H33 ?_
     intro w38 H39
     have S41 := H39.pk [0, 1, 2]
     refine kq _ _ S41 ?_
     clear kq Kq
     refine hv0 29 S41 36 (.bool (Z1f L s.sb s.sm (Zx s))) ?_
     refine hv0 30 S41 6 (.bool (Z1f L s.sb s.sm (Zx s))) ?_
     refine zhf ?_
     apply ztn
     apply ZY
     refine ze1 (.bool (Z1f L s.sb s.sm (Zx s))) ?_
     exact ⟨by simp [Z1M, b17, b18, b21, b24], H39.upd 0 rfl [] (fun _ h => h.elim)⟩
    have g41 := of_decide_eq_false b24
    refine Z2A 29 (.bool false) (congrArg Value.bool b24) ?_
    refine Z1a 23 S16 22 29 true ?_
    refine Z1a 24 S16 22 29 true ?_
    refine Z1a 25 S16 22 29 true ?_
    refine Z1a 26 S16 22 29 true ?_
    refine Z1a 27 S16 22 29 true ?_
    refine Z1a 28 S16 22 29 true ?_
    refine hv0 29 S16 36 (.bool false) ?_
    refine hv0 30 S16 6 (.bool false) ?_
    refine zhf ?_
    apply ztn
    apply ZY
    refine ze1 (.bool false) ?_
    exact ⟨by simp [Z1M, b17, b18, b21, b24], H14.upd 0 rfl [] (fun _ h => h.elim)⟩
   have g44 := of_decide_eq_false b21
   refine Z2A 21 (.bool false) (congrArg Value.bool b21) ?_
   refine Z1a 15 S16 14 21 true ?_
   refine Z1a 16 S16 14 21 true ?_
   refine Z1a 17 S16 14 21 true ?_
   refine Z1a 18 S16 14 21 true ?_
   refine Z1a 19 S16 14 21 true ?_
   refine Z1a 20 S16 14 21 true ?_
   refine hv0 21 S16 28 (.bool false) ?_
   refine hv0 22 S16 29 (.bool false) ?_
   refine Z1a 23 S16 22 29 true ?_
   refine Z1a 24 S16 22 29 true ?_
   refine Z1a 25 S16 22 29 true ?_
   refine Z1a 26 S16 22 29 true ?_
   refine Z1a 27 S16 22 29 true ?_
   refine Z1a 28 S16 22 29 true ?_
   refine hv0 29 S16 36 (.bool false) ?_
   refine hv0 30 S16 6 (.bool false) ?_
   refine zhf ?_
   apply ztn
   apply ZY
   refine ze1 (.bool false) ?_
   exact ⟨by simp [Z1M, b17, b18, b21], H14.upd 0 rfl [] (fun _ h => h.elim)⟩
  have g46 := of_decide_eq_false b18
  refine Z2A 16 (.bool false) (congrArg Value.bool b18) ?_
  refine Z1a 10 S16 9 16 true ?_
  refine Z1a 11 S16 9 16 true ?_
  refine Z1a 12 S16 9 16 true ?_
  refine hv0 13 S16 20 (.bool false) ?_
  refine hv0 14 S16 21 (.bool false) ?_
  refine Z1a 15 S16 14 21 true ?_
  refine Z1a 16 S16 14 21 true ?_
  refine Z1a 17 S16 14 21 true ?_
  refine Z1a 18 S16 14 21 true ?_
  refine Z1a 19 S16 14 21 true ?_
  refine Z1a 20 S16 14 21 true ?_
  refine hv0 21 S16 28 (.bool false) ?_
  refine hv0 22 S16 29 (.bool false) ?_
  refine Z1a 23 S16 22 29 true ?_
  refine Z1a 24 S16 22 29 true ?_
  refine Z1a 25 S16 22 29 true ?_
  refine Z1a 26 S16 22 29 true ?_
  refine Z1a 27 S16 22 29 true ?_
  refine Z1a 28 S16 22 29 true ?_
  refine hv0 29 S16 36 (.bool false) ?_
  refine hv0 30 S16 6 (.bool false) ?_
  refine zhf ?_
  apply ztn
  apply ZY
  refine ze1 (.bool false) ?_
  exact ⟨by simp [Z1M, b17, b18], H14.upd 0 rfl [] (fun _ h => h.elim)⟩
 refine Z2A 11 (.bool false) (congrArg Value.bool b17) ?_
 refine Z1a 5 S16 4 11 true ?_
 refine Z1a 6 S16 4 11 true ?_
 refine Z1a 7 S16 4 11 true ?_
 refine hv0 8 S16 15 (.bool false) ?_
 refine hv0 9 S16 16 (.bool false) ?_
 refine Z1a 10 S16 9 16 true ?_
 refine Z1a 11 S16 9 16 true ?_
 refine Z1a 12 S16 9 16 true ?_
 refine hv0 13 S16 20 (.bool false) ?_
 refine hv0 14 S16 21 (.bool false) ?_
 refine Z1a 15 S16 14 21 true ?_
 refine Z1a 16 S16 14 21 true ?_
 refine Z1a 17 S16 14 21 true ?_
 refine Z1a 18 S16 14 21 true ?_
 refine Z1a 19 S16 14 21 true ?_
 refine Z1a 20 S16 14 21 true ?_
 refine hv0 21 S16 28 (.bool false) ?_
 refine hv0 22 S16 29 (.bool false) ?_
 refine Z1a 23 S16 22 29 true ?_
 refine Z1a 24 S16 22 29 true ?_
 refine Z1a 25 S16 22 29 true ?_
 refine Z1a 26 S16 22 29 true ?_
 refine Z1a 27 S16 22 29 true ?_
 refine Z1a 28 S16 22 29 true ?_
 refine hv0 29 S16 36 (.bool false) ?_
 refine hv0 30 S16 6 (.bool false) ?_
 refine zhf ?_
 apply ztn
 apply ZY
 refine ze1 (.bool false) ?_
 exact ⟨by simp [Z1M, b17], H14.upd 0 rfl [] (fun _ h => h.elim)⟩
theorem Z37 (w : World) (f cn : Int) (hf : -1099511627776 ≤ f ∧ f ≤ 1099511627776) (b mb : Nat) (L : List Signed) (hb : (Z1 b 110 [.map (some mb)]).ok w) (hm : MapAt w mb Z7 (Value.int .i64) (Zh L)) (x : Zk) (hx : CoOk x) (sa : Option Addr) (sc : Nat) (S : List Ze) (hS : ListAt Z0o 38 w (.slice sa S.length sc) S) (hok : Z9w S) (hlS : S.length ≤ 1000000) :
  Calls Tryz.prog 54 #[(.agg ⟨([(.int .i64 (f)), (.int .i64 (cn))] : List Value)⟩), (.pointer (some ⟨b, 0, none⟩)), (.agg ⟨(([(.int .i64 (x.cl)), (.int .i64 (x.seq))] : List Value) ++ hc x.h ++ ([(.int .i64 (x.len)), (.int .i64 (x.sb)), (.int .i64 (x.sm)), (.slice sa S.length sc)] : List Value))⟩)] w fun e w' => e = .returned (.bool (Z08 f cn L x S)) ∧ Upd [] w w' := by
 have H := Sat.start0 w
 refine Zr Tryz.func54 rfl 67 rfl (Nat.le_of_ble_eq_true rfl) ?_
 apply zsl
 refine zwd fun Kq kq => ?_
 refine zdb (Z0v f cn) H ?_
 intro b2 w3 H4
 refine kq _ _ ?_
 clear kq Kq
 refine zwd fun Kq kq => ?_
 refine zdb (Z80 x sa S.length sc) H4 ?_
 intro b6 w7 H8
 refine kq _ _ ?_
 clear kq Kq
 refine wv 6 (.bool false) ?_
 apply znt
 apply Zb
 apply Zb
 refine zqs H8 ?_
 refine qv 9 (.agg ⟨(Z0v f cn)⟩) ?_ (hr := fun _ H' => (Zs (vs := (Z0v f cn)) rfl (by kernel_rfl) (by kernel_rfl) (by exact Nat.le_of_ble_eq_true (by kernel_rfl)) (H'.at 1 rfl) (by kernel_rfl)))
 refine qv 10 (pt b 0) ?_
 refine qv 11 (pt b6 0) ?_
 refine qv 12 (.agg ⟨(Z2j x)⟩) ?_ (hr := fun _ H' => (Zs (vs := (Z2j x)) rfl (by kernel_rfl) (by kernel_rfl) (by exact Nat.le_of_ble_eq_true (by kernel_rfl)) (H'.at 2 rfl) (by kernel_rfl)))
 refine Z1E (Z0 rfl) (d := 13) (v := (.bool (Z2h cn L x))) rfl (fun _ _ => by kernel_rfl) (fun w' H' => (Z6v w' f cn (by omega) b mb L (H'.roCk 0 rfl hb (fun _ _ h => h)) (H'.roMap 0 rfl hm (fun h => h)) x hx).mono fun _ _ h => ⟨h.1, H'.keepU h.2⟩) ?_
 refine qv 14 (.bool (!(Z2h cn L x))) ?_
 refine qv 15 (.bool (!(Z2h cn L x))) ?_
 refine (ZD (!(Z2h cn L x))).elim (fun b9 => ?_) (fun b9 => ?_)
 ·have g10 := ZW b9
  refine Z1T 15 (.bool true) (congrArg Value.bool b9) ?_
  iterate 6 refine qn 6 15 false ?_
  refine qv 22 (.bool true) ?_
  refine Z1Q ?_
  intro w12 H13
  apply ztn
  refine Z0p rfl ?_
  apply zsl
  refine wv 6 (.bool false) ?_
  apply znt
  apply ZY
  apply ZP
  refine ze1 (.bool false) ?_
  have n14 := ZW b9
  exact ⟨by simp only [Z08, n14, Bool.not_true, Bool.not_false, Bool.true_or, Bool.false_or, Bool.or_true, Bool.or_false, Bool.and_true, Bool.true_and, Bool.and_false, Bool.false_and], H13.upd 0 rfl [] (fun _ h => h.elim)⟩
 have g15 := Zp b9
 refine Z1T 15 (.bool false) (congrArg Value.bool b9) ?_
 refine qy 6 15 false 16 (pt b6 37) ?_
 refine qy 6 15 false 17 (.slice sa S.length sc) ?_ (hr := fun _ H' => (Za rfl (by kernel_rfl) (H'.cell 2 rfl (by kernel_rfl))))
 refine ZT (Zu 6 15 false rfl (by kernel_rfl) rfl (by kernel_rfl)) (d := 18) (v := (.int .i64 ((S.length : Int)))) rfl (fun _ H' => (by kernel_rfl)) ?_
 refine qy 6 15 false 19 (.agg ⟨(Z0v f cn)⟩) ?_ (hr := fun _ H' => (Zs (vs := (Z0v f cn)) rfl (by kernel_rfl) (by kernel_rfl) (by exact Nat.le_of_ble_eq_true (by kernel_rfl)) (H'.at 1 rfl) (by kernel_rfl)))
 refine Z1E (Zu 6 15 false rfl (by kernel_rfl) rfl (by kernel_rfl)) (d := 20) (v := (.int .i64 (2 * f + 1))) rfl (fun _ _ => by kernel_rfl) (fun w' H' => (wQ_any w' f cn (by omega)).mono fun _ _ h => ⟨h.1, H'.keepU h.2⟩) ?_
 refine qy 6 15 false 21 (.bool (!(decide ((S.length : Int) = (2 * f + 1))))) ?_
 refine qv 22 (.bool (!(decide ((S.length : Int) = (2 * f + 1))))) ?_
 refine Z1Q ?_
 intro w17 H18
 apply ztn
 refine (ZD (!(decide ((S.length : Int) = (2 * f + 1))))).elim (fun b19 => ?_) (fun b19 => ?_)
 ·have g20 := ZW b19
  have g21 := of_decide_eq_false g20
  refine Z3G _ b19 ?_
  apply zsl
  refine wv 6 (.bool false) ?_
  apply znt
  apply ZY
  apply ZP
  refine ze1 (.bool false) ?_
  have n24 := Zp b9
  have n25 := ZW b19
  exact ⟨by simp only [Z08, n24, n25, Bool.not_true, Bool.not_false, Bool.true_or, Bool.false_or, Bool.or_true, Bool.or_false, Bool.and_true, Bool.true_and, Bool.and_false, Bool.false_and], H18.upd 0 rfl [] (fun _ h => h.elim)⟩
 have g26 := Zp b19
 have g27 := of_decide_eq_true g26
 refine Z3h _ b19 ?_
 apply ZZ
 apply ztn
 apply Zb
 apply zsl
 refine wv 23 (pt b6 37) ?_
 refine zw1 24 (.slice sa S.length sc) (H18.cell 2 rfl (by kernel_rfl)) ?_
 refine wv 25 (.int .i64 ((S.length : Int))) ?_
 refine wv 26 (.int .i64 (0)) ?_
 apply znt
 apply ZO
 have n30 := Zp b9
 have n31 := Zp b19
 refine Z0c ([6, 7, 8] ++ List.range' 26 41) (fun F_ W_ m_ => ∃ (i : Nat), F_ 26 = (.int .i64 ((i : Int))) ∧ (i ≤ S.length) ∧ (∀ j, j < i → Z4C f L x S j = true) ∧ Sat w [Z5 w (fun _ => False), Z1 b2 36 (Z0v f cn), Z1 b6 53 (Z80 x sa S.length sc)] W_ ∧ m_ = S.length - i) _ ⟨0, (show ((.int .i64 (0)) : Value) = _ by first | rfl | go_num), (Nat.zero_le _), (fun _ h => absurd h (Nat.not_lt_zero _)), H18, rfl⟩ ?_
 rintro g32 w33 _ ⟨i, v35, hi, hall, H34, rfl⟩
 refine Zj 26 _ v35 ?_
 apply zsl
 refine wv 27 (.bool (decide ((i : Int) < (S.length : Int)))) ?_
 apply znt
 apply Zb
 refine (ZD (decide ((i : Int) < (S.length : Int)))).elim (fun b37 => ?_) (fun b37 => ?_)
 ·have g38 := of_decide_eq_true b37
  refine Z3G _ b37 ?_
  apply ZZ
  apply ztn
  apply Zb
  apply ZO
  apply zsl
  refine wv 28 (.int .i64 ((i : Int))) ?_
  obtain ⟨g40, o41, c42, e43, R44⟩ := SliceOf.atD hS Zf (show i < S.length by omega)
  refine wv 29 (.pointer (some ⟨g40, o41 + ((i : Int)).toNat * 38, none⟩)) ?_ (hr := Z0j (E := 101) (by kernel_rfl) (by kernel_rfl) (Nat.le_of_ble_eq_true rfl) rfl e43 rfl (by omega) (by omega))
  refine wv 30 (.agg ⟨(Z26 (S.getD i Zf))⟩) ?_ (hr := Z1C (vs := (Z26 (S.getD i Zf))) rfl (by kernel_rfl) (by kernel_rfl) (Nat.le_of_ble_eq_true (by kernel_rfl)) (H34.runR 0 rfl (Z2s R44 0 (by kernel_rfl) (show o41 + ((i : Int)).toNat * 38 = o41 + i * 38 + 0 by omega)) (fun h => h)))
  refine zwd fun Kq kq => ?_
  refine zda (Z9l) H34 ?_
  intro b46 w47 H48
  refine kq _ _ ?_
  clear kq Kq
  refine wv 7 (.int .i64 ((i : Int))) ?_
  refine zwd fun Kq kq => ?_
  refine Z2N (Z26 (S.getD i Zf)) H48 3 ?_
  intro w50 H51
  refine kq _ _ ?_
  clear kq Kq
  apply znt
  apply Zb
  apply Zb
  refine zqs H51 ?_
  refine qv 31 (.int .i64 ((i : Int))) ?_
  refine qv 32 (.bool (decide ((i : Int) > 0))) ?_
  refine qv 33 (.bool (decide ((i : Int) > 0))) ?_
  refine (ZD (decide ((i : Int) > 0))).elim (fun b53 => ?_) (fun b53 => ?_)
  ·have g54 := of_decide_eq_true b53
   refine Z1T 33 (.bool true) (congrArg Value.bool b53) ?_
   refine qy 2 33 true 34 (pt b46 0) ?_
   refine qy 2 33 true 35 (.int .i64 ((S.getD i Zf).r)) ?_ (hr := fun _ H' => (Za rfl (by kernel_rfl) (H'.cell 3 rfl (by kernel_rfl))))
   refine qy 2 33 true 36 (pt b6 37) ?_
   refine qy 2 33 true 37 (.slice sa S.length sc) ?_ (hr := fun _ H' => (Za rfl (by kernel_rfl) (H'.cell 2 rfl (by kernel_rfl))))
   refine qy 2 33 true 38 (.int .i64 ((i : Int))) ?_
   refine qy 2 33 true 39 (.int .i64 ((i : Int) - 1)) ?_ (hr := fun _ H' => (Z0l (z := (i : Int) - 1) (by kernel_rfl) (IntWalk.i64_in _ (by omega))))
   obtain ⟨g56, o57, c58, e59, R60⟩ := SliceOf.atD hS Zf (show ((i : Int) - 1).toNat < S.length by omega)
   refine qy 2 33 true 40 (.pointer (some ⟨g56, o57 + ((i : Int) - 1).toNat * 38, none⟩)) ?_ (hr := fun _ H' => (Z0j (E := 101) (by kernel_rfl) (by kernel_rfl) (Nat.le_of_ble_eq_true rfl) rfl e59 rfl (by omega) (by omega)))
   refine qy 2 33 true 41 (.pointer (some ⟨g56, o57 + ((i : Int) - 1).toNat * 38, none⟩)) ?_
   refine qy 2 33 true 42 (.int .i64 ((S.getD ((i : Int) - 1).toNat Zf).r)) ?_ (hr := fun _ H' => (Za rfl (by kernel_rfl) (H'.cellR 0 rfl (Z2T R60 0 (by kernel_rfl) (show o57 + ((i : Int) - 1).toNat * 38 = o57 + ((i : Int) - 1).toNat * 38 + 0 by omega)) (fun h => h))))
   refine qy 2 33 true 43 (.bool (decide (((S.getD i Zf).r) ≤ ((S.getD ((i : Int) - 1).toNat Zf).r)))) ?_
   refine qv 44 (.bool (decide (((S.getD i Zf).r) ≤ ((S.getD ((i : Int) - 1).toNat Zf).r)))) ?_
   refine Z1Q ?_
   intro w61 H62
   apply ztn
   refine (ZD (decide (((S.getD i Zf).r) ≤ ((S.getD ((i : Int) - 1).toNat Zf).r)))).elim (fun b63 => ?_) (fun b63 => ?_)
   ·have g64 := of_decide_eq_true b63
    refine Z3G _ b63 ?_
    apply zsl
    refine wv 6 (.bool false) ?_
    apply znt
    apply ZY
    apply ZP
    apply Z0u
    apply ZP
    apply Z16
    apply Z0u
    apply ZP
    refine ze1 (.bool false) ?_
    have e1 : ((i : Int) - 1).toNat = i - 1 := by omega
    have ho : Z4C f L x S i = false := by unfold Z4C Z2n; rw [← e1]; simp only [b37, b53, b63, Bool.not_true, Bool.not_false, Bool.true_or, Bool.false_or, Bool.or_true, Bool.or_false, Bool.and_true, Bool.true_and, Bool.and_false, Bool.false_and]
    exact ⟨by simp only [Z08, Z1R (show i < S.length by omega) ho, Bool.and_false], H62.upd 0 rfl [] (fun _ h => h.elim)⟩
   have g66 := of_decide_eq_false b63
   refine Z3h _ b63 ?_
   apply ZZ
   apply ztn
   apply zsl
   refine wv 45 (pt b46 1) ?_
   refine zwN 46 (Z7Z (S.getD i Zf)) (H62.at 3 rfl) ?_
   refine wv 47 (pt b6 0) ?_
   refine wv 48 (pt b6 0) ?_
   refine zwN 49 (Z0v x.cl x.seq) (H62.at 2 rfl) ?_
   refine wv 50 (.bool (!(decide (((S.getD i Zf).cl) = x.cl ∧ ((S.getD i Zf).seq) = x.seq)))) ?_ (hr := Z5y ((S.getD i Zf).cl) ((S.getD i Zf).seq) x.cl x.seq rfl rfl)
   refine wv 51 (.bool (!(decide (((S.getD i Zf).cl) = x.cl ∧ ((S.getD i Zf).seq) = x.seq)))) ?_
   refine (ZD (!(decide (((S.getD i Zf).cl) = x.cl ∧ ((S.getD i Zf).seq) = x.seq)))).elim (fun b68 => ?_) (fun b68 => ?_)
   ·have g69 := ZW b68
    refine ZV 51 (.bool true) (congrArg Value.bool b68) ?_
    iterate 6 refine wn 6 51 false ?_
    refine wv 58 (.bool true) ?_
    refine wv 59 (.bool true) ?_
    iterate 5 refine wn 14 59 false ?_
    refine wv 65 (.bool true) ?_
    apply znt
    refine Z0p rfl ?_
    apply zsl
    refine wv 6 (.bool false) ?_
    apply znt
    apply ZY
    apply Z0u
    apply ZP
    apply Z16
    apply Z0u
    apply ZP
    refine ze1 (.bool false) ?_
    have n71 := ZW b68
    have e1 : ((i : Int) - 1).toNat = i - 1 := by omega
    have ho : Z4C f L x S i = false := by unfold Z4C Z2n; rw [← e1]; simp only [b37, b53, b63, n71, Bool.not_true, Bool.not_false, Bool.true_or, Bool.false_or, Bool.or_true, Bool.or_false, Bool.and_true, Bool.true_and, Bool.and_false, Bool.false_and]
    exact ⟨by simp only [Z08, Z1R (show i < S.length by omega) ho, Bool.and_false], H62.upd 0 rfl [] (fun _ h => h.elim)⟩
   have g72 := Zp b68
   refine ZV 51 (.bool false) (congrArg Value.bool b68) ?_
   refine wy 6 51 false 52 (pt b46 3) ?_
   refine wy 6 51 false 53 (.agg ⟨(hc (S.getD i Zf).h)⟩) ?_ (hr := Zs (vs := (hc (S.getD i Zf).h)) rfl (by kernel_rfl) (by kernel_rfl) (by exact Nat.le_of_ble_eq_true (by kernel_rfl)) (H62.at 3 rfl) (by kernel_rfl))
   refine wy 6 51 false 54 (pt b6 0) ?_
   refine wy 6 51 false 55 (pt b6 2) ?_
   refine wy 6 51 false 56 (.agg ⟨(hc x.h)⟩) ?_ (hr := Zs (vs := (hc x.h)) rfl (by kernel_rfl) (by kernel_rfl) (by exact Nat.le_of_ble_eq_true (by kernel_rfl)) (H62.at 2 rfl) (by kernel_rfl))
   refine wy 6 51 false 57 (.bool (!(decide (((S.getD i Zf).h) = x.h)))) ?_ (hr := Z5s ((S.getD i Zf).h) x.h rfl rfl)
   refine wv 58 (.bool (!(decide (((S.getD i Zf).h) = x.h)))) ?_
   refine wv 59 (.bool (!(decide (((S.getD i Zf).h) = x.h)))) ?_
   refine (ZD (!(decide (((S.getD i Zf).h) = x.h)))).elim (fun b74 => ?_) (fun b74 => ?_)
   ·have g75 := ZW b74
    have g76 := of_decide_eq_false g75
    refine ZV 59 (.bool true) (congrArg Value.bool b74) ?_
    iterate 5 refine wn 14 59 false ?_
    refine wv 65 (.bool true) ?_
    apply znt
    refine Z0p rfl ?_
    apply zsl
    refine wv 6 (.bool false) ?_
    apply znt
    apply ZY
    apply Z0u
    apply ZP
    apply Z16
    apply Z0u
    apply ZP
    refine ze1 (.bool false) ?_
    have n79 := Zp b68
    have n80 := ZW b74
    have e1 : ((i : Int) - 1).toNat = i - 1 := by omega
    have ho : Z4C f L x S i = false := by unfold Z4C Z2n; rw [← e1]; simp only [b37, b53, b63, n79, n80, Bool.not_true, Bool.not_false, Bool.true_or, Bool.false_or, Bool.or_true, Bool.or_false, Bool.and_true, Bool.true_and, Bool.and_false, Bool.false_and]
    exact ⟨by simp only [Z08, Z1R (show i < S.length by omega) ho, Bool.and_false], H62.upd 0 rfl [] (fun _ h => h.elim)⟩
   have g81 := Zp b74
   have g82 := of_decide_eq_true g81
   refine ZV 59 (.bool false) (congrArg Value.bool b74) ?_
   refine wy 14 59 false 60 (.agg ⟨(Z0v f cn)⟩) ?_ (hr := Zs (vs := (Z0v f cn)) rfl (by kernel_rfl) (by kernel_rfl) (by exact Nat.le_of_ble_eq_true (by kernel_rfl)) (H62.at 1 rfl) (by kernel_rfl))
   refine wy 14 59 false 61 (pt b 0) ?_
   refine wy 14 59 false 62 (.agg ⟨(Z26 (S.getD i Zf))⟩) ?_ (hr := Zs (vs := (Z26 (S.getD i Zf))) rfl (by kernel_rfl) (by kernel_rfl) (by exact Nat.le_of_ble_eq_true (by kernel_rfl)) (H62.at 3 rfl) (by kernel_rfl))
   refine ZQ (Zu 14 59 false rfl (by kernel_rfl) rfl (by kernel_rfl)) (fun Kq kq => ?_)
   refine zdq 63 (Z4g w61 f cn (by omega) b mb L (H62.roCk 0 rfl hb (fun _ _ h => h)) (H62.roMap 0 rfl hm (fun h => h)) (S.getD i Zf) (hok _ (by omega))) H62 ?_
   intro w86 H87
   refine kq _ _ ?_
   clear kq Kq
   refine wy 14 59 false 64 (.bool (!(Z1M f L (S.getD i Zf)))) ?_
   refine wv 65 (.bool (!(Z1M f L (S.getD i Zf)))) ?_
   apply znt
   refine (ZD (!(Z1M f L (S.getD i Zf)))).elim (fun b89 => ?_) (fun b89 => ?_)
   ·have g90 := ZW b89
    refine Z3G _ b89 ?_
    apply zsl
    refine wv 6 (.bool false) ?_
    apply znt
    apply ZY
    apply Z0u
    apply ZP
    apply Z16
    apply Z0u
    apply ZP
    refine ze1 (.bool false) ?_
    have n92 := Zp b68
    have n93 := Zp b74
    have n94 := ZW b89
    have e1 : ((i : Int) - 1).toNat = i - 1 := by omega
    have ho : Z4C f L x S i = false := by unfold Z4C Z2n; rw [← e1]; simp only [b37, b53, b63, n92, n93, n94, Bool.not_true, Bool.not_false, Bool.true_or, Bool.false_or, Bool.or_true, Bool.or_false, Bool.and_true, Bool.true_and, Bool.and_false, Bool.false_and]
    exact ⟨by simp only [Z08, Z1R (show i < S.length by omega) ho, Bool.and_false], H87.upd 0 rfl [] (fun _ h => h.elim)⟩
   have g95 := Zp b89
   refine Z3h _ b89 ?_
   apply ZZ
   apply ZE
   apply ztn
   apply Zl
   refine zwi 66 ((i : Int) + 1) ?_
   refine wv 26 (.int .i64 ((i : Int) + 1)) ?_
   apply Zi
   have n97 := Zp b68
   have n98 := Zp b74
   have n99 := Zp b89
   have e1 : ((i : Int) - 1).toNat = i - 1 := by omega
   have ho : Z4C f L x S i = true := by unfold Z4C Z2n; rw [← e1]; simp only [b37, b53, b63, n97, n98, n99, Bool.not_true, Bool.not_false, Bool.true_or, Bool.false_or, Bool.or_true, Bool.or_false, Bool.and_true, Bool.true_and, Bool.and_false, Bool.false_and]
   have H100 := H87.pk [0, 1, 2]
   refine ZH ?_ _ ⟨(i + 1), rfl, (by omega), (fun j hj => by rcases Nat.lt_or_ge j i with h | h; exact hall j h; rw [show j = i by omega]; exact ho), H100, rfl⟩ (by omega)
   exact zs
  have g101 := of_decide_eq_false b53
  refine Z1T 33 (.bool false) (congrArg Value.bool b53) ?_
  iterate 10 refine qn 2 33 true ?_
  refine qv 44 (.bool false) ?_
  refine Z1Q ?_
  intro w103 H104
  apply ztn
  refine Z0r rfl ?_
  apply ZZ
  apply ztn
  apply zsl
  refine wv 45 (pt b46 1) ?_
  refine zwN 46 (Z7Z (S.getD i Zf)) (H104.at 3 rfl) ?_
  refine wv 47 (pt b6 0) ?_
  refine wv 48 (pt b6 0) ?_
  refine zwN 49 (Z0v x.cl x.seq) (H104.at 2 rfl) ?_
  refine wv 50 (.bool (!(decide (((S.getD i Zf).cl) = x.cl ∧ ((S.getD i Zf).seq) = x.seq)))) ?_ (hr := Z5y ((S.getD i Zf).cl) ((S.getD i Zf).seq) x.cl x.seq rfl rfl)
  refine wv 51 (.bool (!(decide (((S.getD i Zf).cl) = x.cl ∧ ((S.getD i Zf).seq) = x.seq)))) ?_
  refine (ZD (!(decide (((S.getD i Zf).cl) = x.cl ∧ ((S.getD i Zf).seq) = x.seq)))).elim (fun b105 => ?_) (fun b105 => ?_)
  ·have g106 := ZW b105
   refine ZV 51 (.bool true) (congrArg Value.bool b105) ?_
   iterate 6 refine wn 6 51 false ?_
   refine wv 58 (.bool true) ?_
   refine wv 59 (.bool true) ?_
   iterate 5 refine wn 14 59 false ?_
   refine wv 65 (.bool true) ?_
   apply znt
   refine Z0p rfl ?_
   apply zsl
   refine wv 6 (.bool false) ?_
   apply znt
   apply ZY
   apply Z0u
   apply ZP
   apply Z16
   apply Z0u
   apply ZP
   refine ze1 (.bool false) ?_
   have n108 := ZW b105
   have e1 : ((i : Int) - 1).toNat = i - 1 := by omega
   have ho : Z4C f L x S i = false := by unfold Z4C Z2n; rw [← e1]; simp only [b37, b53, n108, Bool.not_true, Bool.not_false, Bool.true_or, Bool.false_or, Bool.or_true, Bool.or_false, Bool.and_true, Bool.true_and, Bool.and_false, Bool.false_and]
   exact ⟨by simp only [Z08, Z1R (show i < S.length by omega) ho, Bool.and_false], H104.upd 0 rfl [] (fun _ h => h.elim)⟩
  have g109 := Zp b105
  refine ZV 51 (.bool false) (congrArg Value.bool b105) ?_
  refine wy 6 51 false 52 (pt b46 3) ?_
  refine wy 6 51 false 53 (.agg ⟨(hc (S.getD i Zf).h)⟩) ?_ (hr := Zs (vs := (hc (S.getD i Zf).h)) rfl (by kernel_rfl) (by kernel_rfl) (by exact Nat.le_of_ble_eq_true (by kernel_rfl)) (H104.at 3 rfl) (by kernel_rfl))
  refine wy 6 51 false 54 (pt b6 0) ?_
  refine wy 6 51 false 55 (pt b6 2) ?_
  refine wy 6 51 false 56 (.agg ⟨(hc x.h)⟩) ?_ (hr := Zs (vs := (hc x.h)) rfl (by kernel_rfl) (by kernel_rfl) (by exact Nat.le_of_ble_eq_true (by kernel_rfl)) (H104.at 2 rfl) (by kernel_rfl))
  refine wy 6 51 false 57 (.bool (!(decide (((S.getD i Zf).h) = x.h)))) ?_ (hr := Z5s ((S.getD i Zf).h) x.h rfl rfl)
  refine wv 58 (.bool (!(decide (((S.getD i Zf).h) = x.h)))) ?_
  refine wv 59 (.bool (!(decide (((S.getD i Zf).h) = x.h)))) ?_
  refine (ZD (!(decide (((S.getD i Zf).h) = x.h)))).elim (fun b111 => ?_) (fun b111 => ?_)
  ·have g112 := ZW b111
   have g113 := of_decide_eq_false g112
   refine ZV 59 (.bool true) (congrArg Value.bool b111) ?_
   iterate 5 refine wn 14 59 false ?_
   refine wv 65 (.bool true) ?_
   apply znt
   refine Z0p rfl ?_
   apply zsl
   refine wv 6 (.bool false) ?_
   apply znt
   apply ZY
   apply Z0u
   apply ZP
   apply Z16
   apply Z0u
   apply ZP
   refine ze1 (.bool false) ?_
   have n116 := Zp b105
   have n117 := ZW b111
   have e1 : ((i : Int) - 1).toNat = i - 1 := by omega
   have ho : Z4C f L x S i = false := by unfold Z4C Z2n; rw [← e1]; simp only [b37, b53, n116, n117, Bool.not_true, Bool.not_false, Bool.true_or, Bool.false_or, Bool.or_true, Bool.or_false, Bool.and_true, Bool.true_and, Bool.and_false, Bool.false_and]
   exact ⟨by simp only [Z08, Z1R (show i < S.length by omega) ho, Bool.and_false], H104.upd 0 rfl [] (fun _ h => h.elim)⟩
  have g118 := Zp b111
  have g119 := of_decide_eq_true g118
  refine ZV 59 (.bool false) (congrArg Value.bool b111) ?_
  refine wy 14 59 false 60 (.agg ⟨(Z0v f cn)⟩) ?_ (hr := Zs (vs := (Z0v f cn)) rfl (by kernel_rfl) (by kernel_rfl) (by exact Nat.le_of_ble_eq_true (by kernel_rfl)) (H104.at 1 rfl) (by kernel_rfl))
  refine wy 14 59 false 61 (pt b 0) ?_
  refine wy 14 59 false 62 (.agg ⟨(Z26 (S.getD i Zf))⟩) ?_ (hr := Zs (vs := (Z26 (S.getD i Zf))) rfl (by kernel_rfl) (by kernel_rfl) (by exact Nat.le_of_ble_eq_true (by kernel_rfl)) (H104.at 3 rfl) (by kernel_rfl))
  refine ZQ (Zu 14 59 false rfl (by kernel_rfl) rfl (by kernel_rfl)) (fun Kq kq => ?_)
  refine zdq 63 (Z4g w103 f cn (by omega) b mb L (H104.roCk 0 rfl hb (fun _ _ h => h)) (H104.roMap 0 rfl hm (fun h => h)) (S.getD i Zf) (hok _ (by omega))) H104 ?_
  intro w123 H124
  refine kq _ _ ?_
  clear kq Kq
  refine wy 14 59 false 64 (.bool (!(Z1M f L (S.getD i Zf)))) ?_
  refine wv 65 (.bool (!(Z1M f L (S.getD i Zf)))) ?_
  apply znt
  refine (ZD (!(Z1M f L (S.getD i Zf)))).elim (fun b126 => ?_) (fun b126 => ?_)
  ·have g127 := ZW b126
   refine Z3G _ b126 ?_
   apply zsl
   refine wv 6 (.bool false) ?_
   apply znt
   apply ZY
   apply Z0u
   apply ZP
   apply Z16
   apply Z0u
   apply ZP
   refine ze1 (.bool false) ?_
   have n129 := Zp b105
   have n130 := Zp b111
   have n131 := ZW b126
   have e1 : ((i : Int) - 1).toNat = i - 1 := by omega
   have ho : Z4C f L x S i = false := by unfold Z4C Z2n; rw [← e1]; simp only [b37, b53, n129, n130, n131, Bool.not_true, Bool.not_false, Bool.true_or, Bool.false_or, Bool.or_true, Bool.or_false, Bool.and_true, Bool.true_and, Bool.and_false, Bool.false_and]
   exact ⟨by simp only [Z08, Z1R (show i < S.length by omega) ho, Bool.and_false], H124.upd 0 rfl [] (fun _ h => h.elim)⟩
  have g132 := Zp b126
  refine Z3h _ b126 ?_
  apply ZZ
  apply ZE
  apply ztn
  apply Zl
  refine zwi 66 ((i : Int) + 1) ?_
  refine wv 26 (.int .i64 ((i : Int) + 1)) ?_
  apply Zi
  have n134 := Zp b105
  have n135 := Zp b111
  have n136 := Zp b126
  have e1 : ((i : Int) - 1).toNat = i - 1 := by omega
  have ho : Z4C f L x S i = true := by unfold Z4C Z2n; rw [← e1]; simp only [b37, b53, n134, n135, n136, Bool.not_true, Bool.not_false, Bool.true_or, Bool.false_or, Bool.or_true, Bool.or_false, Bool.and_true, Bool.true_and, Bool.and_false, Bool.false_and]
  have H137 := H124.pk [0, 1, 2]
  refine ZH ?_ _ ⟨(i + 1), rfl, (by omega), (fun j hj => by rcases Nat.lt_or_ge j i with h | h; exact hall j h; rw [show j = i by omega]; exact ho), H137, rfl⟩ (by omega)
  exact zs
 have g138 := of_decide_eq_false b37
 refine Z3h _ b37 ?_
 apply zxb
 apply ztn
 apply zsl
 refine wv 6 (.bool true) ?_
 apply znt
 apply ZY
 refine ze1 (.bool true) ?_
 have hn0 : i = S.length := by omega
 subst hn0
 exact ⟨by simp only [Z08, Z3p hall, n30, n31, Bool.not_true, Bool.not_false, Bool.true_or, Bool.false_or, Bool.or_true, Bool.or_false, Bool.and_true, Bool.true_and, Bool.and_false, Bool.false_and], H34.upd 0 rfl [] (fun _ h => h.elim)⟩
end Go.Proofs.YtoaifondpohniaaGreat
