/- WHAT IS PROVED: contracts and plain laws of RgP. Conditions: stated with each. -/
import Derived.Test.YtoaifondpohniaaGreatMT17
import Derived.Test.YtoaifondpohniaaGreatMT19
import Derived.Test.YtoaifondpohniaaGreatMT21
import Derived.Test.YtoaifondpohniaaGreatMT22
import Derived.Test.YtoaifondpohniaaGreatMT26
import Derived.Test.YtoaifondpohniaaGreatMT29
set_option maxHeartbeats 4000000
set_option maxRecDepth 100000
namespace Go.Proofs.YtoaifondpohniaaGreat
open Go.RowKit
noncomputable def Z5Q (f cn : Int) (L : List Signed) (fl : Int) (C : List CeR) (i : Nat) : Bool := (!decide ((i : Int) > 0) || ltNm (C.getD (i - 1) ce0) (C.getD i ce0)) && Z08 f cn L (C.getD i ce0).x (C.getD i ce0).S && !decide (Z8 (C.getD i ce0).S > fl)
noncomputable def Z1s (f cn : Int) (L : List Signed) (p : PrR) : Bool := inB f p.r && !decide (p.e < 0) && !decide (p.e > 1048576) && !decide ((p.C.length : Int) > 64) && !decide (p.f = 18446744073709551615) && decide (p.sb = p.r) && Z1f L p.sb p.sm (ZB p) && (List.range p.C.length).all (Z5Q f cn L p.f p.C)
theorem Z1q (x y : CeR) : ltNm x y = !decide (or2 (Z2H x.x.cl y.x.cl) (Z2H x.x.seq y.x.seq) ≥ 0) := by
 unfold ltNm or2 Z2H
 rw [Bool.eq_iff_iff]
 simp only [Bool.or_eq_true, Bool.and_eq_true, decide_eq_true_eq, Bool.not_eq_true', decide_eq_false_iff_not]
 split <;> split <;> (try split) <;> omega
theorem Z6n (w : World) (a b c d : Int) : Calls Tryz.prog 53 #[.agg ⟨[.int .i64 a, .int .i64 b]⟩, .agg ⟨[.int .i64 c, .int .i64 d]⟩] w fun e w' => e = .returned (.int .i64 (or2 (Z2H a c) (Z2H b d))) ∧ Upd [] w w' := (Z58 w a b c d).mono fun _ _ h => ⟨h.1, h.2.1⟩
theorem Z6m (w : World) (f cn : Int) (hf : -1099511627776 ≤ f ∧ f ≤ 1099511627776) (b mb : Nat) (L : List Signed) (hb : (Z1 b 110 [.map (some mb)]).ok w) (hm : MapAt w mb Z7 (Value.int .i64) (Zh L)) (p : PrR) (hC : ListAt Z01 38 w (.slice p.ca p.C.length p.cc) p.C) (hB : ∀ i, i < p.C.length → CeB w (p.C.getD i ce0)) (h12 : ∀ i, i < p.C.length → (p.C.getD i ce0).S.length ≤ 12) (hl : p.C.length ≤ 64) (hpn : p.r ≤ 9223372036854775807 ∧ p.e ≤ 9223372036854775807 ∧ 0 ≤ p.f ∧ p.f < 18446744073709551616) :
  Calls Tryz.prog 19 #[(.agg ⟨([(.int .i64 (f)), (.int .i64 (cn))] : List Value)⟩), (.pointer (some ⟨b, 0, none⟩)), (.agg ⟨([(.int .i64 (p.r)), (.int .i64 (p.e)), (.int .u64 (p.f)), (.slice p.ca p.C.length p.cc), (.int .i64 (p.sb)), (.int .i64 (p.sm))] : List Value)⟩)] w fun e w' => e = .returned (.bool (Z1s f cn L p)) ∧ Upd [] w w' := by
 have H := Sat.start0 w
 refine Zr Tryz.func19 rfl 87 rfl (Nat.le_of_ble_eq_true rfl) ?_
 refine Zb ?_
 refine Zl ?_
 refine ZQ (Z0 rfl) (fun K1 hK1 => ?_)
 refine Z1F (vs := ([(.int .i64 (f)), (.int .i64 (cn))] : List Value)) rfl H rfl rfl ?_
 intro b2 w3 (H4 : Sat w [Z5 w (fun _ => False), Z1 b2 36 ([(.int .i64 (f)), (.int .i64 (cn))] : List Value)] w3)
 refine hK1 _ _ ?_
 clear hK1 K1
 refine ZQ (Z0 rfl) (fun K5 hK5 => ?_)
 refine Z1F (vs := ([(.int .i64 (p.r)), (.int .i64 (p.e)), (.int .u64 (p.f)), (.slice p.ca p.C.length p.cc), (.int .i64 (p.sb)), (.int .i64 (p.sm))] : List Value)) rfl H4 rfl rfl ?_
 intro b6 w7 (H8 : Sat w [Z5 w (fun _ => False), Z1 b2 36 ([(.int .i64 (f)), (.int .i64 (cn))] : List Value), Z1 b6 34 ([(.int .i64 (p.r)), (.int .i64 (p.e)), (.int .u64 (p.f)), (.slice p.ca p.C.length p.cc), (.int .i64 (p.sb)), (.int .i64 (p.sm))] : List Value)] w7)
 refine hK5 _ _ ?_
 clear hK5 K5
 refine Z3 (Z0 rfl) (d := 6) (v := (.bool false)) rfl (by kernel_rfl) ?_
 refine Zi ?_
 refine Z4 ?_
 refine Zb ?_
 refine Zb ?_
 refine Zl ?_
 refine Z3 (Z0 rfl) (d := 9) (v := (.agg ⟨([(.int .i64 (f)), (.int .i64 (cn))] : List Value)⟩)) rfl (Zs (vs := ([(.int .i64 (f)), (.int .i64 (cn))] : List Value)) rfl (by kernel_rfl) (by kernel_rfl) (by exact Nat.le_of_ble_eq_true (by kernel_rfl)) (H8.at 1 rfl) (by kernel_rfl)) ?_
 refine Z3 (Z0 rfl) (d := 10) (v := (.pointer (some ⟨b6, 0, none⟩))) rfl (by kernel_rfl) ?_
 refine Z3 (Z0 rfl) (d := 11) (v := (.int .i64 (p.r))) rfl (Za rfl (by kernel_rfl) (H8.cell 2 rfl rfl)) ?_
 refine ZQ (Z0 rfl) (fun K9 hK9 => ?_)
 refine ZX (d := 12) rfl (by kernel_rfl) (Z6u w7 f cn p.r (by omega)) ?_
 rintro _ w10 ⟨rfl, u12⟩
 have H11 := H8.keepU u12
 refine ⟨_, rfl, ?_⟩
 refine hK9 _ _ ?_
 clear hK9 K9
 refine Z3 (Z0 rfl) (d := 13) (v := (.bool (!(inB f p.r)))) rfl (by kernel_rfl) ?_
 refine Z3 (Z0 rfl) (d := 14) (v := (.bool (!(inB f p.r)))) rfl (by kernel_rfl) ?_
 refine (ZD (!(inB f p.r))).elim (fun b13 => ?_) (fun b13 => ?_)
 ·have g14 := ZW b13
  refine ZV 14 (.bool true) (congrArg Value.bool b13) ?_
  have g15 := ZW b13
  refine ZC (Zn 5 14 false rfl (by kernel_rfl) rfl (by kernel_rfl)) rfl ?_
  refine ZC (Zn 5 14 false rfl (by kernel_rfl) rfl (by kernel_rfl)) rfl ?_
  refine ZC (Zn 5 14 false rfl (by kernel_rfl) rfl (by kernel_rfl)) rfl ?_
  refine Z3 (Z0 rfl) (d := 18) (v := (.bool true)) rfl (by kernel_rfl) ?_
  refine Z3 (Z0 rfl) (d := 19) (v := (.bool true)) rfl (by kernel_rfl) ?_
  refine ZC (Zn 10 19 false rfl (by kernel_rfl) rfl (by kernel_rfl)) rfl ?_
  refine ZC (Zn 10 19 false rfl (by kernel_rfl) rfl (by kernel_rfl)) rfl ?_
  refine ZC (Zn 10 19 false rfl (by kernel_rfl) rfl (by kernel_rfl)) rfl ?_
  refine Z3 (Z0 rfl) (d := 23) (v := (.bool true)) rfl (by kernel_rfl) ?_
  refine Z3 (Z0 rfl) (d := 24) (v := (.bool true)) rfl (by kernel_rfl) ?_
  refine ZC (Zn 15 24 false rfl (by kernel_rfl) rfl (by kernel_rfl)) rfl ?_
  refine ZC (Zn 15 24 false rfl (by kernel_rfl) rfl (by kernel_rfl)) rfl ?_
  refine ZC (Zn 15 24 false rfl (by kernel_rfl) rfl (by kernel_rfl)) rfl ?_
  refine ZC (Zn 15 24 false rfl (by kernel_rfl) rfl (by kernel_rfl)) rfl ?_
  refine Z3 (Z0 rfl) (d := 29) (v := (.bool true)) rfl (by kernel_rfl) ?_
  refine Z3 (Z0 rfl) (d := 30) (v := (.bool true)) rfl (by kernel_rfl) ?_
  refine ZC (Zn 21 30 false rfl (by kernel_rfl) rfl (by kernel_rfl)) rfl ?_
  refine ZC (Zn 21 30 false rfl (by kernel_rfl) rfl (by kernel_rfl)) rfl ?_
  refine ZC (Zn 21 30 false rfl (by kernel_rfl) rfl (by kernel_rfl)) rfl ?_
  refine Z3 (Z0 rfl) (d := 34) (v := (.bool true)) rfl (by kernel_rfl) ?_
  refine Z3 (Z0 rfl) (d := 35) (v := (.bool true)) rfl (by kernel_rfl) ?_
  refine ZC (Zn 26 35 false rfl (by kernel_rfl) rfl (by kernel_rfl)) rfl ?_
  refine ZC (Zn 26 35 false rfl (by kernel_rfl) rfl (by kernel_rfl)) rfl ?_
  refine ZC (Zn 26 35 false rfl (by kernel_rfl) rfl (by kernel_rfl)) rfl ?_
  refine ZC (Zn 26 35 false rfl (by kernel_rfl) rfl (by kernel_rfl)) rfl ?_
  refine ZC (Zn 26 35 false rfl (by kernel_rfl) rfl (by kernel_rfl)) rfl ?_
  refine ZC (Zn 26 35 false rfl (by kernel_rfl) rfl (by kernel_rfl)) rfl ?_
  refine Z3 (Z0 rfl) (d := 42) (v := (.bool true)) rfl (by kernel_rfl) ?_
  refine Zi ?_
  refine Z4 ?_
  refine Z0p rfl ?_
  refine Zb ?_
  refine Zl ?_
  refine Z3 (Z0 rfl) (d := 6) (v := (.bool false)) rfl (by kernel_rfl) ?_
  refine Zi ?_
  refine Z4 ?_
  refine ZY ?_
  refine ZP ?_
  refine Z1i rfl (ZJ (v := (.bool false)) rfl) ?_
  have n16 := ZW b13
  exact ⟨by simp only [Z1s, n16, Bool.not_true, Bool.not_false, Bool.true_or, Bool.false_or, Bool.or_true, Bool.or_false, Bool.and_true, Bool.true_and, Bool.and_false, Bool.false_and], H11.upd 0 rfl [] (fun _ h => h.elim)⟩
 ·have g17 := Zp b13
  refine ZV 14 (.bool false) (congrArg Value.bool b13) ?_
  have g18 := Zp b13
  refine Z3 (Zu 5 14 false rfl (by kernel_rfl) rfl (by kernel_rfl)) (d := 15) (v := (.pointer (some ⟨b6, 1, none⟩))) rfl (by kernel_rfl) ?_
  refine Z3 (Zu 5 14 false rfl (by kernel_rfl) rfl (by kernel_rfl)) (d := 16) (v := (.int .i64 (p.e))) rfl (Za rfl (by kernel_rfl) (H11.cell 2 rfl rfl)) ?_
  refine Z3 (Zu 5 14 false rfl (by kernel_rfl) rfl (by kernel_rfl)) (d := 17) (v := (.bool (decide (p.e < 0)))) rfl (by kernel_rfl) ?_
  refine Z3 (Z0 rfl) (d := 18) (v := (.bool (decide (p.e < 0)))) rfl (by kernel_rfl) ?_
  refine Z3 (Z0 rfl) (d := 19) (v := (.bool (decide (p.e < 0)))) rfl (by kernel_rfl) ?_
  refine (ZD (decide (p.e < 0))).elim (fun b19 => ?_) (fun b19 => ?_)
  ·have g20 := of_decide_eq_true b19
   refine ZV 19 (.bool true) (congrArg Value.bool b19) ?_
   have g21 := of_decide_eq_true b19
   refine ZC (Zn 10 19 false rfl (by kernel_rfl) rfl (by kernel_rfl)) rfl ?_
   refine ZC (Zn 10 19 false rfl (by kernel_rfl) rfl (by kernel_rfl)) rfl ?_
   refine ZC (Zn 10 19 false rfl (by kernel_rfl) rfl (by kernel_rfl)) rfl ?_
   refine Z3 (Z0 rfl) (d := 23) (v := (.bool true)) rfl (by kernel_rfl) ?_
   refine Z3 (Z0 rfl) (d := 24) (v := (.bool true)) rfl (by kernel_rfl) ?_
   refine ZC (Zn 15 24 false rfl (by kernel_rfl) rfl (by kernel_rfl)) rfl ?_
   refine ZC (Zn 15 24 false rfl (by kernel_rfl) rfl (by kernel_rfl)) rfl ?_
   refine ZC (Zn 15 24 false rfl (by kernel_rfl) rfl (by kernel_rfl)) rfl ?_
   refine ZC (Zn 15 24 false rfl (by kernel_rfl) rfl (by kernel_rfl)) rfl ?_
   refine Z3 (Z0 rfl) (d := 29) (v := (.bool true)) rfl (by kernel_rfl) ?_
   refine Z3 (Z0 rfl) (d := 30) (v := (.bool true)) rfl (by kernel_rfl) ?_
   refine ZC (Zn 21 30 false rfl (by kernel_rfl) rfl (by kernel_rfl)) rfl ?_
   refine ZC (Zn 21 30 false rfl (by kernel_rfl) rfl (by kernel_rfl)) rfl ?_
   refine ZC (Zn 21 30 false rfl (by kernel_rfl) rfl (by kernel_rfl)) rfl ?_
   refine Z3 (Z0 rfl) (d := 34) (v := (.bool true)) rfl (by kernel_rfl) ?_
   refine Z3 (Z0 rfl) (d := 35) (v := (.bool true)) rfl (by kernel_rfl) ?_
   refine ZC (Zn 26 35 false rfl (by kernel_rfl) rfl (by kernel_rfl)) rfl ?_
   refine ZC (Zn 26 35 false rfl (by kernel_rfl) rfl (by kernel_rfl)) rfl ?_
   refine ZC (Zn 26 35 false rfl (by kernel_rfl) rfl (by kernel_rfl)) rfl ?_
   refine ZC (Zn 26 35 false rfl (by kernel_rfl) rfl (by kernel_rfl)) rfl ?_
   refine ZC (Zn 26 35 false rfl (by kernel_rfl) rfl (by kernel_rfl)) rfl ?_
   refine ZC (Zn 26 35 false rfl (by kernel_rfl) rfl (by kernel_rfl)) rfl ?_
   refine Z3 (Z0 rfl) (d := 42) (v := (.bool true)) rfl (by kernel_rfl) ?_
   refine Zi ?_
   refine Z4 ?_
   refine Z0p rfl ?_
   refine Zb ?_
   refine Zl ?_
   refine Z3 (Z0 rfl) (d := 6) (v := (.bool false)) rfl (by kernel_rfl) ?_
   refine Zi ?_
   refine Z4 ?_
   refine ZY ?_
   refine ZP ?_
   refine Z1i rfl (ZJ (v := (.bool false)) rfl) ?_
   have n22 := Zp b13
   exact ⟨by simp only [Z1s, n22, b19, Bool.not_true, Bool.not_false, Bool.true_or, Bool.false_or, Bool.or_true, Bool.or_false, Bool.and_true, Bool.true_and, Bool.and_false, Bool.false_and], H11.upd 0 rfl [] (fun _ h => h.elim)⟩
  ·have g23 := of_decide_eq_false b19
   refine ZV 19 (.bool false) (congrArg Value.bool b19) ?_
   have g24 := of_decide_eq_false b19
   refine Z3 (Zu 10 19 false rfl (by kernel_rfl) rfl (by kernel_rfl)) (d := 20) (v := (.pointer (some ⟨b6, 1, none⟩))) rfl (by kernel_rfl) ?_
   refine Z3 (Zu 10 19 false rfl (by kernel_rfl) rfl (by kernel_rfl)) (d := 21) (v := (.int .i64 (p.e))) rfl (Za rfl (by kernel_rfl) (H11.cell 2 rfl rfl)) ?_
   refine Z3 (Zu 10 19 false rfl (by kernel_rfl) rfl (by kernel_rfl)) (d := 22) (v := (.bool (decide (p.e > 1048576)))) rfl (by kernel_rfl) ?_
   refine Z3 (Z0 rfl) (d := 23) (v := (.bool (decide (p.e > 1048576)))) rfl (by kernel_rfl) ?_
   refine Z3 (Z0 rfl) (d := 24) (v := (.bool (decide (p.e > 1048576)))) rfl (by kernel_rfl) ?_
   refine (ZD (decide (p.e > 1048576))).elim (fun b25 => ?_) (fun b25 => ?_)
   ·have g26 := of_decide_eq_true b25
    refine ZV 24 (.bool true) (congrArg Value.bool b25) ?_
    have g27 := of_decide_eq_true b25
    refine ZC (Zn 15 24 false rfl (by kernel_rfl) rfl (by kernel_rfl)) rfl ?_
    refine ZC (Zn 15 24 false rfl (by kernel_rfl) rfl (by kernel_rfl)) rfl ?_
    refine ZC (Zn 15 24 false rfl (by kernel_rfl) rfl (by kernel_rfl)) rfl ?_
    refine ZC (Zn 15 24 false rfl (by kernel_rfl) rfl (by kernel_rfl)) rfl ?_
    refine Z3 (Z0 rfl) (d := 29) (v := (.bool true)) rfl (by kernel_rfl) ?_
    refine Z3 (Z0 rfl) (d := 30) (v := (.bool true)) rfl (by kernel_rfl) ?_
    refine ZC (Zn 21 30 false rfl (by kernel_rfl) rfl (by kernel_rfl)) rfl ?_
    refine ZC (Zn 21 30 false rfl (by kernel_rfl) rfl (by kernel_rfl)) rfl ?_
    refine ZC (Zn 21 30 false rfl (by kernel_rfl) rfl (by kernel_rfl)) rfl ?_
    refine Z3 (Z0 rfl) (d := 34) (v := (.bool true)) rfl (by kernel_rfl) ?_
    refine Z3 (Z0 rfl) (d := 35) (v := (.bool true)) rfl (by kernel_rfl) ?_
    refine ZC (Zn 26 35 false rfl (by kernel_rfl) rfl (by kernel_rfl)) rfl ?_
    refine ZC (Zn 26 35 false rfl (by kernel_rfl) rfl (by kernel_rfl)) rfl ?_
    refine ZC (Zn 26 35 false rfl (by kernel_rfl) rfl (by kernel_rfl)) rfl ?_
    refine ZC (Zn 26 35 false rfl (by kernel_rfl) rfl (by kernel_rfl)) rfl ?_
    refine ZC (Zn 26 35 false rfl (by kernel_rfl) rfl (by kernel_rfl)) rfl ?_
    refine ZC (Zn 26 35 false rfl (by kernel_rfl) rfl (by kernel_rfl)) rfl ?_
    refine Z3 (Z0 rfl) (d := 42) (v := (.bool true)) rfl (by kernel_rfl) ?_
    refine Zi ?_
    refine Z4 ?_
    refine Z0p rfl ?_
    refine Zb ?_
    refine Zl ?_
    refine Z3 (Z0 rfl) (d := 6) (v := (.bool false)) rfl (by kernel_rfl) ?_
    refine Zi ?_
    refine Z4 ?_
    refine ZY ?_
    refine ZP ?_
    refine Z1i rfl (ZJ (v := (.bool false)) rfl) ?_
    have n28 := Zp b13
    exact ⟨by simp only [Z1s, n28, b19, b25, Bool.not_true, Bool.not_false, Bool.true_or, Bool.false_or, Bool.or_true, Bool.or_false, Bool.and_true, Bool.true_and, Bool.and_false, Bool.false_and], H11.upd 0 rfl [] (fun _ h => h.elim)⟩
   ·have g29 := of_decide_eq_false b25
    refine ZV 24 (.bool false) (congrArg Value.bool b25) ?_
    have g30 := of_decide_eq_false b25
    refine Z3 (Zu 15 24 false rfl (by kernel_rfl) rfl (by kernel_rfl)) (d := 25) (v := (.pointer (some ⟨b6, 3, none⟩))) rfl (by kernel_rfl) ?_
    refine Z3 (Zu 15 24 false rfl (by kernel_rfl) rfl (by kernel_rfl)) (d := 26) (v := (.slice p.ca p.C.length p.cc)) rfl (Za rfl (by kernel_rfl) (H11.cell 2 rfl rfl)) ?_
    refine Z3 (Zu 15 24 false rfl (by kernel_rfl) rfl (by kernel_rfl)) (d := 27) (v := (.int .i64 ((p.C.length : Int)))) rfl (by kernel_rfl) ?_
    refine Z3 (Zu 15 24 false rfl (by kernel_rfl) rfl (by kernel_rfl)) (d := 28) (v := (.bool (decide ((p.C.length : Int) > 64)))) rfl (by kernel_rfl) ?_
    refine Z3 (Z0 rfl) (d := 29) (v := (.bool (decide ((p.C.length : Int) > 64)))) rfl (by kernel_rfl) ?_
    refine Z3 (Z0 rfl) (d := 30) (v := (.bool (decide ((p.C.length : Int) > 64)))) rfl (by kernel_rfl) ?_
    refine (ZD (decide ((p.C.length : Int) > 64))).elim (fun b31 => ?_) (fun b31 => ?_)
    ·have g32 := of_decide_eq_true b31
     refine ZV 30 (.bool true) (congrArg Value.bool b31) ?_
     have g33 := of_decide_eq_true b31
     refine ZC (Zn 21 30 false rfl (by kernel_rfl) rfl (by kernel_rfl)) rfl ?_
     refine ZC (Zn 21 30 false rfl (by kernel_rfl) rfl (by kernel_rfl)) rfl ?_
     refine ZC (Zn 21 30 false rfl (by kernel_rfl) rfl (by kernel_rfl)) rfl ?_
     refine Z3 (Z0 rfl) (d := 34) (v := (.bool true)) rfl (by kernel_rfl) ?_
     refine Z3 (Z0 rfl) (d := 35) (v := (.bool true)) rfl (by kernel_rfl) ?_
     refine ZC (Zn 26 35 false rfl (by kernel_rfl) rfl (by kernel_rfl)) rfl ?_
     refine ZC (Zn 26 35 false rfl (by kernel_rfl) rfl (by kernel_rfl)) rfl ?_
     refine ZC (Zn 26 35 false rfl (by kernel_rfl) rfl (by kernel_rfl)) rfl ?_
     refine ZC (Zn 26 35 false rfl (by kernel_rfl) rfl (by kernel_rfl)) rfl ?_
     refine ZC (Zn 26 35 false rfl (by kernel_rfl) rfl (by kernel_rfl)) rfl ?_
     refine ZC (Zn 26 35 false rfl (by kernel_rfl) rfl (by kernel_rfl)) rfl ?_
     refine Z3 (Z0 rfl) (d := 42) (v := (.bool true)) rfl (by kernel_rfl) ?_
     refine Zi ?_
     refine Z4 ?_
     refine Z0p rfl ?_
     refine Zb ?_
     refine Zl ?_
     refine Z3 (Z0 rfl) (d := 6) (v := (.bool false)) rfl (by kernel_rfl) ?_
     refine Zi ?_
     refine Z4 ?_
     refine ZY ?_
     refine ZP ?_
     refine Z1i rfl (ZJ (v := (.bool false)) rfl) ?_
     have n34 := Zp b13
     exact ⟨by simp only [Z1s, n34, b19, b25, b31, Bool.not_true, Bool.not_false, Bool.true_or, Bool.false_or, Bool.or_true, Bool.or_false, Bool.and_true, Bool.true_and, Bool.and_false, Bool.false_and], H11.upd 0 rfl [] (fun _ h => h.elim)⟩
    ·have g35 := of_decide_eq_false b31
     refine ZV 30 (.bool false) (congrArg Value.bool b31) ?_
     have g36 := of_decide_eq_false b31
     refine Z3 (Zu 21 30 false rfl (by kernel_rfl) rfl (by kernel_rfl)) (d := 31) (v := (.pointer (some ⟨b6, 2, none⟩))) rfl (by kernel_rfl) ?_
     refine Z3 (Zu 21 30 false rfl (by kernel_rfl) rfl (by kernel_rfl)) (d := 32) (v := (.int .u64 (p.f))) rfl (Za rfl (by kernel_rfl) (H11.cell 2 rfl rfl)) ?_
     refine Z3 (Zu 21 30 false rfl (by kernel_rfl) rfl (by kernel_rfl)) (d := 33) (v := (.bool (decide (p.f = 18446744073709551615)))) rfl (by kernel_rfl) ?_
     refine Z3 (Z0 rfl) (d := 34) (v := (.bool (decide (p.f = 18446744073709551615)))) rfl (by kernel_rfl) ?_
     refine Z3 (Z0 rfl) (d := 35) (v := (.bool (decide (p.f = 18446744073709551615)))) rfl (by kernel_rfl) ?_
     refine (ZD (decide (p.f = 18446744073709551615))).elim (fun b37 => ?_) (fun b37 => ?_)
     ·have g38 := of_decide_eq_true b37
      refine ZV 35 (.bool true) (congrArg Value.bool b37) ?_
      have g39 := of_decide_eq_true b37
      refine ZC (Zn 26 35 false rfl (by kernel_rfl) rfl (by kernel_rfl)) rfl ?_
      refine ZC (Zn 26 35 false rfl (by kernel_rfl) rfl (by kernel_rfl)) rfl ?_
      refine ZC (Zn 26 35 false rfl (by kernel_rfl) rfl (by kernel_rfl)) rfl ?_
      refine ZC (Zn 26 35 false rfl (by kernel_rfl) rfl (by kernel_rfl)) rfl ?_
      refine ZC (Zn 26 35 false rfl (by kernel_rfl) rfl (by kernel_rfl)) rfl ?_
      refine ZC (Zn 26 35 false rfl (by kernel_rfl) rfl (by kernel_rfl)) rfl ?_
      refine Z3 (Z0 rfl) (d := 42) (v := (.bool true)) rfl (by kernel_rfl) ?_
      refine Zi ?_
      refine Z4 ?_
      refine Z0p rfl ?_
      refine Zb ?_
      refine Zl ?_
      refine Z3 (Z0 rfl) (d := 6) (v := (.bool false)) rfl (by kernel_rfl) ?_
      refine Zi ?_
      refine Z4 ?_
      refine ZY ?_
      refine ZP ?_
      refine Z1i rfl (ZJ (v := (.bool false)) rfl) ?_
      have n40 := Zp b13
      exact ⟨by simp only [Z1s, n40, b19, b25, b31, b37, Bool.not_true, Bool.not_false, Bool.true_or, Bool.false_or, Bool.or_true, Bool.or_false, Bool.and_true, Bool.true_and, Bool.and_false, Bool.false_and], H11.upd 0 rfl [] (fun _ h => h.elim)⟩
     ·have g41 := of_decide_eq_false b37
      refine ZV 35 (.bool false) (congrArg Value.bool b37) ?_
      have g42 := of_decide_eq_false b37
      refine Z3 (Zu 26 35 false rfl (by kernel_rfl) rfl (by kernel_rfl)) (d := 36) (v := (.pointer (some ⟨b6, 4, none⟩))) rfl (by kernel_rfl) ?_
      refine Z3 (Zu 26 35 false rfl (by kernel_rfl) rfl (by kernel_rfl)) (d := 37) (v := (.pointer (some ⟨b6, 4, none⟩))) rfl (by kernel_rfl) ?_
      refine Z3 (Zu 26 35 false rfl (by kernel_rfl) rfl (by kernel_rfl)) (d := 38) (v := (.int .i64 (p.sb))) rfl (Za rfl (by kernel_rfl) (H11.cell 2 rfl rfl)) ?_
      refine Z3 (Zu 26 35 false rfl (by kernel_rfl) rfl (by kernel_rfl)) (d := 39) (v := (.pointer (some ⟨b6, 0, none⟩))) rfl (by kernel_rfl) ?_
      refine Z3 (Zu 26 35 false rfl (by kernel_rfl) rfl (by kernel_rfl)) (d := 40) (v := (.int .i64 (p.r))) rfl (Za rfl (by kernel_rfl) (H11.cell 2 rfl rfl)) ?_
      refine Z3 (Zu 26 35 false rfl (by kernel_rfl) rfl (by kernel_rfl)) (d := 41) (v := (.bool (!(decide (p.sb = p.r))))) rfl (by kernel_rfl) ?_
      refine Z3 (Z0 rfl) (d := 42) (v := (.bool (!(decide (p.sb = p.r))))) rfl (by kernel_rfl) ?_
      refine Zi ?_
      refine Z4 ?_
      refine (ZD (!(decide (p.sb = p.r)))).elim (fun b43 => ?_) (fun b43 => ?_)
      ·have g44 := ZW b43
       have g45 := of_decide_eq_false g44
       refine Zj 42 (.bool true) (congrArg Value.bool b43) ?_
       have g46 := ZW b43
       have g47 := of_decide_eq_false g46
       refine Z0p rfl ?_
       refine Zb ?_
       refine Zl ?_
       refine Z3 (Z0 rfl) (d := 6) (v := (.bool false)) rfl (by kernel_rfl) ?_
       refine Zi ?_
       refine Z4 ?_
       refine ZY ?_
       refine ZP ?_
       refine Z1i rfl (ZJ (v := (.bool false)) rfl) ?_
       have n48 := Zp b13
       have n49 := ZW b43
       exact ⟨by simp only [Z1s, n48, b19, b25, b31, b37, n49, Bool.not_true, Bool.not_false, Bool.true_or, Bool.false_or, Bool.or_true, Bool.or_false, Bool.and_true, Bool.true_and, Bool.and_false, Bool.false_and], H11.upd 0 rfl [] (fun _ h => h.elim)⟩
      ·have g50 := Zp b43
       have g51 := of_decide_eq_true g50
       refine Zj 42 (.bool false) (congrArg Value.bool b43) ?_
       have g52 := Zp b43
       have g53 := of_decide_eq_true g52
       refine Z0r rfl ?_
       refine ZZ ?_
       refine Z4 ?_
       refine Zb ?_
       refine Zb ?_
       refine Zl ?_
       refine Z3 (Z0 rfl) (d := 43) (v := (.pointer (some ⟨b6, 3, none⟩))) rfl (by kernel_rfl) ?_
       refine Z3 (Z0 rfl) (d := 44) (v := (.slice p.ca p.C.length p.cc)) rfl (Za rfl (by kernel_rfl) (H11.cell 2 rfl rfl)) ?_
       refine Z3 (Z0 rfl) (d := 45) (v := (.int .i64 ((p.C.length : Int)))) rfl (by kernel_rfl) ?_
       refine Z3 (Z0 rfl) (d := 46) (v := (.int .i64 (0))) rfl (by kernel_rfl) ?_
       refine Zi ?_
       refine Z4 ?_
       refine ZO ?_
       have n54 := Zp b13
       have n55 := Zp b43
       refine Z0c [6, 7, 8, 46, 47, 48, 49, 50, 51, 52, 53, 54, 55, 56, 57, 58, 59, 60, 61, 62, 63, 64, 65, 66, 67, 68, 69, 70, 71, 72, 73, 74, 75, 76, 77, 78, 79, 80] (fun F_ W_ m_ => ∃ (i : Nat), F_ 46 = (.int .i64 ((i : Int))) ∧ (i ≤ p.C.length) ∧ (∀ j, j < i → Z5Q f cn L p.f p.C j = true) ∧ Sat w [Z5 w (fun _ => False), Z1 b2 36 ([(.int .i64 (f)), (.int .i64 (cn))] : List Value), Z1 b6 34 ([(.int .i64 (p.r)), (.int .i64 (p.e)), (.int .u64 (p.f)), (.slice p.ca p.C.length p.cc), (.int .i64 (p.sb)), (.int .i64 (p.sm))] : List Value)] W_ ∧ m_ = p.C.length - i) _ ⟨0, (show ((.int .i64 (0)) : Value) = _ by first | rfl | go_num), (Nat.zero_le _), (fun _ h => absurd h (Nat.not_lt_zero _)), H11, rfl⟩ ?_
       rintro g56 w57 _ ⟨i, v59, hi, hall, H58, rfl⟩
       refine Zj 46 _ v59 ?_
       refine Zb ?_
       refine Zl ?_
       refine Z3 (Z0 rfl) (d := 47) (v := (.bool (decide ((i : Int) < (p.C.length : Int))))) rfl (by kernel_rfl) ?_
       refine Zi ?_
       refine Z4 ?_
       refine Zb ?_
       refine (ZD (decide ((i : Int) < (p.C.length : Int)))).elim (fun b61 => ?_) (fun b61 => ?_)
       ·have g62 := of_decide_eq_true b61
        refine Zj 47 (.bool true) (congrArg Value.bool b61) ?_
        have g63 := of_decide_eq_true b61
        refine Z0p rfl ?_
        refine ZZ ?_
        refine Z4 ?_
        refine Zb ?_
        refine ZO ?_
        refine Zb ?_
        refine Zl ?_
        refine Z3 (Z0 rfl) (d := 48) (v := (.int .i64 ((i : Int)))) rfl (by kernel_rfl) ?_
        obtain ⟨g64, o65, c66, e67, R68⟩ := SliceOf.atD hC ce0 (show i < p.C.length by omega)
        refine Z3 (Z0 rfl) (d := 49) (v := (.pointer (some ⟨g64, o65 + ((i : Int)).toNat * 38, none⟩))) rfl (Z0j (E := 53) (by kernel_rfl) (by kernel_rfl) (Nat.le_of_ble_eq_true rfl) rfl e67 rfl (by omega) (by omega)) ?_
        refine Z3 (Z0 rfl) (d := 50) (v := (.agg ⟨(([(.int .i64 ((p.C.getD i ce0).x.cl)), (.int .i64 ((p.C.getD i ce0).x.seq))] : List Value) ++ hc (p.C.getD i ce0).x.h ++ ([(.int .i64 ((p.C.getD i ce0).x.len)), (.int .i64 ((p.C.getD i ce0).x.sb)), (.int .i64 ((p.C.getD i ce0).x.sm)), (.slice (p.C.getD i ce0).sa ((p.C.getD i ce0).S).length (p.C.getD i ce0).sc)] : List Value))⟩)) rfl (Z1C (vs := (([(.int .i64 ((p.C.getD i ce0).x.cl)), (.int .i64 ((p.C.getD i ce0).x.seq))] : List Value) ++ hc (p.C.getD i ce0).x.h ++ ([(.int .i64 ((p.C.getD i ce0).x.len)), (.int .i64 ((p.C.getD i ce0).x.sb)), (.int .i64 ((p.C.getD i ce0).x.sm)), (.slice (p.C.getD i ce0).sa ((p.C.getD i ce0).S).length (p.C.getD i ce0).sc)] : List Value))) rfl (by kernel_rfl) (by kernel_rfl) (Nat.le_of_ble_eq_true (by kernel_rfl)) (H58.runR 0 rfl (Z2s R68 0 (by kernel_rfl) (show o65 + ((i : Int)).toNat * 38 = o65 + i * 38 + 0 by omega)) (fun h => h))) ?_
        refine ZQ (Z0 rfl) (fun K69 hK69 => ?_)
        refine Z19 (zs := (([(.int .i64 (0)), (.int .i64 (0))] : List Value) ++ hc Zt ++ ([(.int .i64 (0)), (.int .i64 (0)), (.int .i64 (0)), (.slice none 0 0)] : List Value))) (z := (.agg ⟨(([(.int .i64 (0)), (.int .i64 (0))] : List Value) ++ hc Zt ++ ([(.int .i64 (0)), (.int .i64 (0)), (.int .i64 (0)), (.slice none 0 0)] : List Value))⟩)) rfl H58 (by kernel_rfl) (by kernel_rfl) ?_
        intro b70 w71 (H72 : Sat w [Z5 w (fun _ => False), Z1 b2 36 ([(.int .i64 (f)), (.int .i64 (cn))] : List Value), Z1 b6 34 ([(.int .i64 (p.r)), (.int .i64 (p.e)), (.int .u64 (p.f)), (.slice p.ca p.C.length p.cc), (.int .i64 (p.sb)), (.int .i64 (p.sm))] : List Value), Z1 b70 53 (([(.int .i64 (0)), (.int .i64 (0))] : List Value) ++ hc Zt ++ ([(.int .i64 (0)), (.int .i64 (0)), (.int .i64 (0)), (.slice none 0 0)] : List Value))] w71)
        refine hK69 _ _ ?_
        clear hK69 K69
        refine Z3 (Z0 rfl) (d := 7) (v := (.int .i64 ((i : Int)))) rfl (by kernel_rfl) ?_
        refine ZQ (Z0 rfl) (fun K73 hK73 => ?_)
        refine Z0q (vs := (([(.int .i64 ((p.C.getD i ce0).x.cl)), (.int .i64 ((p.C.getD i ce0).x.seq))] : List Value) ++ hc (p.C.getD i ce0).x.h ++ ([(.int .i64 ((p.C.getD i ce0).x.len)), (.int .i64 ((p.C.getD i ce0).x.sb)), (.int .i64 ((p.C.getD i ce0).x.sm)), (.slice (p.C.getD i ce0).sa ((p.C.getD i ce0).S).length (p.C.getD i ce0).sc)] : List Value))) (cs' := (([(.int .i64 ((p.C.getD i ce0).x.cl)), (.int .i64 ((p.C.getD i ce0).x.seq))] : List Value) ++ hc (p.C.getD i ce0).x.h ++ ([(.int .i64 ((p.C.getD i ce0).x.len)), (.int .i64 ((p.C.getD i ce0).x.sb)), (.int .i64 ((p.C.getD i ce0).x.sm)), (.slice (p.C.getD i ce0).sa ((p.C.getD i ce0).S).length (p.C.getD i ce0).sc)] : List Value))) rfl H72 3 rfl rfl rfl rfl (by kernel_rfl) (Nat.le_of_ble_eq_true (by kernel_rfl)) (Nat.le_of_ble_eq_true (by kernel_rfl)) (by kernel_rfl) (by kernel_rfl) ?_
        intro w74 (H75 : Sat w [Z5 w (fun _ => False), Z1 b2 36 ([(.int .i64 (f)), (.int .i64 (cn))] : List Value), Z1 b6 34 ([(.int .i64 (p.r)), (.int .i64 (p.e)), (.int .u64 (p.f)), (.slice p.ca p.C.length p.cc), (.int .i64 (p.sb)), (.int .i64 (p.sm))] : List Value), Z1 b70 53 (([(.int .i64 ((p.C.getD i ce0).x.cl)), (.int .i64 ((p.C.getD i ce0).x.seq))] : List Value) ++ hc (p.C.getD i ce0).x.h ++ ([(.int .i64 ((p.C.getD i ce0).x.len)), (.int .i64 ((p.C.getD i ce0).x.sb)), (.int .i64 ((p.C.getD i ce0).x.sm)), (.slice (p.C.getD i ce0).sa ((p.C.getD i ce0).S).length (p.C.getD i ce0).sc)] : List Value))] w74)
        refine hK73 _ _ ?_
        clear hK73 K73
        refine Zi ?_
        refine Z4 ?_
        refine Zb ?_
        refine Zb ?_
        refine Z2k H75 (by kernel_rfl) (by kernel_rfl) ?_
        refine ZT (Z0 rfl) (d := 51) (v := (.int .i64 ((i : Int)))) rfl (fun _ H' => (by kernel_rfl)) ?_
        refine ZT (Z0 rfl) (d := 52) (v := (.bool (decide ((i : Int) > 0)))) rfl (fun _ H' => (by kernel_rfl)) ?_
        refine ZT (Z0 rfl) (d := 53) (v := (.bool (decide ((i : Int) > 0)))) rfl (fun _ H' => (by kernel_rfl)) ?_
        refine (ZD (decide ((i : Int) > 0))).elim (fun b77 => ?_) (fun b77 => ?_)
        ·have g78 := of_decide_eq_true b77
         refine Z1T 53 (.bool true) (congrArg Value.bool b77) ?_
         have g79 := of_decide_eq_true b77
         refine ZT (Zu 2 53 true rfl (by kernel_rfl) rfl (by kernel_rfl)) (d := 54) (v := (.pointer (some ⟨b6, 3, none⟩))) rfl (fun _ H' => (by kernel_rfl)) ?_
         refine ZT (Zu 2 53 true rfl (by kernel_rfl) rfl (by kernel_rfl)) (d := 55) (v := (.slice p.ca p.C.length p.cc)) rfl (fun _ H' => (Za rfl (by kernel_rfl) (H'.cell 2 rfl rfl))) ?_
         refine ZT (Zu 2 53 true rfl (by kernel_rfl) rfl (by kernel_rfl)) (d := 56) (v := (.int .i64 ((i : Int)))) rfl (fun _ H' => (by kernel_rfl)) ?_
         refine ZT (Zu 2 53 true rfl (by kernel_rfl) rfl (by kernel_rfl)) (d := 57) (v := (.int .i64 ((i : Int) - 1))) rfl (fun _ H' => (Z0l (z := (i : Int) - 1) (by kernel_rfl) (IntWalk.i64_in _ (by omega)))) ?_
         obtain ⟨g80, o81, c82, e83, R84⟩ := SliceOf.atD hC ce0 (show ((i : Int) - 1).toNat < p.C.length by omega)
         refine ZT (Zu 2 53 true rfl (by kernel_rfl) rfl (by kernel_rfl)) (d := 58) (v := (.pointer (some ⟨g80, o81 + ((i : Int) - 1).toNat * 38, none⟩))) rfl (fun _ H' => (Z0j (E := 53) (by kernel_rfl) (by kernel_rfl) (Nat.le_of_ble_eq_true rfl) rfl e83 rfl (by omega) (by omega))) ?_
         refine ZT (Zu 2 53 true rfl (by kernel_rfl) rfl (by kernel_rfl)) (d := 59) (v := (.pointer (some ⟨g80, o81 + ((i : Int) - 1).toNat * 38, none⟩))) rfl (fun _ H' => (by kernel_rfl)) ?_
         refine ZT (Zu 2 53 true rfl (by kernel_rfl) rfl (by kernel_rfl)) (d := 60) (v := (.pointer (some ⟨g80, o81 + ((i : Int) - 1).toNat * 38, none⟩))) rfl (fun _ H' => (by kernel_rfl)) ?_
         refine ZT (Zu 2 53 true rfl (by kernel_rfl) rfl (by kernel_rfl)) (d := 61) (v := (.agg ⟨([(.int .i64 ((p.C.getD ((i : Int) - 1).toNat ce0).x.cl)), (.int .i64 ((p.C.getD ((i : Int) - 1).toNat ce0).x.seq))] : List Value)⟩)) rfl (fun _ H' => (Z1C (vs := ([(.int .i64 ((p.C.getD ((i : Int) - 1).toNat ce0).x.cl)), (.int .i64 ((p.C.getD ((i : Int) - 1).toNat ce0).x.seq))] : List Value)) rfl (by kernel_rfl) (by kernel_rfl) (Nat.le_of_ble_eq_true (by kernel_rfl)) (H'.runR 0 rfl (Z2s R84 0 (by kernel_rfl) (show o81 + ((i : Int) - 1).toNat * 38 = o81 + ((i : Int) - 1).toNat * 38 + 0 by omega)) (fun h => h)))) ?_
         refine ZT (Zu 2 53 true rfl (by kernel_rfl) rfl (by kernel_rfl)) (d := 62) (v := (.pointer (some ⟨b70, 0, none⟩))) rfl (fun _ H' => (by kernel_rfl)) ?_
         refine ZT (Zu 2 53 true rfl (by kernel_rfl) rfl (by kernel_rfl)) (d := 63) (v := (.pointer (some ⟨b70, 0, none⟩))) rfl (fun _ H' => (by kernel_rfl)) ?_
         refine ZT (Zu 2 53 true rfl (by kernel_rfl) rfl (by kernel_rfl)) (d := 64) (v := (.agg ⟨([(.int .i64 ((p.C.getD i ce0).x.cl)), (.int .i64 ((p.C.getD i ce0).x.seq))] : List Value)⟩)) rfl (fun _ H' => (Zs (vs := ([(.int .i64 ((p.C.getD i ce0).x.cl)), (.int .i64 ((p.C.getD i ce0).x.seq))] : List Value)) rfl (by kernel_rfl) (by kernel_rfl) (by exact Nat.le_of_ble_eq_true (by kernel_rfl)) (H'.at 3 rfl) (by kernel_rfl))) ?_
         refine Z1E (Zu 2 53 true rfl (by kernel_rfl) rfl (by kernel_rfl)) (d := 65) (v := (.int .i64 (or2 (Z2H ((p.C.getD ((i : Int) - 1).toNat ce0).x.cl) ((p.C.getD i ce0).x.cl)) (Z2H ((p.C.getD ((i : Int) - 1).toNat ce0).x.seq) ((p.C.getD i ce0).x.seq))))) rfl (fun _ _ => by kernel_rfl) (fun w' H' => (Z6n w' ((p.C.getD ((i : Int) - 1).toNat ce0).x.cl) ((p.C.getD ((i : Int) - 1).toNat ce0).x.seq) ((p.C.getD i ce0).x.cl) ((p.C.getD i ce0).x.seq)).mono fun _ _ h => ⟨h.1, H'.keepU h.2⟩) ?_
         refine ZT (Zu 2 53 true rfl (by kernel_rfl) rfl (by kernel_rfl)) (d := 66) (v := (.bool (decide ((or2 (Z2H ((p.C.getD ((i : Int) - 1).toNat ce0).x.cl) ((p.C.getD i ce0).x.cl)) (Z2H ((p.C.getD ((i : Int) - 1).toNat ce0).x.seq) ((p.C.getD i ce0).x.seq))) ≥ 0)))) rfl (fun _ H' => (by kernel_rfl)) ?_
         refine ZT (Z0 rfl) (d := 67) (v := (.bool (decide ((or2 (Z2H ((p.C.getD ((i : Int) - 1).toNat ce0).x.cl) ((p.C.getD i ce0).x.cl)) (Z2H ((p.C.getD ((i : Int) - 1).toNat ce0).x.seq) ((p.C.getD i ce0).x.seq))) ≥ 0)))) rfl (fun _ H' => (by kernel_rfl)) ?_
         refine Z1Q ?_
         intro w85 H86
         refine Z4 ?_
         refine (ZD (decide ((or2 (Z2H ((p.C.getD ((i : Int) - 1).toNat ce0).x.cl) ((p.C.getD i ce0).x.cl)) (Z2H ((p.C.getD ((i : Int) - 1).toNat ce0).x.seq) ((p.C.getD i ce0).x.seq))) ≥ 0))).elim (fun b87 => ?_) (fun b87 => ?_)
         ·have g88 := of_decide_eq_true b87
          refine Zj 67 (.bool true) (congrArg Value.bool b87) ?_
          have g89 := of_decide_eq_true b87
          refine Z0p rfl ?_
          refine Zb ?_
          refine Zl ?_
          refine Z3 (Z0 rfl) (d := 6) (v := (.bool false)) rfl (by kernel_rfl) ?_
          refine Zi ?_
          refine Z4 ?_
          refine ZY ?_
          refine ZP ?_
          refine Z0u ?_
          refine ZP ?_
          refine Z16 ?_
          refine Z0u ?_
          refine ZP ?_
          refine Z1i rfl (ZJ (v := (.bool false)) rfl) ?_
          have e1 : ((i : Int) - 1).toNat = i - 1 := by omega
          have ho : Z5Q f cn L p.f p.C i = false := by unfold Z5Q; rw [← e1]; simp only [Z1q, b61, b77, b87, Bool.not_true, Bool.not_false, Bool.true_or, Bool.false_or, Bool.or_true, Bool.or_false, Bool.and_true, Bool.true_and, Bool.and_false, Bool.false_and]
          exact ⟨by simp only [Z1s, Z1R (show i < p.C.length by omega) ho, Bool.and_false], H86.upd 0 rfl [] (fun _ h => h.elim)⟩
         ·have g90 := of_decide_eq_false b87
          refine Zj 67 (.bool false) (congrArg Value.bool b87) ?_
          have g91 := of_decide_eq_false b87
          refine Z0r rfl ?_
          refine ZZ ?_
          refine Z4 ?_
          refine Zb ?_
          refine Z2k H86 (by kernel_rfl) (by kernel_rfl) ?_
          refine ZT (Z0 rfl) (d := 68) (v := (.agg ⟨([(.int .i64 (f)), (.int .i64 (cn))] : List Value)⟩)) rfl (fun _ H' => (Zs (vs := ([(.int .i64 (f)), (.int .i64 (cn))] : List Value)) rfl (by kernel_rfl) (by kernel_rfl) (by exact Nat.le_of_ble_eq_true (by kernel_rfl)) (H'.at 1 rfl) (by kernel_rfl))) ?_
          refine ZT (Z0 rfl) (d := 69) (v := (.pointer (some ⟨b, 0, none⟩))) rfl (fun _ H' => (by kernel_rfl)) ?_
          refine ZT (Z0 rfl) (d := 70) (v := (.agg ⟨(([(.int .i64 ((p.C.getD i ce0).x.cl)), (.int .i64 ((p.C.getD i ce0).x.seq))] : List Value) ++ hc (p.C.getD i ce0).x.h ++ ([(.int .i64 ((p.C.getD i ce0).x.len)), (.int .i64 ((p.C.getD i ce0).x.sb)), (.int .i64 ((p.C.getD i ce0).x.sm)), (.slice (p.C.getD i ce0).sa ((p.C.getD i ce0).S).length (p.C.getD i ce0).sc)] : List Value))⟩)) rfl (fun _ H' => (Zs (vs := (([(.int .i64 ((p.C.getD i ce0).x.cl)), (.int .i64 ((p.C.getD i ce0).x.seq))] : List Value) ++ hc (p.C.getD i ce0).x.h ++ ([(.int .i64 ((p.C.getD i ce0).x.len)), (.int .i64 ((p.C.getD i ce0).x.sb)), (.int .i64 ((p.C.getD i ce0).x.sm)), (.slice (p.C.getD i ce0).sa ((p.C.getD i ce0).S).length (p.C.getD i ce0).sc)] : List Value))) rfl (by kernel_rfl) (by kernel_rfl) (by exact Nat.le_of_ble_eq_true (by kernel_rfl)) (H'.at 3 rfl) (by kernel_rfl))) ?_
          refine Z1E (Z0 rfl) (d := 71) (v := (.bool (Z08 f cn L (p.C.getD i ce0).x (p.C.getD i ce0).S))) rfl (fun _ _ => by kernel_rfl) (fun w' H' => (Z37 w' f cn (by omega) b mb L (H'.roCk 0 rfl hb (fun _ _ h => h)) (H'.roMap 0 rfl hm (fun h => h)) (p.C.getD i ce0).x ((hB i (by omega)).keep H' 0 rfl).x.1 (p.C.getD i ce0).sa (p.C.getD i ce0).sc (p.C.getD i ce0).S ((hB i (by omega)).keep H' 0 rfl).at_ (fun i_ hi_ => (((hB i (by omega)).keep H' 0 rfl).S i_ hi_).1) (by have q := h12 i (by omega); omega)).mono fun _ _ h => ⟨h.1, H'.keepU h.2⟩) ?_
          refine ZT (Z0 rfl) (d := 72) (v := (.bool (!(Z08 f cn L (p.C.getD i ce0).x (p.C.getD i ce0).S)))) rfl (fun _ H' => (by kernel_rfl)) ?_
          refine ZT (Z0 rfl) (d := 73) (v := (.bool (!(Z08 f cn L (p.C.getD i ce0).x (p.C.getD i ce0).S)))) rfl (fun _ H' => (by kernel_rfl)) ?_
          refine (ZD (!(Z08 f cn L (p.C.getD i ce0).x (p.C.getD i ce0).S))).elim (fun b92 => ?_) (fun b92 => ?_)
          ·have g93 := ZW b92
           refine Z1T 73 (.bool true) (congrArg Value.bool b92) ?_
           have g94 := ZW b92
           refine Z0d (Zn 5 73 false rfl (by kernel_rfl) rfl (by kernel_rfl)) rfl ?_
           refine Z0d (Zn 5 73 false rfl (by kernel_rfl) rfl (by kernel_rfl)) rfl ?_
           refine Z0d (Zn 5 73 false rfl (by kernel_rfl) rfl (by kernel_rfl)) rfl ?_
           refine Z0d (Zn 5 73 false rfl (by kernel_rfl) rfl (by kernel_rfl)) rfl ?_
           refine Z0d (Zn 5 73 false rfl (by kernel_rfl) rfl (by kernel_rfl)) rfl ?_
           refine ZT (Z0 rfl) (d := 79) (v := (.bool true)) rfl (fun _ H' => (by kernel_rfl)) ?_
           refine Z1Q ?_
           intro w95 H96
           refine Z4 ?_
           refine Z0p rfl ?_
           refine Zb ?_
           refine Zl ?_
           refine Z3 (Z0 rfl) (d := 6) (v := (.bool false)) rfl (by kernel_rfl) ?_
           refine Zi ?_
           refine Z4 ?_
           refine ZY ?_
           refine Z0u ?_
           refine ZP ?_
           refine Z16 ?_
           refine Z0u ?_
           refine ZP ?_
           refine Z1i rfl (ZJ (v := (.bool false)) rfl) ?_
           have n97 := ZW b92
           have e1 : ((i : Int) - 1).toNat = i - 1 := by omega
           have ho : Z5Q f cn L p.f p.C i = false := by unfold Z5Q; rw [← e1]; simp only [Z1q, b61, b77, b87, n97, Bool.not_true, Bool.not_false, Bool.true_or, Bool.false_or, Bool.or_true, Bool.or_false, Bool.and_true, Bool.true_and, Bool.and_false, Bool.false_and]
           exact ⟨by simp only [Z1s, Z1R (show i < p.C.length by omega) ho, Bool.and_false], H96.upd 0 rfl [] (fun _ h => h.elim)⟩
          ·have g98 := Zp b92
           refine Z1T 73 (.bool false) (congrArg Value.bool b92) ?_
           have g99 := Zp b92
           refine ZT (Zu 5 73 false rfl (by kernel_rfl) rfl (by kernel_rfl)) (d := 74) (v := (.agg ⟨(([(.int .i64 ((p.C.getD i ce0).x.cl)), (.int .i64 ((p.C.getD i ce0).x.seq))] : List Value) ++ hc (p.C.getD i ce0).x.h ++ ([(.int .i64 ((p.C.getD i ce0).x.len)), (.int .i64 ((p.C.getD i ce0).x.sb)), (.int .i64 ((p.C.getD i ce0).x.sm)), (.slice (p.C.getD i ce0).sa ((p.C.getD i ce0).S).length (p.C.getD i ce0).sc)] : List Value))⟩)) rfl (fun _ H' => (Zs (vs := (([(.int .i64 ((p.C.getD i ce0).x.cl)), (.int .i64 ((p.C.getD i ce0).x.seq))] : List Value) ++ hc (p.C.getD i ce0).x.h ++ ([(.int .i64 ((p.C.getD i ce0).x.len)), (.int .i64 ((p.C.getD i ce0).x.sb)), (.int .i64 ((p.C.getD i ce0).x.sm)), (.slice (p.C.getD i ce0).sa ((p.C.getD i ce0).S).length (p.C.getD i ce0).sc)] : List Value))) rfl (by kernel_rfl) (by kernel_rfl) (by exact Nat.le_of_ble_eq_true (by kernel_rfl)) (H'.at 3 rfl) (by kernel_rfl))) ?_
           refine Z1E (Zu 5 73 false rfl (by kernel_rfl) rfl (by kernel_rfl)) (d := 75) (v := (.int .u64 ((Z8 (p.C.getD i ce0).S)))) rfl (fun _ _ => by kernel_rfl) (fun w' H' => (Z1y w' (p.C.getD i ce0).x (p.C.getD i ce0).sa (p.C.getD i ce0).sc (p.C.getD i ce0).S ((hB i (by omega)).keep H' 0 rfl).at_ (h12 i (by omega))).mono fun _ _ h => ⟨h.1, H'.keepU h.2⟩) ?_
           refine ZT (Zu 5 73 false rfl (by kernel_rfl) rfl (by kernel_rfl)) (d := 76) (v := (.pointer (some ⟨b6, 2, none⟩))) rfl (fun _ H' => (by kernel_rfl)) ?_
           refine ZT (Zu 5 73 false rfl (by kernel_rfl) rfl (by kernel_rfl)) (d := 77) (v := (.int .u64 (p.f))) rfl (fun _ H' => (Za rfl (by kernel_rfl) (H'.cell 2 rfl rfl))) ?_
           refine ZT (Zu 5 73 false rfl (by kernel_rfl) rfl (by kernel_rfl)) (d := 78) (v := (.bool (decide ((Z8 (p.C.getD i ce0).S) > p.f)))) rfl (fun _ H' => (by kernel_rfl)) ?_
           refine ZT (Z0 rfl) (d := 79) (v := (.bool (decide ((Z8 (p.C.getD i ce0).S) > p.f)))) rfl (fun _ H' => (by kernel_rfl)) ?_
           refine Z1Q ?_
           intro w100 H101
           refine Z4 ?_
           refine (ZD (decide ((Z8 (p.C.getD i ce0).S) > p.f))).elim (fun b102 => ?_) (fun b102 => ?_)
           ·have g103 := of_decide_eq_true b102
            refine Zj 79 (.bool true) (congrArg Value.bool b102) ?_
            have g104 := of_decide_eq_true b102
            refine Z0p rfl ?_
            refine Zb ?_
            refine Zl ?_
            refine Z3 (Z0 rfl) (d := 6) (v := (.bool false)) rfl (by kernel_rfl) ?_
            refine Zi ?_
            refine Z4 ?_
            refine ZY ?_
            refine Z0u ?_
            refine ZP ?_
            refine Z16 ?_
            refine Z0u ?_
            refine ZP ?_
            refine Z1i rfl (ZJ (v := (.bool false)) rfl) ?_
            have n105 := Zp b92
            have e1 : ((i : Int) - 1).toNat = i - 1 := by omega
            have ho : Z5Q f cn L p.f p.C i = false := by unfold Z5Q; rw [← e1]; simp only [Z1q, b61, b77, b87, n105, b102, Bool.not_true, Bool.not_false, Bool.true_or, Bool.false_or, Bool.or_true, Bool.or_false, Bool.and_true, Bool.true_and, Bool.and_false, Bool.false_and]
            exact ⟨by simp only [Z1s, Z1R (show i < p.C.length by omega) ho, Bool.and_false], H101.upd 0 rfl [] (fun _ h => h.elim)⟩
           ·have g106 := of_decide_eq_false b102
            refine Zj 79 (.bool false) (congrArg Value.bool b102) ?_
            have g107 := of_decide_eq_false b102
            refine Z0r rfl ?_
            refine ZZ ?_
            refine ZE ?_
            refine Z4 ?_
            refine Zl ?_
            refine Z3 (Z0 rfl) (d := 80) (v := (.int .i64 ((i : Int) + 1))) rfl (Z0l (z := (i : Int) + 1) (by kernel_rfl) (IntWalk.i64_in _ (by omega))) ?_
            refine Z3 (Z0 rfl) (d := 46) (v := (.int .i64 ((i : Int) + 1))) rfl (by kernel_rfl) ?_
            refine Zi ?_
            have n108 := Zp b92
            have e1 : ((i : Int) - 1).toNat = i - 1 := by omega
            have ho : Z5Q f cn L p.f p.C i = true := by unfold Z5Q; rw [← e1]; simp only [Z1q, b61, b77, b87, n108, b102, Bool.not_true, Bool.not_false, Bool.true_or, Bool.false_or, Bool.or_true, Bool.or_false, Bool.and_true, Bool.true_and, Bool.and_false, Bool.false_and]
            have H109 : Sat w [Z5 w (fun _ => False), Z1 b2 36 ([(.int .i64 (f)), (.int .i64 (cn))] : List Value), Z1 b6 34 ([(.int .i64 (p.r)), (.int .i64 (p.e)), (.int .u64 (p.f)), (.slice p.ca p.C.length p.cc), (.int .i64 (p.sb)), (.int .i64 (p.sm))] : List Value)] w100 := H101.pick [0, 1, 2] (by decide)
            refine ZH ?_ _ ⟨(i + 1), (show ((.int .i64 ((i : Int) + 1)) : Value) = _ by first | rfl | go_num), (by omega), (fun j hj => by rcases Nat.lt_or_ge j i with h | h; exact hall j h; rw [show j = i by omega]; exact ho), H109, rfl⟩ (by omega)
            exact (Z2 rfl (Z2 rfl (Z2 rfl (Z2 rfl (Z2 rfl (Z2 rfl (Z2 rfl (Z2 rfl (Z2 rfl (Z2 rfl (Z2 rfl (Z2 rfl (Z2 rfl (Z2 rfl (Z2 rfl (Z2 rfl (Z2 rfl (Z2 rfl (Z2 rfl (Z2 rfl (Z2 rfl (Z2 rfl (Z2 rfl (Z2 rfl (Z2 rfl (Z2 rfl (Z2 rfl (Z2 rfl (Z2 rfl (Z2 rfl (Z2 rfl (Z2 rfl (Z2 rfl (Z2 rfl (Z2 rfl (Z2 rfl (Z2 rfl (Z2 rfl (Z2 rfl (Z2 rfl (Z2 rfl (Z2 rfl (Z2 rfl (Z0S))))))))))))))))))))))))))))))))))))))))))))
        ·have g110 := of_decide_eq_false b77
         refine Z1T 53 (.bool false) (congrArg Value.bool b77) ?_
         have g111 := of_decide_eq_false b77
         refine Z0d (Zn 2 53 true rfl (by kernel_rfl) rfl (by kernel_rfl)) rfl ?_
         refine Z0d (Zn 2 53 true rfl (by kernel_rfl) rfl (by kernel_rfl)) rfl ?_
         refine Z0d (Zn 2 53 true rfl (by kernel_rfl) rfl (by kernel_rfl)) rfl ?_
         refine Z0d (Zn 2 53 true rfl (by kernel_rfl) rfl (by kernel_rfl)) rfl ?_
         refine Z0d (Zn 2 53 true rfl (by kernel_rfl) rfl (by kernel_rfl)) rfl ?_
         refine Z0d (Zn 2 53 true rfl (by kernel_rfl) rfl (by kernel_rfl)) rfl ?_
         refine Z0d (Zn 2 53 true rfl (by kernel_rfl) rfl (by kernel_rfl)) rfl ?_
         refine Z0d (Zn 2 53 true rfl (by kernel_rfl) rfl (by kernel_rfl)) rfl ?_
         refine Z0d (Zn 2 53 true rfl (by kernel_rfl) rfl (by kernel_rfl)) rfl ?_
         refine Z0d (Zn 2 53 true rfl (by kernel_rfl) rfl (by kernel_rfl)) rfl ?_
         refine Z0d (Zn 2 53 true rfl (by kernel_rfl) rfl (by kernel_rfl)) rfl ?_
         refine Z0d (Zn 2 53 true rfl (by kernel_rfl) rfl (by kernel_rfl)) rfl ?_
         refine Z0d (Zn 2 53 true rfl (by kernel_rfl) rfl (by kernel_rfl)) rfl ?_
         refine ZT (Z0 rfl) (d := 67) (v := (.bool false)) rfl (fun _ H' => (by kernel_rfl)) ?_
         refine Z1Q ?_
         intro w112 H113
         refine Z4 ?_
         refine Z0r rfl ?_
         refine ZZ ?_
         refine Z4 ?_
         refine Zb ?_
         refine Z2k H113 (by kernel_rfl) (by kernel_rfl) ?_
         refine ZT (Z0 rfl) (d := 68) (v := (.agg ⟨([(.int .i64 (f)), (.int .i64 (cn))] : List Value)⟩)) rfl (fun _ H' => (Zs (vs := ([(.int .i64 (f)), (.int .i64 (cn))] : List Value)) rfl (by kernel_rfl) (by kernel_rfl) (by exact Nat.le_of_ble_eq_true (by kernel_rfl)) (H'.at 1 rfl) (by kernel_rfl))) ?_
         refine ZT (Z0 rfl) (d := 69) (v := (.pointer (some ⟨b, 0, none⟩))) rfl (fun _ H' => (by kernel_rfl)) ?_
         refine ZT (Z0 rfl) (d := 70) (v := (.agg ⟨(([(.int .i64 ((p.C.getD i ce0).x.cl)), (.int .i64 ((p.C.getD i ce0).x.seq))] : List Value) ++ hc (p.C.getD i ce0).x.h ++ ([(.int .i64 ((p.C.getD i ce0).x.len)), (.int .i64 ((p.C.getD i ce0).x.sb)), (.int .i64 ((p.C.getD i ce0).x.sm)), (.slice (p.C.getD i ce0).sa ((p.C.getD i ce0).S).length (p.C.getD i ce0).sc)] : List Value))⟩)) rfl (fun _ H' => (Zs (vs := (([(.int .i64 ((p.C.getD i ce0).x.cl)), (.int .i64 ((p.C.getD i ce0).x.seq))] : List Value) ++ hc (p.C.getD i ce0).x.h ++ ([(.int .i64 ((p.C.getD i ce0).x.len)), (.int .i64 ((p.C.getD i ce0).x.sb)), (.int .i64 ((p.C.getD i ce0).x.sm)), (.slice (p.C.getD i ce0).sa ((p.C.getD i ce0).S).length (p.C.getD i ce0).sc)] : List Value))) rfl (by kernel_rfl) (by kernel_rfl) (by exact Nat.le_of_ble_eq_true (by kernel_rfl)) (H'.at 3 rfl) (by kernel_rfl))) ?_
         refine Z1E (Z0 rfl) (d := 71) (v := (.bool (Z08 f cn L (p.C.getD i ce0).x (p.C.getD i ce0).S))) rfl (fun _ _ => by kernel_rfl) (fun w' H' => (Z37 w' f cn (by omega) b mb L (H'.roCk 0 rfl hb (fun _ _ h => h)) (H'.roMap 0 rfl hm (fun h => h)) (p.C.getD i ce0).x ((hB i (by omega)).keep H' 0 rfl).x.1 (p.C.getD i ce0).sa (p.C.getD i ce0).sc (p.C.getD i ce0).S ((hB i (by omega)).keep H' 0 rfl).at_ (fun i_ hi_ => (((hB i (by omega)).keep H' 0 rfl).S i_ hi_).1) (by have q := h12 i (by omega); omega)).mono fun _ _ h => ⟨h.1, H'.keepU h.2⟩) ?_
         refine ZT (Z0 rfl) (d := 72) (v := (.bool (!(Z08 f cn L (p.C.getD i ce0).x (p.C.getD i ce0).S)))) rfl (fun _ H' => (by kernel_rfl)) ?_
         refine ZT (Z0 rfl) (d := 73) (v := (.bool (!(Z08 f cn L (p.C.getD i ce0).x (p.C.getD i ce0).S)))) rfl (fun _ H' => (by kernel_rfl)) ?_
         refine (ZD (!(Z08 f cn L (p.C.getD i ce0).x (p.C.getD i ce0).S))).elim (fun b114 => ?_) (fun b114 => ?_)
         ·have g115 := ZW b114
          refine Z1T 73 (.bool true) (congrArg Value.bool b114) ?_
          have g116 := ZW b114
          refine Z0d (Zn 5 73 false rfl (by kernel_rfl) rfl (by kernel_rfl)) rfl ?_
          refine Z0d (Zn 5 73 false rfl (by kernel_rfl) rfl (by kernel_rfl)) rfl ?_
          refine Z0d (Zn 5 73 false rfl (by kernel_rfl) rfl (by kernel_rfl)) rfl ?_
          refine Z0d (Zn 5 73 false rfl (by kernel_rfl) rfl (by kernel_rfl)) rfl ?_
          refine Z0d (Zn 5 73 false rfl (by kernel_rfl) rfl (by kernel_rfl)) rfl ?_
          refine ZT (Z0 rfl) (d := 79) (v := (.bool true)) rfl (fun _ H' => (by kernel_rfl)) ?_
          refine Z1Q ?_
          intro w117 H118
          refine Z4 ?_
          refine Z0p rfl ?_
          refine Zb ?_
          refine Zl ?_
          refine Z3 (Z0 rfl) (d := 6) (v := (.bool false)) rfl (by kernel_rfl) ?_
          refine Zi ?_
          refine Z4 ?_
          refine ZY ?_
          refine Z0u ?_
          refine ZP ?_
          refine Z16 ?_
          refine Z0u ?_
          refine ZP ?_
          refine Z1i rfl (ZJ (v := (.bool false)) rfl) ?_
          have n119 := ZW b114
          have e1 : ((i : Int) - 1).toNat = i - 1 := by omega
          have ho : Z5Q f cn L p.f p.C i = false := by unfold Z5Q; rw [← e1]; simp only [Z1q, b61, b77, n119, Bool.not_true, Bool.not_false, Bool.true_or, Bool.false_or, Bool.or_true, Bool.or_false, Bool.and_true, Bool.true_and, Bool.and_false, Bool.false_and]
          exact ⟨by simp only [Z1s, Z1R (show i < p.C.length by omega) ho, Bool.and_false], H118.upd 0 rfl [] (fun _ h => h.elim)⟩
         ·have g120 := Zp b114
          refine Z1T 73 (.bool false) (congrArg Value.bool b114) ?_
          have g121 := Zp b114
          refine ZT (Zu 5 73 false rfl (by kernel_rfl) rfl (by kernel_rfl)) (d := 74) (v := (.agg ⟨(([(.int .i64 ((p.C.getD i ce0).x.cl)), (.int .i64 ((p.C.getD i ce0).x.seq))] : List Value) ++ hc (p.C.getD i ce0).x.h ++ ([(.int .i64 ((p.C.getD i ce0).x.len)), (.int .i64 ((p.C.getD i ce0).x.sb)), (.int .i64 ((p.C.getD i ce0).x.sm)), (.slice (p.C.getD i ce0).sa ((p.C.getD i ce0).S).length (p.C.getD i ce0).sc)] : List Value))⟩)) rfl (fun _ H' => (Zs (vs := (([(.int .i64 ((p.C.getD i ce0).x.cl)), (.int .i64 ((p.C.getD i ce0).x.seq))] : List Value) ++ hc (p.C.getD i ce0).x.h ++ ([(.int .i64 ((p.C.getD i ce0).x.len)), (.int .i64 ((p.C.getD i ce0).x.sb)), (.int .i64 ((p.C.getD i ce0).x.sm)), (.slice (p.C.getD i ce0).sa ((p.C.getD i ce0).S).length (p.C.getD i ce0).sc)] : List Value))) rfl (by kernel_rfl) (by kernel_rfl) (by exact Nat.le_of_ble_eq_true (by kernel_rfl)) (H'.at 3 rfl) (by kernel_rfl))) ?_
          refine Z1E (Zu 5 73 false rfl (by kernel_rfl) rfl (by kernel_rfl)) (d := 75) (v := (.int .u64 ((Z8 (p.C.getD i ce0).S)))) rfl (fun _ _ => by kernel_rfl) (fun w' H' => (Z1y w' (p.C.getD i ce0).x (p.C.getD i ce0).sa (p.C.getD i ce0).sc (p.C.getD i ce0).S ((hB i (by omega)).keep H' 0 rfl).at_ (h12 i (by omega))).mono fun _ _ h => ⟨h.1, H'.keepU h.2⟩) ?_
          refine ZT (Zu 5 73 false rfl (by kernel_rfl) rfl (by kernel_rfl)) (d := 76) (v := (.pointer (some ⟨b6, 2, none⟩))) rfl (fun _ H' => (by kernel_rfl)) ?_
          refine ZT (Zu 5 73 false rfl (by kernel_rfl) rfl (by kernel_rfl)) (d := 77) (v := (.int .u64 (p.f))) rfl (fun _ H' => (Za rfl (by kernel_rfl) (H'.cell 2 rfl rfl))) ?_
          refine ZT (Zu 5 73 false rfl (by kernel_rfl) rfl (by kernel_rfl)) (d := 78) (v := (.bool (decide ((Z8 (p.C.getD i ce0).S) > p.f)))) rfl (fun _ H' => (by kernel_rfl)) ?_
          refine ZT (Z0 rfl) (d := 79) (v := (.bool (decide ((Z8 (p.C.getD i ce0).S) > p.f)))) rfl (fun _ H' => (by kernel_rfl)) ?_
          refine Z1Q ?_
          intro w122 H123
          refine Z4 ?_
          refine (ZD (decide ((Z8 (p.C.getD i ce0).S) > p.f))).elim (fun b124 => ?_) (fun b124 => ?_)
          ·have g125 := of_decide_eq_true b124
           refine Zj 79 (.bool true) (congrArg Value.bool b124) ?_
           have g126 := of_decide_eq_true b124
           refine Z0p rfl ?_
           refine Zb ?_
           refine Zl ?_
           refine Z3 (Z0 rfl) (d := 6) (v := (.bool false)) rfl (by kernel_rfl) ?_
           refine Zi ?_
           refine Z4 ?_
           refine ZY ?_
           refine Z0u ?_
           refine ZP ?_
           refine Z16 ?_
           refine Z0u ?_
           refine ZP ?_
           refine Z1i rfl (ZJ (v := (.bool false)) rfl) ?_
           have n127 := Zp b114
           have e1 : ((i : Int) - 1).toNat = i - 1 := by omega
           have ho : Z5Q f cn L p.f p.C i = false := by unfold Z5Q; rw [← e1]; simp only [Z1q, b61, b77, n127, b124, Bool.not_true, Bool.not_false, Bool.true_or, Bool.false_or, Bool.or_true, Bool.or_false, Bool.and_true, Bool.true_and, Bool.and_false, Bool.false_and]
           exact ⟨by simp only [Z1s, Z1R (show i < p.C.length by omega) ho, Bool.and_false], H123.upd 0 rfl [] (fun _ h => h.elim)⟩
          ·have g128 := of_decide_eq_false b124
           refine Zj 79 (.bool false) (congrArg Value.bool b124) ?_
           have g129 := of_decide_eq_false b124
           refine Z0r rfl ?_
           refine ZZ ?_
           refine ZE ?_
           refine Z4 ?_
           refine Zl ?_
           refine Z3 (Z0 rfl) (d := 80) (v := (.int .i64 ((i : Int) + 1))) rfl (Z0l (z := (i : Int) + 1) (by kernel_rfl) (IntWalk.i64_in _ (by omega))) ?_
           refine Z3 (Z0 rfl) (d := 46) (v := (.int .i64 ((i : Int) + 1))) rfl (by kernel_rfl) ?_
           refine Zi ?_
           have n130 := Zp b114
           have e1 : ((i : Int) - 1).toNat = i - 1 := by omega
           have ho : Z5Q f cn L p.f p.C i = true := by unfold Z5Q; rw [← e1]; simp only [Z1q, b61, b77, n130, b124, Bool.not_true, Bool.not_false, Bool.true_or, Bool.false_or, Bool.or_true, Bool.or_false, Bool.and_true, Bool.true_and, Bool.and_false, Bool.false_and]
           have H131 : Sat w [Z5 w (fun _ => False), Z1 b2 36 ([(.int .i64 (f)), (.int .i64 (cn))] : List Value), Z1 b6 34 ([(.int .i64 (p.r)), (.int .i64 (p.e)), (.int .u64 (p.f)), (.slice p.ca p.C.length p.cc), (.int .i64 (p.sb)), (.int .i64 (p.sm))] : List Value)] w122 := H123.pick [0, 1, 2] (by decide)
           refine ZH ?_ _ ⟨(i + 1), (show ((.int .i64 ((i : Int) + 1)) : Value) = _ by first | rfl | go_num), (by omega), (fun j hj => by rcases Nat.lt_or_ge j i with h | h; exact hall j h; rw [show j = i by omega]; exact ho), H131, rfl⟩ (by omega)
           exact (Z2 rfl (Z2 rfl (Z2 rfl (Z2 rfl (Z2 rfl (Z2 rfl (Z2 rfl (Z2 rfl (Z2 rfl (Z2 rfl (Z2 rfl (Z2 rfl (Z2 rfl (Z2 rfl (Z2 rfl (Z2 rfl (Z2 rfl (Z2 rfl (Z2 rfl (Z2 rfl (Z2 rfl (Z2 rfl (Z2 rfl (Z2 rfl (Z2 rfl (Z2 rfl (Z2 rfl (Z2 rfl (Z2 rfl (Z2 rfl (Z2 rfl (Z2 rfl (Z2 rfl (Z2 rfl (Z2 rfl (Z2 rfl (Z2 rfl (Z2 rfl (Z2 rfl (Z2 rfl (Z2 rfl (Z2 rfl (Z0S)))))))))))))))))))))))))))))))))))))))))))
       ·have g132 := of_decide_eq_false b61
        refine Zj 47 (.bool false) (congrArg Value.bool b61) ?_
        have g133 := of_decide_eq_false b61
        refine Z0r rfl ?_
        refine Z2i ?_
        refine Z0Y ?_
        refine Z10 ?_
        refine Z1u ?_
        refine Z4 ?_
        refine Zb ?_
        refine Z0f H58 [Z5 w (fun _ => False), Z1 b2 36 ([(.int .i64 (f)), (.int .i64 (cn))] : List Value), Z1 b6 34 ([(.int .i64 (p.r)), (.int .i64 (p.e)), (.int .u64 (p.f)), (.slice p.ca p.C.length p.cc), (.int .i64 (p.sb)), (.int .i64 (p.sm))] : List Value)] 7 rfl (by kernel_rfl) (fun Hx => (Hx.pick [0, 1, 2] (by decide))) ?_
        intro w134 H135 S136
        refine ZM 0 rfl (by kernel_rfl) (by kernel_rfl) (by kernel_rfl) (fun _ _ _ h => h) S136 (Z0 rfl) (d := 81) (v := (.pointer (some ⟨b, 0, none⟩))) rfl (fun _ H' => (by kernel_rfl)) ?_
        refine ZM 1 rfl (by kernel_rfl) (by kernel_rfl) (by kernel_rfl) (fun _ _ _ h => h) S136 (Z0 rfl) (d := 82) (v := (.pointer (some ⟨b6, 4, none⟩))) rfl (fun _ H' => (by kernel_rfl)) ?_
        refine ZM 2 rfl (by kernel_rfl) (by kernel_rfl) (by kernel_rfl) (fun _ _ _ h => h) S136 (Z0 rfl) (d := 83) (v := (.agg ⟨([(.int .i64 (p.sb)), (.int .i64 (p.sm))] : List Value)⟩)) rfl (fun _ H' => (Zs (vs := ([(.int .i64 (p.sb)), (.int .i64 (p.sm))] : List Value)) rfl (by kernel_rfl) (by kernel_rfl) (by exact Nat.le_of_ble_eq_true (by kernel_rfl)) (H'.at 2 rfl) (by kernel_rfl))) ?_
        refine ZM 3 rfl (by kernel_rfl) (by kernel_rfl) (by kernel_rfl) (fun _ _ _ h => h) S136 (Z0 rfl) (d := 84) (v := (.agg ⟨([(.int .i64 (p.r)), (.int .i64 (p.e)), (.int .u64 (p.f)), (.slice p.ca p.C.length p.cc), (.int .i64 (p.sb)), (.int .i64 (p.sm))] : List Value)⟩)) rfl (fun _ H' => (Zs (vs := ([(.int .i64 (p.r)), (.int .i64 (p.e)), (.int .u64 (p.f)), (.slice p.ca p.C.length p.cc), (.int .i64 (p.sb)), (.int .i64 (p.sm))] : List Value)) rfl (by kernel_rfl) (by kernel_rfl) (by exact Nat.le_of_ble_eq_true (by kernel_rfl)) (H'.at 2 rfl) (by kernel_rfl))) ?_
        refine Z1l 4 rfl (by kernel_rfl) (Z0 rfl) (fun K137 hK137 => ?_)
        refine ZX (d := 85) rfl (by kernel_rfl) (Z2B w134 p (ListAt.now H135 0 rfl hC) (fun i_ hi_ => (hB i_ hi_).keep H135 0 rfl) hl hpn) ?_
        rintro _ w138 ⟨u139, rfl, k140, p141, q142⟩
        have H143 : Sat w [Z5 w (fun _ => False), Z1 b2 36 ([(.int .i64 (f)), (.int .i64 (cn))] : List Value), Z1 b6 34 ([(.int .i64 (p.r)), (.int .i64 (p.e)), (.int .u64 (p.f)), (.slice p.ca p.C.length p.cc), (.int .i64 (p.sb)), (.int .i64 (p.sm))] : List Value), Zd 5 1 u139 ((ZB p).length) ((ZB p).flatMap Zw)] w138 := H135.addU p141 k140 q142
        obtain ⟨a144, c145, rfl⟩ := Z9 (H143.at 3 rfl)
        refine ⟨_, rfl, ?_⟩
        have S146 := H143.pick [0, 1, 2] (by decide)
        refine hK137 _ _ S146 ?_
        clear hK137 K137
        refine Z1l 5 rfl (by kernel_rfl) (Z0 rfl) (fun K147 hK147 => ?_)
        refine ZX (d := 86) rfl (by kernel_rfl) (Z6o w138 b mb L (H143.roCk 0 rfl hb (fun _ _ h => h)) (H143.roMap 0 rfl hm (fun h => h)) a144 c145 (ZB p) (ListAt.row (enc := Zw) (sz := 1) Z06 (by decide) (H143.at 3 rfl)) p.sb p.sm) ?_
        rintro _ w148 ⟨rfl, u150⟩
        have H149 := H143.keepU u150
        refine ⟨_, rfl, ?_⟩
        have S151 := H149.pick [0, 1, 2] (by decide)
        refine hK147 _ _ S151 ?_
        clear hK147 K147
        refine ZM 6 rfl (by kernel_rfl) (by kernel_rfl) (by kernel_rfl) (fun _ _ _ h => h) S151 (Z0 rfl) (d := 6) (v := (.bool (Z1f L p.sb p.sm (ZB p)))) rfl (fun _ H' => (by kernel_rfl)) ?_
        refine Z20 (by kernel_rfl) ?_
        refine Z4 ?_
        refine ZY ?_
        refine Z1i rfl (ZJ (v := (.bool (Z1f L p.sb p.sm (ZB p)))) rfl) ?_
        have hn0 : i = p.C.length := by omega
        subst hn0
        exact ⟨by simp only [Z1s, Z3p hall, n54, b19, b25, b31, b37, n55, Bool.not_true, Bool.not_false, Bool.true_or, Bool.false_or, Bool.or_true, Bool.or_false, Bool.and_true, Bool.true_and, Bool.and_false, Bool.false_and], H149.upd 0 rfl [] (fun _ h => h.elim)⟩
end Go.Proofs.YtoaifondpohniaaGreat
