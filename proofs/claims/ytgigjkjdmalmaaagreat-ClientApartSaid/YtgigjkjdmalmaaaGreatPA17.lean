/- WHAT IS PROVED: contracts and plain laws of ClR. Conditions: stated with each. -/
import Derived.Test.YtgigjkjdmalmaaaGreatPA03
import Derived.Test.YtgigjkjdmalmaaaGreatPA15
import Derived.Test.YtgigjkjdmalmaaaGreatPA16
set_option maxHeartbeats 4000000
set_option maxRecDepth 100000
namespace Go.Proofs.YtgigjkjdmalmaaaGreat
open Go.RowKit
def Z6h (w w' : World) (e : Ending) (c bb g lc : Nat) (F Cn id : Int) (Q : List Zl) (k : Nat) (q : Zl) (R : List (Int × RcD)) (fr ix sq tm : Int) : Prop :=
 ((q.op = true ∨ (Z10 (Z0d R fr (⟨ix, ⟨id, sq, q.x.h, tm⟩⟩ : RcD)) ((Zq (Z0d R fr (⟨ix, ⟨id, sq, q.x.h, tm⟩⟩ : RcD)) fr).getD rc0) : Int) < F + 1) ∧ e = .returned (.slice none 0 0) ∧ Sat w [Z5 c 112 [.int .i64 F, .int .i64 Cn, .int .i64 id, .pointer (some ⟨bb, 0, none⟩), .slice (some ⟨g, 0, none⟩) Q.length lc], Zd 119 79 (.slice (some ⟨g, 0, none⟩) Q.length lc) Q.length (Q.flatMap Zf), Zh q.mr (Value.int .i64) rcV (Z0d R fr (⟨ix, ⟨id, sq, q.x.h, tm⟩⟩ : RcD)), Zd 5 1 (.slice q.pa q.P.length q.pc) q.P.length (q.P.flatMap Zi), Zb w (ZF [Z5 c 112 [.int .i64 F, .int .i64 Cn, .int .i64 id, .pointer (some ⟨bb, 0, none⟩), .slice (some ⟨g, 0, none⟩) Q.length lc], Zd 119 79 (.slice (some ⟨g, 0, none⟩) Q.length lc) Q.length (Q.flatMap Zf), Zh q.mr (Value.int .i64) rcV R, Zd 5 1 (.slice q.pa q.P.length q.pc) q.P.length (q.P.flatMap Zi)]).fp] w') ∨
 ((q.op = false ∧ F + 1 ≤ (Z10 (Z0d R fr (⟨ix, ⟨id, sq, q.x.h, tm⟩⟩ : RcD)) ((Zq (Z0d R fr (⟨ix, ⟨id, sq, q.x.h, tm⟩⟩ : RcD)) fr).getD rc0) : Int)) ∧ ∃ (da : Option Addr) (dc : Nat) (D : List OmR) (B : List Ck), e = .returned (.slice da D.length dc) ∧ (D.length : Int) = 3 * F + 1 ∧ (∀ j, j < D.length → Z4N (1000 + id) (⟨10, 0, 0, co0, co0, none, 0, [], ((Zq (Z0d R fr (⟨ix, ⟨id, sq, q.x.h, tm⟩⟩ : RcD)) fr).getD rc0).i, q.pa, q.pc, q.P, q.no⟩ : OmR) B j (D.getD j om0)) ∧ Sat w [Z5 c 112 [.int .i64 F, .int .i64 Cn, .int .i64 id, .pointer (some ⟨bb, 0, none⟩), .slice (some ⟨g, 0, none⟩) Q.length lc], Zd 119 79 (.slice (some ⟨g, 0, none⟩) Q.length lc) Q.length ((Q.set k (⟨q.x, q.pa, q.pc, q.P, q.no, q.ms, q.cb, q.ma, q.mr, true, ((Zq (Z0d R fr (⟨ix, ⟨id, sq, q.x.h, tm⟩⟩ : RcD)) fr).getD rc0).i, q.mp, q.dn, q.rp⟩ : Zl)).flatMap Zf), Zh q.mr (Value.int .i64) rcV (Z0d R fr (⟨ix, ⟨id, sq, q.x.h, tm⟩⟩ : RcD)), Zd 5 1 (.slice q.pa q.P.length q.pc) q.P.length (q.P.flatMap Zi), Zd 82 295 (.slice da D.length dc) D.length (D.flatMap ZZ), Z0P B, Zb w (ZF [Z5 c 112 [.int .i64 F, .int .i64 Cn, .int .i64 id, .pointer (some ⟨bb, 0, none⟩), .slice (some ⟨g, 0, none⟩) Q.length lc], Zd 119 79 (.slice (some ⟨g, 0, none⟩) Q.length lc) Q.length (Q.flatMap Zf), Zh q.mr (Value.int .i64) rcV R, Zd 5 1 (.slice q.pa q.P.length q.pc) q.P.length (q.P.flatMap Zi)]).fp] w')
theorem Z3u (w : World) (c bb g lc : Nat) (F Cn id : Int) (Q : List Zl) (k : Nat) (q : Zl) (hq : Q[k]? = some q) (R : List (Int × RcD)) (hA : (ZF [Z5 c 112 [.int .i64 F, .int .i64 Cn, .int .i64 id, .pointer (some ⟨bb, 0, none⟩), .slice (some ⟨g, 0, none⟩) Q.length lc], Zd 119 79 (.slice (some ⟨g, 0, none⟩) Q.length lc) Q.length (Q.flatMap Zf), Zh q.mr (Value.int .i64) rcV R, Zd 5 1 (.slice q.pa q.P.length q.pc) q.P.length (q.P.flatMap Zi)]).ok w) (hlQ : Q.length ≤ 64) (hlR : R.length ≤ 1000) (hlP : q.P.length ≤ 1000) (hF : 1 ≤ F ∧ F ≤ 100) (hid : 0 ≤ id ∧ id ≤ 1000000) (fr ix sq tm : Int) (hsq : sq = (k : Int) + 1) :
  Calls Tryz.prog 39 #[(.pointer (some ⟨c, 0, none⟩)), (.int .i64 (fr)), (.agg ⟨(([(.int .i64 (ix)), (.int .i64 (id)), (.int .i64 (sq))] : List Value) ++ hc q.x.h ++ ([(.int .u64 (tm))] : List Value))⟩)] w fun e w' => Z6h w w' e c bb g lc F Cn id Q k q R fr ix sq tm := by
 have hkl : k < Q.length := (List.getElem?_eq_some_iff.1 hq).1
 have H : Sat w [Z5 c 112 ([(.int .i64 (F)), (.int .i64 (Cn)), (.int .i64 (id)), (.pointer (some ⟨bb, 0, none⟩)), (.slice (some ⟨g, 0, none⟩) Q.length lc)] : List Value), Zd 119 79 (.slice (some ⟨g, 0, none⟩) Q.length lc) Q.length (Q.flatMap Zf), Zh q.mr (Value.int .i64) rcV R, Zd 5 1 (.slice q.pa q.P.length q.pc) q.P.length (q.P.flatMap Zi), Zb w (ZF [Z5 c 112 [.int .i64 F, .int .i64 Cn, .int .i64 id, .pointer (some ⟨bb, 0, none⟩), .slice (some ⟨g, 0, none⟩) Q.length lc], Zd 119 79 (.slice (some ⟨g, 0, none⟩) Q.length lc) Q.length (Q.flatMap Zf), Zh q.mr (Value.int .i64) rcV R, Zd 5 1 (.slice q.pa q.P.length q.pc) q.P.length (q.P.flatMap Zi)]).fp] w := Sat.start _ hA
 refine Zx Tryz.func39 rfl 102 rfl (Nat.le_of_ble_eq_true rfl) ?_
 refine Zg ?_
 refine Zn ?_
 refine ZE (Z1 rfl) (fun K1 hK1 => ?_)
 refine Z0Y (vs := (([(.int .i64 (ix)), (.int .i64 (id)), (.int .i64 (sq))] : List Value) ++ hc q.x.h ++ ([(.int .u64 (tm))] : List Value))) rfl H rfl rfl ?_
 intro b2 w3 (H4 : Sat w [Z5 c 112 ([(.int .i64 (F)), (.int .i64 (Cn)), (.int .i64 (id)), (.pointer (some ⟨bb, 0, none⟩)), (.slice (some ⟨g, 0, none⟩) Q.length lc)] : List Value), Zd 119 79 (.slice (some ⟨g, 0, none⟩) Q.length lc) Q.length (Q.flatMap Zf), Zh q.mr (Value.int .i64) rcV R, Zd 5 1 (.slice q.pa q.P.length q.pc) q.P.length (q.P.flatMap Zi), Zb w (ZF [Z5 c 112 [.int .i64 F, .int .i64 Cn, .int .i64 id, .pointer (some ⟨bb, 0, none⟩), .slice (some ⟨g, 0, none⟩) Q.length lc], Zd 119 79 (.slice (some ⟨g, 0, none⟩) Q.length lc) Q.length (Q.flatMap Zf), Zh q.mr (Value.int .i64) rcV R, Zd 5 1 (.slice q.pa q.P.length q.pc) q.P.length (q.P.flatMap Zi)]).fp, Z5 b2 131 (([(.int .i64 (ix)), (.int .i64 (id)), (.int .i64 (sq))] : List Value) ++ hc q.x.h ++ ([(.int .u64 (tm))] : List Value))] w3)
 refine hK1 _ _ ?_
 clear hK1 K1
 refine Z3 (Z1 rfl) (d := 6) (v := (.slice none 0 0)) rfl (by kernel_rfl) ?_
 refine Zm ?_
 refine Z7 ?_
 refine Zg ?_
 refine Zn ?_
 refine Z3 (Z1 rfl) (d := 13) (v := (.pointer (some ⟨c, 0, none⟩))) rfl (by kernel_rfl) ?_
 refine Z3 (Z1 rfl) (d := 14) (v := (.pointer (some ⟨b2, 1, none⟩))) rfl (by kernel_rfl) ?_
 refine Z3 (Z1 rfl) (d := 15) (v := (.pointer (some ⟨b2, 1, none⟩))) rfl (by kernel_rfl) ?_
 refine Z3 (Z1 rfl) (d := 16) (v := (.agg ⟨([(.int .i64 (id)), (.int .i64 (sq))] : List Value)⟩)) rfl (ZJ (vs := ([(.int .i64 (id)), (.int .i64 (sq))] : List Value)) rfl (by kernel_rfl) (by kernel_rfl) (by exact Nat.le_of_ble_eq_true (by kernel_rfl)) (H4.at 5 rfl) (by kernel_rfl)) ?_
 refine Z3 (Z1 rfl) (d := 17) (v := (.pointer (some ⟨b2, 1, none⟩))) rfl (by kernel_rfl) ?_
 refine Z3 (Z1 rfl) (d := 18) (v := (.pointer (some ⟨b2, 3, none⟩))) rfl (by kernel_rfl) ?_
 refine Z3 (Z1 rfl) (d := 19) (v := (.agg ⟨(hc q.x.h)⟩)) rfl (ZJ (vs := (hc q.x.h)) rfl (by kernel_rfl) (by kernel_rfl) (by exact Nat.le_of_ble_eq_true (by kernel_rfl)) (H4.at 5 rfl) (by kernel_rfl)) ?_
 refine ZE (Z1 rfl) (fun K5 hK5 => ?_)
 refine ZC (d := 20) rfl (by kernel_rfl) (Z3V w3 c bb g lc F Cn id Q (H4.at 0 rfl) (H4.at 1 rfl) hlQ k q hq sq (by omega)) ?_
 rintro _ w6 ⟨rfl, u8⟩
 have H7 := H4.keepU u8
 refine ⟨_, rfl, ?_⟩
 refine hK5 _ _ ?_
 clear hK5 K5
 refine Z3 (Z1 rfl) (d := 7) (v := (.pointer (some ⟨g, 0 + ((k : Int)).toNat * 79, none⟩))) rfl (by kernel_rfl) ?_
 refine Zm ?_
 refine Z7 ?_
 refine Zg ?_
 refine Zg ?_
 refine Zn ?_
 refine Z3 (Z1 rfl) (d := 21) (v := (.pointer (some ⟨g, 0 + ((k : Int)).toNat * 79, none⟩))) rfl (by kernel_rfl) ?_
 refine Z3 (Z1 rfl) (d := 22) (v := (.bool false)) rfl (by kernel_rfl) ?_
 refine Zm ?_
 refine Z7 ?_
 refine ZY rfl ?_
 refine ZN ?_
 refine Z7 ?_
 refine Z0x [8, 9, 23, 24, 25, 26, 27, 28, 29, 30, 31, 32, 33, 34, 35, 36, 37, 38, 39] (fun G_ W_ => ∃ (R2 : List (Int × RcD)), (R2 = (Z0d R fr (⟨ix, ⟨id, sq, q.x.h, tm⟩⟩ : RcD))) ∧ Sat w [Z5 c 112 ([(.int .i64 (F)), (.int .i64 (Cn)), (.int .i64 (id)), (.pointer (some ⟨bb, 0, none⟩)), (.slice (some ⟨g, 0, none⟩) Q.length lc)] : List Value), Zd 119 79 (.slice (some ⟨g, 0, none⟩) Q.length lc) Q.length (Q.flatMap Zf), Zh q.mr (Value.int .i64) rcV R2, Zd 5 1 (.slice q.pa q.P.length q.pc) q.P.length (q.P.flatMap Zi), Zb w (ZF [Z5 c 112 [.int .i64 F, .int .i64 Cn, .int .i64 id, .pointer (some ⟨bb, 0, none⟩), .slice (some ⟨g, 0, none⟩) Q.length lc], Zd 119 79 (.slice (some ⟨g, 0, none⟩) Q.length lc) Q.length (Q.flatMap Zf), Zh q.mr (Value.int .i64) rcV R, Zd 5 1 (.slice q.pa q.P.length q.pc) q.P.length (q.P.flatMap Zi)]).fp, Z5 b2 131 (([(.int .i64 (ix)), (.int .i64 (id)), (.int .i64 (sq))] : List Value) ++ hc q.x.h ++ ([(.int .u64 (tm))] : List Value))] W_) ?_ ?_
 ·refine Zg ?_
  refine Zn ?_
  refine Z3 (Z1 rfl) (d := 24) (v := (.pointer (some ⟨g, 0 + ((k : Int)).toNat * 79, none⟩))) rfl (by kernel_rfl) ?_
  refine Z3 (Z1 rfl) (d := 25) (v := (.pointer (some ⟨g, 0 + ((k : Int)).toNat * 79, none⟩))) rfl (by kernel_rfl) ?_
  refine Z3 (Z1 rfl) (d := 26) (v := (.pointer (some ⟨g, 0 + ((k : Int)).toNat * 79 + 73, none⟩))) rfl (by kernel_rfl) ?_
  refine Z3 (Z1 rfl) (d := 27) (v := (.map (some q.mr))) rfl (Zj rfl (by kernel_rfl) (Z00 (H7.at 1 rfl) rfl ZK hq 73 rfl (show 0 + ((k : Int)).toNat * 79 + 73 = k * 79 + 73 by omega) (by kernel_rfl))) ?_
  refine Z3 (Z1 rfl) (d := 28) (v := (.int .i64 (fr))) rfl (by kernel_rfl) ?_
  refine Z3 (Z1 rfl) (d := 29) (v := (.tuple #[(.agg ⟨(([(.int .i64 (((Zq R fr).getD rc0).i)), (.int .i64 (((Zq R fr).getD rc0).e.cl)), (.int .i64 (((Zq R fr).getD rc0).e.sq))] : List Value) ++ hc ((Zq R fr).getD rc0).e.h ++ ([(.int .u64 (((Zq R fr).getD rc0).e.t))] : List Value))⟩), (.bool ((Zq R fr).isSome))])) rfl (Z3x (kt := 3) (et := 131) (KeyTy.int (by kernel_rfl)) (by kernel_rfl) Z5B rfl fr rfl (H7.at 2 rfl) (Z60 rcV _ _) rfl) ?_
  refine Z3 (Z1 rfl) (d := 23) (v := (.tuple #[(.agg ⟨(([(.int .i64 (((Zq R fr).getD rc0).i)), (.int .i64 (((Zq R fr).getD rc0).e.cl)), (.int .i64 (((Zq R fr).getD rc0).e.sq))] : List Value) ++ hc ((Zq R fr).getD rc0).e.h ++ ([(.int .u64 (((Zq R fr).getD rc0).e.t))] : List Value))⟩), (.bool ((Zq R fr).isSome))])) rfl (by kernel_rfl) ?_
  refine Z3 (Z1 rfl) (d := 30) (v := (.agg ⟨(([(.int .i64 (((Zq R fr).getD rc0).i)), (.int .i64 (((Zq R fr).getD rc0).e.cl)), (.int .i64 (((Zq R fr).getD rc0).e.sq))] : List Value) ++ hc ((Zq R fr).getD rc0).e.h ++ ([(.int .u64 (((Zq R fr).getD rc0).e.t))] : List Value))⟩)) rfl (by kernel_rfl) ?_
  refine Z3 (Z1 rfl) (d := 31) (v := (.bool ((Zq R fr).isSome))) rfl (by kernel_rfl) ?_
  refine ZE (Z1 rfl) (fun K10 hK10 => ?_)
  refine Z0v (zs := (([(.int .i64 (0)), (.int .i64 (0)), (.int .i64 (0))] : List Value) ++ hc Z8 ++ ([(.int .u64 (0))] : List Value))) (z := (.agg ⟨(([(.int .i64 (0)), (.int .i64 (0)), (.int .i64 (0))] : List Value) ++ hc Z8 ++ ([(.int .u64 (0))] : List Value))⟩)) rfl H7 (by kernel_rfl) (by kernel_rfl) ?_
  intro b11 w12 (H13 : Sat w [Z5 c 112 ([(.int .i64 (F)), (.int .i64 (Cn)), (.int .i64 (id)), (.pointer (some ⟨bb, 0, none⟩)), (.slice (some ⟨g, 0, none⟩) Q.length lc)] : List Value), Zd 119 79 (.slice (some ⟨g, 0, none⟩) Q.length lc) Q.length (Q.flatMap Zf), Zh q.mr (Value.int .i64) rcV R, Zd 5 1 (.slice q.pa q.P.length q.pc) q.P.length (q.P.flatMap Zi), Zb w (ZF [Z5 c 112 [.int .i64 F, .int .i64 Cn, .int .i64 id, .pointer (some ⟨bb, 0, none⟩), .slice (some ⟨g, 0, none⟩) Q.length lc], Zd 119 79 (.slice (some ⟨g, 0, none⟩) Q.length lc) Q.length (Q.flatMap Zf), Zh q.mr (Value.int .i64) rcV R, Zd 5 1 (.slice q.pa q.P.length q.pc) q.P.length (q.P.flatMap Zi)]).fp, Z5 b2 131 (([(.int .i64 (ix)), (.int .i64 (id)), (.int .i64 (sq))] : List Value) ++ hc q.x.h ++ ([(.int .u64 (tm))] : List Value)), Z5 b11 131 (([(.int .i64 (0)), (.int .i64 (0)), (.int .i64 (0))] : List Value) ++ hc Z8 ++ ([(.int .u64 (0))] : List Value))] w12)
  refine hK10 _ _ ?_
  clear hK10 K10
  refine ZE (Z1 rfl) (fun K14 hK14 => ?_)
  refine ZQ (vs := (([(.int .i64 (((Zq R fr).getD rc0).i)), (.int .i64 (((Zq R fr).getD rc0).e.cl)), (.int .i64 (((Zq R fr).getD rc0).e.sq))] : List Value) ++ hc ((Zq R fr).getD rc0).e.h ++ ([(.int .u64 (((Zq R fr).getD rc0).e.t))] : List Value))) (cs' := (([(.int .i64 (((Zq R fr).getD rc0).i)), (.int .i64 (((Zq R fr).getD rc0).e.cl)), (.int .i64 (((Zq R fr).getD rc0).e.sq))] : List Value) ++ hc ((Zq R fr).getD rc0).e.h ++ ([(.int .u64 (((Zq R fr).getD rc0).e.t))] : List Value))) rfl H13 6 rfl rfl rfl rfl (by kernel_rfl) (Nat.le_of_ble_eq_true (by kernel_rfl)) (Nat.le_of_ble_eq_true (by kernel_rfl)) (by kernel_rfl) (by kernel_rfl) ?_
  intro w15 (H16 : Sat w [Z5 c 112 ([(.int .i64 (F)), (.int .i64 (Cn)), (.int .i64 (id)), (.pointer (some ⟨bb, 0, none⟩)), (.slice (some ⟨g, 0, none⟩) Q.length lc)] : List Value), Zd 119 79 (.slice (some ⟨g, 0, none⟩) Q.length lc) Q.length (Q.flatMap Zf), Zh q.mr (Value.int .i64) rcV R, Zd 5 1 (.slice q.pa q.P.length q.pc) q.P.length (q.P.flatMap Zi), Zb w (ZF [Z5 c 112 [.int .i64 F, .int .i64 Cn, .int .i64 id, .pointer (some ⟨bb, 0, none⟩), .slice (some ⟨g, 0, none⟩) Q.length lc], Zd 119 79 (.slice (some ⟨g, 0, none⟩) Q.length lc) Q.length (Q.flatMap Zf), Zh q.mr (Value.int .i64) rcV R, Zd 5 1 (.slice q.pa q.P.length q.pc) q.P.length (q.P.flatMap Zi)]).fp, Z5 b2 131 (([(.int .i64 (ix)), (.int .i64 (id)), (.int .i64 (sq))] : List Value) ++ hc q.x.h ++ ([(.int .u64 (tm))] : List Value)), Z5 b11 131 (([(.int .i64 (((Zq R fr).getD rc0).i)), (.int .i64 (((Zq R fr).getD rc0).e.cl)), (.int .i64 (((Zq R fr).getD rc0).e.sq))] : List Value) ++ hc ((Zq R fr).getD rc0).e.h ++ ([(.int .u64 (((Zq R fr).getD rc0).e.t))] : List Value))] w15)
  refine hK14 _ _ ?_
  clear hK14 K14
  refine Z3 (Z1 rfl) (d := 9) (v := (.bool ((Zq R fr).isSome))) rfl (by kernel_rfl) ?_
  refine Zm ?_
  refine Z7 ?_
  refine Zg ?_
  refine Zn ?_
  refine Z3 (Z1 rfl) (d := 32) (v := (.bool ((Zq R fr).isSome))) rfl (by kernel_rfl) ?_
  refine Z3 (Z1 rfl) (d := 33) (v := (.bool (!((Zq R fr).isSome)))) rfl (by kernel_rfl) ?_
  refine Zm ?_
  refine Z7 ?_
  refine (Z06 (!((Zq R fr).isSome))).elim (fun b18 => ?_) (fun b18 => ?_)
  ·have g19 := Z0y b18
   refine Zs 33 (.bool true) (congrArg Value.bool b18) ?_
   have g20 := Z0y b18
   refine Z0u rfl ?_
   refine Z0g H16 [Z5 c 112 ([(.int .i64 (F)), (.int .i64 (Cn)), (.int .i64 (id)), (.pointer (some ⟨bb, 0, none⟩)), (.slice (some ⟨g, 0, none⟩) Q.length lc)] : List Value), Zd 119 79 (.slice (some ⟨g, 0, none⟩) Q.length lc) Q.length (Q.flatMap Zf), Zd 5 1 (.slice q.pa q.P.length q.pc) q.P.length (q.P.flatMap Zi), Zb w (ZF [Z5 c 112 [.int .i64 F, .int .i64 Cn, .int .i64 id, .pointer (some ⟨bb, 0, none⟩), .slice (some ⟨g, 0, none⟩) Q.length lc], Zd 119 79 (.slice (some ⟨g, 0, none⟩) Q.length lc) Q.length (Q.flatMap Zf), Zh q.mr (Value.int .i64) rcV R, Zd 5 1 (.slice q.pa q.P.length q.pc) q.P.length (q.P.flatMap Zi)]).fp, Z5 b2 131 (([(.int .i64 (ix)), (.int .i64 (id)), (.int .i64 (sq))] : List Value) ++ hc q.x.h ++ ([(.int .u64 (tm))] : List Value)), Z5 b11 131 (([(.int .i64 (((Zq R fr).getD rc0).i)), (.int .i64 (((Zq R fr).getD rc0).e.cl)), (.int .i64 (((Zq R fr).getD rc0).e.sq))] : List Value) ++ hc ((Zq R fr).getD rc0).e.h ++ ([(.int .u64 (((Zq R fr).getD rc0).e.t))] : List Value))] 7 rfl (by kernel_rfl) (fun Hx => (Hx.pick [0, 1, 3, 4, 5, 6] (by decide))) ?_
   intro w21 H22 S23
   refine Zt 0 rfl (by kernel_rfl) (by kernel_rfl) (by kernel_rfl) (fun _ _ _ h => h) S23 (Z1 rfl) (d := 34) (v := (.pointer (some ⟨g, 0 + ((k : Int)).toNat * 79, none⟩))) rfl (fun _ H' => (by kernel_rfl)) ?_
   refine Zt 1 rfl (by kernel_rfl) (by kernel_rfl) (by kernel_rfl) (fun _ _ _ h => h) S23 (Z1 rfl) (d := 35) (v := (.pointer (some ⟨g, 0 + ((k : Int)).toNat * 79, none⟩))) rfl (fun _ H' => (by kernel_rfl)) ?_
   refine Zt 2 rfl (by kernel_rfl) (by kernel_rfl) (by kernel_rfl) (fun _ _ _ h => h) S23 (Z1 rfl) (d := 36) (v := (.pointer (some ⟨g, 0 + ((k : Int)).toNat * 79 + 73, none⟩))) rfl (fun _ H' => (by kernel_rfl)) ?_
   refine Zt 3 rfl (by kernel_rfl) (by kernel_rfl) (by kernel_rfl) (fun _ _ _ h => h) S23 (Z1 rfl) (d := 37) (v := (.map (some q.mr))) rfl (fun _ H' => (Zj rfl (by kernel_rfl) (Z00 (H'.at 1 rfl) rfl ZK hq 73 rfl (show 0 + ((k : Int)).toNat * 79 + 73 = k * 79 + 73 by omega) (by kernel_rfl)))) ?_
   refine Zt 4 rfl (by kernel_rfl) (by kernel_rfl) (by kernel_rfl) (fun _ _ _ h => h) S23 (Z1 rfl) (d := 38) (v := (.int .i64 (fr))) rfl (fun _ H' => (by kernel_rfl)) ?_
   refine Zt 5 rfl (by kernel_rfl) (by kernel_rfl) (by kernel_rfl) (fun _ _ _ h => h) S23 (Z1 rfl) (d := 39) (v := (.agg ⟨(([(.int .i64 (ix)), (.int .i64 (id)), (.int .i64 (sq))] : List Value) ++ hc q.x.h ++ ([(.int .u64 (tm))] : List Value))⟩)) rfl (fun _ H' => (ZJ (vs := (([(.int .i64 (ix)), (.int .i64 (id)), (.int .i64 (sq))] : List Value) ++ hc q.x.h ++ ([(.int .u64 (tm))] : List Value))) rfl (by kernel_rfl) (by kernel_rfl) (by exact Nat.le_of_ble_eq_true (by kernel_rfl)) (H'.at 4 rfl) (by kernel_rfl))) ?_
   refine Z1a 6 rfl (by kernel_rfl) (Z1 rfl) (fun K24 hK24 => ?_)
   refine Z1M (kt := 3) (et := 131) rfl H22 2 rfl (KeyTy.int (by kernel_rfl)) (by kernel_rfl) rfl fr rfl (⟨ix, ⟨id, sq, q.x.h, tm⟩⟩ : RcD) rfl ?_
   intro w25 (H26 : Sat w [Z5 c 112 ([(.int .i64 (F)), (.int .i64 (Cn)), (.int .i64 (id)), (.pointer (some ⟨bb, 0, none⟩)), (.slice (some ⟨g, 0, none⟩) Q.length lc)] : List Value), Zd 119 79 (.slice (some ⟨g, 0, none⟩) Q.length lc) Q.length (Q.flatMap Zf), Zh q.mr (Value.int .i64) rcV (Z1P R fr (⟨ix, ⟨id, sq, q.x.h, tm⟩⟩ : RcD)), Zd 5 1 (.slice q.pa q.P.length q.pc) q.P.length (q.P.flatMap Zi), Zb w (ZF [Z5 c 112 [.int .i64 F, .int .i64 Cn, .int .i64 id, .pointer (some ⟨bb, 0, none⟩), .slice (some ⟨g, 0, none⟩) Q.length lc], Zd 119 79 (.slice (some ⟨g, 0, none⟩) Q.length lc) Q.length (Q.flatMap Zf), Zh q.mr (Value.int .i64) rcV R, Zd 5 1 (.slice q.pa q.P.length q.pc) q.P.length (q.P.flatMap Zi)]).fp, Z5 b2 131 (([(.int .i64 (ix)), (.int .i64 (id)), (.int .i64 (sq))] : List Value) ++ hc q.x.h ++ ([(.int .u64 (tm))] : List Value)), Z5 b11 131 (([(.int .i64 (((Zq R fr).getD rc0).i)), (.int .i64 (((Zq R fr).getD rc0).e.cl)), (.int .i64 (((Zq R fr).getD rc0).e.sq))] : List Value) ++ hc ((Zq R fr).getD rc0).e.h ++ ([(.int .u64 (((Zq R fr).getD rc0).e.t))] : List Value))] w25)
   have S27 := H26.pick [0, 1, 3, 4, 5, 6] (by decide)
   refine hK24 _ _ S27 ?_
   clear hK24 K24
   refine Z0E (by kernel_rfl) ?_
   have H28 := H26.pick [0, 1, 2, 3, 4, 5] (by decide)
   have hno : fr ∉ R.map (·.1) := Z13.1 (by have q_ := b18; simpa using q_)
   refine ZX ?_ ⟨(Z1P R fr (⟨ix, ⟨id, sq, q.x.h, tm⟩⟩ : RcD)), (Z4p hno), H28⟩
   exact (Z6 rfl (Z6 rfl (Z6 rfl (Z6 rfl (Z6 rfl (Z6 rfl (Z6 rfl (Z6 rfl (Z6 rfl (Z6 rfl (Z6 rfl (Z6 rfl (Z6 rfl (Z6 rfl (Z6 rfl (Z6 rfl (Z6 rfl (Z6 rfl (Z6 rfl (Z6 rfl (ZV)))))))))))))))))))))
  ·have g29 := Z09 b18
   refine Zs 33 (.bool false) (congrArg Value.bool b18) ?_
   have g30 := Z09 b18
   refine ZY rfl ?_
   refine ZN ?_
   have H31 := H16.pick [0, 1, 2, 3, 4, 5] (by decide)
   have hin_ : fr ∈ R.map (·.1) := Decidable.byContradiction fun h_ => by have q_ := b18; rw [Z13.2 h_] at q_; simp at q_
   refine ZX ?_ ⟨R, (Z2u hin_).symm, H31⟩
   exact (Z6 rfl (Z6 rfl (Z6 rfl (Z6 rfl (Z6 rfl (Z6 rfl (Z6 rfl (Z6 rfl (Z6 rfl (Z6 rfl (Z6 rfl (Z6 rfl (Z6 rfl (Z6 rfl (ZV)))))))))))))))
 ·rintro f32 w33 ⟨R2, hR2, H34⟩
  refine Zg ?_
  refine Zn ?_
  refine Z3 (Z1 rfl) (d := 10) (v := (.int .i64 (0))) rfl (by kernel_rfl) ?_
  refine Zm ?_
  refine Z7 ?_
  refine Z0x [10, 12, 40, 41, 42, 43, 44, 45, 46, 47, 48, 49, 50, 51, 52, 53, 54, 55, 56, 57, 58] (fun G_ W_ => G_ 10 = (.int .i64 ((Z10 R2 ((Zq R2 fr).getD rc0) : Int))) ∧ Sat w [Z5 c 112 ([(.int .i64 (F)), (.int .i64 (Cn)), (.int .i64 (id)), (.pointer (some ⟨bb, 0, none⟩)), (.slice (some ⟨g, 0, none⟩) Q.length lc)] : List Value), Zd 119 79 (.slice (some ⟨g, 0, none⟩) Q.length lc) Q.length (Q.flatMap Zf), Zh q.mr (Value.int .i64) rcV R2, Zd 5 1 (.slice q.pa q.P.length q.pc) q.P.length (q.P.flatMap Zi), Zb w (ZF [Z5 c 112 [.int .i64 F, .int .i64 Cn, .int .i64 id, .pointer (some ⟨bb, 0, none⟩), .slice (some ⟨g, 0, none⟩) Q.length lc], Zd 119 79 (.slice (some ⟨g, 0, none⟩) Q.length lc) Q.length (Q.flatMap Zf), Zh q.mr (Value.int .i64) rcV R, Zd 5 1 (.slice q.pa q.P.length q.pc) q.P.length (q.P.flatMap Zi)]).fp, Z5 b2 131 (([(.int .i64 (ix)), (.int .i64 (id)), (.int .i64 (sq))] : List Value) ++ hc q.x.h ++ ([(.int .u64 (tm))] : List Value))] W_) ?_ ?_
  ·refine Zg ?_
   have hM1 : MapAt w33 q.mr (Value.int .i64) rcV R2 := H34.at 2 rfl
   have hrow1 : (Zd 119 79 (.slice (some ⟨g, 0, none⟩) Q.length lc) Q.length (Q.flatMap Zf)).ok w33 := H34.at 1 rfl
   have hlR2 : R2.length ≤ 1001 := by rw [hR2]; exact Nat.le_trans Z4e (by omega)
   have HK := Sat.start0 w33
   refine Zn ?_
   refine Z3 (Z1 rfl) (d := 40) (v := (.pointer (some ⟨g, 0 + ((k : Int)).toNat * 79, none⟩))) rfl (by kernel_rfl) ?_
   refine Z3 (Z1 rfl) (d := 41) (v := (.pointer (some ⟨g, 0 + ((k : Int)).toNat * 79, none⟩))) rfl (by kernel_rfl) ?_
   refine Z3 (Z1 rfl) (d := 42) (v := (.pointer (some ⟨g, 0 + ((k : Int)).toNat * 79 + 73, none⟩))) rfl (by kernel_rfl) ?_
   refine Z3 (Z1 rfl) (d := 43) (v := (.map (some q.mr))) rfl (Zj rfl (by kernel_rfl) (Z00 (HK.roCk 0 rfl hrow1 (fun _ _ h => h)) rfl ZK hq 73 rfl (show 0 + ((k : Int)).toNat * 79 + 73 = k * 79 + 73 by omega) (by kernel_rfl))) ?_
   refine ZE (Z1 rfl) (fun K36 hK36 => ?_)
   refine Z4i (kt := 3) (et := 131) rfl HK 0 rfl hM1 (fun h => h) (by kernel_rfl) rfl ?_
   intro r37 w38 (H39 : Sat w33 [Zb w33 (fun _ => False), Z1Y w33 r37 q.mr (Value.int .i64) rcV R2 []] w38)
   refine hK36 _ _ ?_
   clear hK36 K36
   refine Zm ?_
   refine Z7 ?_
   refine ZB ?_
   refine ZU [10, 12, 45, 46, 47, 48, 49, 50, 51, 52, 53, 54, 55, 56, 57, 58] (fun F_ W_ m_ => ∃ (seen rest : List (Int × RcD)), F_ 10 = (.int .i64 ((Z10 seen ((Zq R2 fr).getD rc0) : Int))) ∧ (R2.Perm (seen ++ rest)) ∧ Sat w33 [Zb w33 (fun _ => False), Z1Y w33 r37 q.mr (Value.int .i64) rcV R2 seen] W_ ∧ m_ = rest.length) _ ⟨[], R2, (show ((.int .i64 (0)) : Value) = _ by first | rfl | go_num), (List.Perm.refl _), H39, rfl⟩ ?_
   rintro g40 w41 _ ⟨seen, rest, v43, hperm, H42, rfl⟩
   refine Zs 10 _ v43 ?_
   refine Zg ?_
   refine Zn ?_
   refine ZE (Z1 rfl) (fun K45 hK45 => ?_)
   refine Z4T rfl H42 1 rfl 0 rfl (fun h => h) rfl ?_ ?_
   ·intro p46
    refine hK45 _ _ ?_
    clear hK45 K45
    refine Z3 (Z1 rfl) (d := 46) (v := (.bool false)) rfl (by kernel_rfl) ?_
    refine Zm ?_
    refine Z7 ?_
    refine Zg ?_
    refine ZY rfl ?_
    refine Z1w ?_
    refine Z0t ?_
    refine Z0H ?_
    refine Z16 ?_
    have H47 : Sat w [Z5 c 112 ([(.int .i64 (F)), (.int .i64 (Cn)), (.int .i64 (id)), (.pointer (some ⟨bb, 0, none⟩)), (.slice (some ⟨g, 0, none⟩) Q.length lc)] : List Value), Zd 119 79 (.slice (some ⟨g, 0, none⟩) Q.length lc) Q.length (Q.flatMap Zf), Zh q.mr (Value.int .i64) rcV R2, Zd 5 1 (.slice q.pa q.P.length q.pc) q.P.length (q.P.flatMap Zi), Zb w (ZF [Z5 c 112 [.int .i64 F, .int .i64 Cn, .int .i64 id, .pointer (some ⟨bb, 0, none⟩), .slice (some ⟨g, 0, none⟩) Q.length lc], Zd 119 79 (.slice (some ⟨g, 0, none⟩) Q.length lc) Q.length (Q.flatMap Zf), Zh q.mr (Value.int .i64) rcV R, Zd 5 1 (.slice q.pa q.P.length q.pc) q.P.length (q.P.flatMap Zi)]).fp, Z5 b2 131 (([(.int .i64 (ix)), (.int .i64 (id)), (.int .i64 (sq))] : List Value) ++ hc q.x.h ++ ([(.int .u64 (tm))] : List Value))] w41 := H34.keepU (H42.upd 0 rfl [] (fun _ h => h.elim))
    refine ZX ?_ ⟨(congrArg (fun z_ : Nat => Value.int .i64 (z_ : Int)) (Z4h (x := ((Zq R2 fr).getD rc0)) p46).symm), H47⟩
    exact (Z6 rfl (Z6 rfl (Z6 rfl (Z1i rfl (Z6 rfl (Z6 rfl (Z6 rfl (Z6 rfl (Z6 rfl (ZV))))))))))
   ·intro y48 t49 w50 p51 (H52 : Sat w33 [Zb w33 (fun _ => False), Z1Y w33 r37 q.mr (Value.int .i64) rcV R2 (seen ++ [y48])] w50)
    refine hK45 _ _ ?_
    clear hK45 K45
    refine Z3 (Z1 rfl) (d := 46) (v := (.bool true)) rfl (by kernel_rfl) ?_
    refine Zm ?_
    refine Z7 ?_
    refine Zg ?_
    refine Z0u rfl ?_
    refine ZN ?_
    refine Z7 ?_
    refine ZB ?_
    refine Zg ?_
    refine Zn ?_
    refine Z3 (Z1 rfl) (d := 47) (v := (.tuple #[(.int .i64 (y48.1)), (.agg ⟨(([(.int .i64 (y48.2.i)), (.int .i64 (y48.2.e.cl)), (.int .i64 (y48.2.e.sq))] : List Value) ++ hc y48.2.e.h ++ ([(.int .u64 (y48.2.e.t))] : List Value))⟩)])) rfl (H52.entryR 1 rfl 0 rfl (fun h => h) rfl) ?_
    refine Z3 (Z1 rfl) (d := 48) (v := (.agg ⟨(([(.int .i64 (y48.2.i)), (.int .i64 (y48.2.e.cl)), (.int .i64 (y48.2.e.sq))] : List Value) ++ hc y48.2.e.h ++ ([(.int .u64 (y48.2.e.t))] : List Value))⟩)) rfl (by kernel_rfl) ?_
    refine ZE (Z1 rfl) (fun K53 hK53 => ?_)
    refine Z0v (zs := (([(.int .i64 (0)), (.int .i64 (0)), (.int .i64 (0))] : List Value) ++ hc Z8 ++ ([(.int .u64 (0))] : List Value))) (z := (.agg ⟨(([(.int .i64 (0)), (.int .i64 (0)), (.int .i64 (0))] : List Value) ++ hc Z8 ++ ([(.int .u64 (0))] : List Value))⟩)) rfl H52 (by kernel_rfl) (by kernel_rfl) ?_
    intro b54 w55 (H56 : Sat w33 [Zb w33 (fun _ => False), Z1Y w33 r37 q.mr (Value.int .i64) rcV R2 (seen ++ [y48]), Z5 b54 131 (([(.int .i64 (0)), (.int .i64 (0)), (.int .i64 (0))] : List Value) ++ hc Z8 ++ ([(.int .u64 (0))] : List Value))] w55)
    refine hK53 _ _ ?_
    clear hK53 K53
    refine ZE (Z1 rfl) (fun K57 hK57 => ?_)
    refine ZQ (vs := (([(.int .i64 (y48.2.i)), (.int .i64 (y48.2.e.cl)), (.int .i64 (y48.2.e.sq))] : List Value) ++ hc y48.2.e.h ++ ([(.int .u64 (y48.2.e.t))] : List Value))) (cs' := (([(.int .i64 (y48.2.i)), (.int .i64 (y48.2.e.cl)), (.int .i64 (y48.2.e.sq))] : List Value) ++ hc y48.2.e.h ++ ([(.int .u64 (y48.2.e.t))] : List Value))) rfl H56 2 rfl rfl rfl rfl (by kernel_rfl) (Nat.le_of_ble_eq_true (by kernel_rfl)) (Nat.le_of_ble_eq_true (by kernel_rfl)) (by kernel_rfl) (by kernel_rfl) ?_
    intro w58 (H59 : Sat w33 [Zb w33 (fun _ => False), Z1Y w33 r37 q.mr (Value.int .i64) rcV R2 (seen ++ [y48]), Z5 b54 131 (([(.int .i64 (y48.2.i)), (.int .i64 (y48.2.e.cl)), (.int .i64 (y48.2.e.sq))] : List Value) ++ hc y48.2.e.h ++ ([(.int .u64 (y48.2.e.t))] : List Value))] w58)
    refine hK57 _ _ ?_
    clear hK57 K57
    refine Zm ?_
    refine Z7 ?_
    refine Zg ?_
    refine Z1s H59 (by kernel_rfl) (by kernel_rfl) ?_
    refine ZO (Z1 rfl) (d := 49) (v := (.agg ⟨(([(.int .i64 (y48.2.i)), (.int .i64 (y48.2.e.cl)), (.int .i64 (y48.2.e.sq))] : List Value) ++ hc y48.2.e.h ++ ([(.int .u64 (y48.2.e.t))] : List Value))⟩)) rfl (fun _ H' => (ZJ (vs := (([(.int .i64 (y48.2.i)), (.int .i64 (y48.2.e.cl)), (.int .i64 (y48.2.e.sq))] : List Value) ++ hc y48.2.e.h ++ ([(.int .u64 (y48.2.e.t))] : List Value))) rfl (by kernel_rfl) (by kernel_rfl) (by exact Nat.le_of_ble_eq_true (by kernel_rfl)) (H'.at 2 rfl) (by kernel_rfl))) ?_
    refine ZO (Z1 rfl) (d := 50) (v := (.pointer (some ⟨g, 0 + ((k : Int)).toNat * 79, none⟩))) rfl (fun _ H' => (by kernel_rfl)) ?_
    refine ZO (Z1 rfl) (d := 51) (v := (.pointer (some ⟨g, 0 + ((k : Int)).toNat * 79, none⟩))) rfl (fun _ H' => (by kernel_rfl)) ?_
    refine ZO (Z1 rfl) (d := 52) (v := (.pointer (some ⟨g, 0 + ((k : Int)).toNat * 79 + 73, none⟩))) rfl (fun _ H' => (by kernel_rfl)) ?_
    refine ZO (Z1 rfl) (d := 53) (v := (.map (some q.mr))) rfl (fun _ H' => (Zj rfl (by kernel_rfl) (Z00 (H'.roCk 0 rfl hrow1 (fun _ _ h => h)) rfl ZK hq 73 rfl (show 0 + ((k : Int)).toNat * 79 + 73 = k * 79 + 73 by omega) (by kernel_rfl)))) ?_
    refine ZO (Z1 rfl) (d := 54) (v := (.int .i64 (fr))) rfl (fun _ H' => (by kernel_rfl)) ?_
    refine ZO (Z1 rfl) (d := 55) (v := (.agg ⟨(([(.int .i64 (((Zq R2 fr).getD rc0).i)), (.int .i64 (((Zq R2 fr).getD rc0).e.cl)), (.int .i64 (((Zq R2 fr).getD rc0).e.sq))] : List Value) ++ hc ((Zq R2 fr).getD rc0).e.h ++ ([(.int .u64 (((Zq R2 fr).getD rc0).e.t))] : List Value))⟩)) rfl (fun _ H' => (Z1k (kt := 3) (et := 131) (KeyTy.int (by kernel_rfl)) (by kernel_rfl) Z5B rfl fr rfl (H'.roMap 0 rfl hM1 (fun h => h)) (Z60 rcV _ _))) ?_
    refine ZO (Z1 rfl) (d := 56) (v := (.bool (decide (y48.2 = ((Zq R2 fr).getD rc0))))) rfl (fun _ H' => (rcF.e_eq y48.2 ((Zq R2 fr).getD rc0) rfl rfl)) ?_
    refine Z1Q ?_
    intro w61 H62
    refine Z7 ?_
    refine (Z06 (decide (y48.2 = ((Zq R2 fr).getD rc0)))).elim (fun b63 => ?_) (fun b63 => ?_)
    ·have g64 := of_decide_eq_true b63
     refine Zs 56 (.bool true) (congrArg Value.bool b63) ?_
     have g65 := of_decide_eq_true b63
     refine Z0u rfl ?_
     refine Zn ?_
     refine Z3 (Z1 rfl) (d := 57) (v := (.int .i64 ((Z10 seen ((Zq R2 fr).getD rc0) : Int)))) rfl (by kernel_rfl) ?_
     refine Z3 (Z1 rfl) (d := 58) (v := (.int .i64 ((Z10 seen ((Zq R2 fr).getD rc0) : Int) + 1))) rfl (Z05 (z := (Z10 seen ((Zq R2 fr).getD rc0) : Int) + 1) (by kernel_rfl) (IntWalk.i64_in _ (by have h1 := hperm.length_eq; have h2 := Z6k (l := seen) (x := ((Zq R2 fr).getD rc0)); simp only [List.length_append] at h1; omega))) ?_
     refine Z3 (Z1 rfl) (d := 10) (v := (.int .i64 ((Z10 seen ((Zq R2 fr).getD rc0) : Int) + 1))) rfl (by kernel_rfl) ?_
     refine Zm ?_
     refine Zz ?_
     have H66 : Sat w33 [Zb w33 (fun _ => False), Z1Y w33 r37 q.mr (Value.int .i64) rcV R2 (seen ++ [y48])] w61 := H62.pick [0, 1] (by decide)
     refine ZL ?_ _ ⟨(seen ++ [y48]), t49, (show ((.int .i64 ((Z10 seen ((Zq R2 fr).getD rc0) : Int) + 1)) : Value) = _ by rw [Z23, Z2z]; have q_ := b63; simp at q_; simp [q_]), p51, H66, rfl⟩ (by have h1 := hperm.length_eq; have h2 := p51.length_eq; simp only [List.length_append, List.length_cons, List.length_nil] at h1 h2; omega)
     exact (Z6 rfl (Z6 rfl (Z6 rfl (Z6 rfl (Z6 rfl (Z6 rfl (Z6 rfl (Z6 rfl (Z6 rfl (Z6 rfl (Z6 rfl (Z6 rfl (Z6 rfl (Z6 rfl (Z6 rfl (Z6 rfl (Z6 rfl (Z6 rfl (Z0N)))))))))))))))))))
    ·have g67 := of_decide_eq_false b63
     refine Zs 56 (.bool false) (congrArg Value.bool b63) ?_
     have g68 := of_decide_eq_false b63
     refine ZY rfl ?_
     refine ZN ?_
     refine Zz ?_
     have H69 : Sat w33 [Zb w33 (fun _ => False), Z1Y w33 r37 q.mr (Value.int .i64) rcV R2 (seen ++ [y48])] w61 := H62.pick [0, 1] (by decide)
     refine ZL ?_ _ ⟨(seen ++ [y48]), t49, (show ((.int .i64 ((Z10 seen ((Zq R2 fr).getD rc0) : Int))) : Value) = _ by rw [Z23, Z2z]; have q_ := b63; simp at q_; simp [q_]), p51, H69, rfl⟩ (by have h1 := hperm.length_eq; have h2 := p51.length_eq; simp only [List.length_append, List.length_cons, List.length_nil] at h1 h2; omega)
     exact (Z6 rfl (Z6 rfl (Z6 rfl (Z6 rfl (Z6 rfl (Z6 rfl (Z6 rfl (Z6 rfl (Z6 rfl (Z6 rfl (Z6 rfl (Z6 rfl (Z6 rfl (Z6 rfl (Z6 rfl (Z0N))))))))))))))))
  ·rintro f70 w71 ⟨v73, H72⟩
   refine Zs 10 _ v73 ?_
   refine Zg ?_
   refine Zg ?_
   refine Zn ?_
   refine Z3 (Z1 rfl) (d := 59) (v := (.pointer (some ⟨g, 0 + ((k : Int)).toNat * 79, none⟩))) rfl (by kernel_rfl) ?_
   refine Z3 (Z1 rfl) (d := 60) (v := (.pointer (some ⟨g, 0 + ((k : Int)).toNat * 79, none⟩))) rfl (by kernel_rfl) ?_
   refine Z3 (Z1 rfl) (d := 61) (v := (.pointer (some ⟨g, 0 + ((k : Int)).toNat * 79 + 74, none⟩))) rfl (by kernel_rfl) ?_
   refine Z3 (Z1 rfl) (d := 62) (v := (.bool (q.op))) rfl (Zj rfl (by kernel_rfl) (Z00 (H72.at 1 rfl) rfl ZK hq 74 rfl (show 0 + ((k : Int)).toNat * 79 + 74 = k * 79 + 74 by omega) (by kernel_rfl))) ?_
   refine Z3 (Z1 rfl) (d := 63) (v := (.bool (q.op))) rfl (by kernel_rfl) ?_
   refine (Z06 (q.op)).elim (fun b74 => ?_) (fun b74 => ?_)
   ·refine Z01 63 (.bool true) (congrArg Value.bool b74) ?_
    refine ZR (Z03 4 63 false rfl (by kernel_rfl) rfl (by kernel_rfl)) rfl ?_
    refine ZR (Z03 4 63 false rfl (by kernel_rfl) rfl (by kernel_rfl)) rfl ?_
    refine ZR (Z03 4 63 false rfl (by kernel_rfl) rfl (by kernel_rfl)) rfl ?_
    refine ZR (Z03 4 63 false rfl (by kernel_rfl) rfl (by kernel_rfl)) rfl ?_
    refine ZR (Z03 4 63 false rfl (by kernel_rfl) rfl (by kernel_rfl)) rfl ?_
    refine ZR (Z03 4 63 false rfl (by kernel_rfl) rfl (by kernel_rfl)) rfl ?_
    refine ZR (Z03 4 63 false rfl (by kernel_rfl) rfl (by kernel_rfl)) rfl ?_
    refine ZR (Z03 4 63 false rfl (by kernel_rfl) rfl (by kernel_rfl)) rfl ?_
    refine Z3 (Z1 rfl) (d := 72) (v := (.bool true)) rfl (by kernel_rfl) ?_
    refine Zm ?_
    refine Z7 ?_
    refine Z0u rfl ?_
    refine Zg ?_
    refine Zn ?_
    refine Z3 (Z1 rfl) (d := 6) (v := (.slice none 0 0)) rfl (by kernel_rfl) ?_
    refine Zm ?_
    refine Z7 ?_
    refine ZW ?_
    refine Z1D ?_
    refine Z0J rfl (ZI (v := (.slice none 0 0)) rfl) ?_
    subst hR2
    exact .inl ⟨by first | (left; assumption) | (right; omega), rfl, H72.pick [0, 1, 2, 3, 4] (by decide)⟩
   ·refine Z01 63 (.bool false) (congrArg Value.bool b74) ?_
    refine Z3 (Zr 4 63 false rfl (by kernel_rfl) rfl (by kernel_rfl)) (d := 64) (v := (.int .i64 ((Z10 R2 ((Zq R2 fr).getD rc0) : Int)))) rfl (by kernel_rfl) ?_
    refine Z3 (Zr 4 63 false rfl (by kernel_rfl) rfl (by kernel_rfl)) (d := 65) (v := (.pointer (some ⟨c, 0, none⟩))) rfl (by kernel_rfl) ?_
    refine Z3 (Zr 4 63 false rfl (by kernel_rfl) rfl (by kernel_rfl)) (d := 66) (v := (.pointer (some ⟨c, 0, none⟩))) rfl (by kernel_rfl) ?_
    refine Z3 (Zr 4 63 false rfl (by kernel_rfl) rfl (by kernel_rfl)) (d := 67) (v := (.pointer (some ⟨c, 0, none⟩))) rfl (by kernel_rfl) ?_
    refine Z3 (Zr 4 63 false rfl (by kernel_rfl) rfl (by kernel_rfl)) (d := 68) (v := (.pointer (some ⟨c, 0, none⟩))) rfl (by kernel_rfl) ?_
    refine Z3 (Zr 4 63 false rfl (by kernel_rfl) rfl (by kernel_rfl)) (d := 69) (v := (.int .i64 (F))) rfl (Zj rfl (by kernel_rfl) (H72.cell 0 rfl rfl)) ?_
    refine Z3 (Zr 4 63 false rfl (by kernel_rfl) rfl (by kernel_rfl)) (d := 70) (v := (.int .i64 (F + 1))) rfl (Z05 (z := F + 1) (by kernel_rfl) (IntWalk.i64_in _ (by omega))) ?_
    refine Z3 (Zr 4 63 false rfl (by kernel_rfl) rfl (by kernel_rfl)) (d := 71) (v := (.bool (decide ((Z10 R2 ((Zq R2 fr).getD rc0) : Int) < (F + 1))))) rfl (by kernel_rfl) ?_
    refine Z3 (Z1 rfl) (d := 72) (v := (.bool (decide ((Z10 R2 ((Zq R2 fr).getD rc0) : Int) < (F + 1))))) rfl (by kernel_rfl) ?_
    refine Zm ?_
    refine Z7 ?_
    refine (Z06 (decide ((Z10 R2 ((Zq R2 fr).getD rc0) : Int) < (F + 1)))).elim (fun b75 => ?_) (fun b75 => ?_)
    ·have g76 := of_decide_eq_true b75
     refine Zs 72 (.bool true) (congrArg Value.bool b75) ?_
     have g77 := of_decide_eq_true b75
     refine Z0u rfl ?_
     refine Zg ?_
     refine Zn ?_
     refine Z3 (Z1 rfl) (d := 6) (v := (.slice none 0 0)) rfl (by kernel_rfl) ?_
     refine Zm ?_
     refine Z7 ?_
     refine ZW ?_
     refine Z1D ?_
     refine Z0J rfl (ZI (v := (.slice none 0 0)) rfl) ?_
     subst hR2
     exact .inl ⟨by first | (left; assumption) | (right; omega), rfl, H72.pick [0, 1, 2, 3, 4] (by decide)⟩
    ·have g78 := of_decide_eq_false b75
     refine Zs 72 (.bool false) (congrArg Value.bool b75) ?_
     have g79 := of_decide_eq_false b75
     refine ZY rfl ?_
     refine ZN ?_
     refine Z7 ?_
     refine Zg ?_
     refine Zn ?_
     refine Z3 (Z1 rfl) (d := 73) (v := (.pointer (some ⟨g, 0 + ((k : Int)).toNat * 79, none⟩))) rfl (by kernel_rfl) ?_
     refine Z3 (Z1 rfl) (d := 74) (v := (.pointer (some ⟨g, 0 + ((k : Int)).toNat * 79, none⟩))) rfl (by kernel_rfl) ?_
     refine Z3 (Z1 rfl) (d := 75) (v := (.pointer (some ⟨g, 0 + ((k : Int)).toNat * 79, none⟩))) rfl (by kernel_rfl) ?_
     refine Z3 (Z1 rfl) (d := 76) (v := (.pointer (some ⟨g, 0 + ((k : Int)).toNat * 79, none⟩))) rfl (by kernel_rfl) ?_
     refine Z3 (Z1 rfl) (d := 77) (v := (.pointer (some ⟨g, 0 + ((k : Int)).toNat * 79 + 73, none⟩))) rfl (by kernel_rfl) ?_
     refine Z3 (Z1 rfl) (d := 78) (v := (.map (some q.mr))) rfl (Zj rfl (by kernel_rfl) (Z00 (H72.at 1 rfl) rfl ZK hq 73 rfl (show 0 + ((k : Int)).toNat * 79 + 73 = k * 79 + 73 by omega) (by kernel_rfl))) ?_
     refine Z3 (Z1 rfl) (d := 79) (v := (.int .i64 (fr))) rfl (by kernel_rfl) ?_
     refine Z3 (Z1 rfl) (d := 80) (v := (.agg ⟨(([(.int .i64 (((Zq R2 fr).getD rc0).i)), (.int .i64 (((Zq R2 fr).getD rc0).e.cl)), (.int .i64 (((Zq R2 fr).getD rc0).e.sq))] : List Value) ++ hc ((Zq R2 fr).getD rc0).e.h ++ ([(.int .u64 (((Zq R2 fr).getD rc0).e.t))] : List Value))⟩)) rfl (Z1k (kt := 3) (et := 131) (KeyTy.int (by kernel_rfl)) (by kernel_rfl) Z5B rfl fr rfl (H72.at 2 rfl) (Z60 rcV _ _)) ?_
     refine Z3 (Z1 rfl) (d := 81) (v := (.int .i64 (((Zq R2 fr).getD rc0).i))) rfl (by kernel_rfl) ?_
     refine Z3 (Z1 rfl) (d := 82) (v := (.pointer (some ⟨g, 0 + ((k : Int)).toNat * 79, none⟩))) rfl (by kernel_rfl) ?_
     refine Z3 (Z1 rfl) (d := 83) (v := (.pointer (some ⟨g, 0 + ((k : Int)).toNat * 79 + 74, none⟩))) rfl (by kernel_rfl) ?_
     refine ZE (Z1 rfl) (fun K80 hK80 => ?_)
     refine Z2p (size := 79) (vs := ([(.bool true)] : List Value)) ZK rfl H72 1 rfl rfl rfl rfl (by kernel_rfl) (Nat.le_of_ble_eq_true (by kernel_rfl)) (by kernel_rfl) k 74 (⟨q.x, q.pa, q.pc, q.P, q.no, q.ms, q.cb, q.ma, q.mr, true, q.pl, q.mp, q.dn, q.rp⟩ : Zl) hq (show 0 + ((k : Int)).toNat * 79 + 74 = k * 79 + 74 by omega) (Nat.le_of_ble_eq_true (by kernel_rfl)) (by kernel_rfl) ?_
     intro w81 (H82 : Sat w [Z5 c 112 ([(.int .i64 (F)), (.int .i64 (Cn)), (.int .i64 (id)), (.pointer (some ⟨bb, 0, none⟩)), (.slice (some ⟨g, 0, none⟩) Q.length lc)] : List Value), Zd 119 79 (.slice (some ⟨g, 0, none⟩) Q.length lc) Q.length ((Q.set k (⟨q.x, q.pa, q.pc, q.P, q.no, q.ms, q.cb, q.ma, q.mr, true, q.pl, q.mp, q.dn, q.rp⟩ : Zl)).flatMap Zf), Zh q.mr (Value.int .i64) rcV R2, Zd 5 1 (.slice q.pa q.P.length q.pc) q.P.length (q.P.flatMap Zi), Zb w (ZF [Z5 c 112 [.int .i64 F, .int .i64 Cn, .int .i64 id, .pointer (some ⟨bb, 0, none⟩), .slice (some ⟨g, 0, none⟩) Q.length lc], Zd 119 79 (.slice (some ⟨g, 0, none⟩) Q.length lc) Q.length (Q.flatMap Zf), Zh q.mr (Value.int .i64) rcV R, Zd 5 1 (.slice q.pa q.P.length q.pc) q.P.length (q.P.flatMap Zi)]).fp, Z5 b2 131 (([(.int .i64 (ix)), (.int .i64 (id)), (.int .i64 (sq))] : List Value) ++ hc q.x.h ++ ([(.int .u64 (tm))] : List Value))] w81)
     have hlw81 : (Q.set k (⟨q.x, q.pa, q.pc, q.P, q.no, q.ms, q.cb, q.ma, q.mr, true, q.pl, q.mp, q.dn, q.rp⟩ : Zl)).length = Q.length := List.length_set
     have h83 : (Q.set k (⟨q.x, q.pa, q.pc, q.P, q.no, q.ms, q.cb, q.ma, q.mr, true, q.pl, q.mp, q.dn, q.rp⟩ : Zl))[k]? = some (⟨q.x, q.pa, q.pc, q.P, q.no, q.ms, q.cb, q.ma, q.mr, true, q.pl, q.mp, q.dn, q.rp⟩ : Zl) := List.getElem?_set_self (by omega)
     refine hK80 _ _ ?_
     clear hK80 K80
     refine Z3 (Z1 rfl) (d := 84) (v := (.pointer (some ⟨g, 0 + ((k : Int)).toNat * 79, none⟩))) rfl (by kernel_rfl) ?_
     refine Z3 (Z1 rfl) (d := 85) (v := (.pointer (some ⟨g, 0 + ((k : Int)).toNat * 79 + 75, none⟩))) rfl (by kernel_rfl) ?_
     refine ZE (Z1 rfl) (fun K84 hK84 => ?_)
     refine Z2p (size := 79) (vs := ([(.int .i64 (((Zq R2 fr).getD rc0).i))] : List Value)) ZK rfl H82 1 rfl rfl rfl rfl (by kernel_rfl) (Nat.le_of_ble_eq_true (by kernel_rfl)) (by kernel_rfl) k 75 (⟨q.x, q.pa, q.pc, q.P, q.no, q.ms, q.cb, q.ma, q.mr, true, (((Zq R2 fr).getD rc0).i), q.mp, q.dn, q.rp⟩ : Zl) h83 (show 0 + ((k : Int)).toNat * 79 + 75 = k * 79 + 75 by omega) (Nat.le_of_ble_eq_true (by kernel_rfl)) (by kernel_rfl) ?_
     intro w85 (H86 : Sat w [Z5 c 112 ([(.int .i64 (F)), (.int .i64 (Cn)), (.int .i64 (id)), (.pointer (some ⟨bb, 0, none⟩)), (.slice (some ⟨g, 0, none⟩) Q.length lc)] : List Value), Zd 119 79 (.slice (some ⟨g, 0, none⟩) Q.length lc) Q.length (((Q.set k (⟨q.x, q.pa, q.pc, q.P, q.no, q.ms, q.cb, q.ma, q.mr, true, q.pl, q.mp, q.dn, q.rp⟩ : Zl)).set k (⟨q.x, q.pa, q.pc, q.P, q.no, q.ms, q.cb, q.ma, q.mr, true, (((Zq R2 fr).getD rc0).i), q.mp, q.dn, q.rp⟩ : Zl)).flatMap Zf), Zh q.mr (Value.int .i64) rcV R2, Zd 5 1 (.slice q.pa q.P.length q.pc) q.P.length (q.P.flatMap Zi), Zb w (ZF [Z5 c 112 [.int .i64 F, .int .i64 Cn, .int .i64 id, .pointer (some ⟨bb, 0, none⟩), .slice (some ⟨g, 0, none⟩) Q.length lc], Zd 119 79 (.slice (some ⟨g, 0, none⟩) Q.length lc) Q.length (Q.flatMap Zf), Zh q.mr (Value.int .i64) rcV R, Zd 5 1 (.slice q.pa q.P.length q.pc) q.P.length (q.P.flatMap Zi)]).fp, Z5 b2 131 (([(.int .i64 (ix)), (.int .i64 (id)), (.int .i64 (sq))] : List Value) ++ hc q.x.h ++ ([(.int .u64 (tm))] : List Value))] w85)
     have hlw85 : ((Q.set k (⟨q.x, q.pa, q.pc, q.P, q.no, q.ms, q.cb, q.ma, q.mr, true, q.pl, q.mp, q.dn, q.rp⟩ : Zl)).set k (⟨q.x, q.pa, q.pc, q.P, q.no, q.ms, q.cb, q.ma, q.mr, true, (((Zq R2 fr).getD rc0).i), q.mp, q.dn, q.rp⟩ : Zl)).length = (Q.set k (⟨q.x, q.pa, q.pc, q.P, q.no, q.ms, q.cb, q.ma, q.mr, true, q.pl, q.mp, q.dn, q.rp⟩ : Zl)).length := List.length_set
     have h87 : ((Q.set k (⟨q.x, q.pa, q.pc, q.P, q.no, q.ms, q.cb, q.ma, q.mr, true, q.pl, q.mp, q.dn, q.rp⟩ : Zl)).set k (⟨q.x, q.pa, q.pc, q.P, q.no, q.ms, q.cb, q.ma, q.mr, true, (((Zq R2 fr).getD rc0).i), q.mp, q.dn, q.rp⟩ : Zl))[k]? = some (⟨q.x, q.pa, q.pc, q.P, q.no, q.ms, q.cb, q.ma, q.mr, true, (((Zq R2 fr).getD rc0).i), q.mp, q.dn, q.rp⟩ : Zl) := List.getElem?_set_self (by omega)
     refine hK84 _ _ ?_
     clear hK84 K84
     refine Zm ?_
     refine Z7 ?_
     refine Zg ?_
     have H88 : Sat w [Z5 c 112 ([(.int .i64 (F)), (.int .i64 (Cn)), (.int .i64 (id)), (.pointer (some ⟨bb, 0, none⟩)), (.slice (some ⟨g, 0, none⟩) ((Q.set k (⟨q.x, q.pa, q.pc, q.P, q.no, q.ms, q.cb, q.ma, q.mr, true, (((Zq R2 fr).getD rc0).i), q.mp, q.dn, q.rp⟩ : Zl)).length) lc)] : List Value), Zd 119 79 (.slice (some ⟨g, 0, none⟩) ((Q.set k (⟨q.x, q.pa, q.pc, q.P, q.no, q.ms, q.cb, q.ma, q.mr, true, (((Zq R2 fr).getD rc0).i), q.mp, q.dn, q.rp⟩ : Zl)).length) lc) ((Q.set k (⟨q.x, q.pa, q.pc, q.P, q.no, q.ms, q.cb, q.ma, q.mr, true, (((Zq R2 fr).getD rc0).i), q.mp, q.dn, q.rp⟩ : Zl)).length) ((Q.set k (⟨q.x, q.pa, q.pc, q.P, q.no, q.ms, q.cb, q.ma, q.mr, true, (((Zq R2 fr).getD rc0).i), q.mp, q.dn, q.rp⟩ : Zl)).flatMap Zf), Zh q.mr (Value.int .i64) rcV R2, Zd 5 1 (.slice q.pa q.P.length q.pc) q.P.length (q.P.flatMap Zi), Zb w (ZF [Z5 c 112 [.int .i64 F, .int .i64 Cn, .int .i64 id, .pointer (some ⟨bb, 0, none⟩), .slice (some ⟨g, 0, none⟩) Q.length lc], Zd 119 79 (.slice (some ⟨g, 0, none⟩) Q.length lc) Q.length (Q.flatMap Zf), Zh q.mr (Value.int .i64) rcV R, Zd 5 1 (.slice q.pa q.P.length q.pc) q.P.length (q.P.flatMap Zi)]).fp, Z5 b2 131 (([(.int .i64 (ix)), (.int .i64 (id)), (.int .i64 (sq))] : List Value) ++ hc q.x.h ++ ([(.int .u64 (tm))] : List Value))] w85 := H86.cast (by rw [List.set_set, List.length_set])
     have h89 : (Q.set k (⟨q.x, q.pa, q.pc, q.P, q.no, q.ms, q.cb, q.ma, q.mr, true, (((Zq R2 fr).getD rc0).i), q.mp, q.dn, q.rp⟩ : Zl))[k]? = some (⟨q.x, q.pa, q.pc, q.P, q.no, q.ms, q.cb, q.ma, q.mr, true, (((Zq R2 fr).getD rc0).i), q.mp, q.dn, q.rp⟩ : Zl) := List.getElem?_set_self (by omega)
     have hlA2 : (Q.set k (⟨q.x, q.pa, q.pc, q.P, q.no, q.ms, q.cb, q.ma, q.mr, true, (((Zq R2 fr).getD rc0).i), q.mp, q.dn, q.rp⟩ : Zl)).length = Q.length := List.length_set
     refine Z0g H88 [Z5 c 112 ([(.int .i64 (F)), (.int .i64 (Cn)), (.int .i64 (id)), (.pointer (some ⟨bb, 0, none⟩)), (.slice (some ⟨g, 0, none⟩) ((Q.set k (⟨q.x, q.pa, q.pc, q.P, q.no, q.ms, q.cb, q.ma, q.mr, true, (((Zq R2 fr).getD rc0).i), q.mp, q.dn, q.rp⟩ : Zl)).length) lc)] : List Value), Zd 119 79 (.slice (some ⟨g, 0, none⟩) ((Q.set k (⟨q.x, q.pa, q.pc, q.P, q.no, q.ms, q.cb, q.ma, q.mr, true, (((Zq R2 fr).getD rc0).i), q.mp, q.dn, q.rp⟩ : Zl)).length) lc) ((Q.set k (⟨q.x, q.pa, q.pc, q.P, q.no, q.ms, q.cb, q.ma, q.mr, true, (((Zq R2 fr).getD rc0).i), q.mp, q.dn, q.rp⟩ : Zl)).length) ((Q.set k (⟨q.x, q.pa, q.pc, q.P, q.no, q.ms, q.cb, q.ma, q.mr, true, (((Zq R2 fr).getD rc0).i), q.mp, q.dn, q.rp⟩ : Zl)).flatMap Zf), Zh q.mr (Value.int .i64) rcV R2, Zd 5 1 (.slice q.pa q.P.length q.pc) q.P.length (q.P.flatMap Zi), Zb w (ZF [Z5 c 112 [.int .i64 F, .int .i64 Cn, .int .i64 id, .pointer (some ⟨bb, 0, none⟩), .slice (some ⟨g, 0, none⟩) Q.length lc], Zd 119 79 (.slice (some ⟨g, 0, none⟩) Q.length lc) Q.length (Q.flatMap Zf), Zh q.mr (Value.int .i64) rcV R, Zd 5 1 (.slice q.pa q.P.length q.pc) q.P.length (q.P.flatMap Zi)]).fp, Z5 b2 131 (([(.int .i64 (ix)), (.int .i64 (id)), (.int .i64 (sq))] : List Value) ++ hc q.x.h ++ ([(.int .u64 (tm))] : List Value))] 17 rfl (by kernel_rfl) (fun Hx => (Hx.pick [0, 1, 2, 3, 4, 5] (by decide))) ?_
     intro w90 H91 S92
     refine Zt 0 rfl (by kernel_rfl) (by kernel_rfl) (by kernel_rfl) (fun _ _ _ h => h) S92 (Z1 rfl) (d := 86) (v := (.pointer (some ⟨c, 0, none⟩))) rfl (fun _ H' => (by kernel_rfl)) ?_
     refine Zt 1 rfl (by kernel_rfl) (by kernel_rfl) (by kernel_rfl) (fun _ _ _ h => h) S92 (Z1 rfl) (d := 87) (v := (.pointer (some ⟨g, 0 + ((k : Int)).toNat * 79, none⟩))) rfl (fun _ H' => (by kernel_rfl)) ?_
     refine Zt 2 rfl (by kernel_rfl) (by kernel_rfl) (by kernel_rfl) (fun _ _ _ h => h) S92 (Z1 rfl) (d := 88) (v := (.pointer (some ⟨g, 0 + ((k : Int)).toNat * 79, none⟩))) rfl (fun _ H' => (by kernel_rfl)) ?_
     refine Zt 3 rfl (by kernel_rfl) (by kernel_rfl) (by kernel_rfl) (fun _ _ _ h => h) S92 (Z1 rfl) (d := 89) (v := (.pointer (some ⟨g, 0 + ((k : Int)).toNat * 79 + 75, none⟩))) rfl (fun _ H' => (by kernel_rfl)) ?_
     refine Zt 4 rfl (by kernel_rfl) (by kernel_rfl) (by kernel_rfl) (fun _ _ _ h => h) S92 (Z1 rfl) (d := 90) (v := (.int .i64 ((((Zq R2 fr).getD rc0).i)))) rfl (fun _ H' => (Zj rfl (by kernel_rfl) (Z00 (H'.at 1 rfl) rfl ZK h89 75 rfl (show 0 + ((k : Int)).toNat * 79 + 75 = k * 79 + 75 by omega) (by kernel_rfl)))) ?_
     refine Zt 5 rfl (by kernel_rfl) (by kernel_rfl) (by kernel_rfl) (fun _ _ _ h => h) S92 (Z1 rfl) (d := 91) (v := (.pointer (some ⟨g, 0 + ((k : Int)).toNat * 79, none⟩))) rfl (fun _ H' => (by kernel_rfl)) ?_
     refine Zt 6 rfl (by kernel_rfl) (by kernel_rfl) (by kernel_rfl) (fun _ _ _ h => h) S92 (Z1 rfl) (d := 92) (v := (.pointer (some ⟨g, 0 + ((k : Int)).toNat * 79, none⟩))) rfl (fun _ H' => (by kernel_rfl)) ?_
     refine Zt 7 rfl (by kernel_rfl) (by kernel_rfl) (by kernel_rfl) (fun _ _ _ h => h) S92 (Z1 rfl) (d := 93) (v := (.pointer (some ⟨g, 0 + ((k : Int)).toNat * 79 + 37, none⟩))) rfl (fun _ H' => (by kernel_rfl)) ?_
     refine Zt 8 rfl (by kernel_rfl) (by kernel_rfl) (by kernel_rfl) (fun _ _ _ h => h) S92 (Z1 rfl) (d := 94) (v := ((.slice q.pa q.P.length q.pc))) rfl (fun _ H' => (Zj rfl (by kernel_rfl) (Z00 (H'.at 1 rfl) rfl ZK h89 37 rfl (show 0 + ((k : Int)).toNat * 79 + 37 = k * 79 + 37 by omega) (by kernel_rfl)))) ?_
     refine Zt 9 rfl (by kernel_rfl) (by kernel_rfl) (by kernel_rfl) (fun _ _ _ h => h) S92 (Z1 rfl) (d := 95) (v := (.pointer (some ⟨g, 0 + ((k : Int)).toNat * 79, none⟩))) rfl (fun _ H' => (by kernel_rfl)) ?_
     refine Zt 10 rfl (by kernel_rfl) (by kernel_rfl) (by kernel_rfl) (fun _ _ _ h => h) S92 (Z1 rfl) (d := 96) (v := (.pointer (some ⟨g, 0 + ((k : Int)).toNat * 79, none⟩))) rfl (fun _ H' => (by kernel_rfl)) ?_
     refine Zt 11 rfl (by kernel_rfl) (by kernel_rfl) (by kernel_rfl) (fun _ _ _ h => h) S92 (Z1 rfl) (d := 97) (v := (.pointer (some ⟨g, 0 + ((k : Int)).toNat * 79 + 38, none⟩))) rfl (fun _ H' => (by kernel_rfl)) ?_
     refine Zt 12 rfl (by kernel_rfl) (by kernel_rfl) (by kernel_rfl) (fun _ _ _ h => h) S92 (Z1 rfl) (d := 98) (v := (.agg ⟨(hc q.no)⟩)) rfl (fun _ H' => (Z0D (vs := (hc q.no)) rfl (by kernel_rfl) (by kernel_rfl) (Nat.le_of_ble_eq_true (by kernel_rfl)) (Z1c (H'.at 1 rfl) rfl ZK h89 38 (show 0 + ((k : Int)).toNat * 79 + 38 = k * 79 + 38 by omega) (by kernel_rfl) (by kernel_rfl)))) ?_
     refine Zt 13 rfl (by kernel_rfl) (by kernel_rfl) (by kernel_rfl) (fun _ _ _ h => h) S92 (Z1 rfl) (d := 99) (v := (.agg ⟨(([(.int .i64 ((((Zq R2 fr).getD rc0).i))), ((.slice q.pa q.P.length q.pc))] : List Value) ++ hc q.no)⟩)) rfl (fun _ H' => (by kernel_rfl)) ?_
     refine Zt 14 rfl (by kernel_rfl) (by kernel_rfl) (by kernel_rfl) (fun _ _ _ h => h) S92 (Z1 rfl) (d := 100) (v := (.agg ⟨(([(.int .i64 (10)), (.int .i64 (0)), (.int .i64 (0)), (.int .i64 (0)), (.int .i64 (0))] : List Value) ++ hc Z8 ++ ([(.int .i64 (0)), (.int .i64 (0)), (.int .i64 (0)), (.int .i64 (0)), (.int .i64 (0)), (.int .i64 (0))] : List Value) ++ hc Z8 ++ ([(.int .u64 (0)), (.int .i64 (0)), (.int .i64 (0)), (.int .i64 (0)), (.int .i64 (0))] : List Value) ++ hc Z8 ++ ([(.int .i64 (0)), (.int .i64 (0)), (.int .i64 (0)), (.slice none 0 0), (.int .i64 (0)), (.int .i64 (0)), (.int .i64 (0))] : List Value) ++ hc Z8 ++ ([(.int .u64 (0)), (.int .i64 (0)), (.int .i64 (0)), (.int .i64 (0)), (.int .i64 (0)), (.int .u64 (0)), (.int .i64 (0)), (.int .i64 (0)), (.int .u64 (0)), (.slice none 0 0), (.int .i64 (0)), (.int .i64 (0)), (.int .i64 (0)), (.int .i64 (0)), (.int .i64 (0)), (.int .i64 (0)), (.int .i64 (0)), (.int .u64 (0)), (.slice none 0 0), (.slice none 0 0), (.slice none 0 0), (.int .i64 (0)), (.int .i64 (0)), (.int .i64 (0))] : List Value) ++ ([(.int .i64 (0)), (.int .i64 (0)), (.int .i64 (0))] : List Value) ++ hc Z8 ++ ([(.int .i64 (0)), (.int .i64 (0)), (.int .i64 (0)), (.int .i64 (0)), (.int .i64 (0))] : List Value) ++ hc Z8 ++ ([(.int .u64 (0)), (.int .i64 ((((Zq R2 fr).getD rc0).i))), ((.slice q.pa q.P.length q.pc))] : List Value) ++ hc q.no ++ ([(.int .i64 (0)), (.int .i64 (0)), (.int .i64 (0)), (.int .i64 (0)), (Zu ([] : List UInt8)), (.int .i64 (0)), (.int .i64 (0)), (.int .i64 (0)), (.int .u64 (0)), (.slice none 0 0), (.slice none 0 0), (.slice none 0 0), (.slice none 0 0)] : List Value))⟩)) rfl (fun _ H' => (by kernel_rfl)) ?_
     refine Z1a 15 rfl (by kernel_rfl) (Z1 rfl) (fun K93 hK93 => ?_)
     refine ZC (d := 101) rfl (by kernel_rfl) (Z3s w90 c bb F Cn id (.slice (some ⟨g, 0, none⟩) ((Q.set k (⟨q.x, q.pa, q.pc, q.P, q.no, q.ms, q.cb, q.ma, q.mr, true, (((Zq R2 fr).getD rc0).i), q.mp, q.dn, q.rp⟩ : Zl)).length) lc) (H91.at 0 rfl) hF hid (⟨10, 0, 0, co0, co0, none, 0, [], ((Zq R2 fr).getD rc0).i, q.pa, q.pc, q.P, q.no⟩ : OmR) ListAt.nil (Nat.zero_le _) (ListAt.row ZM (by decide) (H91.at 3 rfl)) hlP) ?_
     rintro _ w94 ⟨a95, c96, D97, B98, rfl, n99, o100, k101, p102, q103⟩
     have H104 : Sat w [Z5 c 112 ([(.int .i64 (F)), (.int .i64 (Cn)), (.int .i64 (id)), (.pointer (some ⟨bb, 0, none⟩)), (.slice (some ⟨g, 0, none⟩) ((Q.set k (⟨q.x, q.pa, q.pc, q.P, q.no, q.ms, q.cb, q.ma, q.mr, true, (((Zq R2 fr).getD rc0).i), q.mp, q.dn, q.rp⟩ : Zl)).length) lc)] : List Value), Zd 119 79 (.slice (some ⟨g, 0, none⟩) ((Q.set k (⟨q.x, q.pa, q.pc, q.P, q.no, q.ms, q.cb, q.ma, q.mr, true, (((Zq R2 fr).getD rc0).i), q.mp, q.dn, q.rp⟩ : Zl)).length) lc) ((Q.set k (⟨q.x, q.pa, q.pc, q.P, q.no, q.ms, q.cb, q.ma, q.mr, true, (((Zq R2 fr).getD rc0).i), q.mp, q.dn, q.rp⟩ : Zl)).length) ((Q.set k (⟨q.x, q.pa, q.pc, q.P, q.no, q.ms, q.cb, q.ma, q.mr, true, (((Zq R2 fr).getD rc0).i), q.mp, q.dn, q.rp⟩ : Zl)).flatMap Zf), Zh q.mr (Value.int .i64) rcV R2, Zd 5 1 (.slice q.pa q.P.length q.pc) q.P.length (q.P.flatMap Zi), Zb w (ZF [Z5 c 112 [.int .i64 F, .int .i64 Cn, .int .i64 id, .pointer (some ⟨bb, 0, none⟩), .slice (some ⟨g, 0, none⟩) Q.length lc], Zd 119 79 (.slice (some ⟨g, 0, none⟩) Q.length lc) Q.length (Q.flatMap Zf), Zh q.mr (Value.int .i64) rcV R, Zd 5 1 (.slice q.pa q.P.length q.pc) q.P.length (q.P.flatMap Zi)]).fp, Z5 b2 131 (([(.int .i64 (ix)), (.int .i64 (id)), (.int .i64 (sq))] : List Value) ++ hc q.x.h ++ ([(.int .u64 (tm))] : List Value)), ZF [Zd 82 295 (.slice a95 D97.length c96) D97.length (D97.flatMap ZZ), Z0P B98]] w94 := H91.addU p102 k101 q103
     have H105 : Sat w [Z5 c 112 ([(.int .i64 (F)), (.int .i64 (Cn)), (.int .i64 (id)), (.pointer (some ⟨bb, 0, none⟩)), (.slice (some ⟨g, 0, none⟩) ((Q.set k (⟨q.x, q.pa, q.pc, q.P, q.no, q.ms, q.cb, q.ma, q.mr, true, (((Zq R2 fr).getD rc0).i), q.mp, q.dn, q.rp⟩ : Zl)).length) lc)] : List Value), Zd 119 79 (.slice (some ⟨g, 0, none⟩) ((Q.set k (⟨q.x, q.pa, q.pc, q.P, q.no, q.ms, q.cb, q.ma, q.mr, true, (((Zq R2 fr).getD rc0).i), q.mp, q.dn, q.rp⟩ : Zl)).length) lc) ((Q.set k (⟨q.x, q.pa, q.pc, q.P, q.no, q.ms, q.cb, q.ma, q.mr, true, (((Zq R2 fr).getD rc0).i), q.mp, q.dn, q.rp⟩ : Zl)).length) ((Q.set k (⟨q.x, q.pa, q.pc, q.P, q.no, q.ms, q.cb, q.ma, q.mr, true, (((Zq R2 fr).getD rc0).i), q.mp, q.dn, q.rp⟩ : Zl)).flatMap Zf), Zh q.mr (Value.int .i64) rcV R2, Zd 5 1 (.slice q.pa q.P.length q.pc) q.P.length (q.P.flatMap Zi), Zb w (ZF [Z5 c 112 [.int .i64 F, .int .i64 Cn, .int .i64 id, .pointer (some ⟨bb, 0, none⟩), .slice (some ⟨g, 0, none⟩) Q.length lc], Zd 119 79 (.slice (some ⟨g, 0, none⟩) Q.length lc) Q.length (Q.flatMap Zf), Zh q.mr (Value.int .i64) rcV R, Zd 5 1 (.slice q.pa q.P.length q.pc) q.P.length (q.P.flatMap Zi)]).fp, Z5 b2 131 (([(.int .i64 (ix)), (.int .i64 (id)), (.int .i64 (sq))] : List Value) ++ hc q.x.h ++ ([(.int .u64 (tm))] : List Value)), Zd 82 295 (.slice a95 D97.length c96) D97.length (D97.flatMap ZZ), Z0P B98] w94 := H104.open 6 rfl
     refine ⟨_, rfl, ?_⟩
     have S106 := H105.pick [0, 1, 2, 3, 4, 5] (by decide)
     refine hK93 _ _ S106 ?_
     clear hK93 K93
     refine Zt 16 rfl (by kernel_rfl) (by kernel_rfl) (by kernel_rfl) (fun _ _ _ h => h) S106 (Z1 rfl) (d := 6) (v := (.slice a95 D97.length c96)) rfl (fun _ H' => (by kernel_rfl)) ?_
     refine Z0E (by kernel_rfl) ?_
     refine Z7 ?_
     refine ZW ?_
     refine Z0J rfl (ZI (v := (.slice a95 D97.length c96)) rfl) ?_
     have H107 : Sat w [Z5 c 112 ([(.int .i64 (F)), (.int .i64 (Cn)), (.int .i64 (id)), (.pointer (some ⟨bb, 0, none⟩)), (.slice (some ⟨g, 0, none⟩) ((Q.set k (⟨q.x, q.pa, q.pc, q.P, q.no, q.ms, q.cb, q.ma, q.mr, true, (((Zq R2 fr).getD rc0).i), q.mp, q.dn, q.rp⟩ : Zl)).length) lc)] : List Value), Zd 119 79 (.slice (some ⟨g, 0, none⟩) ((Q.set k (⟨q.x, q.pa, q.pc, q.P, q.no, q.ms, q.cb, q.ma, q.mr, true, (((Zq R2 fr).getD rc0).i), q.mp, q.dn, q.rp⟩ : Zl)).length) lc) ((Q.set k (⟨q.x, q.pa, q.pc, q.P, q.no, q.ms, q.cb, q.ma, q.mr, true, (((Zq R2 fr).getD rc0).i), q.mp, q.dn, q.rp⟩ : Zl)).length) ((Q.set k (⟨q.x, q.pa, q.pc, q.P, q.no, q.ms, q.cb, q.ma, q.mr, true, (((Zq R2 fr).getD rc0).i), q.mp, q.dn, q.rp⟩ : Zl)).flatMap Zf), Zh q.mr (Value.int .i64) rcV R2, Zd 5 1 (.slice q.pa q.P.length q.pc) q.P.length (q.P.flatMap Zi), Zd 82 295 (.slice a95 D97.length c96) D97.length (D97.flatMap ZZ), Z0P B98, Zb w (ZF [Z5 c 112 [.int .i64 F, .int .i64 Cn, .int .i64 id, .pointer (some ⟨bb, 0, none⟩), .slice (some ⟨g, 0, none⟩) Q.length lc], Zd 119 79 (.slice (some ⟨g, 0, none⟩) Q.length lc) Q.length (Q.flatMap Zf), Zh q.mr (Value.int .i64) rcV R, Zd 5 1 (.slice q.pa q.P.length q.pc) q.P.length (q.P.flatMap Zi)]).fp] w94 := H105.pick [0, 1, 2, 3, 6, 7, 4] (by decide)
     subst hR2
     exact .inr ⟨⟨by first | assumption | simp_all, by omega⟩, a95, c96, D97, B98, rfl, n99, o100, H107.cast (by rw [hlA2])⟩
end Go.Proofs.YtgigjkjdmalmaaaGreat
