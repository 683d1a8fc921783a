/- WHAT IS PROVED: contracts and plain laws of ClT, IntJ, SortU, StrMap. Conditions: stated with each. -/
import Derived.Test.YtgigjkjdmalmaaaGreatPA02
import Derived.Test.YtgigjkjdmalmaaaGreatPA05
import Derived.Test.YtgigjkjdmalmaaaGreatPA06
import Derived.Test.YtgigjkjdmalmaaaGreatPA11
import Derived.Test.YtgigjkjdmalmaaaGreatPA17
set_option maxHeartbeats 4000000
set_option maxRecDepth 100000
namespace Go.Proofs.YtgigjkjdmalmaaaGreat
open Go.RowKit
theorem Z2y (w : World) (c bb g lc : Nat) (F Cn id : Int) (Q : List Zl) (k : Nat) (q : Zl) (hq : Q[k]? = some q) (R : List (Int × RcD)) (hA : (ZF [Z5 c 112 [.int .i64 F, .int .i64 Cn, .int .i64 id, .pointer (some ⟨bb, 0, none⟩), .slice (some ⟨g, 0, none⟩) Q.length lc], Zd 119 79 (.slice (some ⟨g, 0, none⟩) Q.length lc) Q.length (Q.flatMap Zf), Zh q.mr (Value.int .i64) rcV R, Zd 5 1 (.slice q.pa q.P.length q.pc) q.P.length (q.P.flatMap Zi)]).ok w) (hlQ : Q.length ≤ 64) (hlR : R.length ≤ 1000) (hlP : q.P.length ≤ 1000) (hF : 1 ≤ F ∧ F ≤ 100) (hid : 0 ≤ id ∧ id ≤ 1000000) (fr ix sq tm : Int) (hsq : sq = (k : Int) + 1) (hin : inB F fr = true) :
  Calls Tryz.prog 16 #[(.pointer (some ⟨c, 0, none⟩)), (.agg ⟨(([(.int .i64 (9)), (.int .i64 (fr)), (.int .i64 (1000 + id)), (.int .i64 (0)), (.int .i64 (0))] : List Value) ++ hc Z8 ++ ([(.int .i64 (0)), (.int .i64 (0)), (.int .i64 (0)), (.int .i64 (0)), (.int .i64 (0)), (.int .i64 (0))] : List Value) ++ hc Z8 ++ ([(.int .u64 (0)), (.int .i64 (0)), (.int .i64 (0)), (.int .i64 (0)), (.int .i64 (0))] : List Value) ++ hc Z8 ++ ([(.int .i64 (0)), (.int .i64 (0)), (.int .i64 (0)), (.slice none 0 0), (.int .i64 (0)), (.int .i64 (0)), (.int .i64 (0))] : List Value) ++ hc Z8 ++ ([(.int .u64 (0)), (.int .i64 (0)), (.int .i64 (0)), (.int .i64 (0)), (.int .i64 (0)), (.int .u64 (0)), (.int .i64 (0)), (.int .i64 (0)), (.int .u64 (0)), (.slice none 0 0), (.int .i64 (0)), (.int .i64 (0)), (.int .i64 (0)), (.int .i64 (0)), (.int .i64 (0)), (.int .i64 (0)), (.int .i64 (0)), (.int .u64 (0)), (.slice none 0 0), (.slice none 0 0), (.slice none 0 0), (.int .i64 (0)), (.int .i64 (0)), (.int .i64 (0))] : List Value) ++ ([(.int .i64 (0)), (.int .i64 (0)), (.int .i64 (0))] : List Value) ++ hc Z8 ++ ([(.int .i64 (0)), (.int .i64 (0)), (.int .i64 (ix)), (.int .i64 (id)), (.int .i64 (sq))] : List Value) ++ hc q.x.h ++ ([(.int .u64 (tm)), (.int .i64 (0)), (.slice none 0 0)] : List Value) ++ hc Z8 ++ ([(.int .i64 (0)), (.int .i64 (0)), (.int .i64 (0)), (.int .i64 (0)), (Zu ([] : List UInt8)), (.int .i64 (0)), (.int .i64 (0)), (.int .i64 (0)), (.int .u64 (0)), (.slice none 0 0), (.slice none 0 0), (.slice none 0 0), (.slice none 0 0)] : List Value))⟩)] w fun e w' => Z6h w w' e c bb g lc F Cn id Q k q R fr ix sq tm := by
 have hkl : k < Q.length := (List.getElem?_eq_some_iff.1 hq).1
 have H : Sat w [Z5 c 112 ([(.int .i64 (F)), (.int .i64 (Cn)), (.int .i64 (id)), (.pointer (some ⟨bb, 0, none⟩)), (.slice (some ⟨g, 0, none⟩) Q.length lc)] : List Value), Zd 119 79 (.slice (some ⟨g, 0, none⟩) Q.length lc) Q.length (Q.flatMap Zf), Zh q.mr (Value.int .i64) rcV R, Zd 5 1 (.slice q.pa q.P.length q.pc) q.P.length (q.P.flatMap Zi), Zb w (ZF [Z5 c 112 [.int .i64 F, .int .i64 Cn, .int .i64 id, .pointer (some ⟨bb, 0, none⟩), .slice (some ⟨g, 0, none⟩) Q.length lc], Zd 119 79 (.slice (some ⟨g, 0, none⟩) Q.length lc) Q.length (Q.flatMap Zf), Zh q.mr (Value.int .i64) rcV R, Zd 5 1 (.slice q.pa q.P.length q.pc) q.P.length (q.P.flatMap Zi)]).fp] w := Sat.start _ hA
 refine Zx Tryz.func16 rfl 62 rfl (Nat.le_of_ble_eq_true rfl) ?_
 refine Zg ?_
 refine Zn ?_
 refine ZE (Z1 rfl) (fun K1 hK1 => ?_)
 refine Z0Y (vs := (([(.int .i64 (9)), (.int .i64 (fr)), (.int .i64 (1000 + id)), (.int .i64 (0)), (.int .i64 (0))] : List Value) ++ hc Z8 ++ ([(.int .i64 (0)), (.int .i64 (0)), (.int .i64 (0)), (.int .i64 (0)), (.int .i64 (0)), (.int .i64 (0))] : List Value) ++ hc Z8 ++ ([(.int .u64 (0)), (.int .i64 (0)), (.int .i64 (0)), (.int .i64 (0)), (.int .i64 (0))] : List Value) ++ hc Z8 ++ ([(.int .i64 (0)), (.int .i64 (0)), (.int .i64 (0)), (.slice none 0 0), (.int .i64 (0)), (.int .i64 (0)), (.int .i64 (0))] : List Value) ++ hc Z8 ++ ([(.int .u64 (0)), (.int .i64 (0)), (.int .i64 (0)), (.int .i64 (0)), (.int .i64 (0)), (.int .u64 (0)), (.int .i64 (0)), (.int .i64 (0)), (.int .u64 (0)), (.slice none 0 0), (.int .i64 (0)), (.int .i64 (0)), (.int .i64 (0)), (.int .i64 (0)), (.int .i64 (0)), (.int .i64 (0)), (.int .i64 (0)), (.int .u64 (0)), (.slice none 0 0), (.slice none 0 0), (.slice none 0 0), (.int .i64 (0)), (.int .i64 (0)), (.int .i64 (0))] : List Value) ++ ([(.int .i64 (0)), (.int .i64 (0)), (.int .i64 (0))] : List Value) ++ hc Z8 ++ ([(.int .i64 (0)), (.int .i64 (0)), (.int .i64 (ix)), (.int .i64 (id)), (.int .i64 (sq))] : List Value) ++ hc q.x.h ++ ([(.int .u64 (tm)), (.int .i64 (0)), (.slice none 0 0)] : List Value) ++ hc Z8 ++ ([(.int .i64 (0)), (.int .i64 (0)), (.int .i64 (0)), (.int .i64 (0)), (Zu ([] : List UInt8)), (.int .i64 (0)), (.int .i64 (0)), (.int .i64 (0)), (.int .u64 (0)), (.slice none 0 0), (.slice none 0 0), (.slice none 0 0), (.slice none 0 0)] : List Value))) rfl H rfl rfl ?_
 intro b2 w3 (H4 : Sat w [Z5 c 112 ([(.int .i64 (F)), (.int .i64 (Cn)), (.int .i64 (id)), (.pointer (some ⟨bb, 0, none⟩)), (.slice (some ⟨g, 0, none⟩) Q.length lc)] : List Value), Zd 119 79 (.slice (some ⟨g, 0, none⟩) Q.length lc) Q.length (Q.flatMap Zf), Zh q.mr (Value.int .i64) rcV R, Zd 5 1 (.slice q.pa q.P.length q.pc) q.P.length (q.P.flatMap Zi), Zb w (ZF [Z5 c 112 [.int .i64 F, .int .i64 Cn, .int .i64 id, .pointer (some ⟨bb, 0, none⟩), .slice (some ⟨g, 0, none⟩) Q.length lc], Zd 119 79 (.slice (some ⟨g, 0, none⟩) Q.length lc) Q.length (Q.flatMap Zf), Zh q.mr (Value.int .i64) rcV R, Zd 5 1 (.slice q.pa q.P.length q.pc) q.P.length (q.P.flatMap Zi)]).fp, Z5 b2 82 (([(.int .i64 (9)), (.int .i64 (fr)), (.int .i64 (1000 + id)), (.int .i64 (0)), (.int .i64 (0))] : List Value) ++ hc Z8 ++ ([(.int .i64 (0)), (.int .i64 (0)), (.int .i64 (0)), (.int .i64 (0)), (.int .i64 (0)), (.int .i64 (0))] : List Value) ++ hc Z8 ++ ([(.int .u64 (0)), (.int .i64 (0)), (.int .i64 (0)), (.int .i64 (0)), (.int .i64 (0))] : List Value) ++ hc Z8 ++ ([(.int .i64 (0)), (.int .i64 (0)), (.int .i64 (0)), (.slice none 0 0), (.int .i64 (0)), (.int .i64 (0)), (.int .i64 (0))] : List Value) ++ hc Z8 ++ ([(.int .u64 (0)), (.int .i64 (0)), (.int .i64 (0)), (.int .i64 (0)), (.int .i64 (0)), (.int .u64 (0)), (.int .i64 (0)), (.int .i64 (0)), (.int .u64 (0)), (.slice none 0 0), (.int .i64 (0)), (.int .i64 (0)), (.int .i64 (0)), (.int .i64 (0)), (.int .i64 (0)), (.int .i64 (0)), (.int .i64 (0)), (.int .u64 (0)), (.slice none 0 0), (.slice none 0 0), (.slice none 0 0), (.int .i64 (0)), (.int .i64 (0)), (.int .i64 (0))] : List Value) ++ ([(.int .i64 (0)), (.int .i64 (0)), (.int .i64 (0))] : List Value) ++ hc Z8 ++ ([(.int .i64 (0)), (.int .i64 (0)), (.int .i64 (ix)), (.int .i64 (id)), (.int .i64 (sq))] : List Value) ++ hc q.x.h ++ ([(.int .u64 (tm)), (.int .i64 (0)), (.slice none 0 0)] : List Value) ++ hc Z8 ++ ([(.int .i64 (0)), (.int .i64 (0)), (.int .i64 (0)), (.int .i64 (0)), (Zu ([] : List UInt8)), (.int .i64 (0)), (.int .i64 (0)), (.int .i64 (0)), (.int .u64 (0)), (.slice none 0 0), (.slice none 0 0), (.slice none 0 0), (.slice none 0 0)] : List Value))] w3)
 refine hK1 _ _ ?_
 clear hK1 K1
 refine Z3 (Z1 rfl) (d := 4) (v := (.slice none 0 0)) rfl (by kernel_rfl) ?_
 refine Zm ?_
 refine Z7 ?_
 refine Zg ?_
 refine Zg ?_
 refine Z1s H4 (by kernel_rfl) (by kernel_rfl) ?_
 refine ZO (Z1 rfl) (d := 5) (v := (.pointer (some ⟨b2, 2, none⟩))) rfl (fun _ H' => (by kernel_rfl)) ?_
 refine ZO (Z1 rfl) (d := 6) (v := (.int .i64 (1000 + id))) rfl (fun _ H' => (Zj rfl (by kernel_rfl) (H'.cell 5 rfl (by kernel_rfl)))) ?_
 refine ZO (Z1 rfl) (d := 7) (v := (.pointer (some ⟨c, 0, none⟩))) rfl (fun _ H' => (by kernel_rfl)) ?_
 refine ZO (Z1 rfl) (d := 8) (v := (.pointer (some ⟨c, 0, none⟩))) rfl (fun _ H' => (by kernel_rfl)) ?_
 refine ZO (Z1 rfl) (d := 9) (v := (.pointer (some ⟨c, 2, none⟩))) rfl (fun _ H' => (by kernel_rfl)) ?_
 refine ZO (Z1 rfl) (d := 10) (v := (.int .i64 (id))) rfl (fun _ H' => (Zj rfl (by kernel_rfl) (H'.cell 0 rfl rfl))) ?_
 refine ZO (Z1 rfl) (d := 11) (v := (.int .i64 (1000 + id))) rfl (fun _ H' => (Z05 (z := 1000 + id) (by kernel_rfl) (IntWalk.i64_in _ (by omega)))) ?_
 refine ZO (Z1 rfl) (d := 12) (v := (.bool (!(decide ((1000 + id) = (1000 + id)))))) rfl (fun _ H' => (by kernel_rfl)) ?_
 refine ZO (Z1 rfl) (d := 13) (v := (.bool (!(decide ((1000 + id) = (1000 + id)))))) rfl (fun _ H' => (by kernel_rfl)) ?_
 have b5 : (!(decide ((1000 + id) = (1000 + id)))) = false := by rw [decide_eq_true rfl]; rfl
 refine Z5l 13 (.bool false) (congrArg Value.bool b5) ?_
 have g6 := Z09 b5
 have g7 := of_decide_eq_true g6
 refine ZO (Zr 8 13 false rfl (by kernel_rfl) rfl (by kernel_rfl)) (d := 14) (v := (.pointer (some ⟨c, 0, none⟩))) rfl (fun _ H' => (by kernel_rfl)) ?_
 refine ZO (Zr 8 13 false rfl (by kernel_rfl) rfl (by kernel_rfl)) (d := 15) (v := (.pointer (some ⟨c, 0, none⟩))) rfl (fun _ H' => (by kernel_rfl)) ?_
 refine ZO (Zr 8 13 false rfl (by kernel_rfl) rfl (by kernel_rfl)) (d := 16) (v := (.pointer (some ⟨c, 0, none⟩))) rfl (fun _ H' => (by kernel_rfl)) ?_
 refine ZO (Zr 8 13 false rfl (by kernel_rfl) rfl (by kernel_rfl)) (d := 17) (v := (.agg ⟨([(.int .i64 (F)), (.int .i64 (Cn))] : List Value)⟩)) rfl (fun _ H' => (ZJ (vs := ([(.int .i64 (F)), (.int .i64 (Cn))] : List Value)) rfl (by kernel_rfl) (by kernel_rfl) (by exact Nat.le_of_ble_eq_true (by kernel_rfl)) (H'.at 0 rfl) (by kernel_rfl))) ?_
 refine ZO (Zr 8 13 false rfl (by kernel_rfl) rfl (by kernel_rfl)) (d := 18) (v := (.pointer (some ⟨b2, 1, none⟩))) rfl (fun _ H' => (by kernel_rfl)) ?_
 refine ZO (Zr 8 13 false rfl (by kernel_rfl) rfl (by kernel_rfl)) (d := 19) (v := (.int .i64 (fr))) rfl (fun _ H' => (Zj rfl (by kernel_rfl) (H'.cell 5 rfl (by kernel_rfl)))) ?_
 refine Z2l (Zr 8 13 false rfl (by kernel_rfl) rfl (by kernel_rfl)) (d := 20) (v := (.bool (inB F fr))) rfl (fun _ _ => by kernel_rfl) (fun w' H' => (Z5y w' F Cn fr (by omega)).mono fun _ _ h => ⟨h.1, H'.keepU h.2⟩) ?_
 refine ZO (Zr 8 13 false rfl (by kernel_rfl) rfl (by kernel_rfl)) (d := 21) (v := (.bool (!(inB F fr)))) rfl (fun _ H' => (by kernel_rfl)) ?_
 refine ZO (Z1 rfl) (d := 22) (v := (.bool (!(inB F fr)))) rfl (fun _ H' => (by kernel_rfl)) ?_
 refine Z1Q ?_
 intro w8 H9
 refine Z7 ?_
 have b10 : (!(inB F fr)) = false := by rw [hin]; rfl
 refine Zs 22 (.bool false) (congrArg Value.bool b10) ?_
 have g11 := Z09 b10
 refine ZY rfl ?_
 refine ZN ?_
 refine Z7 ?_
 refine Zg ?_
 refine Zg ?_
 refine Zn ?_
 refine Z3 (Z1 rfl) (d := 23) (v := (.pointer (some ⟨b2, 0, none⟩))) rfl (by kernel_rfl) ?_
 refine Z3 (Z1 rfl) (d := 24) (v := (.int .i64 (9))) rfl (Zj rfl (by kernel_rfl) (H9.cell 5 rfl (by kernel_rfl))) ?_
 refine Zm ?_
 refine Z7 ?_
 refine ZB ?_
 refine Zg ?_
 refine Zn ?_
 refine Z3 (Z1 rfl) (d := 26) (v := (.bool false)) rfl (by kernel_rfl) ?_
 refine Z3 (Z1 rfl) (d := 25) (v := (.bool false)) rfl (by kernel_rfl) ?_
 refine Zm ?_
 refine Z7 ?_
 refine ZY rfl ?_
 refine Zg ?_
 refine Zn ?_
 refine Z3 (Z1 rfl) (d := 34) (v := (.bool false)) rfl (by kernel_rfl) ?_
 refine Z3 (Z1 rfl) (d := 33) (v := (.bool false)) rfl (by kernel_rfl) ?_
 refine Zm ?_
 refine Z7 ?_
 refine ZY rfl ?_
 refine Zg ?_
 refine Zn ?_
 refine Z3 (Z1 rfl) (d := 42) (v := (.bool true)) rfl (by kernel_rfl) ?_
 refine Z3 (Z1 rfl) (d := 41) (v := (.bool true)) rfl (by kernel_rfl) ?_
 refine Zm ?_
 refine Z7 ?_
 refine Z0u rfl ?_
 refine Zg ?_
 refine Zn ?_
 refine Z3 (Z1 rfl) (d := 43) (v := (.pointer (some ⟨c, 0, none⟩))) rfl (by kernel_rfl) ?_
 refine Z3 (Z1 rfl) (d := 44) (v := (.pointer (some ⟨b2, 1, none⟩))) rfl (by kernel_rfl) ?_
 refine Z3 (Z1 rfl) (d := 45) (v := (.int .i64 (fr))) rfl (Zj rfl (by kernel_rfl) (H9.cell 5 rfl (by kernel_rfl))) ?_
 refine Z3 (Z1 rfl) (d := 46) (v := (.pointer (some ⟨b2, 212, none⟩))) rfl (by kernel_rfl) ?_
 refine Z3 (Z1 rfl) (d := 47) (v := (.int .i64 (ix))) rfl (Zj rfl (by kernel_rfl) (H9.cell 5 rfl (by kernel_rfl))) ?_
 refine Z3 (Z1 rfl) (d := 48) (v := (.pointer (some ⟨b2, 213, none⟩))) rfl (by kernel_rfl) ?_
 refine Z3 (Z1 rfl) (d := 49) (v := (.agg ⟨(([(.int .i64 (id)), (.int .i64 (sq))] : List Value) ++ hc q.x.h ++ ([(.int .u64 (tm))] : List Value))⟩)) rfl (ZJ (vs := (([(.int .i64 (id)), (.int .i64 (sq))] : List Value) ++ hc q.x.h ++ ([(.int .u64 (tm))] : List Value))) rfl (by kernel_rfl) (by kernel_rfl) (by exact Nat.le_of_ble_eq_true (by kernel_rfl)) (H9.at 5 rfl) (by kernel_rfl)) ?_
 refine Z3 (Z1 rfl) (d := 50) (v := (.agg ⟨(([(.int .i64 (ix)), (.int .i64 (id)), (.int .i64 (sq))] : List Value) ++ hc q.x.h ++ ([(.int .u64 (tm))] : List Value))⟩)) rfl (by kernel_rfl) ?_
 refine ZE (Z1 rfl) (fun K12 hK12 => ?_)
 refine ZC (d := 51) rfl (by kernel_rfl) (Z3u w8 c bb g lc F Cn id Q k q hq R (H9.fin [0, 1, 2, 3] (by decide) rfl) hlQ hlR hlP hF hid fr ix sq tm hsq) ?_
 rintro _ w13 (⟨k14, rfl, T15⟩ | ⟨k16, a17, c18, D19, B20, rfl, n21, o22, T23⟩)
 ·have H24 : Sat w [Z5 c 112 ([(.int .i64 (F)), (.int .i64 (Cn)), (.int .i64 (id)), (.pointer (some ⟨bb, 0, none⟩)), (.slice (some ⟨g, 0, none⟩) Q.length lc)] : List Value), Zd 119 79 (.slice (some ⟨g, 0, none⟩) Q.length lc) Q.length (Q.flatMap Zf), Zh q.mr (Value.int .i64) rcV (Z0d R fr (⟨ix, ⟨id, sq, q.x.h, tm⟩⟩ : RcD)), Zd 5 1 (.slice q.pa q.P.length q.pc) q.P.length (q.P.flatMap Zi), Zb w (ZF [Z5 c 112 [.int .i64 F, .int .i64 Cn, .int .i64 id, .pointer (some ⟨bb, 0, none⟩), .slice (some ⟨g, 0, none⟩) Q.length lc], Zd 119 79 (.slice (some ⟨g, 0, none⟩) Q.length lc) Q.length (Q.flatMap Zf), Zh q.mr (Value.int .i64) rcV R, Zd 5 1 (.slice q.pa q.P.length q.pc) q.P.length (q.P.flatMap Zi)]).fp, Z5 b2 82 (([(.int .i64 (9)), (.int .i64 (fr)), (.int .i64 (1000 + id)), (.int .i64 (0)), (.int .i64 (0))] : List Value) ++ hc Z8 ++ ([(.int .i64 (0)), (.int .i64 (0)), (.int .i64 (0)), (.int .i64 (0)), (.int .i64 (0)), (.int .i64 (0))] : List Value) ++ hc Z8 ++ ([(.int .u64 (0)), (.int .i64 (0)), (.int .i64 (0)), (.int .i64 (0)), (.int .i64 (0))] : List Value) ++ hc Z8 ++ ([(.int .i64 (0)), (.int .i64 (0)), (.int .i64 (0)), (.slice none 0 0), (.int .i64 (0)), (.int .i64 (0)), (.int .i64 (0))] : List Value) ++ hc Z8 ++ ([(.int .u64 (0)), (.int .i64 (0)), (.int .i64 (0)), (.int .i64 (0)), (.int .i64 (0)), (.int .u64 (0)), (.int .i64 (0)), (.int .i64 (0)), (.int .u64 (0)), (.slice none 0 0), (.int .i64 (0)), (.int .i64 (0)), (.int .i64 (0)), (.int .i64 (0)), (.int .i64 (0)), (.int .i64 (0)), (.int .i64 (0)), (.int .u64 (0)), (.slice none 0 0), (.slice none 0 0), (.slice none 0 0), (.int .i64 (0)), (.int .i64 (0)), (.int .i64 (0))] : List Value) ++ ([(.int .i64 (0)), (.int .i64 (0)), (.int .i64 (0))] : List Value) ++ hc Z8 ++ ([(.int .i64 (0)), (.int .i64 (0)), (.int .i64 (ix)), (.int .i64 (id)), (.int .i64 (sq))] : List Value) ++ hc q.x.h ++ ([(.int .u64 (tm)), (.int .i64 (0)), (.slice none 0 0)] : List Value) ++ hc Z8 ++ ([(.int .i64 (0)), (.int .i64 (0)), (.int .i64 (0)), (.int .i64 (0)), (Zu ([] : List UInt8)), (.int .i64 (0)), (.int .i64 (0)), (.int .i64 (0)), (.int .u64 (0)), (.slice none 0 0), (.slice none 0 0), (.slice none 0 0), (.slice none 0 0)] : List Value))] w13 := (Sat.turnL (L' := [Z5 c 112 ([(.int .i64 (F)), (.int .i64 (Cn)), (.int .i64 (id)), (.pointer (some ⟨bb, 0, none⟩)), (.slice (some ⟨g, 0, none⟩) Q.length lc)] : List Value), Zd 119 79 (.slice (some ⟨g, 0, none⟩) Q.length lc) Q.length (Q.flatMap Zf), Zh q.mr (Value.int .i64) rcV (Z0d R fr (⟨ix, ⟨id, sq, q.x.h, tm⟩⟩ : RcD)), Zd 5 1 (.slice q.pa q.P.length q.pc) q.P.length (q.P.flatMap Zi)]) (R := [Zb w (ZF [Z5 c 112 [.int .i64 F, .int .i64 Cn, .int .i64 id, .pointer (some ⟨bb, 0, none⟩), .slice (some ⟨g, 0, none⟩) Q.length lc], Zd 119 79 (.slice (some ⟨g, 0, none⟩) Q.length lc) Q.length (Q.flatMap Zf), Zh q.mr (Value.int .i64) rcV R, Zd 5 1 (.slice q.pa q.P.length q.pc) q.P.length (q.P.flatMap Zi)]).fp, Z5 b2 82 (([(.int .i64 (9)), (.int .i64 (fr)), (.int .i64 (1000 + id)), (.int .i64 (0)), (.int .i64 (0))] : List Value) ++ hc Z8 ++ ([(.int .i64 (0)), (.int .i64 (0)), (.int .i64 (0)), (.int .i64 (0)), (.int .i64 (0)), (.int .i64 (0))] : List Value) ++ hc Z8 ++ ([(.int .u64 (0)), (.int .i64 (0)), (.int .i64 (0)), (.int .i64 (0)), (.int .i64 (0))] : List Value) ++ hc Z8 ++ ([(.int .i64 (0)), (.int .i64 (0)), (.int .i64 (0)), (.slice none 0 0), (.int .i64 (0)), (.int .i64 (0)), (.int .i64 (0))] : List Value) ++ hc Z8 ++ ([(.int .u64 (0)), (.int .i64 (0)), (.int .i64 (0)), (.int .i64 (0)), (.int .i64 (0)), (.int .u64 (0)), (.int .i64 (0)), (.int .i64 (0)), (.int .u64 (0)), (.slice none 0 0), (.int .i64 (0)), (.int .i64 (0)), (.int .i64 (0)), (.int .i64 (0)), (.int .i64 (0)), (.int .i64 (0)), (.int .i64 (0)), (.int .u64 (0)), (.slice none 0 0), (.slice none 0 0), (.slice none 0 0), (.int .i64 (0)), (.int .i64 (0)), (.int .i64 (0))] : List Value) ++ ([(.int .i64 (0)), (.int .i64 (0)), (.int .i64 (0))] : List Value) ++ hc Z8 ++ ([(.int .i64 (0)), (.int .i64 (0)), (.int .i64 (ix)), (.int .i64 (id)), (.int .i64 (sq))] : List Value) ++ hc q.x.h ++ ([(.int .u64 (tm)), (.int .i64 (0)), (.slice none 0 0)] : List Value) ++ hc Z8 ++ ([(.int .i64 (0)), (.int .i64 (0)), (.int .i64 (0)), (.int .i64 (0)), (Zu ([] : List UInt8)), (.int .i64 (0)), (.int .i64 (0)), (.int .i64 (0)), (.int .u64 (0)), (.slice none 0 0), (.slice none 0 0), (.slice none 0 0), (.slice none 0 0)] : List Value))]) H9 [0, 1, 2, 3] [4, 5] (by decide) (by kernel_rfl) rfl T15).pick [0, 1, 2, 3, 4, 5] (by decide)
  refine ⟨_, rfl, ?_⟩
  refine hK12 _ _ ?_
  clear hK12 K12
  refine Z3 (Z1 rfl) (d := 4) (v := (.slice none 0 0)) rfl (by kernel_rfl) ?_
  refine Zm ?_
  refine Z7 ?_
  refine ZW ?_
  refine Z3S ?_
  refine Z1D ?_
  refine Z0J rfl (ZI (v := (.slice none 0 0)) rfl) ?_
  exact .inl ⟨k14, rfl, H24.pick [0, 1, 2, 3, 4] (by decide)⟩
 ·have H25 : Sat w [Z5 c 112 ([(.int .i64 (F)), (.int .i64 (Cn)), (.int .i64 (id)), (.pointer (some ⟨bb, 0, none⟩)), (.slice (some ⟨g, 0, none⟩) Q.length lc)] : List Value), Zd 119 79 (.slice (some ⟨g, 0, none⟩) Q.length lc) Q.length ((Q.set k (⟨q.x, q.pa, q.pc, q.P, q.no, q.ms, q.cb, q.ma, q.mr, true, ((Zq (Z0d R fr (⟨ix, ⟨id, sq, q.x.h, tm⟩⟩ : RcD)) fr).getD rc0).i, q.mp, q.dn, q.rp⟩ : Zl)).flatMap Zf), Zh q.mr (Value.int .i64) rcV (Z0d R fr (⟨ix, ⟨id, sq, q.x.h, tm⟩⟩ : RcD)), Zd 5 1 (.slice q.pa q.P.length q.pc) q.P.length (q.P.flatMap Zi), Zb w (ZF [Z5 c 112 [.int .i64 F, .int .i64 Cn, .int .i64 id, .pointer (some ⟨bb, 0, none⟩), .slice (some ⟨g, 0, none⟩) Q.length lc], Zd 119 79 (.slice (some ⟨g, 0, none⟩) Q.length lc) Q.length (Q.flatMap Zf), Zh q.mr (Value.int .i64) rcV R, Zd 5 1 (.slice q.pa q.P.length q.pc) q.P.length (q.P.flatMap Zi)]).fp, Z5 b2 82 (([(.int .i64 (9)), (.int .i64 (fr)), (.int .i64 (1000 + id)), (.int .i64 (0)), (.int .i64 (0))] : List Value) ++ hc Z8 ++ ([(.int .i64 (0)), (.int .i64 (0)), (.int .i64 (0)), (.int .i64 (0)), (.int .i64 (0)), (.int .i64 (0))] : List Value) ++ hc Z8 ++ ([(.int .u64 (0)), (.int .i64 (0)), (.int .i64 (0)), (.int .i64 (0)), (.int .i64 (0))] : List Value) ++ hc Z8 ++ ([(.int .i64 (0)), (.int .i64 (0)), (.int .i64 (0)), (.slice none 0 0), (.int .i64 (0)), (.int .i64 (0)), (.int .i64 (0))] : List Value) ++ hc Z8 ++ ([(.int .u64 (0)), (.int .i64 (0)), (.int .i64 (0)), (.int .i64 (0)), (.int .i64 (0)), (.int .u64 (0)), (.int .i64 (0)), (.int .i64 (0)), (.int .u64 (0)), (.slice none 0 0), (.int .i64 (0)), (.int .i64 (0)), (.int .i64 (0)), (.int .i64 (0)), (.int .i64 (0)), (.int .i64 (0)), (.int .i64 (0)), (.int .u64 (0)), (.slice none 0 0), (.slice none 0 0), (.slice none 0 0), (.int .i64 (0)), (.int .i64 (0)), (.int .i64 (0))] : List Value) ++ ([(.int .i64 (0)), (.int .i64 (0)), (.int .i64 (0))] : List Value) ++ hc Z8 ++ ([(.int .i64 (0)), (.int .i64 (0)), (.int .i64 (ix)), (.int .i64 (id)), (.int .i64 (sq))] : List Value) ++ hc q.x.h ++ ([(.int .u64 (tm)), (.int .i64 (0)), (.slice none 0 0)] : List Value) ++ hc Z8 ++ ([(.int .i64 (0)), (.int .i64 (0)), (.int .i64 (0)), (.int .i64 (0)), (Zu ([] : List UInt8)), (.int .i64 (0)), (.int .i64 (0)), (.int .i64 (0)), (.int .u64 (0)), (.slice none 0 0), (.slice none 0 0), (.slice none 0 0), (.slice none 0 0)] : List Value)), Zd 82 295 (.slice a17 D19.length c18) D19.length (D19.flatMap ZZ), Z0P B20] w13 := (Sat.turnL (L' := [Z5 c 112 ([(.int .i64 (F)), (.int .i64 (Cn)), (.int .i64 (id)), (.pointer (some ⟨bb, 0, none⟩)), (.slice (some ⟨g, 0, none⟩) Q.length lc)] : List Value), Zd 119 79 (.slice (some ⟨g, 0, none⟩) Q.length lc) Q.length ((Q.set k (⟨q.x, q.pa, q.pc, q.P, q.no, q.ms, q.cb, q.ma, q.mr, true, ((Zq (Z0d R fr (⟨ix, ⟨id, sq, q.x.h, tm⟩⟩ : RcD)) fr).getD rc0).i, q.mp, q.dn, q.rp⟩ : Zl)).flatMap Zf), Zh q.mr (Value.int .i64) rcV (Z0d R fr (⟨ix, ⟨id, sq, q.x.h, tm⟩⟩ : RcD)), Zd 5 1 (.slice q.pa q.P.length q.pc) q.P.length (q.P.flatMap Zi), Zd 82 295 (.slice a17 D19.length c18) D19.length (D19.flatMap ZZ), Z0P B20]) (R := [Zb w (ZF [Z5 c 112 [.int .i64 F, .int .i64 Cn, .int .i64 id, .pointer (some ⟨bb, 0, none⟩), .slice (some ⟨g, 0, none⟩) Q.length lc], Zd 119 79 (.slice (some ⟨g, 0, none⟩) Q.length lc) Q.length (Q.flatMap Zf), Zh q.mr (Value.int .i64) rcV R, Zd 5 1 (.slice q.pa q.P.length q.pc) q.P.length (q.P.flatMap Zi)]).fp, Z5 b2 82 (([(.int .i64 (9)), (.int .i64 (fr)), (.int .i64 (1000 + id)), (.int .i64 (0)), (.int .i64 (0))] : List Value) ++ hc Z8 ++ ([(.int .i64 (0)), (.int .i64 (0)), (.int .i64 (0)), (.int .i64 (0)), (.int .i64 (0)), (.int .i64 (0))] : List Value) ++ hc Z8 ++ ([(.int .u64 (0)), (.int .i64 (0)), (.int .i64 (0)), (.int .i64 (0)), (.int .i64 (0))] : List Value) ++ hc Z8 ++ ([(.int .i64 (0)), (.int .i64 (0)), (.int .i64 (0)), (.slice none 0 0), (.int .i64 (0)), (.int .i64 (0)), (.int .i64 (0))] : List Value) ++ hc Z8 ++ ([(.int .u64 (0)), (.int .i64 (0)), (.int .i64 (0)), (.int .i64 (0)), (.int .i64 (0)), (.int .u64 (0)), (.int .i64 (0)), (.int .i64 (0)), (.int .u64 (0)), (.slice none 0 0), (.int .i64 (0)), (.int .i64 (0)), (.int .i64 (0)), (.int .i64 (0)), (.int .i64 (0)), (.int .i64 (0)), (.int .i64 (0)), (.int .u64 (0)), (.slice none 0 0), (.slice none 0 0), (.slice none 0 0), (.int .i64 (0)), (.int .i64 (0)), (.int .i64 (0))] : List Value) ++ ([(.int .i64 (0)), (.int .i64 (0)), (.int .i64 (0))] : List Value) ++ hc Z8 ++ ([(.int .i64 (0)), (.int .i64 (0)), (.int .i64 (ix)), (.int .i64 (id)), (.int .i64 (sq))] : List Value) ++ hc q.x.h ++ ([(.int .u64 (tm)), (.int .i64 (0)), (.slice none 0 0)] : List Value) ++ hc Z8 ++ ([(.int .i64 (0)), (.int .i64 (0)), (.int .i64 (0)), (.int .i64 (0)), (Zu ([] : List UInt8)), (.int .i64 (0)), (.int .i64 (0)), (.int .i64 (0)), (.int .u64 (0)), (.slice none 0 0), (.slice none 0 0), (.slice none 0 0), (.slice none 0 0)] : List Value))]) H9 [0, 1, 2, 3] [4, 5] (by decide) (by kernel_rfl) rfl T23).pick [0, 1, 2, 3, 6, 7, 4, 5] (by decide)
  refine ⟨_, rfl, ?_⟩
  refine hK12 _ _ ?_
  clear hK12 K12
  refine Z3 (Z1 rfl) (d := 4) (v := (.slice a17 D19.length c18)) rfl (by kernel_rfl) ?_
  refine Zm ?_
  refine Z7 ?_
  refine ZW ?_
  refine Z3S ?_
  refine Z1D ?_
  refine Z0J rfl (ZI (v := (.slice a17 D19.length c18)) rfl) ?_
  exact .inr ⟨k16, a17, c18, D19, B20, rfl, n21, o22, H25.pick [0, 1, 2, 3, 6, 7, 4] (by decide)⟩
def Z2g (x : Int) : List Value := [.int .i64 x]
section
variable {κ ν : Type} [DecidableEq κ] {encK : κ → Value} {encV : ν → Value} {P : Program} {k : TypeId} {w : World} {b : Nat} {l : List (κ × ν)}
end
section
variable {P : Program} {Q : Exit → Act → World → Prop} {n : Nat} {f : Nat → Value} {w0 w : World} {G : List Ck} {dst : Option Tmp} {ty : TypeId} {pos : String} {aft : Array Edge} {gd : Option (Nat × Bool)} {K' : Act → World → Prop}
end
end Go.Proofs.YtgigjkjdmalmaaaGreat
