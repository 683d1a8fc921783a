/- WHAT IS PROVED: contracts and plain laws of Apart22. Conditions: stated with each. -/
import Derived.Test.YtgigjkjdmalmaaaGreatPA03
import Derived.Test.YtgigjkjdmalmaaaGreatPA11
import Derived.Test.YtgigjkjdmalmaaaGreatPA18
import Derived.Test.YtgigjkjdmalmaaaGreatPA26
import Derived.Test.YtgigjkjdmalmaaaGreatPA27
import Derived.Test.YtgigjkjdmalmaaaGreatPA28
import Derived.Test.YtgigjkjdmalmaaaGreatPA29
set_option maxHeartbeats 4000000
set_option maxRecDepth 100000
namespace Go.Proofs.YtgigjkjdmalmaaaGreat
open Go.RowKit
theorem Z3R (w : World) (f f1 f2 : Int) :
  Calls Tryz.prog 7 #[(.int .i64 (f)), (.int .i64 (f1)), (.int .i64 (f2))] w fun e w' => e = .returned (.bool true) ∧ Upd [] w w' := by
 have hw3 := Z2e f 3 (by omega)
 have hw1 := Z2e f1 9 (by omega)
 have hw2 := Z2e f2 9 (by omega)
 have H := Sat.start0 w
 refine Zx Tryz.func7 rfl 207 rfl (Nat.le_of_ble_eq_true rfl) ?_
 refine Zg ?_
 refine Zn ?_
 refine Z3 (Z1 rfl) (d := 6) (v := (.bool false)) rfl (by kernel_rfl) ?_
 refine Zm ?_
 refine Z7 ?_
 refine Z0x [7, 31, 32, 33, 34] (fun G_ W_ => ∃ (F : Int) (x7 : Nat), G_ 7 = (.pointer (some ⟨x7, 0, none⟩)) ∧ (1 ≤ F ∧ F ≤ 3) ∧ Sat w [Zb w (fun _ => False), Z5 x7 27 ([(.int .i64 (F)), (.int .i64 (1))] : List Value)] W_) ?_ ?_
 ·refine Zn ?_
  refine Z3 (Z1 rfl) (d := 31) (v := (.int .i64 (f))) rfl (by kernel_rfl) ?_
  refine ZE (Z1 rfl) (fun K2 hK2 => ?_)
  refine ZC (d := 32) rfl (by kernel_rfl) (Z2d w f 3 (by omega)) ?_
  rintro _ w3 ⟨rfl, u5⟩
  have H4 := H.keepU u5
  refine ⟨_, rfl, ?_⟩
  refine hK2 _ _ ?_
  clear hK2 K2
  refine Z3 (Z1 rfl) (d := 33) (v := (.int .i64 (1 + (Z0o f 3)))) rfl (Z05 (z := 1 + (Z0o f 3)) (by kernel_rfl) (IntWalk.i64_in _ (by omega))) ?_
  refine Z3 (Z1 rfl) (d := 34) (v := (.agg ⟨([(.int .i64 (1 + (Z0o f 3))), (.int .i64 (1))] : List Value)⟩)) rfl (by kernel_rfl) ?_
  refine ZE (Z1 rfl) (fun K6 hK6 => ?_)
  refine Z0v (zs := ([(.int .i64 (0)), (.int .i64 (0))] : List Value)) (z := (.agg ⟨([(.int .i64 (0)), (.int .i64 (0))] : List Value)⟩)) rfl H4 (by kernel_rfl) (by kernel_rfl) ?_
  intro b7 w8 (H9 : Sat w [Zb w (fun _ => False), Z5 b7 27 ([(.int .i64 (0)), (.int .i64 (0))] : List Value)] w8)
  refine hK6 _ _ ?_
  clear hK6 K6
  refine ZE (Z1 rfl) (fun K10 hK10 => ?_)
  refine ZQ (vs := ([(.int .i64 (1 + (Z0o f 3))), (.int .i64 (1))] : List Value)) (cs' := ([(.int .i64 (1 + (Z0o f 3))), (.int .i64 (1))] : List Value)) rfl H9 1 rfl rfl rfl rfl (by kernel_rfl) (Nat.le_of_ble_eq_true (by kernel_rfl)) (Nat.le_of_ble_eq_true (by kernel_rfl)) (by kernel_rfl) (by kernel_rfl) ?_
  intro w11 (H12 : Sat w [Zb w (fun _ => False), Z5 b7 27 ([(.int .i64 (1 + (Z0o f 3))), (.int .i64 (1))] : List Value)] w11)
  refine hK10 _ _ ?_
  clear hK10 K10
  refine Zm ?_
  have H14 : Sat w [Zb w (fun _ => False), Z5 b7 27 ([(.int .i64 (1 + (Z0o f 3))), (.int .i64 (1))] : List Value)] w11 := H12.pick [0, 1] (by decide)
  refine ZX ?_ ⟨(1 + (Z0o f 3)), b7, rfl, (by omega), H14⟩
  exact (Z6 rfl (Z6 rfl (Z6 rfl (Z6 rfl (Z6 rfl (ZV))))))
 ·rintro f15 w16 ⟨F, x7, v18, hF, H17⟩
  refine Zs 7 _ v18 ?_
  refine Zg ?_
  refine Zn ?_
  refine ZE (Z1 rfl) (fun K19 hK19 => ?_)
  refine ZC (d := 35) rfl (by kernel_rfl) (Z4n w16) ?_
  rintro _ w20 ⟨b21, m22, rfl, k23, p24, q25⟩
  have H26 : Sat w [Zb w (fun _ => False), Z5 x7 27 ([(.int .i64 (F)), (.int .i64 (1))] : List Value), ZF [Z5 b21 108 [.map (some m22)], Zh m22 Zc (Value.int .i64) (Zk [])]] w20 := H17.addU p24 k23 q25
  have H27 : Sat w [Zb w (fun _ => False), Z5 x7 27 ([(.int .i64 (F)), (.int .i64 (1))] : List Value), Z5 b21 108 ([(.map (some m22))] : List Value), Zh m22 Zc (Value.int .i64) (Zk [])] w20 := H26.open 2 rfl
  refine ⟨_, rfl, ?_⟩
  refine hK19 _ _ ?_
  clear hK19 K19
  refine Z3 (Z1 rfl) (d := 8) (v := (.pointer (some ⟨b21, 0, none⟩))) rfl (by kernel_rfl) ?_
  refine Zm ?_
  refine Z7 ?_
  refine Zg ?_
  refine Zg ?_
  refine Zn ?_
  refine Z3 (Z1 rfl) (d := 36) (v := (.pointer (some ⟨b21, 0, none⟩))) rfl (by kernel_rfl) ?_
  refine Z3 (Z1 rfl) (d := 37) (v := (.bool false)) rfl (by kernel_rfl) ?_
  refine Zm ?_
  refine Z7 ?_
  refine ZY rfl ?_
  refine ZN ?_
  refine Z7 ?_
  refine Zg ?_
  refine Zn ?_
  refine Z3 (Z1 rfl) (d := 39) (v := (.agg ⟨([(.int .i64 (F)), (.int .i64 (1))] : List Value)⟩)) rfl (ZJ (vs := ([(.int .i64 (F)), (.int .i64 (1))] : List Value)) rfl (by kernel_rfl) (by kernel_rfl) (by exact Nat.le_of_ble_eq_true (by kernel_rfl)) (H27.at 1 rfl) (by kernel_rfl)) ?_
  refine Z3 (Z1 rfl) (d := 40) (v := (.pointer (some ⟨b21, 0, none⟩))) rfl (by kernel_rfl) ?_
  refine ZE (Z1 rfl) (fun K28 hK28 => ?_)
  refine ZC (d := 41) rfl (by kernel_rfl) (Z3t w20 F 1 (0 : Int) b21 (by unfold Z1G; simp; omega) (by omega)) ?_
  rintro _ w29 ⟨c30, rfl, k31, p32, q33⟩
  have H34 : Sat w [Zb w (fun _ => False), Z5 x7 27 ([(.int .i64 (F)), (.int .i64 (1))] : List Value), Z5 b21 108 ([(.map (some m22))] : List Value), Zh m22 Zc (Value.int .i64) (Zk []), Z5 c30 112 ([(.int .i64 (F)), (.int .i64 (1)), (.int .i64 (0)), (.pointer (some ⟨b21, 0, none⟩)), (.slice none 0 0)] : List Value)] w29 := H27.addU p32 k31 q33
  refine ⟨_, rfl, ?_⟩
  refine hK28 _ _ ?_
  clear hK28 K28
  refine Z3 (Z1 rfl) (d := 38) (v := (.tuple #[(.pointer (some ⟨c30, 0, none⟩)), (.int .i64 (0))])) rfl (by kernel_rfl) ?_
  refine Z3 (Z1 rfl) (d := 42) (v := (.pointer (some ⟨c30, 0, none⟩))) rfl (by kernel_rfl) ?_
  refine Z3 (Z1 rfl) (d := 43) (v := (.int .i64 (0))) rfl (by kernel_rfl) ?_
  refine Z3 (Z1 rfl) (d := 9) (v := (.pointer (some ⟨c30, 0, none⟩))) rfl (by kernel_rfl) ?_
  refine Z3 (Z1 rfl) (d := 10) (v := (.int .i64 (0))) rfl (by kernel_rfl) ?_
  refine Zm ?_
  refine Z7 ?_
  refine Zg ?_
  refine Zg ?_
  refine Zn ?_
  refine Z3 (Z1 rfl) (d := 44) (v := (.int .i64 (0))) rfl (by kernel_rfl) ?_
  refine Z3 (Z1 rfl) (d := 45) (v := (.bool false)) rfl (by kernel_rfl) ?_
  refine Z3 (Z1 rfl) (d := 46) (v := (.bool false)) rfl (by kernel_rfl) ?_
  refine Z3 (Zr 2 46 false rfl (by kernel_rfl) rfl (by kernel_rfl)) (d := 47) (v := (.pointer (some ⟨c30, 0, none⟩))) rfl (by kernel_rfl) ?_
  refine Z3 (Zr 2 46 false rfl (by kernel_rfl) rfl (by kernel_rfl)) (d := 48) (v := (.bool false)) rfl (by kernel_rfl) ?_
  refine Z3 (Z1 rfl) (d := 49) (v := (.bool false)) rfl (by kernel_rfl) ?_
  refine Zm ?_
  refine Z7 ?_
  refine ZY rfl ?_
  refine ZN ?_
  refine Z7 ?_
  refine Z0x [1, 2, 50, 51, 52, 53, 54] (fun G_ W_ => ∃ (fi se : Int), G_ 1 = (.int .i64 (fi)) ∧ G_ 2 = (.int .i64 (se)) ∧ (0 ≤ fi ∧ fi < 9) ∧ (10 ≤ se ∧ se < 19) ∧ Sat w [Zb w (fun _ => False), Z5 x7 27 ([(.int .i64 (F)), (.int .i64 (1))] : List Value), Z5 b21 108 ([(.map (some m22))] : List Value), Zh m22 Zc (Value.int .i64) (Zk []), Z5 c30 112 ([(.int .i64 (F)), (.int .i64 (1)), (.int .i64 (0)), (.pointer (some ⟨b21, 0, none⟩)), (.slice none 0 0)] : List Value)] W_) ?_ ?_
  ·refine Zn ?_
   refine Z3 (Z1 rfl) (d := 50) (v := (.int .i64 (f1))) rfl (by kernel_rfl) ?_
   refine ZE (Z1 rfl) (fun K37 hK37 => ?_)
   refine ZC (d := 51) rfl (by kernel_rfl) (Z2d w29 f1 9 (by omega)) ?_
   rintro _ w38 ⟨rfl, u40⟩
   have H39 := H34.keepU u40
   refine ⟨_, rfl, ?_⟩
   refine hK37 _ _ ?_
   clear hK37 K37
   refine Z3 (Z1 rfl) (d := 52) (v := (.int .i64 (f2))) rfl (by kernel_rfl) ?_
   refine ZE (Z1 rfl) (fun K41 hK41 => ?_)
   refine ZC (d := 53) rfl (by kernel_rfl) (Z2d w38 f2 9 (by omega)) ?_
   rintro _ w42 ⟨rfl, u44⟩
   have H43 := H39.keepU u44
   refine ⟨_, rfl, ?_⟩
   refine hK41 _ _ ?_
   clear hK41 K41
   refine Z3 (Z1 rfl) (d := 54) (v := (.int .i64 (10 + (Z0o f2 9)))) rfl (Z05 (z := 10 + (Z0o f2 9)) (by kernel_rfl) (IntWalk.i64_in _ (by omega))) ?_
   refine Z3 (Z1 rfl) (d := 1) (v := (.int .i64 (Z0o f1 9))) rfl (by kernel_rfl) ?_
   refine Z3 (Z1 rfl) (d := 2) (v := (.int .i64 (10 + (Z0o f2 9)))) rfl (by kernel_rfl) ?_
   refine Zm ?_
   have H45 : Sat w [Zb w (fun _ => False), Z5 x7 27 ([(.int .i64 (F)), (.int .i64 (1))] : List Value), Z5 b21 108 ([(.map (some m22))] : List Value), Zh m22 Zc (Value.int .i64) (Zk []), Z5 c30 112 ([(.int .i64 (F)), (.int .i64 (1)), (.int .i64 (0)), (.pointer (some ⟨b21, 0, none⟩)), (.slice none 0 0)] : List Value)] w42 := H43.pick [0, 1, 2, 3, 4] (by decide)
   refine ZX ?_ ⟨(Z0o f1 9), (10 + (Z0o f2 9)), rfl, rfl, (by omega), (by omega), H45⟩
   exact (Z6 rfl (Z6 rfl (Z6 rfl (Z6 rfl (Z6 rfl (Z6 rfl (Z6 rfl (ZV))))))))
  ·rintro f46 w47 ⟨fi, se, v49, v50, hfi, hse, H48⟩
   refine Zs 1 _ v49 ?_
   refine Zs 2 _ v50 ?_
   refine Zg ?_
   refine Zg ?_
   refine Zn ?_
   refine Z3 (Z1 rfl) (d := 11) (v := (.int .i64 (1))) rfl (by kernel_rfl) ?_
   refine Zm ?_
   refine Z7 ?_
   refine ZB ?_
   refine Z4w 3 ?_
   refine Zg ?_
   refine Zg ?_
   refine Zn ?_
   refine Z3 (Z1 rfl) (d := 55) (v := (.int .i64 (1))) rfl (by kernel_rfl) ?_
   refine Z3 (Z1 rfl) (d := 56) (v := (.bool true)) rfl (by kernel_rfl) ?_
   refine Zm ?_
   refine Z7 ?_
   refine Z0u rfl ?_
   refine ZN ?_
   refine Z7 ?_
   refine Zg ?_
   refine ZB ?_
   have H51 : Sat w [Zb w (fun _ => False), Z5 x7 27 ([(.int .i64 (F)), (.int .i64 (1))] : List Value), Z5 b21 108 ([(.map (some m22))] : List Value), Zh m22 Zc (Value.int .i64) (Zk []), Z5 c30 112 ([(.int .i64 (F)), (.int .i64 (1)), (.int .i64 (0)), (.pointer (some ⟨b21, 0, none⟩)), (.slice none (([] : List Zl).length) 0)] : List Value), Zd 119 79 (.slice none (([] : List Zl).length) 0) (([] : List Zl).length) (([] : List Zl).flatMap Zf)] w47 := H48.addNil 119 79
   refine Z0x [12, 13, 59, 60, 61, 62, 63, 64, 65, 66, 67] (fun G_ W_ => ∃ (g lc : Nat) (q1 : Zl) (L1 : List Z4), G_ 13 = (.int .i64 (0)) ∧ (q1.op = false ∧ q1.cb = none ∧ q1.pl = 0 ∧ q1.dn = false ∧ q1.rp = []) ∧ (q1.x.h = Z9 (ofT 0 1 Z8 [1])) ∧ (q1.P = [1]) ∧ (L1.length ≤ 1) ∧ Sat w [Zb w (fun _ => False), Z5 x7 27 ([(.int .i64 (F)), (.int .i64 (1))] : List Value), Z5 c30 112 ([(.int .i64 (F)), (.int .i64 (1)), (.int .i64 (0)), (.pointer (some ⟨b21, 0, none⟩)), (.slice (some ⟨g, 0, none⟩) 1 lc)] : List Value), Zd 119 79 (.slice (some ⟨g, 0, none⟩) 1 lc) 1 (([q1]).flatMap Zf), Z5 b21 108 ([(.map (some m22))] : List Value), Zh m22 Zc (Value.int .i64) (Zk L1), Zh q1.mr (Value.int .i64) rcV [], Zd 5 1 (.slice q1.pa q1.P.length q1.pc) q1.P.length (q1.P.flatMap Zi)] W_) ?_ ?_
   ·refine Zn ?_
    refine Z3 (Z1 rfl) (d := 60) (v := (.pointer (some ⟨c30, 0, none⟩))) rfl (by kernel_rfl) ?_
    refine Z3 (Z1 rfl) (d := 61) (v := (.int .i64 (1))) rfl (by kernel_rfl) ?_
    refine Z3 (Z1 rfl) (d := 62) (v := (.int .u8 (1))) rfl (Z05 (z := 1) (by kernel_rfl) (Z1R (by omega))) ?_
    refine ZE (Z1 rfl) (fun K53 hK53 => ?_)
    refine ZP (e := 5) (size := 1) (bytes := 1) (z := (.int .u8 (0))) (pvs := [(0, (.int .u8 (1)))]) (vs := ([(.int .u8 (1))] : List Value)) rfl H51 (by kernel_rfl) (by kernel_rfl) (by kernel_rfl) (by kernel_rfl) (by kernel_rfl) rfl rfl ?_
    intro b54 w55 (H56 : Sat w [Zb w (fun _ => False), Z5 x7 27 ([(.int .i64 (F)), (.int .i64 (1))] : List Value), Z5 b21 108 ([(.map (some m22))] : List Value), Zh m22 Zc (Value.int .i64) (Zk []), Z5 c30 112 ([(.int .i64 (F)), (.int .i64 (1)), (.int .i64 (0)), (.pointer (some ⟨b21, 0, none⟩)), (.slice none (([] : List Zl).length) 0)] : List Value), Zd 119 79 (.slice none (([] : List Zl).length) 0) (([] : List Zl).length) (([] : List Zl).flatMap Zf), Zd 5 1 (.slice (some ⟨b54, 0, none⟩) 1 1) 1 ([(.int .u8 (1))] : List Value)] w55)
    have H57 : Sat w [Zb w (fun _ => False), Z5 x7 27 ([(.int .i64 (F)), (.int .i64 (1))] : List Value), Z5 b21 108 ([(.map (some m22))] : List Value), Zh m22 Zc (Value.int .i64) (Zk []), Z5 c30 112 ([(.int .i64 (F)), (.int .i64 (1)), (.int .i64 (0)), (.pointer (some ⟨b21, 0, none⟩)), (.slice none (([] : List Zl).length) 0)] : List Value), Zd 119 79 (.slice none (([] : List Zl).length) 0) (([] : List Zl).length) (([] : List Zl).flatMap Zf), Zd 5 1 (.slice (some ⟨b54, 0, none⟩) 1 1) 1 ([1].flatMap Zi)] w55 := H56.cast (by rw [(show (([(.int .u8 (1))] : List Value) : List Value) = ([1] : List UInt8).flatMap Zi by kernel_rfl)])
    refine hK53 _ _ ?_
    clear hK53 K53
    refine Z3 (Z1 rfl) (d := 64) (v := (.agg ⟨(hc Z8)⟩)) rfl (by kernel_rfl) ?_
    refine ZE (Z1 rfl) (fun K58 hK58 => ?_)
    have H59 : Sat w [Zb w (fun _ => False), Z5 x7 27 ([(.int .i64 (F)), (.int .i64 (1))] : List Value), Z5 b21 108 ([(.map (some m22))] : List Value), Zh m22 Zc (Value.int .i64) (Zk []), Z5 c30 112 ([(.int .i64 (F)), (.int .i64 (1)), (.int .i64 (0)), (.pointer (some ⟨b21, 0, none⟩)), (.slice none (([] : List Zl).length) 0)] : List Value), Zd 119 79 (.slice none (([] : List Zl).length) 0) (([] : List Zl).length) (([] : List Zl).flatMap Zf), Zd 5 1 (.slice (some ⟨b54, 0, none⟩) (([1] : List UInt8).length) 1) (([1] : List UInt8).length) (([1] : List UInt8).flatMap Zi)] w55 := H57.cast (by kernel_rfl)
    have H60 : Sat w [Zb w (fun _ => False), Z5 x7 27 ([(.int .i64 (F)), (.int .i64 (1))] : List Value), Z5 b21 108 ([(.map (some m22))] : List Value), Zh m22 Zc (Value.int .i64) (Zk []), Z5 c30 112 ([(.int .i64 (F)), (.int .i64 (1)), (.int .i64 (0)), (.pointer (some ⟨b21, 0, none⟩)), (.slice none (([] : List Zl).length) 0)] : List Value), Zd 119 79 (.slice none (([] : List Zl).length) 0) (([] : List Zl).length) (([] : List Zl).flatMap Zf), ZH (.slice (some ⟨b54, 0, none⟩) ([1] : List UInt8).length 1) ([1] : List UInt8)] w55 := H59.conv 6 rfl (fun h_ => Z0S (ListAt.row (enc := Zi) (sz := 1) ZM (by decide) h_)) (fun _ h_ => h_.2)
    refine ZC (d := 65) rfl (by kernel_rfl) (Z1b w55 c30 b21 m22 0 none F 1 0 ([] : List Zl) ([]) (some ⟨b54, 0, none⟩) 1 ([1] : List UInt8) (H60.fin [4, 5, 2, 3, 6] (by decide) rfl) Z8 (Nat.le_of_ble_eq_true rfl) (by first | decide | omega) (by decide) (Z3g (H59.at 6 rfl)) (by omega) (by omega)) ?_
    rintro _ w61 ⟨g62, c63, a64, c65, m66, m67, m68, m69, a70, c71, D72, B73, rfl, n74, o75, T76⟩
    have H77 : Sat w [Zb w (fun _ => False), Z5 x7 27 ([(.int .i64 (F)), (.int .i64 (1))] : List Value), Z5 b21 108 ([(.map (some m22))] : List Value), Zh m22 Zc (Value.int .i64) (Zk (Ze ([]) (⟨1000 + 0, Z2 (⟨0, ((([] : List Zl).length : Int) + 1), Z9 (ofT 0 ((([] : List Zl).length : Int) + 1) Z8 ([1] : List UInt8)), ([1] : List UInt8).length, 0, 0⟩ : Z0)⟩ : Z4))), Z5 c30 112 ([(.int .i64 (F)), (.int .i64 (1)), (.int .i64 (0)), (.pointer (some ⟨b21, 0, none⟩)), (.slice (some ⟨g62, 0, none⟩) ((([] : List Zl) ++ [(⟨(⟨0, ((([] : List Zl).length : Int) + 1), Z9 (ofT 0 ((([] : List Zl).length : Int) + 1) Z8 ([1] : List UInt8)), ([1] : List UInt8).length, 1000 + 0, Za (Ze ([]) (⟨1000 + 0, Z2 (⟨0, ((([] : List Zl).length : Int) + 1), Z9 (ofT 0 ((([] : List Zl).length : Int) + 1) Z8 ([1] : List UInt8)), ([1] : List UInt8).length, 0, 0⟩ : Z0)⟩ : Z4)) (⟨1000 + 0, Z2 (⟨0, ((([] : List Zl).length : Int) + 1), Z9 (ofT 0 ((([] : List Zl).length : Int) + 1) Z8 ([1] : List UInt8)), ([1] : List UInt8).length, 0, 0⟩ : Z0)⟩ : Z4)⟩ : Z0), a64, c65, ([1] : List UInt8), Z8, m66, none, m67, m68, false, 0, m69, false, []⟩ : Zl)]).length) c63)] : List Value), Zd 119 79 (.slice (some ⟨g62, 0, none⟩) ((([] : List Zl) ++ [(⟨(⟨0, ((([] : List Zl).length : Int) + 1), Z9 (ofT 0 ((([] : List Zl).length : Int) + 1) Z8 ([1] : List UInt8)), ([1] : List UInt8).length, 1000 + 0, Za (Ze ([]) (⟨1000 + 0, Z2 (⟨0, ((([] : List Zl).length : Int) + 1), Z9 (ofT 0 ((([] : List Zl).length : Int) + 1) Z8 ([1] : List UInt8)), ([1] : List UInt8).length, 0, 0⟩ : Z0)⟩ : Z4)) (⟨1000 + 0, Z2 (⟨0, ((([] : List Zl).length : Int) + 1), Z9 (ofT 0 ((([] : List Zl).length : Int) + 1) Z8 ([1] : List UInt8)), ([1] : List UInt8).length, 0, 0⟩ : Z0)⟩ : Z4)⟩ : Z0), a64, c65, ([1] : List UInt8), Z8, m66, none, m67, m68, false, 0, m69, false, []⟩ : Zl)]).length) c63) ((([] : List Zl) ++ [(⟨(⟨0, ((([] : List Zl).length : Int) + 1), Z9 (ofT 0 ((([] : List Zl).length : Int) + 1) Z8 ([1] : List UInt8)), ([1] : List UInt8).length, 1000 + 0, Za (Ze ([]) (⟨1000 + 0, Z2 (⟨0, ((([] : List Zl).length : Int) + 1), Z9 (ofT 0 ((([] : List Zl).length : Int) + 1) Z8 ([1] : List UInt8)), ([1] : List UInt8).length, 0, 0⟩ : Z0)⟩ : Z4)) (⟨1000 + 0, Z2 (⟨0, ((([] : List Zl).length : Int) + 1), Z9 (ofT 0 ((([] : List Zl).length : Int) + 1) Z8 ([1] : List UInt8)), ([1] : List UInt8).length, 0, 0⟩ : Z0)⟩ : Z4)⟩ : Z0), a64, c65, ([1] : List UInt8), Z8, m66, none, m67, m68, false, 0, m69, false, []⟩ : Zl)]).length) ((([] : List Zl) ++ [(⟨(⟨0, ((([] : List Zl).length : Int) + 1), Z9 (ofT 0 ((([] : List Zl).length : Int) + 1) Z8 ([1] : List UInt8)), ([1] : List UInt8).length, 1000 + 0, Za (Ze ([]) (⟨1000 + 0, Z2 (⟨0, ((([] : List Zl).length : Int) + 1), Z9 (ofT 0 ((([] : List Zl).length : Int) + 1) Z8 ([1] : List UInt8)), ([1] : List UInt8).length, 0, 0⟩ : Z0)⟩ : Z4)) (⟨1000 + 0, Z2 (⟨0, ((([] : List Zl).length : Int) + 1), Z9 (ofT 0 ((([] : List Zl).length : Int) + 1) Z8 ([1] : List UInt8)), ([1] : List UInt8).length, 0, 0⟩ : Z0)⟩ : Z4)⟩ : Z0), a64, c65, ([1] : List UInt8), Z8, m66, none, m67, m68, false, 0, m69, false, []⟩ : Zl)]).flatMap Zf), ZH (.slice (some ⟨b54, 0, none⟩) ([1] : List UInt8).length 1) ([1] : List UInt8), Zh m66 (Value.int .i64) Z07 [], Zh m67 (Value.int .i64) Value.bool [], Zh m68 (Value.int .i64) rcV [], Zh m69 (Value.int .i64) Zu [], Zd 5 1 (.slice a64 (([1] : List UInt8).length) c65) (([1] : List UInt8).length) (([1] : List UInt8).flatMap Zi), Zd 82 295 (.slice a70 D72.length c71) D72.length (D72.flatMap ZZ), Z0P B73] w61 := (Sat.turnL (L' := [Z5 c30 112 ([(.int .i64 (F)), (.int .i64 (1)), (.int .i64 (0)), (.pointer (some ⟨b21, 0, none⟩)), (.slice (some ⟨g62, 0, none⟩) ((([] : List Zl) ++ [(⟨(⟨0, ((([] : List Zl).length : Int) + 1), Z9 (ofT 0 ((([] : List Zl).length : Int) + 1) Z8 ([1] : List UInt8)), ([1] : List UInt8).length, 1000 + 0, Za (Ze ([]) (⟨1000 + 0, Z2 (⟨0, ((([] : List Zl).length : Int) + 1), Z9 (ofT 0 ((([] : List Zl).length : Int) + 1) Z8 ([1] : List UInt8)), ([1] : List UInt8).length, 0, 0⟩ : Z0)⟩ : Z4)) (⟨1000 + 0, Z2 (⟨0, ((([] : List Zl).length : Int) + 1), Z9 (ofT 0 ((([] : List Zl).length : Int) + 1) Z8 ([1] : List UInt8)), ([1] : List UInt8).length, 0, 0⟩ : Z0)⟩ : Z4)⟩ : Z0), a64, c65, ([1] : List UInt8), Z8, m66, none, m67, m68, false, 0, m69, false, []⟩ : Zl)]).length) c63)] : List Value), Zd 119 79 (.slice (some ⟨g62, 0, none⟩) ((([] : List Zl) ++ [(⟨(⟨0, ((([] : List Zl).length : Int) + 1), Z9 (ofT 0 ((([] : List Zl).length : Int) + 1) Z8 ([1] : List UInt8)), ([1] : List UInt8).length, 1000 + 0, Za (Ze ([]) (⟨1000 + 0, Z2 (⟨0, ((([] : List Zl).length : Int) + 1), Z9 (ofT 0 ((([] : List Zl).length : Int) + 1) Z8 ([1] : List UInt8)), ([1] : List UInt8).length, 0, 0⟩ : Z0)⟩ : Z4)) (⟨1000 + 0, Z2 (⟨0, ((([] : List Zl).length : Int) + 1), Z9 (ofT 0 ((([] : List Zl).length : Int) + 1) Z8 ([1] : List UInt8)), ([1] : List UInt8).length, 0, 0⟩ : Z0)⟩ : Z4)⟩ : Z0), a64, c65, ([1] : List UInt8), Z8, m66, none, m67, m68, false, 0, m69, false, []⟩ : Zl)]).length) c63) ((([] : List Zl) ++ [(⟨(⟨0, ((([] : List Zl).length : Int) + 1), Z9 (ofT 0 ((([] : List Zl).length : Int) + 1) Z8 ([1] : List UInt8)), ([1] : List UInt8).length, 1000 + 0, Za (Ze ([]) (⟨1000 + 0, Z2 (⟨0, ((([] : List Zl).length : Int) + 1), Z9 (ofT 0 ((([] : List Zl).length : Int) + 1) Z8 ([1] : List UInt8)), ([1] : List UInt8).length, 0, 0⟩ : Z0)⟩ : Z4)) (⟨1000 + 0, Z2 (⟨0, ((([] : List Zl).length : Int) + 1), Z9 (ofT 0 ((([] : List Zl).length : Int) + 1) Z8 ([1] : List UInt8)), ([1] : List UInt8).length, 0, 0⟩ : Z0)⟩ : Z4)⟩ : Z0), a64, c65, ([1] : List UInt8), Z8, m66, none, m67, m68, false, 0, m69, false, []⟩ : Zl)]).length) ((([] : List Zl) ++ [(⟨(⟨0, ((([] : List Zl).length : Int) + 1), Z9 (ofT 0 ((([] : List Zl).length : Int) + 1) Z8 ([1] : List UInt8)), ([1] : List UInt8).length, 1000 + 0, Za (Ze ([]) (⟨1000 + 0, Z2 (⟨0, ((([] : List Zl).length : Int) + 1), Z9 (ofT 0 ((([] : List Zl).length : Int) + 1) Z8 ([1] : List UInt8)), ([1] : List UInt8).length, 0, 0⟩ : Z0)⟩ : Z4)) (⟨1000 + 0, Z2 (⟨0, ((([] : List Zl).length : Int) + 1), Z9 (ofT 0 ((([] : List Zl).length : Int) + 1) Z8 ([1] : List UInt8)), ([1] : List UInt8).length, 0, 0⟩ : Z0)⟩ : Z4)⟩ : Z0), a64, c65, ([1] : List UInt8), Z8, m66, none, m67, m68, false, 0, m69, false, []⟩ : Zl)]).flatMap Zf), Z5 b21 108 ([(.map (some m22))] : List Value), Zh m22 Zc (Value.int .i64) (Zk (Ze ([]) (⟨1000 + 0, Z2 (⟨0, ((([] : List Zl).length : Int) + 1), Z9 (ofT 0 ((([] : List Zl).length : Int) + 1) Z8 ([1] : List UInt8)), ([1] : List UInt8).length, 0, 0⟩ : Z0)⟩ : Z4))), ZH (.slice (some ⟨b54, 0, none⟩) ([1] : List UInt8).length 1) ([1] : List UInt8), Zh m66 (Value.int .i64) Z07 [], Zh m67 (Value.int .i64) Value.bool [], Zh m68 (Value.int .i64) rcV [], Zh m69 (Value.int .i64) Zu [], Zd 5 1 (.slice a64 (([1] : List UInt8).length) c65) (([1] : List UInt8).length) (([1] : List UInt8).flatMap Zi), Zd 82 295 (.slice a70 D72.length c71) D72.length (D72.flatMap ZZ), Z0P B73]) (R := [Zb w (fun _ => False), Z5 x7 27 ([(.int .i64 (F)), (.int .i64 (1))] : List Value)]) H60 [4, 5, 2, 3, 6] [0, 1] (by decide) (by kernel_rfl) rfl T76).pick [12, 13, 2, 3, 0, 1, 4, 5, 6, 7, 8, 9, 10, 11] (by decide)
    refine ⟨_, rfl, ?_⟩
    refine hK58 _ _ ?_
    clear hK58 K58
    refine Z3 (Z1 rfl) (d := 59) (v := (.tuple #[(.slice a70 D72.length c71), (.int .i64 (0))])) rfl (by kernel_rfl) ?_
    refine Z3 (Z1 rfl) (d := 66) (v := (.slice a70 D72.length c71)) rfl (by kernel_rfl) ?_
    refine Z3 (Z1 rfl) (d := 67) (v := (.int .i64 (0))) rfl (by kernel_rfl) ?_
    refine Z3 (Z1 rfl) (d := 12) (v := (.slice a70 D72.length c71)) rfl (by kernel_rfl) ?_
    refine Z3 (Z1 rfl) (d := 13) (v := (.int .i64 (0))) rfl (by kernel_rfl) ?_
    refine Zm ?_
    have H78 : Sat w [Zb w (fun _ => False), Z5 x7 27 ([(.int .i64 (F)), (.int .i64 (1))] : List Value), Z5 c30 112 ([(.int .i64 (F)), (.int .i64 (1)), (.int .i64 (0)), (.pointer (some ⟨b21, 0, none⟩)), (.slice (some ⟨g62, 0, none⟩) ((([] : List Zl) ++ [(⟨(⟨0, ((([] : List Zl).length : Int) + 1), Z9 (ofT 0 ((([] : List Zl).length : Int) + 1) Z8 ([1] : List UInt8)), ([1] : List UInt8).length, 1000 + 0, Za (Ze ([]) (⟨1000 + 0, Z2 (⟨0, ((([] : List Zl).length : Int) + 1), Z9 (ofT 0 ((([] : List Zl).length : Int) + 1) Z8 ([1] : List UInt8)), ([1] : List UInt8).length, 0, 0⟩ : Z0)⟩ : Z4)) (⟨1000 + 0, Z2 (⟨0, ((([] : List Zl).length : Int) + 1), Z9 (ofT 0 ((([] : List Zl).length : Int) + 1) Z8 ([1] : List UInt8)), ([1] : List UInt8).length, 0, 0⟩ : Z0)⟩ : Z4)⟩ : Z0), a64, c65, ([1] : List UInt8), Z8, m66, none, m67, m68, false, 0, m69, false, []⟩ : Zl)]).length) c63)] : List Value), Zd 119 79 (.slice (some ⟨g62, 0, none⟩) ((([] : List Zl) ++ [(⟨(⟨0, ((([] : List Zl).length : Int) + 1), Z9 (ofT 0 ((([] : List Zl).length : Int) + 1) Z8 ([1] : List UInt8)), ([1] : List UInt8).length, 1000 + 0, Za (Ze ([]) (⟨1000 + 0, Z2 (⟨0, ((([] : List Zl).length : Int) + 1), Z9 (ofT 0 ((([] : List Zl).length : Int) + 1) Z8 ([1] : List UInt8)), ([1] : List UInt8).length, 0, 0⟩ : Z0)⟩ : Z4)) (⟨1000 + 0, Z2 (⟨0, ((([] : List Zl).length : Int) + 1), Z9 (ofT 0 ((([] : List Zl).length : Int) + 1) Z8 ([1] : List UInt8)), ([1] : List UInt8).length, 0, 0⟩ : Z0)⟩ : Z4)⟩ : Z0), a64, c65, ([1] : List UInt8), Z8, m66, none, m67, m68, false, 0, m69, false, []⟩ : Zl)]).length) c63) ((([] : List Zl) ++ [(⟨(⟨0, ((([] : List Zl).length : Int) + 1), Z9 (ofT 0 ((([] : List Zl).length : Int) + 1) Z8 ([1] : List UInt8)), ([1] : List UInt8).length, 1000 + 0, Za (Ze ([]) (⟨1000 + 0, Z2 (⟨0, ((([] : List Zl).length : Int) + 1), Z9 (ofT 0 ((([] : List Zl).length : Int) + 1) Z8 ([1] : List UInt8)), ([1] : List UInt8).length, 0, 0⟩ : Z0)⟩ : Z4)) (⟨1000 + 0, Z2 (⟨0, ((([] : List Zl).length : Int) + 1), Z9 (ofT 0 ((([] : List Zl).length : Int) + 1) Z8 ([1] : List UInt8)), ([1] : List UInt8).length, 0, 0⟩ : Z0)⟩ : Z4)⟩ : Z0), a64, c65, ([1] : List UInt8), Z8, m66, none, m67, m68, false, 0, m69, false, []⟩ : Zl)]).length) ((([] : List Zl) ++ [(⟨(⟨0, ((([] : List Zl).length : Int) + 1), Z9 (ofT 0 ((([] : List Zl).length : Int) + 1) Z8 ([1] : List UInt8)), ([1] : List UInt8).length, 1000 + 0, Za (Ze ([]) (⟨1000 + 0, Z2 (⟨0, ((([] : List Zl).length : Int) + 1), Z9 (ofT 0 ((([] : List Zl).length : Int) + 1) Z8 ([1] : List UInt8)), ([1] : List UInt8).length, 0, 0⟩ : Z0)⟩ : Z4)) (⟨1000 + 0, Z2 (⟨0, ((([] : List Zl).length : Int) + 1), Z9 (ofT 0 ((([] : List Zl).length : Int) + 1) Z8 ([1] : List UInt8)), ([1] : List UInt8).length, 0, 0⟩ : Z0)⟩ : Z4)⟩ : Z0), a64, c65, ([1] : List UInt8), Z8, m66, none, m67, m68, false, 0, m69, false, []⟩ : Zl)]).flatMap Zf), Z5 b21 108 ([(.map (some m22))] : List Value), Zh m22 Zc (Value.int .i64) (Zk (Ze ([]) (⟨1000 + 0, Z2 (⟨0, ((([] : List Zl).length : Int) + 1), Z9 (ofT 0 ((([] : List Zl).length : Int) + 1) Z8 ([1] : List UInt8)), ([1] : List UInt8).length, 0, 0⟩ : Z0)⟩ : Z4))), Zh m68 (Value.int .i64) rcV [], Zd 5 1 (.slice a64 (([1] : List UInt8).length) c65) (([1] : List UInt8).length) (([1] : List UInt8).flatMap Zi)] w61 := H77.pick [0, 1, 4, 5, 2, 3, 9, 11] (by decide)
    refine ZX ?_ ⟨g62, c63, (⟨(⟨0, ((([] : List Zl).length : Int) + 1), Z9 (ofT 0 ((([] : List Zl).length : Int) + 1) Z8 ([1] : List UInt8)), ([1] : List UInt8).length, 1000 + 0, Za (Ze ([]) (⟨1000 + 0, Z2 (⟨0, ((([] : List Zl).length : Int) + 1), Z9 (ofT 0 ((([] : List Zl).length : Int) + 1) Z8 ([1] : List UInt8)), ([1] : List UInt8).length, 0, 0⟩ : Z0)⟩ : Z4)) (⟨1000 + 0, Z2 (⟨0, ((([] : List Zl).length : Int) + 1), Z9 (ofT 0 ((([] : List Zl).length : Int) + 1) Z8 ([1] : List UInt8)), ([1] : List UInt8).length, 0, 0⟩ : Z0)⟩ : Z4)⟩ : Z0), a64, c65, ([1] : List UInt8), Z8, m66, none, m67, m68, false, 0, m69, false, []⟩ : Zl), (Ze ([]) (⟨1000 + 0, Z2 (⟨0, ((([] : List Zl).length : Int) + 1), Z9 (ofT 0 ((([] : List Zl).length : Int) + 1) Z8 ([1] : List UInt8)), ([1] : List UInt8).length, 0, 0⟩ : Z0)⟩ : Z4)), rfl, ⟨rfl, rfl, rfl, rfl, rfl⟩, (by rfl), rfl, (Nat.le_trans (Z1t _ _) (by first | decide | omega)), H78⟩
    exact (Z6 rfl (Z6 rfl (Z6 rfl (Z6 rfl (Z6 rfl (Z6 rfl (Z6 rfl (Z6 rfl (Z6 rfl (Z6 rfl (Z6 rfl (ZV))))))))))))
   ·rintro f79 w80 ⟨g, lc, q1, L1, v82, hq1, hh1, hP1, hL1, H81⟩
    refine Zs 13 _ v82 ?_
    refine Zg ?_
    refine Zn ?_
    refine Z3 (Z1 rfl) (d := 68) (v := (.int .i64 (0))) rfl (by kernel_rfl) ?_
    refine Z3 (Z1 rfl) (d := 69) (v := (.bool false)) rfl (by kernel_rfl) ?_
    refine Zm ?_
    refine Z7 ?_
    refine ZY rfl ?_
    refine ZN ?_
    refine Zz ?_
    refine Z7 ?_
    refine Zn ?_
    refine Z3 (Z1 rfl) (d := 57) (v := (.int .i64 (1))) rfl (by kernel_rfl) ?_
    refine Z3 (Z1 rfl) (d := 58) (v := (.int .i64 (2))) rfl (by kernel_rfl) ?_
    refine Z3 (Z1 rfl) (d := 11) (v := (.int .i64 (2))) rfl (by kernel_rfl) ?_
    refine Zm ?_
    refine Z1g ?_
    refine Zg ?_
    refine Zg ?_
    refine Zn ?_
    refine Z3 (Z1 rfl) (d := 55) (v := (.int .i64 (2))) rfl (by kernel_rfl) ?_
    refine Z3 (Z1 rfl) (d := 56) (v := (.bool true)) rfl (by kernel_rfl) ?_
    refine Zm ?_
    refine Z7 ?_
    refine Z0u rfl ?_
    refine ZN ?_
    refine Z7 ?_
    refine Zg ?_
    refine ZB ?_
    refine Z0x [12, 13, 59, 60, 61, 62, 63, 64, 65, 66, 67] (fun G_ W_ => ∃ (g lc : Nat) (q2 : Zl) (L2 : List Z4), G_ 13 = (.int .i64 (0)) ∧ (q2.op = false ∧ q2.cb = none ∧ q2.pl = 0 ∧ q2.dn = false ∧ q2.rp = []) ∧ (q2.x.h = Z9 (ofT 0 2 Z8 [2])) ∧ (q2.P = [2]) ∧ (L2.length ≤ 2) ∧ Sat w [Zb w (fun _ => False), Z5 x7 27 ([(.int .i64 (F)), (.int .i64 (1))] : List Value), Z5 c30 112 ([(.int .i64 (F)), (.int .i64 (1)), (.int .i64 (0)), (.pointer (some ⟨b21, 0, none⟩)), (.slice (some ⟨g, 0, none⟩) 2 lc)] : List Value), Zd 119 79 (.slice (some ⟨g, 0, none⟩) 2 lc) 2 (([q1, q2]).flatMap Zf), Z5 b21 108 ([(.map (some m22))] : List Value), Zh m22 Zc (Value.int .i64) (Zk L2), Zh q1.mr (Value.int .i64) rcV [], Zd 5 1 (.slice q1.pa q1.P.length q1.pc) q1.P.length (q1.P.flatMap Zi), Zh q2.mr (Value.int .i64) rcV [], Zd 5 1 (.slice q2.pa q2.P.length q2.pc) q2.P.length (q2.P.flatMap Zi), Zh q2.mp (Value.int .i64) Zu []] W_) ?_ ?_
    ·refine Zn ?_
     refine Z3 (Z1 rfl) (d := 60) (v := (.pointer (some ⟨c30, 0, none⟩))) rfl (by kernel_rfl) ?_
     refine Z3 (Z1 rfl) (d := 61) (v := (.int .i64 (2))) rfl (by kernel_rfl) ?_
     refine Z3 (Z1 rfl) (d := 62) (v := (.int .u8 (2))) rfl (Z05 (z := 2) (by kernel_rfl) (Z1R (by omega))) ?_
     refine ZE (Z1 rfl) (fun K84 hK84 => ?_)
     refine ZP (e := 5) (size := 1) (bytes := 1) (z := (.int .u8 (0))) (pvs := [(0, (.int .u8 (2)))]) (vs := ([(.int .u8 (2))] : List Value)) rfl H81 (by kernel_rfl) (by kernel_rfl) (by kernel_rfl) (by kernel_rfl) (by kernel_rfl) rfl rfl ?_
     intro b85 w86 (H87 : Sat w [Zb w (fun _ => False), Z5 x7 27 ([(.int .i64 (F)), (.int .i64 (1))] : List Value), Z5 c30 112 ([(.int .i64 (F)), (.int .i64 (1)), (.int .i64 (0)), (.pointer (some ⟨b21, 0, none⟩)), (.slice (some ⟨g, 0, none⟩) 1 lc)] : List Value), Zd 119 79 (.slice (some ⟨g, 0, none⟩) 1 lc) 1 (([q1]).flatMap Zf), Z5 b21 108 ([(.map (some m22))] : List Value), Zh m22 Zc (Value.int .i64) (Zk L1), Zh q1.mr (Value.int .i64) rcV [], Zd 5 1 (.slice q1.pa q1.P.length q1.pc) q1.P.length (q1.P.flatMap Zi), Zd 5 1 (.slice (some ⟨b85, 0, none⟩) 1 1) 1 ([(.int .u8 (2))] : List Value)] w86)
     have H88 : Sat w [Zb w (fun _ => False), Z5 x7 27 ([(.int .i64 (F)), (.int .i64 (1))] : List Value), Z5 c30 112 ([(.int .i64 (F)), (.int .i64 (1)), (.int .i64 (0)), (.pointer (some ⟨b21, 0, none⟩)), (.slice (some ⟨g, 0, none⟩) 1 lc)] : List Value), Zd 119 79 (.slice (some ⟨g, 0, none⟩) 1 lc) 1 (([q1]).flatMap Zf), Z5 b21 108 ([(.map (some m22))] : List Value), Zh m22 Zc (Value.int .i64) (Zk L1), Zh q1.mr (Value.int .i64) rcV [], Zd 5 1 (.slice q1.pa q1.P.length q1.pc) q1.P.length (q1.P.flatMap Zi), Zd 5 1 (.slice (some ⟨b85, 0, none⟩) 1 1) 1 ([2].flatMap Zi)] w86 := H87.cast (by rw [(show (([(.int .u8 (2))] : List Value) : List Value) = ([2] : List UInt8).flatMap Zi by kernel_rfl)])
     refine hK84 _ _ ?_
     clear hK84 K84
     refine Z3 (Z1 rfl) (d := 64) (v := (.agg ⟨(hc Z8)⟩)) rfl (by kernel_rfl) ?_
     refine ZE (Z1 rfl) (fun K89 hK89 => ?_)
     have H90 : Sat w [Zb w (fun _ => False), Z5 x7 27 ([(.int .i64 (F)), (.int .i64 (1))] : List Value), Z5 c30 112 ([(.int .i64 (F)), (.int .i64 (1)), (.int .i64 (0)), (.pointer (some ⟨b21, 0, none⟩)), (.slice (some ⟨g, 0, none⟩) 1 lc)] : List Value), Zd 119 79 (.slice (some ⟨g, 0, none⟩) 1 lc) 1 (([q1]).flatMap Zf), Z5 b21 108 ([(.map (some m22))] : List Value), Zh m22 Zc (Value.int .i64) (Zk L1), Zh q1.mr (Value.int .i64) rcV [], Zd 5 1 (.slice q1.pa q1.P.length q1.pc) q1.P.length (q1.P.flatMap Zi), Zd 5 1 (.slice (some ⟨b85, 0, none⟩) (([2] : List UInt8).length) 1) (([2] : List UInt8).length) (([2] : List UInt8).flatMap Zi)] w86 := H88.cast (by kernel_rfl)
     have H91 : Sat w [Zb w (fun _ => False), Z5 x7 27 ([(.int .i64 (F)), (.int .i64 (1))] : List Value), Z5 c30 112 ([(.int .i64 (F)), (.int .i64 (1)), (.int .i64 (0)), (.pointer (some ⟨b21, 0, none⟩)), (.slice (some ⟨g, 0, none⟩) 1 lc)] : List Value), Zd 119 79 (.slice (some ⟨g, 0, none⟩) 1 lc) 1 (([q1]).flatMap Zf), Z5 b21 108 ([(.map (some m22))] : List Value), Zh m22 Zc (Value.int .i64) (Zk L1), Zh q1.mr (Value.int .i64) rcV [], Zd 5 1 (.slice q1.pa q1.P.length q1.pc) q1.P.length (q1.P.flatMap Zi), ZH (.slice (some ⟨b85, 0, none⟩) ([2] : List UInt8).length 1) ([2] : List UInt8)] w86 := H90.conv 8 rfl (fun h_ => Z0S (ListAt.row (enc := Zi) (sz := 1) ZM (by decide) h_)) (fun _ h_ => h_.2)
     refine ZC (d := 65) rfl (by kernel_rfl) (Z1b w86 c30 b21 m22 lc (some ⟨g, 0, none⟩) F 1 0 ([q1]) L1 (some ⟨b85, 0, none⟩) 1 ([2] : List UInt8) (H91.fin [2, 3, 4, 5, 8] (by decide) rfl) Z8 (Nat.le_of_ble_eq_true rfl) (by first | decide | omega) (by decide) (Z3g (H90.at 8 rfl)) (by omega) (by omega)) ?_
     rintro _ w92 ⟨g93, c94, a95, c96, m97, m98, m99, m100, a101, c102, D103, B104, rfl, n105, o106, T107⟩
     have H108 : Sat w [Zb w (fun _ => False), Z5 x7 27 ([(.int .i64 (F)), (.int .i64 (1))] : List Value), Z5 c30 112 ([(.int .i64 (F)), (.int .i64 (1)), (.int .i64 (0)), (.pointer (some ⟨b21, 0, none⟩)), (.slice (some ⟨g93, 0, none⟩) ((([q1]) ++ [(⟨(⟨0, ((([q1]).length : Int) + 1), Z9 (ofT 0 ((([q1]).length : Int) + 1) Z8 ([2] : List UInt8)), ([2] : List UInt8).length, 1000 + 0, Za (Ze L1 (⟨1000 + 0, Z2 (⟨0, ((([q1]).length : Int) + 1), Z9 (ofT 0 ((([q1]).length : Int) + 1) Z8 ([2] : List UInt8)), ([2] : List UInt8).length, 0, 0⟩ : Z0)⟩ : Z4)) (⟨1000 + 0, Z2 (⟨0, ((([q1]).length : Int) + 1), Z9 (ofT 0 ((([q1]).length : Int) + 1) Z8 ([2] : List UInt8)), ([2] : List UInt8).length, 0, 0⟩ : Z0)⟩ : Z4)⟩ : Z0), a95, c96, ([2] : List UInt8), Z8, m97, none, m98, m99, false, 0, m100, false, []⟩ : Zl)]).length) c94)] : List Value), Zd 119 79 (.slice (some ⟨g93, 0, none⟩) ((([q1]) ++ [(⟨(⟨0, ((([q1]).length : Int) + 1), Z9 (ofT 0 ((([q1]).length : Int) + 1) Z8 ([2] : List UInt8)), ([2] : List UInt8).length, 1000 + 0, Za (Ze L1 (⟨1000 + 0, Z2 (⟨0, ((([q1]).length : Int) + 1), Z9 (ofT 0 ((([q1]).length : Int) + 1) Z8 ([2] : List UInt8)), ([2] : List UInt8).length, 0, 0⟩ : Z0)⟩ : Z4)) (⟨1000 + 0, Z2 (⟨0, ((([q1]).length : Int) + 1), Z9 (ofT 0 ((([q1]).length : Int) + 1) Z8 ([2] : List UInt8)), ([2] : List UInt8).length, 0, 0⟩ : Z0)⟩ : Z4)⟩ : Z0), a95, c96, ([2] : List UInt8), Z8, m97, none, m98, m99, false, 0, m100, false, []⟩ : Zl)]).length) c94) ((([q1]) ++ [(⟨(⟨0, ((([q1]).length : Int) + 1), Z9 (ofT 0 ((([q1]).length : Int) + 1) Z8 ([2] : List UInt8)), ([2] : List UInt8).length, 1000 + 0, Za (Ze L1 (⟨1000 + 0, Z2 (⟨0, ((([q1]).length : Int) + 1), Z9 (ofT 0 ((([q1]).length : Int) + 1) Z8 ([2] : List UInt8)), ([2] : List UInt8).length, 0, 0⟩ : Z0)⟩ : Z4)) (⟨1000 + 0, Z2 (⟨0, ((([q1]).length : Int) + 1), Z9 (ofT 0 ((([q1]).length : Int) + 1) Z8 ([2] : List UInt8)), ([2] : List UInt8).length, 0, 0⟩ : Z0)⟩ : Z4)⟩ : Z0), a95, c96, ([2] : List UInt8), Z8, m97, none, m98, m99, false, 0, m100, false, []⟩ : Zl)]).length) ((([q1]) ++ [(⟨(⟨0, ((([q1]).length : Int) + 1), Z9 (ofT 0 ((([q1]).length : Int) + 1) Z8 ([2] : List UInt8)), ([2] : List UInt8).length, 1000 + 0, Za (Ze L1 (⟨1000 + 0, Z2 (⟨0, ((([q1]).length : Int) + 1), Z9 (ofT 0 ((([q1]).length : Int) + 1) Z8 ([2] : List UInt8)), ([2] : List UInt8).length, 0, 0⟩ : Z0)⟩ : Z4)) (⟨1000 + 0, Z2 (⟨0, ((([q1]).length : Int) + 1), Z9 (ofT 0 ((([q1]).length : Int) + 1) Z8 ([2] : List UInt8)), ([2] : List UInt8).length, 0, 0⟩ : Z0)⟩ : Z4)⟩ : Z0), a95, c96, ([2] : List UInt8), Z8, m97, none, m98, m99, false, 0, m100, false, []⟩ : Zl)]).flatMap Zf), Z5 b21 108 ([(.map (some m22))] : List Value), Zh m22 Zc (Value.int .i64) (Zk (Ze L1 (⟨1000 + 0, Z2 (⟨0, ((([q1]).length : Int) + 1), Z9 (ofT 0 ((([q1]).length : Int) + 1) Z8 ([2] : List UInt8)), ([2] : List UInt8).length, 0, 0⟩ : Z0)⟩ : Z4))), Zh q1.mr (Value.int .i64) rcV [], Zd 5 1 (.slice q1.pa q1.P.length q1.pc) q1.P.length (q1.P.flatMap Zi), ZH (.slice (some ⟨b85, 0, none⟩) ([2] : List UInt8).length 1) ([2] : List UInt8), Zh m97 (Value.int .i64) Z07 [], Zh m98 (Value.int .i64) Value.bool [], Zh m99 (Value.int .i64) rcV [], Zh m100 (Value.int .i64) Zu [], Zd 5 1 (.slice a95 (([2] : List UInt8).length) c96) (([2] : List UInt8).length) (([2] : List UInt8).flatMap Zi), Zd 82 295 (.slice a101 D103.length c102) D103.length (D103.flatMap ZZ), Z0P B104] w92 := (Sat.turnL (L' := [Z5 c30 112 ([(.int .i64 (F)), (.int .i64 (1)), (.int .i64 (0)), (.pointer (some ⟨b21, 0, none⟩)), (.slice (some ⟨g93, 0, none⟩) ((([q1]) ++ [(⟨(⟨0, ((([q1]).length : Int) + 1), Z9 (ofT 0 ((([q1]).length : Int) + 1) Z8 ([2] : List UInt8)), ([2] : List UInt8).length, 1000 + 0, Za (Ze L1 (⟨1000 + 0, Z2 (⟨0, ((([q1]).length : Int) + 1), Z9 (ofT 0 ((([q1]).length : Int) + 1) Z8 ([2] : List UInt8)), ([2] : List UInt8).length, 0, 0⟩ : Z0)⟩ : Z4)) (⟨1000 + 0, Z2 (⟨0, ((([q1]).length : Int) + 1), Z9 (ofT 0 ((([q1]).length : Int) + 1) Z8 ([2] : List UInt8)), ([2] : List UInt8).length, 0, 0⟩ : Z0)⟩ : Z4)⟩ : Z0), a95, c96, ([2] : List UInt8), Z8, m97, none, m98, m99, false, 0, m100, false, []⟩ : Zl)]).length) c94)] : List Value), Zd 119 79 (.slice (some ⟨g93, 0, none⟩) ((([q1]) ++ [(⟨(⟨0, ((([q1]).length : Int) + 1), Z9 (ofT 0 ((([q1]).length : Int) + 1) Z8 ([2] : List UInt8)), ([2] : List UInt8).length, 1000 + 0, Za (Ze L1 (⟨1000 + 0, Z2 (⟨0, ((([q1]).length : Int) + 1), Z9 (ofT 0 ((([q1]).length : Int) + 1) Z8 ([2] : List UInt8)), ([2] : List UInt8).length, 0, 0⟩ : Z0)⟩ : Z4)) (⟨1000 + 0, Z2 (⟨0, ((([q1]).length : Int) + 1), Z9 (ofT 0 ((([q1]).length : Int) + 1) Z8 ([2] : List UInt8)), ([2] : List UInt8).length, 0, 0⟩ : Z0)⟩ : Z4)⟩ : Z0), a95, c96, ([2] : List UInt8), Z8, m97, none, m98, m99, false, 0, m100, false, []⟩ : Zl)]).length) c94) ((([q1]) ++ [(⟨(⟨0, ((([q1]).length : Int) + 1), Z9 (ofT 0 ((([q1]).length : Int) + 1) Z8 ([2] : List UInt8)), ([2] : List UInt8).length, 1000 + 0, Za (Ze L1 (⟨1000 + 0, Z2 (⟨0, ((([q1]).length : Int) + 1), Z9 (ofT 0 ((([q1]).length : Int) + 1) Z8 ([2] : List UInt8)), ([2] : List UInt8).length, 0, 0⟩ : Z0)⟩ : Z4)) (⟨1000 + 0, Z2 (⟨0, ((([q1]).length : Int) + 1), Z9 (ofT 0 ((([q1]).length : Int) + 1) Z8 ([2] : List UInt8)), ([2] : List UInt8).length, 0, 0⟩ : Z0)⟩ : Z4)⟩ : Z0), a95, c96, ([2] : List UInt8), Z8, m97, none, m98, m99, false, 0, m100, false, []⟩ : Zl)]).length) ((([q1]) ++ [(⟨(⟨0, ((([q1]).length : Int) + 1), Z9 (ofT 0 ((([q1]).length : Int) + 1) Z8 ([2] : List UInt8)), ([2] : List UInt8).length, 1000 + 0, Za (Ze L1 (⟨1000 + 0, Z2 (⟨0, ((([q1]).length : Int) + 1), Z9 (ofT 0 ((([q1]).length : Int) + 1) Z8 ([2] : List UInt8)), ([2] : List UInt8).length, 0, 0⟩ : Z0)⟩ : Z4)) (⟨1000 + 0, Z2 (⟨0, ((([q1]).length : Int) + 1), Z9 (ofT 0 ((([q1]).length : Int) + 1) Z8 ([2] : List UInt8)), ([2] : List UInt8).length, 0, 0⟩ : Z0)⟩ : Z4)⟩ : Z0), a95, c96, ([2] : List UInt8), Z8, m97, none, m98, m99, false, 0, m100, false, []⟩ : Zl)]).flatMap Zf), Z5 b21 108 ([(.map (some m22))] : List Value), Zh m22 Zc (Value.int .i64) (Zk (Ze L1 (⟨1000 + 0, Z2 (⟨0, ((([q1]).length : Int) + 1), Z9 (ofT 0 ((([q1]).length : Int) + 1) Z8 ([2] : List UInt8)), ([2] : List UInt8).length, 0, 0⟩ : Z0)⟩ : Z4))), ZH (.slice (some ⟨b85, 0, none⟩) ([2] : List UInt8).length 1) ([2] : List UInt8), Zh m97 (Value.int .i64) Z07 [], Zh m98 (Value.int .i64) Value.bool [], Zh m99 (Value.int .i64) rcV [], Zh m100 (Value.int .i64) Zu [], Zd 5 1 (.slice a95 (([2] : List UInt8).length) c96) (([2] : List UInt8).length) (([2] : List UInt8).flatMap Zi), Zd 82 295 (.slice a101 D103.length c102) D103.length (D103.flatMap ZZ), Z0P B104]) (R := [Zb w (fun _ => False), Z5 x7 27 ([(.int .i64 (F)), (.int .i64 (1))] : List Value), Zh q1.mr (Value.int .i64) rcV [], Zd 5 1 (.slice q1.pa q1.P.length q1.pc) q1.P.length (q1.P.flatMap Zi)]) H91 [2, 3, 4, 5, 8] [0, 1, 6, 7] (by decide) (by kernel_rfl) rfl T107).pick [12, 13, 0, 1, 2, 3, 14, 15, 4, 5, 6, 7, 8, 9, 10, 11] (by decide)
     refine ⟨_, rfl, ?_⟩
     refine hK89 _ _ ?_
     clear hK89 K89
     refine Z3 (Z1 rfl) (d := 59) (v := (.tuple #[(.slice a101 D103.length c102), (.int .i64 (0))])) rfl (by kernel_rfl) ?_
     refine Z3 (Z1 rfl) (d := 66) (v := (.slice a101 D103.length c102)) rfl (by kernel_rfl) ?_
     refine Z3 (Z1 rfl) (d := 67) (v := (.int .i64 (0))) rfl (by kernel_rfl) ?_
     refine Z3 (Z1 rfl) (d := 12) (v := (.slice a101 D103.length c102)) rfl (by kernel_rfl) ?_
     refine Z3 (Z1 rfl) (d := 13) (v := (.int .i64 (0))) rfl (by kernel_rfl) ?_
     refine Zm ?_
     have H109 : Sat w [Zb w (fun _ => False), Z5 x7 27 ([(.int .i64 (F)), (.int .i64 (1))] : List Value), Z5 c30 112 ([(.int .i64 (F)), (.int .i64 (1)), (.int .i64 (0)), (.pointer (some ⟨b21, 0, none⟩)), (.slice (some ⟨g93, 0, none⟩) ((([q1]) ++ [(⟨(⟨0, ((([q1]).length : Int) + 1), Z9 (ofT 0 ((([q1]).length : Int) + 1) Z8 ([2] : List UInt8)), ([2] : List UInt8).length, 1000 + 0, Za (Ze L1 (⟨1000 + 0, Z2 (⟨0, ((([q1]).length : Int) + 1), Z9 (ofT 0 ((([q1]).length : Int) + 1) Z8 ([2] : List UInt8)), ([2] : List UInt8).length, 0, 0⟩ : Z0)⟩ : Z4)) (⟨1000 + 0, Z2 (⟨0, ((([q1]).length : Int) + 1), Z9 (ofT 0 ((([q1]).length : Int) + 1) Z8 ([2] : List UInt8)), ([2] : List UInt8).length, 0, 0⟩ : Z0)⟩ : Z4)⟩ : Z0), a95, c96, ([2] : List UInt8), Z8, m97, none, m98, m99, false, 0, m100, false, []⟩ : Zl)]).length) c94)] : List Value), Zd 119 79 (.slice (some ⟨g93, 0, none⟩) ((([q1]) ++ [(⟨(⟨0, ((([q1]).length : Int) + 1), Z9 (ofT 0 ((([q1]).length : Int) + 1) Z8 ([2] : List UInt8)), ([2] : List UInt8).length, 1000 + 0, Za (Ze L1 (⟨1000 + 0, Z2 (⟨0, ((([q1]).length : Int) + 1), Z9 (ofT 0 ((([q1]).length : Int) + 1) Z8 ([2] : List UInt8)), ([2] : List UInt8).length, 0, 0⟩ : Z0)⟩ : Z4)) (⟨1000 + 0, Z2 (⟨0, ((([q1]).length : Int) + 1), Z9 (ofT 0 ((([q1]).length : Int) + 1) Z8 ([2] : List UInt8)), ([2] : List UInt8).length, 0, 0⟩ : Z0)⟩ : Z4)⟩ : Z0), a95, c96, ([2] : List UInt8), Z8, m97, none, m98, m99, false, 0, m100, false, []⟩ : Zl)]).length) c94) ((([q1]) ++ [(⟨(⟨0, ((([q1]).length : Int) + 1), Z9 (ofT 0 ((([q1]).length : Int) + 1) Z8 ([2] : List UInt8)), ([2] : List UInt8).length, 1000 + 0, Za (Ze L1 (⟨1000 + 0, Z2 (⟨0, ((([q1]).length : Int) + 1), Z9 (ofT 0 ((([q1]).length : Int) + 1) Z8 ([2] : List UInt8)), ([2] : List UInt8).length, 0, 0⟩ : Z0)⟩ : Z4)) (⟨1000 + 0, Z2 (⟨0, ((([q1]).length : Int) + 1), Z9 (ofT 0 ((([q1]).length : Int) + 1) Z8 ([2] : List UInt8)), ([2] : List UInt8).length, 0, 0⟩ : Z0)⟩ : Z4)⟩ : Z0), a95, c96, ([2] : List UInt8), Z8, m97, none, m98, m99, false, 0, m100, false, []⟩ : Zl)]).length) ((([q1]) ++ [(⟨(⟨0, ((([q1]).length : Int) + 1), Z9 (ofT 0 ((([q1]).length : Int) + 1) Z8 ([2] : List UInt8)), ([2] : List UInt8).length, 1000 + 0, Za (Ze L1 (⟨1000 + 0, Z2 (⟨0, ((([q1]).length : Int) + 1), Z9 (ofT 0 ((([q1]).length : Int) + 1) Z8 ([2] : List UInt8)), ([2] : List UInt8).length, 0, 0⟩ : Z0)⟩ : Z4)) (⟨1000 + 0, Z2 (⟨0, ((([q1]).length : Int) + 1), Z9 (ofT 0 ((([q1]).length : Int) + 1) Z8 ([2] : List UInt8)), ([2] : List UInt8).length, 0, 0⟩ : Z0)⟩ : Z4)⟩ : Z0), a95, c96, ([2] : List UInt8), Z8, m97, none, m98, m99, false, 0, m100, false, []⟩ : Zl)]).flatMap Zf), Z5 b21 108 ([(.map (some m22))] : List Value), Zh m22 Zc (Value.int .i64) (Zk (Ze L1 (⟨1000 + 0, Z2 (⟨0, ((([q1]).length : Int) + 1), Z9 (ofT 0 ((([q1]).length : Int) + 1) Z8 ([2] : List UInt8)), ([2] : List UInt8).length, 0, 0⟩ : Z0)⟩ : Z4))), Zh q1.mr (Value.int .i64) rcV [], Zd 5 1 (.slice q1.pa q1.P.length q1.pc) q1.P.length (q1.P.flatMap Zi), Zh m99 (Value.int .i64) rcV [], Zd 5 1 (.slice a95 (([2] : List UInt8).length) c96) (([2] : List UInt8).length) (([2] : List UInt8).flatMap Zi), Zh m100 (Value.int .i64) Zu []] w92 := H108.pick [0, 1, 2, 3, 4, 5, 6, 7, 11, 13, 12] (by decide)
     refine ZX ?_ ⟨g93, c94, (⟨(⟨0, ((([q1]).length : Int) + 1), Z9 (ofT 0 ((([q1]).length : Int) + 1) Z8 ([2] : List UInt8)), ([2] : List UInt8).length, 1000 + 0, Za (Ze L1 (⟨1000 + 0, Z2 (⟨0, ((([q1]).length : Int) + 1), Z9 (ofT 0 ((([q1]).length : Int) + 1) Z8 ([2] : List UInt8)), ([2] : List UInt8).length, 0, 0⟩ : Z0)⟩ : Z4)) (⟨1000 + 0, Z2 (⟨0, ((([q1]).length : Int) + 1), Z9 (ofT 0 ((([q1]).length : Int) + 1) Z8 ([2] : List UInt8)), ([2] : List UInt8).length, 0, 0⟩ : Z0)⟩ : Z4)⟩ : Z0), a95, c96, ([2] : List UInt8), Z8, m97, none, m98, m99, false, 0, m100, false, []⟩ : Zl), (Ze L1 (⟨1000 + 0, Z2 (⟨0, ((([q1]).length : Int) + 1), Z9 (ofT 0 ((([q1]).length : Int) + 1) Z8 ([2] : List UInt8)), ([2] : List UInt8).length, 0, 0⟩ : Z0)⟩ : Z4)), rfl, ⟨rfl, rfl, rfl, rfl, rfl⟩, (by rfl), rfl, (Nat.le_trans (Z1t _ _) (by first | decide | omega)), H109⟩
     exact (Z6 rfl (Z6 rfl (Z6 rfl (Z6 rfl (Z6 rfl (Z6 rfl (Z6 rfl (Z6 rfl (Z6 rfl (Z6 rfl (Z6 rfl (ZV))))))))))))
    ·rintro f110 w111 ⟨g, lc, q2, L2, v113, hq2, hh2, hP2, hL2, H112⟩
     refine Zs 13 _ v113 ?_
     refine Zg ?_
     refine Zn ?_
     refine Z3 (Z1 rfl) (d := 68) (v := (.int .i64 (0))) rfl (by kernel_rfl) ?_
     refine Z3 (Z1 rfl) (d := 69) (v := (.bool false)) rfl (by kernel_rfl) ?_
     refine Zm ?_
     refine Z7 ?_
     refine ZY rfl ?_
     refine ZN ?_
     refine Zz ?_
     refine Z7 ?_
     refine Zn ?_
     refine Z3 (Z1 rfl) (d := 57) (v := (.int .i64 (2))) rfl (by kernel_rfl) ?_
     refine Z3 (Z1 rfl) (d := 58) (v := (.int .i64 (3))) rfl (by kernel_rfl) ?_
     refine Z3 (Z1 rfl) (d := 11) (v := (.int .i64 (3))) rfl (by kernel_rfl) ?_
     refine Zm ?_
     refine Z1g ?_
     refine Zg ?_
     refine Zg ?_
     refine Zn ?_
     refine Z3 (Z1 rfl) (d := 55) (v := (.int .i64 (3))) rfl (by kernel_rfl) ?_
     refine Z3 (Z1 rfl) (d := 56) (v := (.bool true)) rfl (by kernel_rfl) ?_
     refine Zm ?_
     refine Z7 ?_
     refine Z0u rfl ?_
     refine ZN ?_
     refine Z7 ?_
     refine Zg ?_
     refine ZB ?_
     refine Z0x [12, 13, 59, 60, 61, 62, 63, 64, 65, 66, 67] (fun G_ W_ => ∃ (g lc : Nat) (q3 : Zl) (L3 : List Z4), G_ 13 = (.int .i64 (0)) ∧ (q3.op = false ∧ q3.cb = none ∧ q3.pl = 0 ∧ q3.dn = false ∧ q3.rp = []) ∧ (q3.x.h = Z9 (ofT 0 3 Z8 [3])) ∧ (q3.P = [3]) ∧ (L3.length ≤ 3) ∧ Sat w [Zb w (fun _ => False), Z5 x7 27 ([(.int .i64 (F)), (.int .i64 (1))] : List Value), Z5 c30 112 ([(.int .i64 (F)), (.int .i64 (1)), (.int .i64 (0)), (.pointer (some ⟨b21, 0, none⟩)), (.slice (some ⟨g, 0, none⟩) 3 lc)] : List Value), Zd 119 79 (.slice (some ⟨g, 0, none⟩) 3 lc) 3 (([q1, q2, q3]).flatMap Zf), Z5 b21 108 ([(.map (some m22))] : List Value), Zh m22 Zc (Value.int .i64) (Zk L3), Zh q1.mr (Value.int .i64) rcV [], Zd 5 1 (.slice q1.pa q1.P.length q1.pc) q1.P.length (q1.P.flatMap Zi), Zh q2.mr (Value.int .i64) rcV [], Zd 5 1 (.slice q2.pa q2.P.length q2.pc) q2.P.length (q2.P.flatMap Zi), Zh q2.mp (Value.int .i64) Zu [], Zd 5 1 (.slice q3.pa q3.P.length q3.pc) q3.P.length (q3.P.flatMap Zi)] W_) ?_ ?_
     ·refine Zn ?_
      refine Z3 (Z1 rfl) (d := 60) (v := (.pointer (some ⟨c30, 0, none⟩))) rfl (by kernel_rfl) ?_
      refine Z3 (Z1 rfl) (d := 61) (v := (.int .i64 (3))) rfl (by kernel_rfl) ?_
      refine Z3 (Z1 rfl) (d := 62) (v := (.int .u8 (3))) rfl (Z05 (z := 3) (by kernel_rfl) (Z1R (by omega))) ?_
      refine ZE (Z1 rfl) (fun K115 hK115 => ?_)
      refine ZP (e := 5) (size := 1) (bytes := 1) (z := (.int .u8 (0))) (pvs := [(0, (.int .u8 (3)))]) (vs := ([(.int .u8 (3))] : List Value)) rfl H112 (by kernel_rfl) (by kernel_rfl) (by kernel_rfl) (by kernel_rfl) (by kernel_rfl) rfl rfl ?_
      intro b116 w117 (H118 : Sat w [Zb w (fun _ => False), Z5 x7 27 ([(.int .i64 (F)), (.int .i64 (1))] : List Value), Z5 c30 112 ([(.int .i64 (F)), (.int .i64 (1)), (.int .i64 (0)), (.pointer (some ⟨b21, 0, none⟩)), (.slice (some ⟨g, 0, none⟩) 2 lc)] : List Value), Zd 119 79 (.slice (some ⟨g, 0, none⟩) 2 lc) 2 (([q1, q2]).flatMap Zf), Z5 b21 108 ([(.map (some m22))] : List Value), Zh m22 Zc (Value.int .i64) (Zk L2), Zh q1.mr (Value.int .i64) rcV [], Zd 5 1 (.slice q1.pa q1.P.length q1.pc) q1.P.length (q1.P.flatMap Zi), Zh q2.mr (Value.int .i64) rcV [], Zd 5 1 (.slice q2.pa q2.P.length q2.pc) q2.P.length (q2.P.flatMap Zi), Zh q2.mp (Value.int .i64) Zu [], Zd 5 1 (.slice (some ⟨b116, 0, none⟩) 1 1) 1 ([(.int .u8 (3))] : List Value)] w117)
      have H119 : Sat w [Zb w (fun _ => False), Z5 x7 27 ([(.int .i64 (F)), (.int .i64 (1))] : List Value), Z5 c30 112 ([(.int .i64 (F)), (.int .i64 (1)), (.int .i64 (0)), (.pointer (some ⟨b21, 0, none⟩)), (.slice (some ⟨g, 0, none⟩) 2 lc)] : List Value), Zd 119 79 (.slice (some ⟨g, 0, none⟩) 2 lc) 2 (([q1, q2]).flatMap Zf), Z5 b21 108 ([(.map (some m22))] : List Value), Zh m22 Zc (Value.int .i64) (Zk L2), Zh q1.mr (Value.int .i64) rcV [], Zd 5 1 (.slice q1.pa q1.P.length q1.pc) q1.P.length (q1.P.flatMap Zi), Zh q2.mr (Value.int .i64) rcV [], Zd 5 1 (.slice q2.pa q2.P.length q2.pc) q2.P.length (q2.P.flatMap Zi), Zh q2.mp (Value.int .i64) Zu [], Zd 5 1 (.slice (some ⟨b116, 0, none⟩) 1 1) 1 ([3].flatMap Zi)] w117 := H118.cast (by rw [(show (([(.int .u8 (3))] : List Value) : List Value) = ([3] : List UInt8).flatMap Zi by kernel_rfl)])
      refine hK115 _ _ ?_
      clear hK115 K115
      refine Z3 (Z1 rfl) (d := 64) (v := (.agg ⟨(hc Z8)⟩)) rfl (by kernel_rfl) ?_
      refine ZE (Z1 rfl) (fun K120 hK120 => ?_)
      have H121 : Sat w [Zb w (fun _ => False), Z5 x7 27 ([(.int .i64 (F)), (.int .i64 (1))] : List Value), Z5 c30 112 ([(.int .i64 (F)), (.int .i64 (1)), (.int .i64 (0)), (.pointer (some ⟨b21, 0, none⟩)), (.slice (some ⟨g, 0, none⟩) 2 lc)] : List Value), Zd 119 79 (.slice (some ⟨g, 0, none⟩) 2 lc) 2 (([q1, q2]).flatMap Zf), Z5 b21 108 ([(.map (some m22))] : List Value), Zh m22 Zc (Value.int .i64) (Zk L2), Zh q1.mr (Value.int .i64) rcV [], Zd 5 1 (.slice q1.pa q1.P.length q1.pc) q1.P.length (q1.P.flatMap Zi), Zh q2.mr (Value.int .i64) rcV [], Zd 5 1 (.slice q2.pa q2.P.length q2.pc) q2.P.length (q2.P.flatMap Zi), Zh q2.mp (Value.int .i64) Zu [], Zd 5 1 (.slice (some ⟨b116, 0, none⟩) (([3] : List UInt8).length) 1) (([3] : List UInt8).length) (([3] : List UInt8).flatMap Zi)] w117 := H119.cast (by kernel_rfl)
      have H122 : Sat w [Zb w (fun _ => False), Z5 x7 27 ([(.int .i64 (F)), (.int .i64 (1))] : List Value), Z5 c30 112 ([(.int .i64 (F)), (.int .i64 (1)), (.int .i64 (0)), (.pointer (some ⟨b21, 0, none⟩)), (.slice (some ⟨g, 0, none⟩) 2 lc)] : List Value), Zd 119 79 (.slice (some ⟨g, 0, none⟩) 2 lc) 2 (([q1, q2]).flatMap Zf), Z5 b21 108 ([(.map (some m22))] : List Value), Zh m22 Zc (Value.int .i64) (Zk L2), Zh q1.mr (Value.int .i64) rcV [], Zd 5 1 (.slice q1.pa q1.P.length q1.pc) q1.P.length (q1.P.flatMap Zi), Zh q2.mr (Value.int .i64) rcV [], Zd 5 1 (.slice q2.pa q2.P.length q2.pc) q2.P.length (q2.P.flatMap Zi), Zh q2.mp (Value.int .i64) Zu [], ZH (.slice (some ⟨b116, 0, none⟩) ([3] : List UInt8).length 1) ([3] : List UInt8)] w117 := H121.conv 11 rfl (fun h_ => Z0S (ListAt.row (enc := Zi) (sz := 1) ZM (by decide) h_)) (fun _ h_ => h_.2)
      refine ZC (d := 65) rfl (by kernel_rfl) (Z1b w117 c30 b21 m22 lc (some ⟨g, 0, none⟩) F 1 0 ([q1, q2]) L2 (some ⟨b116, 0, none⟩) 1 ([3] : List UInt8) (H122.fin [2, 3, 4, 5, 11] (by decide) rfl) Z8 (Nat.le_of_ble_eq_true rfl) (by first | decide | omega) (by decide) (Z3g (H121.at 11 rfl)) (by omega) (by omega)) ?_
      rintro _ w123 ⟨g124, c125, a126, c127, m128, m129, m130, m131, a132, c133, D134, B135, rfl, n136, o137, T138⟩
      have H139 : Sat w [Zb w (fun _ => False), Z5 x7 27 ([(.int .i64 (F)), (.int .i64 (1))] : List Value), Z5 c30 112 ([(.int .i64 (F)), (.int .i64 (1)), (.int .i64 (0)), (.pointer (some ⟨b21, 0, none⟩)), (.slice (some ⟨g124, 0, none⟩) ((([q1, q2]) ++ [(⟨(⟨0, ((([q1, q2]).length : Int) + 1), Z9 (ofT 0 ((([q1, q2]).length : Int) + 1) Z8 ([3] : List UInt8)), ([3] : List UInt8).length, 1000 + 0, Za (Ze L2 (⟨1000 + 0, Z2 (⟨0, ((([q1, q2]).length : Int) + 1), Z9 (ofT 0 ((([q1, q2]).length : Int) + 1) Z8 ([3] : List UInt8)), ([3] : List UInt8).length, 0, 0⟩ : Z0)⟩ : Z4)) (⟨1000 + 0, Z2 (⟨0, ((([q1, q2]).length : Int) + 1), Z9 (ofT 0 ((([q1, q2]).length : Int) + 1) Z8 ([3] : List UInt8)), ([3] : List UInt8).length, 0, 0⟩ : Z0)⟩ : Z4)⟩ : Z0), a126, c127, ([3] : List UInt8), Z8, m128, none, m129, m130, false, 0, m131, false, []⟩ : Zl)]).length) c125)] : List Value), Zd 119 79 (.slice (some ⟨g124, 0, none⟩) ((([q1, q2]) ++ [(⟨(⟨0, ((([q1, q2]).length : Int) + 1), Z9 (ofT 0 ((([q1, q2]).length : Int) + 1) Z8 ([3] : List UInt8)), ([3] : List UInt8).length, 1000 + 0, Za (Ze L2 (⟨1000 + 0, Z2 (⟨0, ((([q1, q2]).length : Int) + 1), Z9 (ofT 0 ((([q1, q2]).length : Int) + 1) Z8 ([3] : List UInt8)), ([3] : List UInt8).length, 0, 0⟩ : Z0)⟩ : Z4)) (⟨1000 + 0, Z2 (⟨0, ((([q1, q2]).length : Int) + 1), Z9 (ofT 0 ((([q1, q2]).length : Int) + 1) Z8 ([3] : List UInt8)), ([3] : List UInt8).length, 0, 0⟩ : Z0)⟩ : Z4)⟩ : Z0), a126, c127, ([3] : List UInt8), Z8, m128, none, m129, m130, false, 0, m131, false, []⟩ : Zl)]).length) c125) ((([q1, q2]) ++ [(⟨(⟨0, ((([q1, q2]).length : Int) + 1), Z9 (ofT 0 ((([q1, q2]).length : Int) + 1) Z8 ([3] : List UInt8)), ([3] : List UInt8).length, 1000 + 0, Za (Ze L2 (⟨1000 + 0, Z2 (⟨0, ((([q1, q2]).length : Int) + 1), Z9 (ofT 0 ((([q1, q2]).length : Int) + 1) Z8 ([3] : List UInt8)), ([3] : List UInt8).length, 0, 0⟩ : Z0)⟩ : Z4)) (⟨1000 + 0, Z2 (⟨0, ((([q1, q2]).length : Int) + 1), Z9 (ofT 0 ((([q1, q2]).length : Int) + 1) Z8 ([3] : List UInt8)), ([3] : List UInt8).length, 0, 0⟩ : Z0)⟩ : Z4)⟩ : Z0), a126, c127, ([3] : List UInt8), Z8, m128, none, m129, m130, false, 0, m131, false, []⟩ : Zl)]).length) ((([q1, q2]) ++ [(⟨(⟨0, ((([q1, q2]).length : Int) + 1), Z9 (ofT 0 ((([q1, q2]).length : Int) + 1) Z8 ([3] : List UInt8)), ([3] : List UInt8).length, 1000 + 0, Za (Ze L2 (⟨1000 + 0, Z2 (⟨0, ((([q1, q2]).length : Int) + 1), Z9 (ofT 0 ((([q1, q2]).length : Int) + 1) Z8 ([3] : List UInt8)), ([3] : List UInt8).length, 0, 0⟩ : Z0)⟩ : Z4)) (⟨1000 + 0, Z2 (⟨0, ((([q1, q2]).length : Int) + 1), Z9 (ofT 0 ((([q1, q2]).length : Int) + 1) Z8 ([3] : List UInt8)), ([3] : List UInt8).length, 0, 0⟩ : Z0)⟩ : Z4)⟩ : Z0), a126, c127, ([3] : List UInt8), Z8, m128, none, m129, m130, false, 0, m131, false, []⟩ : Zl)]).flatMap Zf), Z5 b21 108 ([(.map (some m22))] : List Value), Zh m22 Zc (Value.int .i64) (Zk (Ze L2 (⟨1000 + 0, Z2 (⟨0, ((([q1, q2]).length : Int) + 1), Z9 (ofT 0 ((([q1, q2]).length : Int) + 1) Z8 ([3] : List UInt8)), ([3] : List UInt8).length, 0, 0⟩ : Z0)⟩ : Z4))), Zh q1.mr (Value.int .i64) rcV [], Zd 5 1 (.slice q1.pa q1.P.length q1.pc) q1.P.length (q1.P.flatMap Zi), Zh q2.mr (Value.int .i64) rcV [], Zd 5 1 (.slice q2.pa q2.P.length q2.pc) q2.P.length (q2.P.flatMap Zi), Zh q2.mp (Value.int .i64) Zu [], ZH (.slice (some ⟨b116, 0, none⟩) ([3] : List UInt8).length 1) ([3] : List UInt8), Zh m128 (Value.int .i64) Z07 [], Zh m129 (Value.int .i64) Value.bool [], Zh m130 (Value.int .i64) rcV [], Zh m131 (Value.int .i64) Zu [], Zd 5 1 (.slice a126 (([3] : List UInt8).length) c127) (([3] : List UInt8).length) (([3] : List UInt8).flatMap Zi), Zd 82 295 (.slice a132 D134.length c133) D134.length (D134.flatMap ZZ), Z0P B135] w123 := (Sat.turnL (L' := [Z5 c30 112 ([(.int .i64 (F)), (.int .i64 (1)), (.int .i64 (0)), (.pointer (some ⟨b21, 0, none⟩)), (.slice (some ⟨g124, 0, none⟩) ((([q1, q2]) ++ [(⟨(⟨0, ((([q1, q2]).length : Int) + 1), Z9 (ofT 0 ((([q1, q2]).length : Int) + 1) Z8 ([3] : List UInt8)), ([3] : List UInt8).length, 1000 + 0, Za (Ze L2 (⟨1000 + 0, Z2 (⟨0, ((([q1, q2]).length : Int) + 1), Z9 (ofT 0 ((([q1, q2]).length : Int) + 1) Z8 ([3] : List UInt8)), ([3] : List UInt8).length, 0, 0⟩ : Z0)⟩ : Z4)) (⟨1000 + 0, Z2 (⟨0, ((([q1, q2]).length : Int) + 1), Z9 (ofT 0 ((([q1, q2]).length : Int) + 1) Z8 ([3] : List UInt8)), ([3] : List UInt8).length, 0, 0⟩ : Z0)⟩ : Z4)⟩ : Z0), a126, c127, ([3] : List UInt8), Z8, m128, none, m129, m130, false, 0, m131, false, []⟩ : Zl)]).length) c125)] : List Value), Zd 119 79 (.slice (some ⟨g124, 0, none⟩) ((([q1, q2]) ++ [(⟨(⟨0, ((([q1, q2]).length : Int) + 1), Z9 (ofT 0 ((([q1, q2]).length : Int) + 1) Z8 ([3] : List UInt8)), ([3] : List UInt8).length, 1000 + 0, Za (Ze L2 (⟨1000 + 0, Z2 (⟨0, ((([q1, q2]).length : Int) + 1), Z9 (ofT 0 ((([q1, q2]).length : Int) + 1) Z8 ([3] : List UInt8)), ([3] : List UInt8).length, 0, 0⟩ : Z0)⟩ : Z4)) (⟨1000 + 0, Z2 (⟨0, ((([q1, q2]).length : Int) + 1), Z9 (ofT 0 ((([q1, q2]).length : Int) + 1) Z8 ([3] : List UInt8)), ([3] : List UInt8).length, 0, 0⟩ : Z0)⟩ : Z4)⟩ : Z0), a126, c127, ([3] : List UInt8), Z8, m128, none, m129, m130, false, 0, m131, false, []⟩ : Zl)]).length) c125) ((([q1, q2]) ++ [(⟨(⟨0, ((([q1, q2]).length : Int) + 1), Z9 (ofT 0 ((([q1, q2]).length : Int) + 1) Z8 ([3] : List UInt8)), ([3] : List UInt8).length, 1000 + 0, Za (Ze L2 (⟨1000 + 0, Z2 (⟨0, ((([q1, q2]).length : Int) + 1), Z9 (ofT 0 ((([q1, q2]).length : Int) + 1) Z8 ([3] : List UInt8)), ([3] : List UInt8).length, 0, 0⟩ : Z0)⟩ : Z4)) (⟨1000 + 0, Z2 (⟨0, ((([q1, q2]).length : Int) + 1), Z9 (ofT 0 ((([q1, q2]).length : Int) + 1) Z8 ([3] : List UInt8)), ([3] : List UInt8).length, 0, 0⟩ : Z0)⟩ : Z4)⟩ : Z0), a126, c127, ([3] : List UInt8), Z8, m128, none, m129, m130, false, 0, m131, false, []⟩ : Zl)]).length) ((([q1, q2]) ++ [(⟨(⟨0, ((([q1, q2]).length : Int) + 1), Z9 (ofT 0 ((([q1, q2]).length : Int) + 1) Z8 ([3] : List UInt8)), ([3] : List UInt8).length, 1000 + 0, Za (Ze L2 (⟨1000 + 0, Z2 (⟨0, ((([q1, q2]).length : Int) + 1), Z9 (ofT 0 ((([q1, q2]).length : Int) + 1) Z8 ([3] : List UInt8)), ([3] : List UInt8).length, 0, 0⟩ : Z0)⟩ : Z4)) (⟨1000 + 0, Z2 (⟨0, ((([q1, q2]).length : Int) + 1), Z9 (ofT 0 ((([q1, q2]).length : Int) + 1) Z8 ([3] : List UInt8)), ([3] : List UInt8).length, 0, 0⟩ : Z0)⟩ : Z4)⟩ : Z0), a126, c127, ([3] : List UInt8), Z8, m128, none, m129, m130, false, 0, m131, false, []⟩ : Zl)]).flatMap Zf), Z5 b21 108 ([(.map (some m22))] : List Value), Zh m22 Zc (Value.int .i64) (Zk (Ze L2 (⟨1000 + 0, Z2 (⟨0, ((([q1, q2]).length : Int) + 1), Z9 (ofT 0 ((([q1, q2]).length : Int) + 1) Z8 ([3] : List UInt8)), ([3] : List UInt8).length, 0, 0⟩ : Z0)⟩ : Z4))), ZH (.slice (some ⟨b116, 0, none⟩) ([3] : List UInt8).length 1) ([3] : List UInt8), Zh m128 (Value.int .i64) Z07 [], Zh m129 (Value.int .i64) Value.bool [], Zh m130 (Value.int .i64) rcV [], Zh m131 (Value.int .i64) Zu [], Zd 5 1 (.slice a126 (([3] : List UInt8).length) c127) (([3] : List UInt8).length) (([3] : List UInt8).flatMap Zi), Zd 82 295 (.slice a132 D134.length c133) D134.length (D134.flatMap ZZ), Z0P B135]) (R := [Zb w (fun _ => False), Z5 x7 27 ([(.int .i64 (F)), (.int .i64 (1))] : List Value), Zh q1.mr (Value.int .i64) rcV [], Zd 5 1 (.slice q1.pa q1.P.length q1.pc) q1.P.length (q1.P.flatMap Zi), Zh q2.mr (Value.int .i64) rcV [], Zd 5 1 (.slice q2.pa q2.P.length q2.pc) q2.P.length (q2.P.flatMap Zi), Zh q2.mp (Value.int .i64) Zu []]) H122 [2, 3, 4, 5, 11] [0, 1, 6, 7, 8, 9, 10] (by decide) (by kernel_rfl) rfl T138).pick [12, 13, 0, 1, 2, 3, 14, 15, 16, 17, 18, 4, 5, 6, 7, 8, 9, 10, 11] (by decide)
      refine ⟨_, rfl, ?_⟩
      refine hK120 _ _ ?_
      clear hK120 K120
      refine Z3 (Z1 rfl) (d := 59) (v := (.tuple #[(.slice a132 D134.length c133), (.int .i64 (0))])) rfl (by kernel_rfl) ?_
      refine Z3 (Z1 rfl) (d := 66) (v := (.slice a132 D134.length c133)) rfl (by kernel_rfl) ?_
      refine Z3 (Z1 rfl) (d := 67) (v := (.int .i64 (0))) rfl (by kernel_rfl) ?_
      refine Z3 (Z1 rfl) (d := 12) (v := (.slice a132 D134.length c133)) rfl (by kernel_rfl) ?_
      refine Z3 (Z1 rfl) (d := 13) (v := (.int .i64 (0))) rfl (by kernel_rfl) ?_
      refine Zm ?_
      have H140 : Sat w [Zb w (fun _ => False), Z5 x7 27 ([(.int .i64 (F)), (.int .i64 (1))] : List Value), Z5 c30 112 ([(.int .i64 (F)), (.int .i64 (1)), (.int .i64 (0)), (.pointer (some ⟨b21, 0, none⟩)), (.slice (some ⟨g124, 0, none⟩) ((([q1, q2]) ++ [(⟨(⟨0, ((([q1, q2]).length : Int) + 1), Z9 (ofT 0 ((([q1, q2]).length : Int) + 1) Z8 ([3] : List UInt8)), ([3] : List UInt8).length, 1000 + 0, Za (Ze L2 (⟨1000 + 0, Z2 (⟨0, ((([q1, q2]).length : Int) + 1), Z9 (ofT 0 ((([q1, q2]).length : Int) + 1) Z8 ([3] : List UInt8)), ([3] : List UInt8).length, 0, 0⟩ : Z0)⟩ : Z4)) (⟨1000 + 0, Z2 (⟨0, ((([q1, q2]).length : Int) + 1), Z9 (ofT 0 ((([q1, q2]).length : Int) + 1) Z8 ([3] : List UInt8)), ([3] : List UInt8).length, 0, 0⟩ : Z0)⟩ : Z4)⟩ : Z0), a126, c127, ([3] : List UInt8), Z8, m128, none, m129, m130, false, 0, m131, false, []⟩ : Zl)]).length) c125)] : List Value), Zd 119 79 (.slice (some ⟨g124, 0, none⟩) ((([q1, q2]) ++ [(⟨(⟨0, ((([q1, q2]).length : Int) + 1), Z9 (ofT 0 ((([q1, q2]).length : Int) + 1) Z8 ([3] : List UInt8)), ([3] : List UInt8).length, 1000 + 0, Za (Ze L2 (⟨1000 + 0, Z2 (⟨0, ((([q1, q2]).length : Int) + 1), Z9 (ofT 0 ((([q1, q2]).length : Int) + 1) Z8 ([3] : List UInt8)), ([3] : List UInt8).length, 0, 0⟩ : Z0)⟩ : Z4)) (⟨1000 + 0, Z2 (⟨0, ((([q1, q2]).length : Int) + 1), Z9 (ofT 0 ((([q1, q2]).length : Int) + 1) Z8 ([3] : List UInt8)), ([3] : List UInt8).length, 0, 0⟩ : Z0)⟩ : Z4)⟩ : Z0), a126, c127, ([3] : List UInt8), Z8, m128, none, m129, m130, false, 0, m131, false, []⟩ : Zl)]).length) c125) ((([q1, q2]) ++ [(⟨(⟨0, ((([q1, q2]).length : Int) + 1), Z9 (ofT 0 ((([q1, q2]).length : Int) + 1) Z8 ([3] : List UInt8)), ([3] : List UInt8).length, 1000 + 0, Za (Ze L2 (⟨1000 + 0, Z2 (⟨0, ((([q1, q2]).length : Int) + 1), Z9 (ofT 0 ((([q1, q2]).length : Int) + 1) Z8 ([3] : List UInt8)), ([3] : List UInt8).length, 0, 0⟩ : Z0)⟩ : Z4)) (⟨1000 + 0, Z2 (⟨0, ((([q1, q2]).length : Int) + 1), Z9 (ofT 0 ((([q1, q2]).length : Int) + 1) Z8 ([3] : List UInt8)), ([3] : List UInt8).length, 0, 0⟩ : Z0)⟩ : Z4)⟩ : Z0), a126, c127, ([3] : List UInt8), Z8, m128, none, m129, m130, false, 0, m131, false, []⟩ : Zl)]).length) ((([q1, q2]) ++ [(⟨(⟨0, ((([q1, q2]).length : Int) + 1), Z9 (ofT 0 ((([q1, q2]).length : Int) + 1) Z8 ([3] : List UInt8)), ([3] : List UInt8).length, 1000 + 0, Za (Ze L2 (⟨1000 + 0, Z2 (⟨0, ((([q1, q2]).length : Int) + 1), Z9 (ofT 0 ((([q1, q2]).length : Int) + 1) Z8 ([3] : List UInt8)), ([3] : List UInt8).length, 0, 0⟩ : Z0)⟩ : Z4)) (⟨1000 + 0, Z2 (⟨0, ((([q1, q2]).length : Int) + 1), Z9 (ofT 0 ((([q1, q2]).length : Int) + 1) Z8 ([3] : List UInt8)), ([3] : List UInt8).length, 0, 0⟩ : Z0)⟩ : Z4)⟩ : Z0), a126, c127, ([3] : List UInt8), Z8, m128, none, m129, m130, false, 0, m131, false, []⟩ : Zl)]).flatMap Zf), Z5 b21 108 ([(.map (some m22))] : List Value), Zh m22 Zc (Value.int .i64) (Zk (Ze L2 (⟨1000 + 0, Z2 (⟨0, ((([q1, q2]).length : Int) + 1), Z9 (ofT 0 ((([q1, q2]).length : Int) + 1) Z8 ([3] : List UInt8)), ([3] : List UInt8).length, 0, 0⟩ : Z0)⟩ : Z4))), Zh q1.mr (Value.int .i64) rcV [], Zd 5 1 (.slice q1.pa q1.P.length q1.pc) q1.P.length (q1.P.flatMap Zi), Zh q2.mr (Value.int .i64) rcV [], Zd 5 1 (.slice q2.pa q2.P.length q2.pc) q2.P.length (q2.P.flatMap Zi), Zh q2.mp (Value.int .i64) Zu [], Zd 5 1 (.slice a126 (([3] : List UInt8).length) c127) (([3] : List UInt8).length) (([3] : List UInt8).flatMap Zi)] w123 := H139.pick [0, 1, 2, 3, 4, 5, 6, 7, 8, 9, 10, 16] (by decide)
      refine ZX ?_ ⟨g124, c125, (⟨(⟨0, ((([q1, q2]).length : Int) + 1), Z9 (ofT 0 ((([q1, q2]).length : Int) + 1) Z8 ([3] : List UInt8)), ([3] : List UInt8).length, 1000 + 0, Za (Ze L2 (⟨1000 + 0, Z2 (⟨0, ((([q1, q2]).length : Int) + 1), Z9 (ofT 0 ((([q1, q2]).length : Int) + 1) Z8 ([3] : List UInt8)), ([3] : List UInt8).length, 0, 0⟩ : Z0)⟩ : Z4)) (⟨1000 + 0, Z2 (⟨0, ((([q1, q2]).length : Int) + 1), Z9 (ofT 0 ((([q1, q2]).length : Int) + 1) Z8 ([3] : List UInt8)), ([3] : List UInt8).length, 0, 0⟩ : Z0)⟩ : Z4)⟩ : Z0), a126, c127, ([3] : List UInt8), Z8, m128, none, m129, m130, false, 0, m131, false, []⟩ : Zl), (Ze L2 (⟨1000 + 0, Z2 (⟨0, ((([q1, q2]).length : Int) + 1), Z9 (ofT 0 ((([q1, q2]).length : Int) + 1) Z8 ([3] : List UInt8)), ([3] : List UInt8).length, 0, 0⟩ : Z0)⟩ : Z4)), rfl, ⟨rfl, rfl, rfl, rfl, rfl⟩, (by rfl), rfl, (Nat.le_trans (Z1t _ _) (by first | decide | omega)), H140⟩
      exact (Z6 rfl (Z6 rfl (Z6 rfl (Z6 rfl (Z6 rfl (Z6 rfl (Z6 rfl (Z6 rfl (Z6 rfl (Z6 rfl (Z6 rfl (ZV))))))))))))
     ·rintro f141 w142 ⟨g, lc, q3, L3, v144, hq3, hh3, hP3, hL3, H143⟩
      refine Zs 13 _ v144 ?_
      refine Zg ?_
      refine Zn ?_
      refine Z3 (Z1 rfl) (d := 68) (v := (.int .i64 (0))) rfl (by kernel_rfl) ?_
      refine Z3 (Z1 rfl) (d := 69) (v := (.bool false)) rfl (by kernel_rfl) ?_
      refine Zm ?_
      refine Z7 ?_
      refine ZY rfl ?_
      refine ZN ?_
      refine Zz ?_
      refine Z7 ?_
      refine Zn ?_
      refine Z3 (Z1 rfl) (d := 57) (v := (.int .i64 (3))) rfl (by kernel_rfl) ?_
      refine Z3 (Z1 rfl) (d := 58) (v := (.int .i64 (4))) rfl (by kernel_rfl) ?_
      refine Z3 (Z1 rfl) (d := 11) (v := (.int .i64 (4))) rfl (by kernel_rfl) ?_
      refine Zm ?_
      refine Z1g ?_
      refine Zg ?_
      refine Zg ?_
      refine Zn ?_
      refine Z3 (Z1 rfl) (d := 55) (v := (.int .i64 (4))) rfl (by kernel_rfl) ?_
      refine Z3 (Z1 rfl) (d := 56) (v := (.bool false)) rfl (by kernel_rfl) ?_
      refine Zm ?_
      refine Z7 ?_
      refine ZY rfl ?_
      refine Z1w ?_
      refine Z0t ?_
      refine Z0t ?_
      refine Z16 ?_
      refine Z7 ?_
      refine Zg ?_
      refine Zg ?_
      refine Zn ?_
      refine Z3 (Z1 rfl) (d := 14) (v := (.int .i64 (0))) rfl (by kernel_rfl) ?_
      refine Zm ?_
      refine Z7 ?_
      refine ZB ?_
      have H145 : Sat w [Zb w (fun _ => False), Z5 x7 27 ([(.int .i64 (F)), (.int .i64 (1))] : List Value), Z5 c30 112 ([(.int .i64 (F)), (.int .i64 (1)), (.int .i64 (0)), (.pointer (some ⟨b21, 0, none⟩)), (.slice (some ⟨g, 0, none⟩) 3 lc)] : List Value), Zd 119 79 (.slice (some ⟨g, 0, none⟩) 3 lc) 3 (([q1, q2, q3]).flatMap Zf), Zh q1.mr (Value.int .i64) rcV [], Zd 5 1 (.slice q1.pa q1.P.length q1.pc) q1.P.length (q1.P.flatMap Zi), Zh q2.mr (Value.int .i64) rcV [], Zd 5 1 (.slice q2.pa q2.P.length q2.pc) q2.P.length (q2.P.flatMap Zi), Zh q2.mp (Value.int .i64) Zu [], Zd 5 1 (.slice q3.pa q3.P.length q3.pc) q3.P.length (q3.P.flatMap Zi)] w142 := H143.pick [0, 1, 2, 3, 6, 7, 8, 9, 10, 11] (by decide)
      refine ZU [14, 15, 16, 17, 70, 71, 72, 73, 74, 75, 76, 77, 78, 79, 80, 81, 82, 83, 84, 85, 86, 87, 88, 89, 90, 91, 92, 93, 94, 95, 96, 97, 98, 99, 100, 101, 102, 103] (fun F_ W_ m_ => ∃ (i : Nat) (Ra Rb : List (Int × RcD)) (qa qb : Zl), F_ 14 = (.int .i64 ((i : Int))) ∧ ((i : Int) ≤ F + 1) ∧ (RcG i (⟨fi, ⟨0, 1, Z9 (ofT 0 1 Z8 [1]), 0⟩⟩ : RcD) Ra) ∧ (qa.op = decide ((i : Int) = F + 1)) ∧ (qa.op = true → qa.pl = fi) ∧ (qa.x.h = Z9 (ofT 0 1 Z8 [1]) ∧ qa.P = [1] ∧ qa.dn = false ∧ qa.rp = []) ∧ (RcG i (⟨se, ⟨0, 2, Z9 (ofT 0 2 Z8 [2]), 0⟩⟩ : RcD) Rb) ∧ (qb.op = decide ((i : Int) = F + 1)) ∧ (qb.op = true → qb.pl = se) ∧ (qb.x.h = Z9 (ofT 0 2 Z8 [2]) ∧ qb.P = [2] ∧ qb.dn = false ∧ qb.rp = []) ∧ Sat w [Zb w (fun _ => False), Z5 x7 27 ([(.int .i64 (F)), (.int .i64 (1))] : List Value), Z5 c30 112 ([(.int .i64 (F)), (.int .i64 (1)), (.int .i64 (0)), (.pointer (some ⟨b21, 0, none⟩)), (.slice (some ⟨g, 0, none⟩) 3 lc)] : List Value), Zd 119 79 (.slice (some ⟨g, 0, none⟩) 3 lc) 3 (([qa, qb, q3]).flatMap Zf), Zh qa.mr (Value.int .i64) rcV Ra, Zd 5 1 (.slice qa.pa qa.P.length qa.pc) qa.P.length (qa.P.flatMap Zi), Zh qb.mr (Value.int .i64) rcV Rb, Zd 5 1 (.slice qb.pa qb.P.length qb.pc) qb.P.length (qb.P.flatMap Zi), Zh qb.mp (Value.int .i64) Zu [], Zd 5 1 (.slice q3.pa q3.P.length q3.pc) q3.P.length (q3.P.flatMap Zi)] W_ ∧ m_ = (F + 1 - i).toNat) _ ⟨0, [], [], q1, q2, (show ((.int .i64 (0)) : Value) = _ by first | rfl | go_num), (by omega), RcG.nil, (by rw [hq1.1]; exact (decide_eq_false (by omega)).symm), (fun h_ => by rw [hq1.1] at h_; cases h_), ⟨hh1, hP1, hq1.2.2.2⟩, RcG.nil, (by rw [hq2.1]; exact (decide_eq_false (by omega)).symm), (fun h_ => by rw [hq2.1] at h_; cases h_), ⟨hh2, hP2, hq2.2.2.2⟩, H145, rfl⟩ ?_
      rintro g146 w147 _ ⟨i, Ra, Rb, qa, qb, v149, hi, hR1, ho1, hp1, hz1, hR2, ho2, hp2, hz2, H148, rfl⟩
      refine Zs 14 _ v149 ?_
      refine Zg ?_
      refine Zg ?_
      refine Zn ?_
      refine Z3 (Z1 rfl) (d := 70) (v := (.int .i64 ((i : Int)))) rfl (by kernel_rfl) ?_
      refine Z3 (Z1 rfl) (d := 71) (v := (.pointer (some ⟨x7, 0, none⟩))) rfl (by kernel_rfl) ?_
      refine Z3 (Z1 rfl) (d := 72) (v := (.int .i64 (F))) rfl (Zj rfl (by kernel_rfl) (H148.cell 1 rfl rfl)) ?_
      refine Z3 (Z1 rfl) (d := 73) (v := (.int .i64 (F + 1))) rfl (Z05 (z := F + 1) (by kernel_rfl) (IntWalk.i64_in _ (by omega))) ?_
      refine Z3 (Z1 rfl) (d := 74) (v := (.bool (decide ((i : Int) < (F + 1))))) rfl (by kernel_rfl) ?_
      refine Zm ?_
      refine Z7 ?_
      refine (Z06 (decide ((i : Int) < (F + 1)))).elim (fun b151 => ?_) (fun b151 => ?_)
      ·have g152 := of_decide_eq_true b151
       refine Zs 74 (.bool true) (congrArg Value.bool b151) ?_
       have g153 := of_decide_eq_true b151
       refine Z0u rfl ?_
       refine ZN ?_
       refine Z7 ?_
       refine Zg ?_
       refine ZB ?_
       refine Zg ?_
       refine Zn ?_
       refine Z3 (Z1 rfl) (d := 77) (v := (.int .i64 (fi))) rfl (by kernel_rfl) ?_
       refine Z3 (Z1 rfl) (d := 78) (v := (.int .i64 (se))) rfl (by kernel_rfl) ?_
       refine ZE (Z1 rfl) (fun K154 hK154 => ?_)
       refine ZP (e := 3) (size := 1) (bytes := 8) (z := (.int .i64 (0))) (pvs := [(0, (.int .i64 (fi))), (1, (.int .i64 (se)))]) (vs := ([(.int .i64 (fi)), (.int .i64 (se))] : List Value)) rfl H148 (by kernel_rfl) (by kernel_rfl) (by kernel_rfl) (by kernel_rfl) (by kernel_rfl) rfl rfl ?_
       intro b155 w156 (H157 : Sat w [Zb w (fun _ => False), Z5 x7 27 ([(.int .i64 (F)), (.int .i64 (1))] : List Value), Z5 c30 112 ([(.int .i64 (F)), (.int .i64 (1)), (.int .i64 (0)), (.pointer (some ⟨b21, 0, none⟩)), (.slice (some ⟨g, 0, none⟩) 3 lc)] : List Value), Zd 119 79 (.slice (some ⟨g, 0, none⟩) 3 lc) 3 (([qa, qb, q3]).flatMap Zf), Zh qa.mr (Value.int .i64) rcV Ra, Zd 5 1 (.slice qa.pa qa.P.length qa.pc) qa.P.length (qa.P.flatMap Zi), Zh qb.mr (Value.int .i64) rcV Rb, Zd 5 1 (.slice qb.pa qb.P.length qb.pc) qb.P.length (qb.P.flatMap Zi), Zh qb.mp (Value.int .i64) Zu [], Zd 5 1 (.slice q3.pa q3.P.length q3.pc) q3.P.length (q3.P.flatMap Zi), Zd 3 1 (.slice (some ⟨b155, 0, none⟩) 2 2) 2 ([(.int .i64 (fi)), (.int .i64 (se))] : List Value)] w156)
       have H158 : Sat w [Zb w (fun _ => False), Z5 x7 27 ([(.int .i64 (F)), (.int .i64 (1))] : List Value), Z5 c30 112 ([(.int .i64 (F)), (.int .i64 (1)), (.int .i64 (0)), (.pointer (some ⟨b21, 0, none⟩)), (.slice (some ⟨g, 0, none⟩) 3 lc)] : List Value), Zd 119 79 (.slice (some ⟨g, 0, none⟩) 3 lc) 3 (([qa, qb, q3]).flatMap Zf), Zh qa.mr (Value.int .i64) rcV Ra, Zd 5 1 (.slice qa.pa qa.P.length qa.pc) qa.P.length (qa.P.flatMap Zi), Zh qb.mr (Value.int .i64) rcV Rb, Zd 5 1 (.slice qb.pa qb.P.length qb.pc) qb.P.length (qb.P.flatMap Zi), Zh qb.mp (Value.int .i64) Zu [], Zd 5 1 (.slice q3.pa q3.P.length q3.pc) q3.P.length (q3.P.flatMap Zi), Zd 3 1 (.slice (some ⟨b155, 0, none⟩) 2 2) 2 ([fi, se].flatMap Z2g)] w156 := H157.cast (by rw [(show (([(.int .i64 (fi)), (.int .i64 (se))] : List Value) : List Value) = ([fi, se] : List Int).flatMap Z2g by kernel_rfl)])
       refine hK154 _ _ ?_
       clear hK154 K154
       refine Z3 (Z1 rfl) (d := 80) (v := (.int .i64 (2))) rfl (by kernel_rfl) ?_
       refine Z3 (Z1 rfl) (d := 81) (v := (.int .i64 (0))) rfl (by kernel_rfl) ?_
       refine Zm ?_
       refine Z7 ?_
       refine ZB ?_
       refine Z4w 2 ?_
       refine Zg ?_
       refine Zn ?_
       refine Z3 (Z1 rfl) (d := 82) (v := (.bool true)) rfl (by kernel_rfl) ?_
       refine Zm ?_
       refine Z7 ?_
       refine Zg ?_
       refine Z0u rfl ?_
       refine ZN ?_
       refine Z7 ?_
       refine Z0x [15, 16, 17, 83, 84, 85, 86, 87, 88, 89, 90, 91, 92, 93, 94, 95, 96, 97, 98, 99, 100, 101, 102] (fun G_ W_ => ∃ (Ra2 : List (Int × RcD)) (qa2 : Zl), (RcG (i + 1 : Nat) (⟨fi, ⟨0, 1, Z9 (ofT 0 1 Z8 [1]), 0⟩⟩ : RcD) Ra2) ∧ (qa2.op = decide (((i + 1 : Nat) : Int) = F + 1)) ∧ (qa2.op = true → qa2.pl = fi) ∧ (qa2.x.h = Z9 (ofT 0 1 Z8 [1]) ∧ qa2.P = [1] ∧ qa2.dn = false ∧ qa2.rp = []) ∧ Sat w [Zb w (fun _ => False), Z5 x7 27 ([(.int .i64 (F)), (.int .i64 (1))] : List Value), Z5 c30 112 ([(.int .i64 (F)), (.int .i64 (1)), (.int .i64 (0)), (.pointer (some ⟨b21, 0, none⟩)), (.slice (some ⟨g, 0, none⟩) 3 lc)] : List Value), Zd 119 79 (.slice (some ⟨g, 0, none⟩) 3 lc) 3 (([qa2, qb, q3]).flatMap Zf), Zh qa2.mr (Value.int .i64) rcV Ra2, Zd 5 1 (.slice qa2.pa qa2.P.length qa2.pc) qa2.P.length (qa2.P.flatMap Zi), Zh qb.mr (Value.int .i64) rcV Rb, Zd 5 1 (.slice qb.pa qb.P.length qb.pc) qb.P.length (qb.P.flatMap Zi), Zh qb.mp (Value.int .i64) Zu [], Zd 5 1 (.slice q3.pa q3.P.length q3.pc) q3.P.length (q3.P.flatMap Zi), Zd 3 1 (.slice (some ⟨b155, 0, none⟩) 2 2) 2 ([fi, se].flatMap Z2g)] W_) ?_ ?_
       ·refine ZB ?_
        refine Zg ?_
        refine Zn ?_
        refine Z3 (Z1 rfl) (d := 83) (v := (.int .i64 (0))) rfl (by kernel_rfl) ?_
        refine Z3 (Z1 rfl) (d := 84) (v := (.pointer (some ⟨b155, 0, none⟩))) rfl (Z0w (E := 3) (z := 0) (o := 0) (len := 2) (sz := 1) (by kernel_rfl) (by kernel_rfl) (Nat.le_of_ble_eq_true rfl) rfl rfl (by decide) (by decide)) ?_
        refine Z3 (Z1 rfl) (d := 85) (v := (.int .i64 (fi))) rfl (Zj rfl (by kernel_rfl) (Z2t (H158.at 10 rfl) rfl (by kernel_rfl))) ?_
        refine Z3 (Z1 rfl) (d := 15) (v := (.int .i64 (0))) rfl (by kernel_rfl) ?_
        refine Z3 (Z1 rfl) (d := 16) (v := (.int .i64 (fi))) rfl (by kernel_rfl) ?_
        refine Zm ?_
        refine Z7 ?_
        refine Zg ?_
        refine Zn ?_
        refine Z3 (Z1 rfl) (d := 86) (v := (.int .i64 (0))) rfl (by kernel_rfl) ?_
        refine Z3 (Z1 rfl) (d := 87) (v := (.int .i64 (1))) rfl (by kernel_rfl) ?_
        refine Z3 (Z1 rfl) (d := 88) (v := (.agg ⟨([(.int .i64 (0)), (.int .i64 (1))] : List Value)⟩)) rfl (by kernel_rfl) ?_
        refine ZE (Z1 rfl) (fun K160 hK160 => ?_)
        refine Z0v (zs := ([(.int .i64 (0)), (.int .i64 (0))] : List Value)) (z := (.agg ⟨([(.int .i64 (0)), (.int .i64 (0))] : List Value)⟩)) rfl H158 (by kernel_rfl) (by kernel_rfl) ?_
        intro b161 w162 (H163 : Sat w [Zb w (fun _ => False), Z5 x7 27 ([(.int .i64 (F)), (.int .i64 (1))] : List Value), Z5 c30 112 ([(.int .i64 (F)), (.int .i64 (1)), (.int .i64 (0)), (.pointer (some ⟨b21, 0, none⟩)), (.slice (some ⟨g, 0, none⟩) 3 lc)] : List Value), Zd 119 79 (.slice (some ⟨g, 0, none⟩) 3 lc) 3 (([qa, qb, q3]).flatMap Zf), Zh qa.mr (Value.int .i64) rcV Ra, Zd 5 1 (.slice qa.pa qa.P.length qa.pc) qa.P.length (qa.P.flatMap Zi), Zh qb.mr (Value.int .i64) rcV Rb, Zd 5 1 (.slice qb.pa qb.P.length qb.pc) qb.P.length (qb.P.flatMap Zi), Zh qb.mp (Value.int .i64) Zu [], Zd 5 1 (.slice q3.pa q3.P.length q3.pc) q3.P.length (q3.P.flatMap Zi), Zd 3 1 (.slice (some ⟨b155, 0, none⟩) 2 2) 2 ([fi, se].flatMap Z2g), Z5 b161 43 ([(.int .i64 (0)), (.int .i64 (0))] : List Value)] w162)
        refine hK160 _ _ ?_
        clear hK160 K160
        refine ZE (Z1 rfl) (fun K164 hK164 => ?_)
        refine ZQ (vs := ([(.int .i64 (0)), (.int .i64 (1))] : List Value)) (cs' := ([(.int .i64 (0)), (.int .i64 (1))] : List Value)) rfl H163 11 rfl rfl rfl rfl (by kernel_rfl) (Nat.le_of_ble_eq_true (by kernel_rfl)) (Nat.le_of_ble_eq_true (by kernel_rfl)) (by kernel_rfl) (by kernel_rfl) ?_
        intro w165 (H166 : Sat w [Zb w (fun _ => False), Z5 x7 27 ([(.int .i64 (F)), (.int .i64 (1))] : List Value), Z5 c30 112 ([(.int .i64 (F)), (.int .i64 (1)), (.int .i64 (0)), (.pointer (some ⟨b21, 0, none⟩)), (.slice (some ⟨g, 0, none⟩) 3 lc)] : List Value), Zd 119 79 (.slice (some ⟨g, 0, none⟩) 3 lc) 3 (([qa, qb, q3]).flatMap Zf), Zh qa.mr (Value.int .i64) rcV Ra, Zd 5 1 (.slice qa.pa qa.P.length qa.pc) qa.P.length (qa.P.flatMap Zi), Zh qb.mr (Value.int .i64) rcV Rb, Zd 5 1 (.slice qb.pa qb.P.length qb.pc) qb.P.length (qb.P.flatMap Zi), Zh qb.mp (Value.int .i64) Zu [], Zd 5 1 (.slice q3.pa q3.P.length q3.pc) q3.P.length (q3.P.flatMap Zi), Zd 3 1 (.slice (some ⟨b155, 0, none⟩) 2 2) 2 ([fi, se].flatMap Z2g), Z5 b161 43 ([(.int .i64 (0)), (.int .i64 (1))] : List Value)] w165)
        refine hK164 _ _ ?_
        clear hK164 K164
        refine Zm ?_
        refine Z7 ?_
        refine Z0g H166 [Zb w (fun _ => False), Z5 x7 27 ([(.int .i64 (F)), (.int .i64 (1))] : List Value), Zd 5 1 (.slice qa.pa qa.P.length qa.pc) qa.P.length (qa.P.flatMap Zi), Zh qb.mr (Value.int .i64) rcV Rb, Zd 5 1 (.slice qb.pa qb.P.length qb.pc) qb.P.length (qb.P.flatMap Zi), Zh qb.mp (Value.int .i64) Zu [], Zd 5 1 (.slice q3.pa q3.P.length q3.pc) q3.P.length (q3.P.flatMap Zi), Zd 3 1 (.slice (some ⟨b155, 0, none⟩) 2 2) 2 ([fi, se].flatMap Z2g), Z5 b161 43 ([(.int .i64 (0)), (.int .i64 (1))] : List Value)] 14 rfl (by kernel_rfl) (fun Hx => (Hx.pick [0, 1, 5, 6, 7, 8, 9, 10, 11] (by decide))) ?_
        intro w168 H169 S170
        refine Zt 0 rfl (by kernel_rfl) (by kernel_rfl) (by kernel_rfl) (fun _ _ _ h => h) S170 (Z1 rfl) (d := 89) (v := (.pointer (some ⟨c30, 0, none⟩))) rfl (fun _ H' => (by kernel_rfl)) ?_
        refine Zt 1 rfl (by kernel_rfl) (by kernel_rfl) (by kernel_rfl) (fun _ _ _ h => h) S170 (Z1 rfl) (d := 90) (v := (.int .i64 ((i : Int)))) rfl (fun _ H' => (by kernel_rfl)) ?_
        refine Zt 2 rfl (by kernel_rfl) (by kernel_rfl) (by kernel_rfl) (fun _ _ _ h => h) S170 (Z1 rfl) (d := 91) (v := (.int .i64 (fi))) rfl (fun _ H' => (by kernel_rfl)) ?_
        refine Zt 3 rfl (by kernel_rfl) (by kernel_rfl) (by kernel_rfl) (fun _ _ _ h => h) S170 (Z1 rfl) (d := 92) (v := (.agg ⟨([(.int .i64 (0)), (.int .i64 (1))] : List Value)⟩)) rfl (fun _ H' => (ZJ (vs := ([(.int .i64 (0)), (.int .i64 (1))] : List Value)) rfl (by kernel_rfl) (by kernel_rfl) (by exact Nat.le_of_ble_eq_true (by kernel_rfl)) (H'.at 8 rfl) (by kernel_rfl))) ?_
        refine Zt 4 rfl (by kernel_rfl) (by kernel_rfl) (by kernel_rfl) (fun _ _ _ h => h) S170 (Z1 rfl) (d := 93) (v := (.agg ⟨([(.int .i64 (0)), (.int .i64 (1))] : List Value)⟩)) rfl (fun _ H' => (ZJ (vs := ([(.int .i64 (0)), (.int .i64 (1))] : List Value)) rfl (by kernel_rfl) (by kernel_rfl) (by exact Nat.le_of_ble_eq_true (by kernel_rfl)) (H'.at 8 rfl) (by kernel_rfl))) ?_
        refine Zt 5 rfl (by kernel_rfl) (by kernel_rfl) (by kernel_rfl) (fun _ _ _ h => h) S170 (Z1 rfl) (d := 94) (v := (.agg ⟨(hc Z8)⟩)) rfl (fun _ H' => (by kernel_rfl)) ?_
        refine Zt 6 rfl (by kernel_rfl) (by kernel_rfl) (by kernel_rfl) (fun _ _ _ h => h) S170 (Z1 rfl) (d := 95) (v := (.int .i64 (0))) rfl (fun _ H' => (by kernel_rfl)) ?_
        refine Zt 7 rfl (by kernel_rfl) (by kernel_rfl) (by kernel_rfl) (fun _ _ _ h => h) S170 (Z1 rfl) (d := 96) (v := (.int .i64 (1))) rfl (fun _ H' => (by kernel_rfl)) ?_
        refine Zt 8 rfl (by kernel_rfl) (by kernel_rfl) (by kernel_rfl) (fun _ _ _ h => h) S170 (Z1 rfl) (d := 97) (v := (.int .u8 (1))) rfl (fun _ H' => (Z05 (z := 1) (by kernel_rfl) (Z1R (by omega)))) ?_
        refine Z1a 9 rfl (by kernel_rfl) (Z1 rfl) (fun K171 hK171 => ?_)
        refine ZP (e := 5) (size := 1) (bytes := 1) (z := (.int .u8 (0))) (pvs := [(0, (.int .u8 (1)))]) (vs := ([(.int .u8 (1))] : List Value)) rfl H169 (by kernel_rfl) (by kernel_rfl) (by kernel_rfl) (by kernel_rfl) (by kernel_rfl) rfl rfl ?_
        intro b172 w173 (H174 : Sat w [Zb w (fun _ => False), Z5 x7 27 ([(.int .i64 (F)), (.int .i64 (1))] : List Value), Z5 c30 112 ([(.int .i64 (F)), (.int .i64 (1)), (.int .i64 (0)), (.pointer (some ⟨b21, 0, none⟩)), (.slice (some ⟨g, 0, none⟩) 3 lc)] : List Value), Zd 119 79 (.slice (some ⟨g, 0, none⟩) 3 lc) 3 (([qa, qb, q3]).flatMap Zf), Zh qa.mr (Value.int .i64) rcV Ra, Zd 5 1 (.slice qa.pa qa.P.length qa.pc) qa.P.length (qa.P.flatMap Zi), Zh qb.mr (Value.int .i64) rcV Rb, Zd 5 1 (.slice qb.pa qb.P.length qb.pc) qb.P.length (qb.P.flatMap Zi), Zh qb.mp (Value.int .i64) Zu [], Zd 5 1 (.slice q3.pa q3.P.length q3.pc) q3.P.length (q3.P.flatMap Zi), Zd 3 1 (.slice (some ⟨b155, 0, none⟩) 2 2) 2 ([fi, se].flatMap Z2g), Z5 b161 43 ([(.int .i64 (0)), (.int .i64 (1))] : List Value), Zd 5 1 (.slice (some ⟨b172, 0, none⟩) 1 1) 1 ([(.int .u8 (1))] : List Value)] w173)
        have H175 : Sat w [Zb w (fun _ => False), Z5 x7 27 ([(.int .i64 (F)), (.int .i64 (1))] : List Value), Z5 c30 112 ([(.int .i64 (F)), (.int .i64 (1)), (.int .i64 (0)), (.pointer (some ⟨b21, 0, none⟩)), (.slice (some ⟨g, 0, none⟩) 3 lc)] : List Value), Zd 119 79 (.slice (some ⟨g, 0, none⟩) 3 lc) 3 (([qa, qb, q3]).flatMap Zf), Zh qa.mr (Value.int .i64) rcV Ra, Zd 5 1 (.slice qa.pa qa.P.length qa.pc) qa.P.length (qa.P.flatMap Zi), Zh qb.mr (Value.int .i64) rcV Rb, Zd 5 1 (.slice qb.pa qb.P.length qb.pc) qb.P.length (qb.P.flatMap Zi), Zh qb.mp (Value.int .i64) Zu [], Zd 5 1 (.slice q3.pa q3.P.length q3.pc) q3.P.length (q3.P.flatMap Zi), Zd 3 1 (.slice (some ⟨b155, 0, none⟩) 2 2) 2 ([fi, se].flatMap Z2g), Z5 b161 43 ([(.int .i64 (0)), (.int .i64 (1))] : List Value), Zd 5 1 (.slice (some ⟨b172, 0, none⟩) 1 1) 1 ([1].flatMap Zi)] w173 := H174.cast (by rw [(show (([(.int .u8 (1))] : List Value) : List Value) = ([1] : List UInt8).flatMap Zi by kernel_rfl)])
        have S176 := H175.pick [0, 1, 5, 6, 7, 8, 9, 10, 11] (by decide)
        refine hK171 _ _ S176 ?_
        clear hK171 K171
        refine Z1a 10 rfl (by kernel_rfl) (Z1 rfl) (fun K177 hK177 => ?_)
        refine ZC (d := 99) rfl (by kernel_rfl) (Z5n w173 0 1 Z8 (some ⟨b172, 0, none⟩) 1 [1] (by have q_ := H175.at 12 rfl; exact ListAt.row (enc := Zi) (sz := 1) (xs := [1]) ZM (by decide) (by rw [show (([1] : List UInt8).flatMap Zi) = [.int .u8 1] by kernel_rfl]; exact q_)) (by decide) (by decide) (by decide)) ?_
        rintro _ w178 ⟨rfl, u180⟩
        have H179 := H175.keepU u180
        refine ⟨_, rfl, ?_⟩
        have S181 := H179.pick [0, 1, 5, 6, 7, 8, 9, 10, 11] (by decide)
        refine hK177 _ _ S181 ?_
        clear hK177 K177
        refine Zt 11 rfl (by kernel_rfl) (by kernel_rfl) (by kernel_rfl) (fun _ _ _ h => h) S181 (Z1 rfl) (d := 100) (v := (.agg ⟨(([(.int .i64 (0)), (.int .i64 (1))] : List Value) ++ hc (Z9 (ofT 0 1 Z8 [1])) ++ ([(.int .u64 (0))] : List Value))⟩)) rfl (fun _ H' => (by kernel_rfl)) ?_
        refine Zt 12 rfl (by kernel_rfl) (by kernel_rfl) (by kernel_rfl) (fun _ _ _ h => h) S181 (Z1 rfl) (d := 101) (v := (.agg ⟨(([(.int .i64 (9)), (.int .i64 ((i : Int))), (.int .i64 (1000)), (.int .i64 (0)), (.int .i64 (0))] : List Value) ++ hc Z8 ++ ([(.int .i64 (0)), (.int .i64 (0)), (.int .i64 (0)), (.int .i64 (0)), (.int .i64 (0)), (.int .i64 (0))] : List Value) ++ hc Z8 ++ ([(.int .u64 (0)), (.int .i64 (0)), (.int .i64 (0)), (.int .i64 (0)), (.int .i64 (0))] : List Value) ++ hc Z8 ++ ([(.int .i64 (0)), (.int .i64 (0)), (.int .i64 (0)), (.slice none 0 0), (.int .i64 (0)), (.int .i64 (0)), (.int .i64 (0))] : List Value) ++ hc Z8 ++ ([(.int .u64 (0)), (.int .i64 (0)), (.int .i64 (0)), (.int .i64 (0)), (.int .i64 (0)), (.int .u64 (0)), (.int .i64 (0)), (.int .i64 (0)), (.int .u64 (0)), (.slice none 0 0), (.int .i64 (0)), (.int .i64 (0)), (.int .i64 (0)), (.int .i64 (0)), (.int .i64 (0)), (.int .i64 (0)), (.int .i64 (0)), (.int .u64 (0)), (.slice none 0 0), (.slice none 0 0), (.slice none 0 0), (.int .i64 (0)), (.int .i64 (0)), (.int .i64 (0))] : List Value) ++ ([(.int .i64 (0)), (.int .i64 (0)), (.int .i64 (0))] : List Value) ++ hc Z8 ++ ([(.int .i64 (0)), (.int .i64 (0)), (.int .i64 (fi)), (.int .i64 (0)), (.int .i64 (1))] : List Value) ++ hc (Z9 (ofT 0 1 Z8 [1])) ++ ([(.int .u64 (0)), (.int .i64 (0)), (.slice none 0 0)] : List Value) ++ hc Z8 ++ ([(.int .i64 (0)), (.int .i64 (0)), (.int .i64 (0)), (.int .i64 (0)), (Zu ([] : List UInt8)), (.int .i64 (0)), (.int .i64 (0)), (.int .i64 (0)), (.int .u64 (0)), (.slice none 0 0), (.slice none 0 0), (.slice none 0 0), (.slice none 0 0)] : List Value))⟩)) rfl (fun _ H' => (by kernel_rfl)) ?_
        refine Z1a 13 rfl (by kernel_rfl) (Z1 rfl) (fun K182 hK182 => ?_)
        refine ZC (d := 102) rfl (by kernel_rfl) (show Calls _ _ _ _ _ from hz1.1 ▸ Z2y w178 c30 b21 g lc F 1 0 [qa, qb, q3] 0 qa rfl Ra (H179.fin [2, 3, 4, 5] (by decide) rfl) (Nat.le_of_ble_eq_true rfl) (by rw [hR1.len]; omega) (by rw [hz1.2.1]; decide) (by omega) (by decide) (i : Int) fi 1 0 rfl (by unfold inB; simp; omega)) ?_
        rintro _ w183 (⟨k184, rfl, T185⟩ | ⟨k186, a187, c188, D189, B190, rfl, n191, o192, T193⟩)
        ·have H195 : Sat w [Zb w (fun _ => False), Z5 x7 27 ([(.int .i64 (F)), (.int .i64 (1))] : List Value), Z5 c30 112 ([(.int .i64 (F)), (.int .i64 (1)), (.int .i64 (0)), (.pointer (some ⟨b21, 0, none⟩)), (.slice (some ⟨g, 0, none⟩) 3 lc)] : List Value), Zd 119 79 (.slice (some ⟨g, 0, none⟩) 3 lc) 3 (([qa, qb, q3]).flatMap Zf), Zh qa.mr (Value.int .i64) rcV (Z0d Ra (i : Int) (⟨fi, ⟨0, 1, qa.x.h, 0⟩⟩ : RcD)), Zd 5 1 (.slice qa.pa qa.P.length qa.pc) qa.P.length (qa.P.flatMap Zi), Zh qb.mr (Value.int .i64) rcV Rb, Zd 5 1 (.slice qb.pa qb.P.length qb.pc) qb.P.length (qb.P.flatMap Zi), Zh qb.mp (Value.int .i64) Zu [], Zd 5 1 (.slice q3.pa q3.P.length q3.pc) q3.P.length (q3.P.flatMap Zi), Zd 3 1 (.slice (some ⟨b155, 0, none⟩) 2 2) 2 ([fi, se].flatMap Z2g), Z5 b161 43 ([(.int .i64 (0)), (.int .i64 (1))] : List Value), Zd 5 1 (.slice (some ⟨b172, 0, none⟩) 1 1) 1 ([1].flatMap Zi)] w183 := (Sat.turnL (L' := [Z5 c30 112 ([(.int .i64 (F)), (.int .i64 (1)), (.int .i64 (0)), (.pointer (some ⟨b21, 0, none⟩)), (.slice (some ⟨g, 0, none⟩) 3 lc)] : List Value), Zd 119 79 (.slice (some ⟨g, 0, none⟩) 3 lc) 3 (([qa, qb, q3]).flatMap Zf), Zh qa.mr (Value.int .i64) rcV (Z0d Ra (i : Int) (⟨fi, ⟨0, 1, qa.x.h, 0⟩⟩ : RcD)), Zd 5 1 (.slice qa.pa qa.P.length qa.pc) qa.P.length (qa.P.flatMap Zi)]) (R := [Zb w (fun _ => False), Z5 x7 27 ([(.int .i64 (F)), (.int .i64 (1))] : List Value), Zh qb.mr (Value.int .i64) rcV Rb, Zd 5 1 (.slice qb.pa qb.P.length qb.pc) qb.P.length (qb.P.flatMap Zi), Zh qb.mp (Value.int .i64) Zu [], Zd 5 1 (.slice q3.pa q3.P.length q3.pc) q3.P.length (q3.P.flatMap Zi), Zd 3 1 (.slice (some ⟨b155, 0, none⟩) 2 2) 2 ([fi, se].flatMap Z2g), Z5 b161 43 ([(.int .i64 (0)), (.int .i64 (1))] : List Value), Zd 5 1 (.slice (some ⟨b172, 0, none⟩) 1 1) 1 ([1].flatMap Zi)]) H179 [2, 3, 4, 5] [0, 1, 6, 7, 8, 9, 10, 11, 12] (by decide) (by kernel_rfl) rfl T185).pick [4, 5, 0, 1, 2, 3, 6, 7, 8, 9, 10, 11, 12] (by decide)
         refine ⟨_, rfl, ?_⟩
         have S196 := H195.pick [0, 1, 5, 6, 7, 8, 9, 10, 11] (by decide)
         refine hK182 _ _ S196 ?_
         clear hK182 K182
         refine Z0E (by kernel_rfl) ?_
         refine Zz ?_
         have H197 : Sat w [Zb w (fun _ => False), Z5 x7 27 ([(.int .i64 (F)), (.int .i64 (1))] : List Value), Z5 c30 112 ([(.int .i64 (F)), (.int .i64 (1)), (.int .i64 (0)), (.pointer (some ⟨b21, 0, none⟩)), (.slice (some ⟨g, 0, none⟩) 3 lc)] : List Value), Zd 119 79 (.slice (some ⟨g, 0, none⟩) 3 lc) 3 (([qa, qb, q3]).flatMap Zf), Zh qa.mr (Value.int .i64) rcV (Z0d Ra (i : Int) (⟨fi, ⟨0, 1, qa.x.h, 0⟩⟩ : RcD)), Zd 5 1 (.slice qa.pa qa.P.length qa.pc) qa.P.length (qa.P.flatMap Zi), Zh qb.mr (Value.int .i64) rcV Rb, Zd 5 1 (.slice qb.pa qb.P.length qb.pc) qb.P.length (qb.P.flatMap Zi), Zh qb.mp (Value.int .i64) Zu [], Zd 5 1 (.slice q3.pa q3.P.length q3.pc) q3.P.length (q3.P.flatMap Zi), Zd 3 1 (.slice (some ⟨b155, 0, none⟩) 2 2) 2 ([fi, se].flatMap Z2g)] w183 := H195.pick [0, 1, 2, 3, 4, 5, 6, 7, 8, 9, 10] (by decide)
         have hv1 : (⟨fi, ⟨0, 1, qa.x.h, 0⟩⟩ : RcD) = (⟨fi, ⟨0, 1, Z9 (ofT 0 1 Z8 [1]), 0⟩⟩ : RcD) := by rw [hz1.1]
         refine ZX ?_ ⟨(Z0d Ra (i : Int) (⟨fi, ⟨0, 1, qa.x.h, 0⟩⟩ : RcD)), qa, (by rw [hv1]; exact hR1.add), (Z6D (d := rc0) hR1 ho1 (by omega) (by rw [← hv1]; exact k184)), hp1, hz1, H197⟩
         exact (Z6 rfl (Z6 rfl (Z6 rfl (Z6 rfl (Z6 rfl (Z6 rfl (Z6 rfl (Z6 rfl (Z6 rfl (Z6 rfl (Z6 rfl (Z6 rfl (Z6 rfl (Z6 rfl (Z6 rfl (Z6 rfl (Z6 rfl (Z6 rfl (Z6 rfl (Z6 rfl (Z6 rfl (Z6 rfl (Z6 rfl (ZV))))))))))))))))))))))))
        ·have H198 : Sat w [Zb w (fun _ => False), Z5 x7 27 ([(.int .i64 (F)), (.int .i64 (1))] : List Value), Z5 c30 112 ([(.int .i64 (F)), (.int .i64 (1)), (.int .i64 (0)), (.pointer (some ⟨b21, 0, none⟩)), (.slice (some ⟨g, 0, none⟩) 3 lc)] : List Value), Zd 119 79 (.slice (some ⟨g, 0, none⟩) 3 lc) 3 (([(⟨qa.x, qa.pa, qa.pc, qa.P, qa.no, qa.ms, qa.cb, qa.ma, qa.mr, true, ((Zq (Z0d Ra (i : Int) (⟨fi, ⟨0, 1, qa.x.h, 0⟩⟩ : RcD)) (i : Int)).getD rc0).i, qa.mp, qa.dn, qa.rp⟩ : Zl), qb, q3]).flatMap Zf), Zh qa.mr (Value.int .i64) rcV (Z0d Ra (i : Int) (⟨fi, ⟨0, 1, qa.x.h, 0⟩⟩ : RcD)), Zd 5 1 (.slice qa.pa qa.P.length qa.pc) qa.P.length (qa.P.flatMap Zi), Zh qb.mr (Value.int .i64) rcV Rb, Zd 5 1 (.slice qb.pa qb.P.length qb.pc) qb.P.length (qb.P.flatMap Zi), Zh qb.mp (Value.int .i64) Zu [], Zd 5 1 (.slice q3.pa q3.P.length q3.pc) q3.P.length (q3.P.flatMap Zi), Zd 3 1 (.slice (some ⟨b155, 0, none⟩) 2 2) 2 ([fi, se].flatMap Z2g), Z5 b161 43 ([(.int .i64 (0)), (.int .i64 (1))] : List Value), Zd 5 1 (.slice (some ⟨b172, 0, none⟩) 1 1) 1 ([1].flatMap Zi), Zd 82 295 (.slice a187 D189.length c188) D189.length (D189.flatMap ZZ), Z0P B190] w183 := (Sat.turnL (L' := [Z5 c30 112 ([(.int .i64 (F)), (.int .i64 (1)), (.int .i64 (0)), (.pointer (some ⟨b21, 0, none⟩)), (.slice (some ⟨g, 0, none⟩) 3 lc)] : List Value), Zd 119 79 (.slice (some ⟨g, 0, none⟩) 3 lc) 3 (([(⟨qa.x, qa.pa, qa.pc, qa.P, qa.no, qa.ms, qa.cb, qa.ma, qa.mr, true, ((Zq (Z0d Ra (i : Int) (⟨fi, ⟨0, 1, qa.x.h, 0⟩⟩ : RcD)) (i : Int)).getD rc0).i, qa.mp, qa.dn, qa.rp⟩ : Zl), qb, q3]).flatMap Zf), Zh qa.mr (Value.int .i64) rcV (Z0d Ra (i : Int) (⟨fi, ⟨0, 1, qa.x.h, 0⟩⟩ : RcD)), Zd 5 1 (.slice qa.pa qa.P.length qa.pc) qa.P.length (qa.P.flatMap Zi), Zd 82 295 (.slice a187 D189.length c188) D189.length (D189.flatMap ZZ), Z0P B190]) (R := [Zb w (fun _ => False), Z5 x7 27 ([(.int .i64 (F)), (.int .i64 (1))] : List Value), Zh qb.mr (Value.int .i64) rcV Rb, Zd 5 1 (.slice qb.pa qb.P.length qb.pc) qb.P.length (qb.P.flatMap Zi), Zh qb.mp (Value.int .i64) Zu [], Zd 5 1 (.slice q3.pa q3.P.length q3.pc) q3.P.length (q3.P.flatMap Zi), Zd 3 1 (.slice (some ⟨b155, 0, none⟩) 2 2) 2 ([fi, se].flatMap Z2g), Z5 b161 43 ([(.int .i64 (0)), (.int .i64 (1))] : List Value), Zd 5 1 (.slice (some ⟨b172, 0, none⟩) 1 1) 1 ([1].flatMap Zi)]) H179 [2, 3, 4, 5] [0, 1, 6, 7, 8, 9, 10, 11, 12] (by decide) (by kernel_rfl) rfl T193).pick [6, 7, 0, 1, 2, 3, 8, 9, 10, 11, 12, 13, 14, 4, 5] (by decide)
         refine ⟨_, rfl, ?_⟩
         have S199 := H198.pick [0, 1, 5, 6, 7, 8, 9, 10, 11] (by decide)
         refine hK182 _ _ S199 ?_
         clear hK182 K182
         refine Z0E (by kernel_rfl) ?_
         refine Zz ?_
         have H200 : Sat w [Zb w (fun _ => False), Z5 x7 27 ([(.int .i64 (F)), (.int .i64 (1))] : List Value), Z5 c30 112 ([(.int .i64 (F)), (.int .i64 (1)), (.int .i64 (0)), (.pointer (some ⟨b21, 0, none⟩)), (.slice (some ⟨g, 0, none⟩) 3 lc)] : List Value), Zd 119 79 (.slice (some ⟨g, 0, none⟩) 3 lc) 3 (([(⟨qa.x, qa.pa, qa.pc, qa.P, qa.no, qa.ms, qa.cb, qa.ma, qa.mr, true, ((Zq (Z0d Ra (i : Int) (⟨fi, ⟨0, 1, qa.x.h, 0⟩⟩ : RcD)) (i : Int)).getD rc0).i, qa.mp, qa.dn, qa.rp⟩ : Zl), qb, q3]).flatMap Zf), Zh qa.mr (Value.int .i64) rcV (Z0d Ra (i : Int) (⟨fi, ⟨0, 1, qa.x.h, 0⟩⟩ : RcD)), Zd 5 1 (.slice qa.pa qa.P.length qa.pc) qa.P.length (qa.P.flatMap Zi), Zh qb.mr (Value.int .i64) rcV Rb, Zd 5 1 (.slice qb.pa qb.P.length qb.pc) qb.P.length (qb.P.flatMap Zi), Zh qb.mp (Value.int .i64) Zu [], Zd 5 1 (.slice q3.pa q3.P.length q3.pc) q3.P.length (q3.P.flatMap Zi), Zd 3 1 (.slice (some ⟨b155, 0, none⟩) 2 2) 2 ([fi, se].flatMap Z2g)] w183 := H198.pick [0, 1, 2, 3, 4, 5, 6, 7, 8, 9, 10] (by decide)
         have hv1 : (⟨fi, ⟨0, 1, qa.x.h, 0⟩⟩ : RcD) = (⟨fi, ⟨0, 1, Z9 (ofT 0 1 Z8 [1]), 0⟩⟩ : RcD) := by rw [hz1.1]
         have hy1 := Z5o (d := rc0) (F := F) hR1 (by omega) (by rw [← hv1]; exact k186.2)
         refine ZX ?_ ⟨(Z0d Ra (i : Int) (⟨fi, ⟨0, 1, qa.x.h, 0⟩⟩ : RcD)), (⟨qa.x, qa.pa, qa.pc, qa.P, qa.no, qa.ms, qa.cb, qa.ma, qa.mr, true, ((Zq (Z0d Ra (i : Int) (⟨fi, ⟨0, 1, qa.x.h, 0⟩⟩ : RcD)) (i : Int)).getD rc0).i, qa.mp, qa.dn, qa.rp⟩ : Zl), (by rw [hv1]; exact hR1.add), hy1.1, (fun _ => by rw [hv1]; exact congrArg RcD.i hy1.2), hz1, H200⟩
         exact (Z6 rfl (Z6 rfl (Z6 rfl (Z6 rfl (Z6 rfl (Z6 rfl (Z6 rfl (Z6 rfl (Z6 rfl (Z6 rfl (Z6 rfl (Z6 rfl (Z6 rfl (Z6 rfl (Z6 rfl (Z6 rfl (Z6 rfl (Z6 rfl (Z6 rfl (Z6 rfl (Z6 rfl (Z6 rfl (Z6 rfl (ZV))))))))))))))))))))))))
       ·rintro f201 w202 ⟨Ra2, qa2, hR1x, ho1x, hp1x, hz1x, H203⟩
        refine Zn ?_
        refine Z3 (Z1 rfl) (d := 103) (v := (.int .i64 (1))) rfl (by kernel_rfl) ?_
        refine Z3 (Z1 rfl) (d := 81) (v := (.int .i64 (1))) rfl (by kernel_rfl) ?_
        refine Zm ?_
        refine Z1g ?_
        refine Zg ?_
        refine Zn ?_
        refine Z3 (Z1 rfl) (d := 82) (v := (.bool true)) rfl (by kernel_rfl) ?_
        refine Zm ?_
        refine Z7 ?_
        refine Zg ?_
        refine Z0u rfl ?_
        refine ZN ?_
        refine Z7 ?_
        refine Z0x [15, 16, 17, 83, 84, 85, 86, 87, 88, 89, 90, 91, 92, 93, 94, 95, 96, 97, 98, 99, 100, 101, 102] (fun G_ W_ => ∃ (Rb2 : List (Int × RcD)) (qb2 : Zl), (RcG (i + 1 : Nat) (⟨se, ⟨0, 2, Z9 (ofT 0 2 Z8 [2]), 0⟩⟩ : RcD) Rb2) ∧ (qb2.op = decide (((i + 1 : Nat) : Int) = F + 1)) ∧ (qb2.op = true → qb2.pl = se) ∧ (qb2.x.h = Z9 (ofT 0 2 Z8 [2]) ∧ qb2.P = [2] ∧ qb2.dn = false ∧ qb2.rp = []) ∧ Sat w [Zb w (fun _ => False), Z5 x7 27 ([(.int .i64 (F)), (.int .i64 (1))] : List Value), Z5 c30 112 ([(.int .i64 (F)), (.int .i64 (1)), (.int .i64 (0)), (.pointer (some ⟨b21, 0, none⟩)), (.slice (some ⟨g, 0, none⟩) 3 lc)] : List Value), Zd 119 79 (.slice (some ⟨g, 0, none⟩) 3 lc) 3 (([qa2, qb2, q3]).flatMap Zf), Zh qa2.mr (Value.int .i64) rcV Ra2, Zd 5 1 (.slice qa2.pa qa2.P.length qa2.pc) qa2.P.length (qa2.P.flatMap Zi), Zh qb2.mr (Value.int .i64) rcV Rb2, Zd 5 1 (.slice qb2.pa qb2.P.length qb2.pc) qb2.P.length (qb2.P.flatMap Zi), Zh qb2.mp (Value.int .i64) Zu [], Zd 5 1 (.slice q3.pa q3.P.length q3.pc) q3.P.length (q3.P.flatMap Zi), Zd 3 1 (.slice (some ⟨b155, 0, none⟩) 2 2) 2 ([fi, se].flatMap Z2g)] W_) ?_ ?_
        ·refine ZB ?_
         refine Zg ?_
         refine Zn ?_
         refine Z3 (Z1 rfl) (d := 83) (v := (.int .i64 (1))) rfl (by kernel_rfl) ?_
         refine Z3 (Z1 rfl) (d := 84) (v := (.pointer (some ⟨b155, 1, none⟩))) rfl (Z0w (E := 3) (z := 1) (o := 0) (len := 2) (sz := 1) (by kernel_rfl) (by kernel_rfl) (Nat.le_of_ble_eq_true rfl) rfl rfl (by decide) (by decide)) ?_
         refine Z3 (Z1 rfl) (d := 85) (v := (.int .i64 (se))) rfl (Zj rfl (by kernel_rfl) (Z2t (H203.at 10 rfl) rfl (by kernel_rfl))) ?_
         refine Z3 (Z1 rfl) (d := 15) (v := (.int .i64 (1))) rfl (by kernel_rfl) ?_
         refine Z3 (Z1 rfl) (d := 16) (v := (.int .i64 (se))) rfl (by kernel_rfl) ?_
         refine Zm ?_
         refine Z7 ?_
         refine Zg ?_
         refine Zn ?_
         refine Z3 (Z1 rfl) (d := 86) (v := (.int .i64 (1))) rfl (by kernel_rfl) ?_
         refine Z3 (Z1 rfl) (d := 87) (v := (.int .i64 (2))) rfl (by kernel_rfl) ?_
         refine Z3 (Z1 rfl) (d := 88) (v := (.agg ⟨([(.int .i64 (0)), (.int .i64 (2))] : List Value)⟩)) rfl (by kernel_rfl) ?_
         refine ZE (Z1 rfl) (fun K205 hK205 => ?_)
         refine Z0v (zs := ([(.int .i64 (0)), (.int .i64 (0))] : List Value)) (z := (.agg ⟨([(.int .i64 (0)), (.int .i64 (0))] : List Value)⟩)) rfl H203 (by kernel_rfl) (by kernel_rfl) ?_
         intro b206 w207 (H208 : Sat w [Zb w (fun _ => False), Z5 x7 27 ([(.int .i64 (F)), (.int .i64 (1))] : List Value), Z5 c30 112 ([(.int .i64 (F)), (.int .i64 (1)), (.int .i64 (0)), (.pointer (some ⟨b21, 0, none⟩)), (.slice (some ⟨g, 0, none⟩) 3 lc)] : List Value), Zd 119 79 (.slice (some ⟨g, 0, none⟩) 3 lc) 3 (([qa2, qb, q3]).flatMap Zf), Zh qa2.mr (Value.int .i64) rcV Ra2, Zd 5 1 (.slice qa2.pa qa2.P.length qa2.pc) qa2.P.length (qa2.P.flatMap Zi), Zh qb.mr (Value.int .i64) rcV Rb, Zd 5 1 (.slice qb.pa qb.P.length qb.pc) qb.P.length (qb.P.flatMap Zi), Zh qb.mp (Value.int .i64) Zu [], Zd 5 1 (.slice q3.pa q3.P.length q3.pc) q3.P.length (q3.P.flatMap Zi), Zd 3 1 (.slice (some ⟨b155, 0, none⟩) 2 2) 2 ([fi, se].flatMap Z2g), Z5 b206 43 ([(.int .i64 (0)), (.int .i64 (0))] : List Value)] w207)
         refine hK205 _ _ ?_
         clear hK205 K205
         refine ZE (Z1 rfl) (fun K209 hK209 => ?_)
         refine ZQ (vs := ([(.int .i64 (0)), (.int .i64 (2))] : List Value)) (cs' := ([(.int .i64 (0)), (.int .i64 (2))] : List Value)) rfl H208 11 rfl rfl rfl rfl (by kernel_rfl) (Nat.le_of_ble_eq_true (by kernel_rfl)) (Nat.le_of_ble_eq_true (by kernel_rfl)) (by kernel_rfl) (by kernel_rfl) ?_
         intro w210 (H211 : Sat w [Zb w (fun _ => False), Z5 x7 27 ([(.int .i64 (F)), (.int .i64 (1))] : List Value), Z5 c30 112 ([(.int .i64 (F)), (.int .i64 (1)), (.int .i64 (0)), (.pointer (some ⟨b21, 0, none⟩)), (.slice (some ⟨g, 0, none⟩) 3 lc)] : List Value), Zd 119 79 (.slice (some ⟨g, 0, none⟩) 3 lc) 3 (([qa2, qb, q3]).flatMap Zf), Zh qa2.mr (Value.int .i64) rcV Ra2, Zd 5 1 (.slice qa2.pa qa2.P.length qa2.pc) qa2.P.length (qa2.P.flatMap Zi), Zh qb.mr (Value.int .i64) rcV Rb, Zd 5 1 (.slice qb.pa qb.P.length qb.pc) qb.P.length (qb.P.flatMap Zi), Zh qb.mp (Value.int .i64) Zu [], Zd 5 1 (.slice q3.pa q3.P.length q3.pc) q3.P.length (q3.P.flatMap Zi), Zd 3 1 (.slice (some ⟨b155, 0, none⟩) 2 2) 2 ([fi, se].flatMap Z2g), Z5 b206 43 ([(.int .i64 (0)), (.int .i64 (2))] : List Value)] w210)
         refine hK209 _ _ ?_
         clear hK209 K209
         refine Zm ?_
         refine Z7 ?_
         refine Z0g H211 [Zb w (fun _ => False), Z5 x7 27 ([(.int .i64 (F)), (.int .i64 (1))] : List Value), Zh qa2.mr (Value.int .i64) rcV Ra2, Zd 5 1 (.slice qa2.pa qa2.P.length qa2.pc) qa2.P.length (qa2.P.flatMap Zi), Zd 5 1 (.slice qb.pa qb.P.length qb.pc) qb.P.length (qb.P.flatMap Zi), Zh qb.mp (Value.int .i64) Zu [], Zd 5 1 (.slice q3.pa q3.P.length q3.pc) q3.P.length (q3.P.flatMap Zi), Zd 3 1 (.slice (some ⟨b155, 0, none⟩) 2 2) 2 ([fi, se].flatMap Z2g), Z5 b206 43 ([(.int .i64 (0)), (.int .i64 (2))] : List Value)] 14 rfl (by kernel_rfl) (fun Hx => (Hx.pick [0, 1, 4, 5, 7, 8, 9, 10, 11] (by decide))) ?_
         intro w213 H214 S215
         refine Zt 0 rfl (by kernel_rfl) (by kernel_rfl) (by kernel_rfl) (fun _ _ _ h => h) S215 (Z1 rfl) (d := 89) (v := (.pointer (some ⟨c30, 0, none⟩))) rfl (fun _ H' => (by kernel_rfl)) ?_
         refine Zt 1 rfl (by kernel_rfl) (by kernel_rfl) (by kernel_rfl) (fun _ _ _ h => h) S215 (Z1 rfl) (d := 90) (v := (.int .i64 ((i : Int)))) rfl (fun _ H' => (by kernel_rfl)) ?_
         refine Zt 2 rfl (by kernel_rfl) (by kernel_rfl) (by kernel_rfl) (fun _ _ _ h => h) S215 (Z1 rfl) (d := 91) (v := (.int .i64 (se))) rfl (fun _ H' => (by kernel_rfl)) ?_
         refine Zt 3 rfl (by kernel_rfl) (by kernel_rfl) (by kernel_rfl) (fun _ _ _ h => h) S215 (Z1 rfl) (d := 92) (v := (.agg ⟨([(.int .i64 (0)), (.int .i64 (2))] : List Value)⟩)) rfl (fun _ H' => (ZJ (vs := ([(.int .i64 (0)), (.int .i64 (2))] : List Value)) rfl (by kernel_rfl) (by kernel_rfl) (by exact Nat.le_of_ble_eq_true (by kernel_rfl)) (H'.at 8 rfl) (by kernel_rfl))) ?_
         refine Zt 4 rfl (by kernel_rfl) (by kernel_rfl) (by kernel_rfl) (fun _ _ _ h => h) S215 (Z1 rfl) (d := 93) (v := (.agg ⟨([(.int .i64 (0)), (.int .i64 (2))] : List Value)⟩)) rfl (fun _ H' => (ZJ (vs := ([(.int .i64 (0)), (.int .i64 (2))] : List Value)) rfl (by kernel_rfl) (by kernel_rfl) (by exact Nat.le_of_ble_eq_true (by kernel_rfl)) (H'.at 8 rfl) (by kernel_rfl))) ?_
         refine Zt 5 rfl (by kernel_rfl) (by kernel_rfl) (by kernel_rfl) (fun _ _ _ h => h) S215 (Z1 rfl) (d := 94) (v := (.agg ⟨(hc Z8)⟩)) rfl (fun _ H' => (by kernel_rfl)) ?_
         refine Zt 6 rfl (by kernel_rfl) (by kernel_rfl) (by kernel_rfl) (fun _ _ _ h => h) S215 (Z1 rfl) (d := 95) (v := (.int .i64 (1))) rfl (fun _ H' => (by kernel_rfl)) ?_
         refine Zt 7 rfl (by kernel_rfl) (by kernel_rfl) (by kernel_rfl) (fun _ _ _ h => h) S215 (Z1 rfl) (d := 96) (v := (.int .i64 (2))) rfl (fun _ H' => (by kernel_rfl)) ?_
         refine Zt 8 rfl (by kernel_rfl) (by kernel_rfl) (by kernel_rfl) (fun _ _ _ h => h) S215 (Z1 rfl) (d := 97) (v := (.int .u8 (2))) rfl (fun _ H' => (Z05 (z := 2) (by kernel_rfl) (Z1R (by omega)))) ?_
         refine Z1a 9 rfl (by kernel_rfl) (Z1 rfl) (fun K216 hK216 => ?_)
         refine ZP (e := 5) (size := 1) (bytes := 1) (z := (.int .u8 (0))) (pvs := [(0, (.int .u8 (2)))]) (vs := ([(.int .u8 (2))] : List Value)) rfl H214 (by kernel_rfl) (by kernel_rfl) (by kernel_rfl) (by kernel_rfl) (by kernel_rfl) rfl rfl ?_
         intro b217 w218 (H219 : Sat w [Zb w (fun _ => False), Z5 x7 27 ([(.int .i64 (F)), (.int .i64 (1))] : List Value), Z5 c30 112 ([(.int .i64 (F)), (.int .i64 (1)), (.int .i64 (0)), (.pointer (some ⟨b21, 0, none⟩)), (.slice (some ⟨g, 0, none⟩) 3 lc)] : List Value), Zd 119 79 (.slice (some ⟨g, 0, none⟩) 3 lc) 3 (([qa2, qb, q3]).flatMap Zf), Zh qa2.mr (Value.int .i64) rcV Ra2, Zd 5 1 (.slice qa2.pa qa2.P.length qa2.pc) qa2.P.length (qa2.P.flatMap Zi), Zh qb.mr (Value.int .i64) rcV Rb, Zd 5 1 (.slice qb.pa qb.P.length qb.pc) qb.P.length (qb.P.flatMap Zi), Zh qb.mp (Value.int .i64) Zu [], Zd 5 1 (.slice q3.pa q3.P.length q3.pc) q3.P.length (q3.P.flatMap Zi), Zd 3 1 (.slice (some ⟨b155, 0, none⟩) 2 2) 2 ([fi, se].flatMap Z2g), Z5 b206 43 ([(.int .i64 (0)), (.int .i64 (2))] : List Value), Zd 5 1 (.slice (some ⟨b217, 0, none⟩) 1 1) 1 ([(.int .u8 (2))] : List Value)] w218)
         have H220 : Sat w [Zb w (fun _ => False), Z5 x7 27 ([(.int .i64 (F)), (.int .i64 (1))] : List Value), Z5 c30 112 ([(.int .i64 (F)), (.int .i64 (1)), (.int .i64 (0)), (.pointer (some ⟨b21, 0, none⟩)), (.slice (some ⟨g, 0, none⟩) 3 lc)] : List Value), Zd 119 79 (.slice (some ⟨g, 0, none⟩) 3 lc) 3 (([qa2, qb, q3]).flatMap Zf), Zh qa2.mr (Value.int .i64) rcV Ra2, Zd 5 1 (.slice qa2.pa qa2.P.length qa2.pc) qa2.P.length (qa2.P.flatMap Zi), Zh qb.mr (Value.int .i64) rcV Rb, Zd 5 1 (.slice qb.pa qb.P.length qb.pc) qb.P.length (qb.P.flatMap Zi), Zh qb.mp (Value.int .i64) Zu [], Zd 5 1 (.slice q3.pa q3.P.length q3.pc) q3.P.length (q3.P.flatMap Zi), Zd 3 1 (.slice (some ⟨b155, 0, none⟩) 2 2) 2 ([fi, se].flatMap Z2g), Z5 b206 43 ([(.int .i64 (0)), (.int .i64 (2))] : List Value), Zd 5 1 (.slice (some ⟨b217, 0, none⟩) 1 1) 1 ([2].flatMap Zi)] w218 := H219.cast (by rw [(show (([(.int .u8 (2))] : List Value) : List Value) = ([2] : List UInt8).flatMap Zi by kernel_rfl)])
         have S221 := H220.pick [0, 1, 4, 5, 7, 8, 9, 10, 11] (by decide)
         refine hK216 _ _ S221 ?_
         clear hK216 K216
         refine Z1a 10 rfl (by kernel_rfl) (Z1 rfl) (fun K222 hK222 => ?_)
         refine ZC (d := 99) rfl (by kernel_rfl) (Z5n w218 0 2 Z8 (some ⟨b217, 0, none⟩) 1 [2] (by have q_ := H220.at 12 rfl; exact ListAt.row (enc := Zi) (sz := 1) (xs := [2]) ZM (by decide) (by rw [show (([2] : List UInt8).flatMap Zi) = [.int .u8 2] by kernel_rfl]; exact q_)) (by decide) (by decide) (by decide)) ?_
         rintro _ w223 ⟨rfl, u225⟩
         have H224 := H220.keepU u225
         refine ⟨_, rfl, ?_⟩
         have S226 := H224.pick [0, 1, 4, 5, 7, 8, 9, 10, 11] (by decide)
         refine hK222 _ _ S226 ?_
         clear hK222 K222
         refine Zt 11 rfl (by kernel_rfl) (by kernel_rfl) (by kernel_rfl) (fun _ _ _ h => h) S226 (Z1 rfl) (d := 100) (v := (.agg ⟨(([(.int .i64 (0)), (.int .i64 (2))] : List Value) ++ hc (Z9 (ofT 0 2 Z8 [2])) ++ ([(.int .u64 (0))] : List Value))⟩)) rfl (fun _ H' => (by kernel_rfl)) ?_
         refine Zt 12 rfl (by kernel_rfl) (by kernel_rfl) (by kernel_rfl) (fun _ _ _ h => h) S226 (Z1 rfl) (d := 101) (v := (.agg ⟨(([(.int .i64 (9)), (.int .i64 ((i : Int))), (.int .i64 (1000)), (.int .i64 (0)), (.int .i64 (0))] : List Value) ++ hc Z8 ++ ([(.int .i64 (0)), (.int .i64 (0)), (.int .i64 (0)), (.int .i64 (0)), (.int .i64 (0)), (.int .i64 (0))] : List Value) ++ hc Z8 ++ ([(.int .u64 (0)), (.int .i64 (0)), (.int .i64 (0)), (.int .i64 (0)), (.int .i64 (0))] : List Value) ++ hc Z8 ++ ([(.int .i64 (0)), (.int .i64 (0)), (.int .i64 (0)), (.slice none 0 0), (.int .i64 (0)), (.int .i64 (0)), (.int .i64 (0))] : List Value) ++ hc Z8 ++ ([(.int .u64 (0)), (.int .i64 (0)), (.int .i64 (0)), (.int .i64 (0)), (.int .i64 (0)), (.int .u64 (0)), (.int .i64 (0)), (.int .i64 (0)), (.int .u64 (0)), (.slice none 0 0), (.int .i64 (0)), (.int .i64 (0)), (.int .i64 (0)), (.int .i64 (0)), (.int .i64 (0)), (.int .i64 (0)), (.int .i64 (0)), (.int .u64 (0)), (.slice none 0 0), (.slice none 0 0), (.slice none 0 0), (.int .i64 (0)), (.int .i64 (0)), (.int .i64 (0))] : List Value) ++ ([(.int .i64 (0)), (.int .i64 (0)), (.int .i64 (0))] : List Value) ++ hc Z8 ++ ([(.int .i64 (0)), (.int .i64 (0)), (.int .i64 (se)), (.int .i64 (0)), (.int .i64 (2))] : List Value) ++ hc (Z9 (ofT 0 2 Z8 [2])) ++ ([(.int .u64 (0)), (.int .i64 (0)), (.slice none 0 0)] : List Value) ++ hc Z8 ++ ([(.int .i64 (0)), (.int .i64 (0)), (.int .i64 (0)), (.int .i64 (0)), (Zu ([] : List UInt8)), (.int .i64 (0)), (.int .i64 (0)), (.int .i64 (0)), (.int .u64 (0)), (.slice none 0 0), (.slice none 0 0), (.slice none 0 0), (.slice none 0 0)] : List Value))⟩)) rfl (fun _ H' => (by kernel_rfl)) ?_
         refine Z1a 13 rfl (by kernel_rfl) (Z1 rfl) (fun K227 hK227 => ?_)
         refine ZC (d := 102) rfl (by kernel_rfl) (show Calls _ _ _ _ _ from hz2.1 ▸ Z2y w223 c30 b21 g lc F 1 0 [qa2, qb, q3] 1 qb rfl Rb (H224.fin [2, 3, 6, 7] (by decide) rfl) (Nat.le_of_ble_eq_true rfl) (by rw [hR2.len]; omega) (by rw [hz2.2.1]; decide) (by omega) (by decide) (i : Int) se 2 0 rfl (by unfold inB; simp; omega)) ?_
         rintro _ w228 (⟨k229, rfl, T230⟩ | ⟨k231, a232, c233, D234, B235, rfl, n236, o237, T238⟩)
         ·have H240 : Sat w [Zb w (fun _ => False), Z5 x7 27 ([(.int .i64 (F)), (.int .i64 (1))] : List Value), Z5 c30 112 ([(.int .i64 (F)), (.int .i64 (1)), (.int .i64 (0)), (.pointer (some ⟨b21, 0, none⟩)), (.slice (some ⟨g, 0, none⟩) 3 lc)] : List Value), Zd 119 79 (.slice (some ⟨g, 0, none⟩) 3 lc) 3 (([qa2, qb, q3]).flatMap Zf), Zh qa2.mr (Value.int .i64) rcV Ra2, Zd 5 1 (.slice qa2.pa qa2.P.length qa2.pc) qa2.P.length (qa2.P.flatMap Zi), Zh qb.mr (Value.int .i64) rcV (Z0d Rb (i : Int) (⟨se, ⟨0, 2, qb.x.h, 0⟩⟩ : RcD)), Zd 5 1 (.slice qb.pa qb.P.length qb.pc) qb.P.length (qb.P.flatMap Zi), Zh qb.mp (Value.int .i64) Zu [], Zd 5 1 (.slice q3.pa q3.P.length q3.pc) q3.P.length (q3.P.flatMap Zi), Zd 3 1 (.slice (some ⟨b155, 0, none⟩) 2 2) 2 ([fi, se].flatMap Z2g), Z5 b206 43 ([(.int .i64 (0)), (.int .i64 (2))] : List Value), Zd 5 1 (.slice (some ⟨b217, 0, none⟩) 1 1) 1 ([2].flatMap Zi)] w228 := (Sat.turnL (L' := [Z5 c30 112 ([(.int .i64 (F)), (.int .i64 (1)), (.int .i64 (0)), (.pointer (some ⟨b21, 0, none⟩)), (.slice (some ⟨g, 0, none⟩) 3 lc)] : List Value), Zd 119 79 (.slice (some ⟨g, 0, none⟩) 3 lc) 3 (([qa2, qb, q3]).flatMap Zf), Zh qb.mr (Value.int .i64) rcV (Z0d Rb (i : Int) (⟨se, ⟨0, 2, qb.x.h, 0⟩⟩ : RcD)), Zd 5 1 (.slice qb.pa qb.P.length qb.pc) qb.P.length (qb.P.flatMap Zi)]) (R := [Zb w (fun _ => False), Z5 x7 27 ([(.int .i64 (F)), (.int .i64 (1))] : List Value), Zh qa2.mr (Value.int .i64) rcV Ra2, Zd 5 1 (.slice qa2.pa qa2.P.length qa2.pc) qa2.P.length (qa2.P.flatMap Zi), Zh qb.mp (Value.int .i64) Zu [], Zd 5 1 (.slice q3.pa q3.P.length q3.pc) q3.P.length (q3.P.flatMap Zi), Zd 3 1 (.slice (some ⟨b155, 0, none⟩) 2 2) 2 ([fi, se].flatMap Z2g), Z5 b206 43 ([(.int .i64 (0)), (.int .i64 (2))] : List Value), Zd 5 1 (.slice (some ⟨b217, 0, none⟩) 1 1) 1 ([2].flatMap Zi)]) H224 [2, 3, 6, 7] [0, 1, 4, 5, 8, 9, 10, 11, 12] (by decide) (by kernel_rfl) rfl T230).pick [4, 5, 0, 1, 6, 7, 2, 3, 8, 9, 10, 11, 12] (by decide)
          refine ⟨_, rfl, ?_⟩
          have S241 := H240.pick [0, 1, 4, 5, 7, 8, 9, 10, 11] (by decide)
          refine hK227 _ _ S241 ?_
          clear hK227 K227
          refine Z0E (by kernel_rfl) ?_
          refine Zz ?_
          have H242 : Sat w [Zb w (fun _ => False), Z5 x7 27 ([(.int .i64 (F)), (.int .i64 (1))] : List Value), Z5 c30 112 ([(.int .i64 (F)), (.int .i64 (1)), (.int .i64 (0)), (.pointer (some ⟨b21, 0, none⟩)), (.slice (some ⟨g, 0, none⟩) 3 lc)] : List Value), Zd 119 79 (.slice (some ⟨g, 0, none⟩) 3 lc) 3 (([qa2, qb, q3]).flatMap Zf), Zh qa2.mr (Value.int .i64) rcV Ra2, Zd 5 1 (.slice qa2.pa qa2.P.length qa2.pc) qa2.P.length (qa2.P.flatMap Zi), Zh qb.mr (Value.int .i64) rcV (Z0d Rb (i : Int) (⟨se, ⟨0, 2, qb.x.h, 0⟩⟩ : RcD)), Zd 5 1 (.slice qb.pa qb.P.length qb.pc) qb.P.length (qb.P.flatMap Zi), Zh qb.mp (Value.int .i64) Zu [], Zd 5 1 (.slice q3.pa q3.P.length q3.pc) q3.P.length (q3.P.flatMap Zi), Zd 3 1 (.slice (some ⟨b155, 0, none⟩) 2 2) 2 ([fi, se].flatMap Z2g)] w228 := H240.pick [0, 1, 2, 3, 4, 5, 6, 7, 8, 9, 10] (by decide)
          have hv2 : (⟨se, ⟨0, 2, qb.x.h, 0⟩⟩ : RcD) = (⟨se, ⟨0, 2, Z9 (ofT 0 2 Z8 [2]), 0⟩⟩ : RcD) := by rw [hz2.1]
          refine ZX ?_ ⟨(Z0d Rb (i : Int) (⟨se, ⟨0, 2, qb.x.h, 0⟩⟩ : RcD)), qb, (by rw [hv2]; exact hR2.add), (Z6D (d := rc0) hR2 ho2 (by omega) (by rw [← hv2]; exact k229)), hp2, hz2, H242⟩
          exact (Z6 rfl (Z6 rfl (Z6 rfl (Z6 rfl (Z6 rfl (Z6 rfl (Z6 rfl (Z6 rfl (Z6 rfl (Z6 rfl (Z6 rfl (Z6 rfl (Z6 rfl (Z6 rfl (Z6 rfl (Z6 rfl (Z6 rfl (Z6 rfl (Z6 rfl (Z6 rfl (Z6 rfl (Z6 rfl (Z6 rfl (ZV))))))))))))))))))))))))
         ·have H243 : Sat w [Zb w (fun _ => False), Z5 x7 27 ([(.int .i64 (F)), (.int .i64 (1))] : List Value), Z5 c30 112 ([(.int .i64 (F)), (.int .i64 (1)), (.int .i64 (0)), (.pointer (some ⟨b21, 0, none⟩)), (.slice (some ⟨g, 0, none⟩) 3 lc)] : List Value), Zd 119 79 (.slice (some ⟨g, 0, none⟩) 3 lc) 3 (([qa2, (⟨qb.x, qb.pa, qb.pc, qb.P, qb.no, qb.ms, qb.cb, qb.ma, qb.mr, true, ((Zq (Z0d Rb (i : Int) (⟨se, ⟨0, 2, qb.x.h, 0⟩⟩ : RcD)) (i : Int)).getD rc0).i, qb.mp, qb.dn, qb.rp⟩ : Zl), q3]).flatMap Zf), Zh qa2.mr (Value.int .i64) rcV Ra2, Zd 5 1 (.slice qa2.pa qa2.P.length qa2.pc) qa2.P.length (qa2.P.flatMap Zi), Zh qb.mr (Value.int .i64) rcV (Z0d Rb (i : Int) (⟨se, ⟨0, 2, qb.x.h, 0⟩⟩ : RcD)), Zd 5 1 (.slice qb.pa qb.P.length qb.pc) qb.P.length (qb.P.flatMap Zi), Zh qb.mp (Value.int .i64) Zu [], Zd 5 1 (.slice q3.pa q3.P.length q3.pc) q3.P.length (q3.P.flatMap Zi), Zd 3 1 (.slice (some ⟨b155, 0, none⟩) 2 2) 2 ([fi, se].flatMap Z2g), Z5 b206 43 ([(.int .i64 (0)), (.int .i64 (2))] : List Value), Zd 5 1 (.slice (some ⟨b217, 0, none⟩) 1 1) 1 ([2].flatMap Zi), Zd 82 295 (.slice a232 D234.length c233) D234.length (D234.flatMap ZZ), Z0P B235] w228 := (Sat.turnL (L' := [Z5 c30 112 ([(.int .i64 (F)), (.int .i64 (1)), (.int .i64 (0)), (.pointer (some ⟨b21, 0, none⟩)), (.slice (some ⟨g, 0, none⟩) 3 lc)] : List Value), Zd 119 79 (.slice (some ⟨g, 0, none⟩) 3 lc) 3 (([qa2, (⟨qb.x, qb.pa, qb.pc, qb.P, qb.no, qb.ms, qb.cb, qb.ma, qb.mr, true, ((Zq (Z0d Rb (i : Int) (⟨se, ⟨0, 2, qb.x.h, 0⟩⟩ : RcD)) (i : Int)).getD rc0).i, qb.mp, qb.dn, qb.rp⟩ : Zl), q3]).flatMap Zf), Zh qb.mr (Value.int .i64) rcV (Z0d Rb (i : Int) (⟨se, ⟨0, 2, qb.x.h, 0⟩⟩ : RcD)), Zd 5 1 (.slice qb.pa qb.P.length qb.pc) qb.P.length (qb.P.flatMap Zi), Zd 82 295 (.slice a232 D234.length c233) D234.length (D234.flatMap ZZ), Z0P B235]) (R := [Zb w (fun _ => False), Z5 x7 27 ([(.int .i64 (F)), (.int .i64 (1))] : List Value), Zh qa2.mr (Value.int .i64) rcV Ra2, Zd 5 1 (.slice qa2.pa qa2.P.length qa2.pc) qa2.P.length (qa2.P.flatMap Zi), Zh qb.mp (Value.int .i64) Zu [], Zd 5 1 (.slice q3.pa q3.P.length q3.pc) q3.P.length (q3.P.flatMap Zi), Zd 3 1 (.slice (some ⟨b155, 0, none⟩) 2 2) 2 ([fi, se].flatMap Z2g), Z5 b206 43 ([(.int .i64 (0)), (.int .i64 (2))] : List Value), Zd 5 1 (.slice (some ⟨b217, 0, none⟩) 1 1) 1 ([2].flatMap Zi)]) H224 [2, 3, 6, 7] [0, 1, 4, 5, 8, 9, 10, 11, 12] (by decide) (by kernel_rfl) rfl T238).pick [6, 7, 0, 1, 8, 9, 2, 3, 10, 11, 12, 13, 14, 4, 5] (by decide)
          refine ⟨_, rfl, ?_⟩
          have S244 := H243.pick [0, 1, 4, 5, 7, 8, 9, 10, 11] (by decide)
          refine hK227 _ _ S244 ?_
          clear hK227 K227
          refine Z0E (by kernel_rfl) ?_
          refine Zz ?_
          have H245 : Sat w [Zb w (fun _ => False), Z5 x7 27 ([(.int .i64 (F)), (.int .i64 (1))] : List Value), Z5 c30 112 ([(.int .i64 (F)), (.int .i64 (1)), (.int .i64 (0)), (.pointer (some ⟨b21, 0, none⟩)), (.slice (some ⟨g, 0, none⟩) 3 lc)] : List Value), Zd 119 79 (.slice (some ⟨g, 0, none⟩) 3 lc) 3 (([qa2, (⟨qb.x, qb.pa, qb.pc, qb.P, qb.no, qb.ms, qb.cb, qb.ma, qb.mr, true, ((Zq (Z0d Rb (i : Int) (⟨se, ⟨0, 2, qb.x.h, 0⟩⟩ : RcD)) (i : Int)).getD rc0).i, qb.mp, qb.dn, qb.rp⟩ : Zl), q3]).flatMap Zf), Zh qa2.mr (Value.int .i64) rcV Ra2, Zd 5 1 (.slice qa2.pa qa2.P.length qa2.pc) qa2.P.length (qa2.P.flatMap Zi), Zh qb.mr (Value.int .i64) rcV (Z0d Rb (i : Int) (⟨se, ⟨0, 2, qb.x.h, 0⟩⟩ : RcD)), Zd 5 1 (.slice qb.pa qb.P.length qb.pc) qb.P.length (qb.P.flatMap Zi), Zh qb.mp (Value.int .i64) Zu [], Zd 5 1 (.slice q3.pa q3.P.length q3.pc) q3.P.length (q3.P.flatMap Zi), Zd 3 1 (.slice (some ⟨b155, 0, none⟩) 2 2) 2 ([fi, se].flatMap Z2g)] w228 := H243.pick [0, 1, 2, 3, 4, 5, 6, 7, 8, 9, 10] (by decide)
          have hv2 : (⟨se, ⟨0, 2, qb.x.h, 0⟩⟩ : RcD) = (⟨se, ⟨0, 2, Z9 (ofT 0 2 Z8 [2]), 0⟩⟩ : RcD) := by rw [hz2.1]
          have hy2 := Z5o (d := rc0) (F := F) hR2 (by omega) (by rw [← hv2]; exact k231.2)
          refine ZX ?_ ⟨(Z0d Rb (i : Int) (⟨se, ⟨0, 2, qb.x.h, 0⟩⟩ : RcD)), (⟨qb.x, qb.pa, qb.pc, qb.P, qb.no, qb.ms, qb.cb, qb.ma, qb.mr, true, ((Zq (Z0d Rb (i : Int) (⟨se, ⟨0, 2, qb.x.h, 0⟩⟩ : RcD)) (i : Int)).getD rc0).i, qb.mp, qb.dn, qb.rp⟩ : Zl), (by rw [hv2]; exact hR2.add), hy2.1, (fun _ => by rw [hv2]; exact congrArg RcD.i hy2.2), hz2, H245⟩
          exact (Z6 rfl (Z6 rfl (Z6 rfl (Z6 rfl (Z6 rfl (Z6 rfl (Z6 rfl (Z6 rfl (Z6 rfl (Z6 rfl (Z6 rfl (Z6 rfl (Z6 rfl (Z6 rfl (Z6 rfl (Z6 rfl (Z6 rfl (Z6 rfl (Z6 rfl (Z6 rfl (Z6 rfl (Z6 rfl (Z6 rfl (ZV))))))))))))))))))))))))
        ·rintro f246 w247 ⟨Rb2, qb2, hR2x, ho2x, hp2x, hz2x, H248⟩
         refine Zn ?_
         refine Z3 (Z1 rfl) (d := 103) (v := (.int .i64 (2))) rfl (by kernel_rfl) ?_
         refine Z3 (Z1 rfl) (d := 81) (v := (.int .i64 (2))) rfl (by kernel_rfl) ?_
         refine Zm ?_
         refine Z1g ?_
         refine Zg ?_
         refine Zn ?_
         refine Z3 (Z1 rfl) (d := 82) (v := (.bool false)) rfl (by kernel_rfl) ?_
         refine Zm ?_
         refine Z7 ?_
         refine Zg ?_
         refine ZY rfl ?_
         refine Z1w ?_
         refine Z0t ?_
         refine Z0t ?_
         refine Z16 ?_
         refine Zz ?_
         refine Z7 ?_
         refine Zn ?_
         refine Z3 (Z1 rfl) (d := 75) (v := (.int .i64 ((i : Int)))) rfl (by kernel_rfl) ?_
         refine Z3 (Z1 rfl) (d := 76) (v := (.int .i64 ((i : Int) + 1))) rfl (Z05 (z := (i : Int) + 1) (by kernel_rfl) (IntWalk.i64_in _ (by omega))) ?_
         refine Z3 (Z1 rfl) (d := 14) (v := (.int .i64 ((i : Int) + 1))) rfl (by kernel_rfl) ?_
         refine Zm ?_
         have H249 : Sat w [Zb w (fun _ => False), Z5 x7 27 ([(.int .i64 (F)), (.int .i64 (1))] : List Value), Z5 c30 112 ([(.int .i64 (F)), (.int .i64 (1)), (.int .i64 (0)), (.pointer (some ⟨b21, 0, none⟩)), (.slice (some ⟨g, 0, none⟩) 3 lc)] : List Value), Zd 119 79 (.slice (some ⟨g, 0, none⟩) 3 lc) 3 (([qa2, qb2, q3]).flatMap Zf), Zh qa2.mr (Value.int .i64) rcV Ra2, Zd 5 1 (.slice qa2.pa qa2.P.length qa2.pc) qa2.P.length (qa2.P.flatMap Zi), Zh qb2.mr (Value.int .i64) rcV Rb2, Zd 5 1 (.slice qb2.pa qb2.P.length qb2.pc) qb2.P.length (qb2.P.flatMap Zi), Zh qb2.mp (Value.int .i64) Zu [], Zd 5 1 (.slice q3.pa q3.P.length q3.pc) q3.P.length (q3.P.flatMap Zi)] w247 := H248.pick [0, 1, 2, 3, 4, 5, 6, 7, 8, 9] (by decide)
         refine ZL ?_ _ ⟨(i + 1), Ra2, Rb2, qa2, qb2, (show ((.int .i64 ((i : Int) + 1)) : Value) = _ by first | rfl | go_num), (by omega), hR1x, ho1x, hp1x, hz1x, hR2x, ho2x, hp2x, hz2x, H249, rfl⟩ (by omega)
         exact (Z6 rfl (Z6 rfl (Z6 rfl (Z6 rfl (Z6 rfl (Z6 rfl (Z1i rfl (Z6 rfl (Z6 rfl (Z6 rfl (Z1i rfl (Z6 rfl (Z6 rfl (Z6 rfl (Z6 rfl (Z6 rfl (Z6 rfl (Z6 rfl (Z6 rfl (Z6 rfl (Z6 rfl (Z6 rfl (Z6 rfl (Z6 rfl (Z0N)))))))))))))))))))))))))
      ·have g250 := of_decide_eq_false b151
       refine Zs 74 (.bool false) (congrArg Value.bool b151) ?_
       have g251 := of_decide_eq_false b151
       refine ZY rfl ?_
       refine Z1w ?_
       refine Z0t ?_
       refine Z0H ?_
       refine Z16 ?_
       refine Z7 ?_
       refine Zg ?_
       refine Zg ?_
       refine Zn ?_
       refine Z3 (Z1 rfl) (d := 18) (v := (.int .i64 (0))) rfl (by kernel_rfl) ?_
       refine Zm ?_
       refine Z7 ?_
       refine ZB ?_
       have hiF : (i : Int) = F + 1 := by have q_ := b151; simp at q_; omega
       have hop1 : qa.op = true := by rw [ho1]; exact decide_eq_true hiF
       have hop2 : qb.op = true := by rw [ho2]; exact decide_eq_true hiF
       have hpl1 := hp1 hop1
       have hpl2 := hp2 hop2
       have H252 : Sat w [Zb w (fun _ => False), Z5 x7 27 ([(.int .i64 (F)), (.int .i64 (1))] : List Value), Z5 c30 112 ([(.int .i64 (F)), (.int .i64 (1)), (.int .i64 (0)), (.pointer (some ⟨b21, 0, none⟩)), (.slice (some ⟨g, 0, none⟩) 3 lc)] : List Value), Zd 119 79 (.slice (some ⟨g, 0, none⟩) 3 lc) 3 (([qa, qb, q3]).flatMap Zf), Zh qb.mp (Value.int .i64) Zu [], Zd 5 1 (.slice qa.pa qa.P.length qa.pc) qa.P.length (qa.P.flatMap Zi), Zd 5 1 (.slice qb.pa qb.P.length qb.pc) qb.P.length (qb.P.flatMap Zi), Zd 5 1 (.slice q3.pa q3.P.length q3.pc) q3.P.length (q3.P.flatMap Zi)] w147 := H148.pick [0, 1, 2, 3, 8, 5, 7, 9] (by decide)
       refine ZU [18, 104, 105, 106, 107, 108, 109, 110, 111, 112, 113, 114, 115] (fun F_ W_ m_ => ∃ (j : Nat) (S : List (Int × List UInt8)) (qc : Zl), F_ 18 = (.int .i64 ((j : Int))) ∧ ((j : Int) ≤ F + 1) ∧ (RcG j [116, 119, 111] S) ∧ (qc.dn = decide ((j : Int) = F + 1)) ∧ ((qc.dn = true → qc.rp = [116, 119, 111]) ∧ qc.op = true ∧ qc.pl = se ∧ qc.P = [2]) ∧ Sat w [Zb w (fun _ => False), Z5 x7 27 ([(.int .i64 (F)), (.int .i64 (1))] : List Value), Z5 c30 112 ([(.int .i64 (F)), (.int .i64 (1)), (.int .i64 (0)), (.pointer (some ⟨b21, 0, none⟩)), (.slice (some ⟨g, 0, none⟩) 3 lc)] : List Value), Zd 119 79 (.slice (some ⟨g, 0, none⟩) 3 lc) 3 (([qa, qc, q3]).flatMap Zf), Zh qc.mp (Value.int .i64) Zu S, Zd 5 1 (.slice qa.pa qa.P.length qa.pc) qa.P.length (qa.P.flatMap Zi), Zd 5 1 (.slice qc.pa qc.P.length qc.pc) qc.P.length (qc.P.flatMap Zi), Zd 5 1 (.slice q3.pa q3.P.length q3.pc) q3.P.length (q3.P.flatMap Zi)] W_ ∧ m_ = (F + 1 - j).toNat) _ ⟨0, [], qb, (show ((.int .i64 (0)) : Value) = _ by first | rfl | go_num), (by omega), RcG.nil, (by rw [hz2.2.2.1]; exact (decide_eq_false (by omega)).symm), ⟨(fun h_ => by rw [hz2.2.2.1] at h_; cases h_), hop2, hpl2, hz2.2.1⟩, H252, rfl⟩ ?_
       rintro g253 w254 _ ⟨j, S, qc, v256, hj, hS, hd, he, H255, rfl⟩
       refine Zs 18 _ v256 ?_
       refine Zg ?_
       refine Zg ?_
       refine Zn ?_
       refine Z3 (Z1 rfl) (d := 104) (v := (.int .i64 ((j : Int)))) rfl (by kernel_rfl) ?_
       refine Z3 (Z1 rfl) (d := 105) (v := (.pointer (some ⟨x7, 0, none⟩))) rfl (by kernel_rfl) ?_
       refine Z3 (Z1 rfl) (d := 106) (v := (.int .i64 (F))) rfl (Zj rfl (by kernel_rfl) (H255.cell 1 rfl rfl)) ?_
       refine Z3 (Z1 rfl) (d := 107) (v := (.int .i64 (F + 1))) rfl (Z05 (z := F + 1) (by kernel_rfl) (IntWalk.i64_in _ (by omega))) ?_
       refine Z3 (Z1 rfl) (d := 108) (v := (.bool (decide ((j : Int) < (F + 1))))) rfl (by kernel_rfl) ?_
       refine Zm ?_
       refine Z7 ?_
       refine (Z06 (decide ((j : Int) < (F + 1)))).elim (fun b258 => ?_) (fun b258 => ?_)
       ·have g259 := of_decide_eq_true b258
        refine Zs 108 (.bool true) (congrArg Value.bool b258) ?_
        have g260 := of_decide_eq_true b258
        refine Z0u rfl ?_
        refine ZN ?_
        refine Z7 ?_
        refine Z0x [111, 112, 113, 114, 115] (fun G_ W_ => ∃ (S2 : List (Int × List UInt8)) (qd : Zl), (RcG (j + 1 : Nat) [116, 119, 111] S2) ∧ (qd.dn = decide (((j + 1 : Nat) : Int) = F + 1)) ∧ ((qd.dn = true → qd.rp = [116, 119, 111]) ∧ qd.op = true ∧ qd.pl = se ∧ qd.P = [2]) ∧ Sat w [Zb w (fun _ => False), Z5 x7 27 ([(.int .i64 (F)), (.int .i64 (1))] : List Value), Z5 c30 112 ([(.int .i64 (F)), (.int .i64 (1)), (.int .i64 (0)), (.pointer (some ⟨b21, 0, none⟩)), (.slice (some ⟨g, 0, none⟩) 3 lc)] : List Value), Zd 119 79 (.slice (some ⟨g, 0, none⟩) 3 lc) 3 (([qa, qd, q3]).flatMap Zf), Zh qd.mp (Value.int .i64) Zu S2, Zd 5 1 (.slice qa.pa qa.P.length qa.pc) qa.P.length (qa.P.flatMap Zi), Zd 5 1 (.slice qd.pa qd.P.length qd.pc) qd.P.length (qd.P.flatMap Zi), Zd 5 1 (.slice q3.pa q3.P.length q3.pc) q3.P.length (q3.P.flatMap Zi)] W_) ?_ ?_
        ·refine ZB ?_
         refine Zn ?_
         refine Z3 (Z1 rfl) (d := 111) (v := (.pointer (some ⟨c30, 0, none⟩))) rfl (by kernel_rfl) ?_
         refine Z3 (Z1 rfl) (d := 112) (v := (.int .i64 ((j : Int)))) rfl (by kernel_rfl) ?_
         refine Z3 (Z1 rfl) (d := 113) (v := (.int .i64 (se))) rfl (by kernel_rfl) ?_
         refine Z3 (Z1 rfl) (d := 114) (v := (.agg ⟨(([(.int .i64 (13)), (.int .i64 ((j : Int))), (.int .i64 (1000)), (.int .i64 (0)), (.int .i64 (0))] : List Value) ++ hc Z8 ++ ([(.int .i64 (0)), (.int .i64 (0)), (.int .i64 (0)), (.int .i64 (0)), (.int .i64 (0)), (.int .i64 (0))] : List Value) ++ hc Z8 ++ ([(.int .u64 (0)), (.int .i64 (0)), (.int .i64 (0)), (.int .i64 (0)), (.int .i64 (0))] : List Value) ++ hc Z8 ++ ([(.int .i64 (0)), (.int .i64 (0)), (.int .i64 (0)), (.slice none 0 0), (.int .i64 (0)), (.int .i64 (0)), (.int .i64 (0))] : List Value) ++ hc Z8 ++ ([(.int .u64 (0)), (.int .i64 (0)), (.int .i64 (0)), (.int .i64 (0)), (.int .i64 (0)), (.int .u64 (0)), (.int .i64 (0)), (.int .i64 (0)), (.int .u64 (0)), (.slice none 0 0), (.int .i64 (0)), (.int .i64 (0)), (.int .i64 (0)), (.int .i64 (0)), (.int .i64 (0)), (.int .i64 (0)), (.int .i64 (0)), (.int .u64 (0)), (.slice none 0 0), (.slice none 0 0), (.slice none 0 0), (.int .i64 (0)), (.int .i64 (0)), (.int .i64 (0))] : List Value) ++ ([(.int .i64 (0)), (.int .i64 (0)), (.int .i64 (0))] : List Value) ++ hc Z8 ++ ([(.int .i64 (0)), (.int .i64 (0)), (.int .i64 (se)), (.int .i64 (0)), (.int .i64 (0))] : List Value) ++ hc Z8 ++ ([(.int .u64 (0)), (.int .i64 (0)), (.slice none 0 0)] : List Value) ++ hc Z8 ++ ([(.int .i64 (0)), (.int .i64 (0)), (.int .i64 (0)), (.int .i64 (0)), (Zu ([116, 119, 111])), (.int .i64 (0)), (.int .i64 (0)), (.int .i64 (0)), (.int .u64 (0)), (.slice none 0 0), (.slice none 0 0), (.slice none 0 0), (.slice none 0 0)] : List Value))⟩)) rfl (by kernel_rfl) ?_
         refine ZE (Z1 rfl) (fun K262 hK262 => ?_)
         refine ZC (d := 115) rfl (by kernel_rfl) (Z3W w254 c30 b21 g lc F 1 0 [qa, qc, q3] 1 qc rfl S (H255.fin [2, 3, 4] (by decide) rfl) (Nat.le_of_ble_eq_true rfl) (by rw [hS.len]; omega) (by omega) (by decide) (j : Int) se [116, 119, 111] (Z5P (k := 1) (q := qc) rfl (by unfold Z6j; rw [he.2.1, he.2.2.1, decide_eq_true rfl]; rfl) (fun j_ x_ hj_ hx_ => by obtain rfl : j_ = 0 := (by omega); cases hx_; unfold Z6j; rw [hpl1, decide_eq_false (by omega), Bool.and_false])) (by unfold inB; simp; omega)) ?_
         rintro _ w263 ⟨rfl, (⟨k264, T265⟩ | ⟨k266, T267⟩)⟩
         ·have H268 : Sat w [Zb w (fun _ => False), Z5 x7 27 ([(.int .i64 (F)), (.int .i64 (1))] : List Value), Z5 c30 112 ([(.int .i64 (F)), (.int .i64 (1)), (.int .i64 (0)), (.pointer (some ⟨b21, 0, none⟩)), (.slice (some ⟨g, 0, none⟩) 3 lc)] : List Value), Zd 119 79 (.slice (some ⟨g, 0, none⟩) 3 lc) 3 (([qa, qc, q3]).flatMap Zf), Zh qc.mp (Value.int .i64) Zu (Z0d S (j : Int) [116, 119, 111]), Zd 5 1 (.slice qa.pa qa.P.length qa.pc) qa.P.length (qa.P.flatMap Zi), Zd 5 1 (.slice qc.pa qc.P.length qc.pc) qc.P.length (qc.P.flatMap Zi), Zd 5 1 (.slice q3.pa q3.P.length q3.pc) q3.P.length (q3.P.flatMap Zi)] w263 := (Sat.turnL (L' := [Z5 c30 112 ([(.int .i64 (F)), (.int .i64 (1)), (.int .i64 (0)), (.pointer (some ⟨b21, 0, none⟩)), (.slice (some ⟨g, 0, none⟩) 3 lc)] : List Value), Zd 119 79 (.slice (some ⟨g, 0, none⟩) 3 lc) 3 (([qa, qc, q3]).flatMap Zf), Zh qc.mp (Value.int .i64) Zu (Z0d S (j : Int) [116, 119, 111])]) (R := [Zb w (fun _ => False), Z5 x7 27 ([(.int .i64 (F)), (.int .i64 (1))] : List Value), Zd 5 1 (.slice qa.pa qa.P.length qa.pc) qa.P.length (qa.P.flatMap Zi), Zd 5 1 (.slice qc.pa qc.P.length qc.pc) qc.P.length (qc.P.flatMap Zi), Zd 5 1 (.slice q3.pa q3.P.length q3.pc) q3.P.length (q3.P.flatMap Zi)]) H255 [2, 3, 4] [0, 1, 5, 6, 7] (by decide) (by kernel_rfl) rfl T265).pick [3, 4, 0, 1, 2, 5, 6, 7] (by decide)
          refine ⟨_, rfl, ?_⟩
          refine hK262 _ _ ?_
          clear hK262 K262
          refine Zm ?_
          refine Zz ?_
          have H269 : Sat w [Zb w (fun _ => False), Z5 x7 27 ([(.int .i64 (F)), (.int .i64 (1))] : List Value), Z5 c30 112 ([(.int .i64 (F)), (.int .i64 (1)), (.int .i64 (0)), (.pointer (some ⟨b21, 0, none⟩)), (.slice (some ⟨g, 0, none⟩) 3 lc)] : List Value), Zd 119 79 (.slice (some ⟨g, 0, none⟩) 3 lc) 3 (([qa, qc, q3]).flatMap Zf), Zh qc.mp (Value.int .i64) Zu (Z0d S (j : Int) [116, 119, 111]), Zd 5 1 (.slice qa.pa qa.P.length qa.pc) qa.P.length (qa.P.flatMap Zi), Zd 5 1 (.slice qc.pa qc.P.length qc.pc) qc.P.length (qc.P.flatMap Zi), Zd 5 1 (.slice q3.pa q3.P.length q3.pc) q3.P.length (q3.P.flatMap Zi)] w263 := H268.pick [0, 1, 2, 3, 4, 5, 6, 7] (by decide)
          refine ZX ?_ ⟨(Z0d S (j : Int) [116, 119, 111]), qc, hS.add, (Z6D (d := ([] : List UInt8)) hS hd (by omega) k264), he, H269⟩
          exact (Z6 rfl (Z6 rfl (Z6 rfl (Z6 rfl (Z6 rfl (ZV))))))
         ·have H270 : Sat w [Zb w (fun _ => False), Z5 x7 27 ([(.int .i64 (F)), (.int .i64 (1))] : List Value), Z5 c30 112 ([(.int .i64 (F)), (.int .i64 (1)), (.int .i64 (0)), (.pointer (some ⟨b21, 0, none⟩)), (.slice (some ⟨g, 0, none⟩) 3 lc)] : List Value), Zd 119 79 (.slice (some ⟨g, 0, none⟩) 3 lc) 3 (([qa, (⟨qc.x, qc.pa, qc.pc, qc.P, qc.no, qc.ms, qc.cb, qc.ma, qc.mr, qc.op, qc.pl, qc.mp, true, ((Zq (Z0d S (j : Int) [116, 119, 111]) (j : Int)).getD [])⟩ : Zl), q3]).flatMap Zf), Zh qc.mp (Value.int .i64) Zu (Z0d S (j : Int) [116, 119, 111]), Zd 5 1 (.slice qa.pa qa.P.length qa.pc) qa.P.length (qa.P.flatMap Zi), Zd 5 1 (.slice qc.pa qc.P.length qc.pc) qc.P.length (qc.P.flatMap Zi), Zd 5 1 (.slice q3.pa q3.P.length q3.pc) q3.P.length (q3.P.flatMap Zi)] w263 := (Sat.turnL (L' := [Z5 c30 112 ([(.int .i64 (F)), (.int .i64 (1)), (.int .i64 (0)), (.pointer (some ⟨b21, 0, none⟩)), (.slice (some ⟨g, 0, none⟩) 3 lc)] : List Value), Zd 119 79 (.slice (some ⟨g, 0, none⟩) 3 lc) 3 (([qa, (⟨qc.x, qc.pa, qc.pc, qc.P, qc.no, qc.ms, qc.cb, qc.ma, qc.mr, qc.op, qc.pl, qc.mp, true, ((Zq (Z0d S (j : Int) [116, 119, 111]) (j : Int)).getD [])⟩ : Zl), q3]).flatMap Zf), Zh qc.mp (Value.int .i64) Zu (Z0d S (j : Int) [116, 119, 111])]) (R := [Zb w (fun _ => False), Z5 x7 27 ([(.int .i64 (F)), (.int .i64 (1))] : List Value), Zd 5 1 (.slice qa.pa qa.P.length qa.pc) qa.P.length (qa.P.flatMap Zi), Zd 5 1 (.slice qc.pa qc.P.length qc.pc) qc.P.length (qc.P.flatMap Zi), Zd 5 1 (.slice q3.pa q3.P.length q3.pc) q3.P.length (q3.P.flatMap Zi)]) H255 [2, 3, 4] [0, 1, 5, 6, 7] (by decide) (by kernel_rfl) rfl T267).pick [3, 4, 0, 1, 2, 5, 6, 7] (by decide)
          refine ⟨_, rfl, ?_⟩
          refine hK262 _ _ ?_
          clear hK262 K262
          refine Zm ?_
          refine Zz ?_
          have H271 : Sat w [Zb w (fun _ => False), Z5 x7 27 ([(.int .i64 (F)), (.int .i64 (1))] : List Value), Z5 c30 112 ([(.int .i64 (F)), (.int .i64 (1)), (.int .i64 (0)), (.pointer (some ⟨b21, 0, none⟩)), (.slice (some ⟨g, 0, none⟩) 3 lc)] : List Value), Zd 119 79 (.slice (some ⟨g, 0, none⟩) 3 lc) 3 (([qa, (⟨qc.x, qc.pa, qc.pc, qc.P, qc.no, qc.ms, qc.cb, qc.ma, qc.mr, qc.op, qc.pl, qc.mp, true, ((Zq (Z0d S (j : Int) [116, 119, 111]) (j : Int)).getD [])⟩ : Zl), q3]).flatMap Zf), Zh qc.mp (Value.int .i64) Zu (Z0d S (j : Int) [116, 119, 111]), Zd 5 1 (.slice qa.pa qa.P.length qa.pc) qa.P.length (qa.P.flatMap Zi), Zd 5 1 (.slice qc.pa qc.P.length qc.pc) qc.P.length (qc.P.flatMap Zi), Zd 5 1 (.slice q3.pa q3.P.length q3.pc) q3.P.length (q3.P.flatMap Zi)] w263 := H270.pick [0, 1, 2, 3, 4, 5, 6, 7] (by decide)
          have hy_ := Z5o (d := ([] : List UInt8)) (F := F) hS (by omega) k266.2
          refine ZX ?_ ⟨(Z0d S (j : Int) [116, 119, 111]), (⟨qc.x, qc.pa, qc.pc, qc.P, qc.no, qc.ms, qc.cb, qc.ma, qc.mr, qc.op, qc.pl, qc.mp, true, ((Zq (Z0d S (j : Int) [116, 119, 111]) (j : Int)).getD [])⟩ : Zl), hS.add, hy_.1, ⟨fun _ => hy_.2, he.2⟩, H271⟩
          exact (Z6 rfl (Z6 rfl (Z6 rfl (Z6 rfl (Z6 rfl (ZV))))))
        ·rintro f272 w273 ⟨S2, qd, hSx, hdx, hex, H274⟩
         refine Zn ?_
         refine Z3 (Z1 rfl) (d := 109) (v := (.int .i64 ((j : Int)))) rfl (by kernel_rfl) ?_
         refine Z3 (Z1 rfl) (d := 110) (v := (.int .i64 ((j : Int) + 1))) rfl (Z05 (z := (j : Int) + 1) (by kernel_rfl) (IntWalk.i64_in _ (by omega))) ?_
         refine Z3 (Z1 rfl) (d := 18) (v := (.int .i64 ((j : Int) + 1))) rfl (by kernel_rfl) ?_
         refine Zm ?_
         have H275 : Sat w [Zb w (fun _ => False), Z5 x7 27 ([(.int .i64 (F)), (.int .i64 (1))] : List Value), Z5 c30 112 ([(.int .i64 (F)), (.int .i64 (1)), (.int .i64 (0)), (.pointer (some ⟨b21, 0, none⟩)), (.slice (some ⟨g, 0, none⟩) 3 lc)] : List Value), Zd 119 79 (.slice (some ⟨g, 0, none⟩) 3 lc) 3 (([qa, qd, q3]).flatMap Zf), Zh qd.mp (Value.int .i64) Zu S2, Zd 5 1 (.slice qa.pa qa.P.length qa.pc) qa.P.length (qa.P.flatMap Zi), Zd 5 1 (.slice qd.pa qd.P.length qd.pc) qd.P.length (qd.P.flatMap Zi), Zd 5 1 (.slice q3.pa q3.P.length q3.pc) q3.P.length (q3.P.flatMap Zi)] w273 := H274.pick [0, 1, 2, 3, 4, 5, 6, 7] (by decide)
         refine ZL ?_ _ ⟨(j + 1), S2, qd, (show ((.int .i64 ((j : Int) + 1)) : Value) = _ by first | rfl | go_num), (by omega), hSx, hdx, hex, H275, rfl⟩ (by omega)
         exact (Z6 rfl (Z6 rfl (Z6 rfl (Z1i rfl (Z6 rfl (Z6 rfl (Z6 rfl (Z6 rfl (Z6 rfl (Z6 rfl (Z6 rfl (Z0N))))))))))))
       ·have g276 := of_decide_eq_false b258
        refine Zs 108 (.bool false) (congrArg Value.bool b258) ?_
        have g277 := of_decide_eq_false b258
        refine ZY rfl ?_
        refine Z1w ?_
        refine Z0t ?_
        refine Z0H ?_
        refine Z16 ?_
        refine Z7 ?_
        refine Zg ?_
        have hjF : (j : Int) = F + 1 := by have q_ := b258; simp at q_; omega
        have hdn : qc.dn = true := by rw [hd]; exact decide_eq_true hjF
        have hrp := he.1 hdn
        refine Zn ?_
        refine Z3 (Z1 rfl) (d := 117) (v := (.pointer (some ⟨c30, 0, none⟩))) rfl (by kernel_rfl) ?_
        refine ZE (Z1 rfl) (fun K278 hK278 => ?_)
        refine ZC (d := 118) rfl (by kernel_rfl) (Z1K w254 c30 b21 g lc F 1 0 [qa, qc, q3] (H255.at 2 rfl) (H255.at 3 rfl) (Nat.le_of_ble_eq_true rfl) 0 qa rfl 1 rfl) ?_
        rintro _ w279 ⟨rfl, u281⟩
        have H280 := H255.keepU u281
        refine ⟨_, rfl, ?_⟩
        refine hK278 _ _ ?_
        clear hK278 K278
        refine Z3 (Z1 rfl) (d := 116) (v := (.tuple #[(.int .i64 (qa.pl)), (.bool (qa.op))])) rfl (by kernel_rfl) ?_
        refine Z3 (Z1 rfl) (d := 119) (v := (.int .i64 (qa.pl))) rfl (by kernel_rfl) ?_
        refine Z3 (Z1 rfl) (d := 120) (v := (.bool (qa.op))) rfl (by kernel_rfl) ?_
        refine Z3 (Z1 rfl) (d := 19) (v := (.int .i64 (qa.pl))) rfl (by kernel_rfl) ?_
        refine Z3 (Z1 rfl) (d := 20) (v := (.bool (qa.op))) rfl (by kernel_rfl) ?_
        refine Zm ?_
        refine Z7 ?_
        refine Zg ?_
        refine Zn ?_
        refine Z3 (Z1 rfl) (d := 122) (v := (.pointer (some ⟨c30, 0, none⟩))) rfl (by kernel_rfl) ?_
        refine ZE (Z1 rfl) (fun K282 hK282 => ?_)
        refine ZC (d := 123) rfl (by kernel_rfl) (Z1K w279 c30 b21 g lc F 1 0 [qa, qc, q3] (H280.at 2 rfl) (H280.at 3 rfl) (Nat.le_of_ble_eq_true rfl) 1 qc rfl 2 rfl) ?_
        rintro _ w283 ⟨rfl, u285⟩
        have H284 := H280.keepU u285
        refine ⟨_, rfl, ?_⟩
        refine hK282 _ _ ?_
        clear hK282 K282
        refine Z3 (Z1 rfl) (d := 121) (v := (.tuple #[(.int .i64 (qc.pl)), (.bool (qc.op))])) rfl (by kernel_rfl) ?_
        refine Z3 (Z1 rfl) (d := 124) (v := (.int .i64 (qc.pl))) rfl (by kernel_rfl) ?_
        refine Z3 (Z1 rfl) (d := 125) (v := (.bool (qc.op))) rfl (by kernel_rfl) ?_
        refine Z3 (Z1 rfl) (d := 21) (v := (.int .i64 (qc.pl))) rfl (by kernel_rfl) ?_
        refine Z3 (Z1 rfl) (d := 22) (v := (.bool (qc.op))) rfl (by kernel_rfl) ?_
        refine Zm ?_
        refine Z7 ?_
        refine Zg ?_
        refine Zn ?_
        refine Z3 (Z1 rfl) (d := 127) (v := (.pointer (some ⟨c30, 0, none⟩))) rfl (by kernel_rfl) ?_
        refine ZE (Z1 rfl) (fun K286 hK286 => ?_)
        refine ZC (d := 128) rfl (by kernel_rfl) (Z1K w283 c30 b21 g lc F 1 0 [qa, qc, q3] (H284.at 2 rfl) (H284.at 3 rfl) (Nat.le_of_ble_eq_true rfl) 2 q3 rfl 3 rfl) ?_
        rintro _ w287 ⟨rfl, u289⟩
        have H288 := H284.keepU u289
        refine ⟨_, rfl, ?_⟩
        refine hK286 _ _ ?_
        clear hK286 K286
        refine Z3 (Z1 rfl) (d := 126) (v := (.tuple #[(.int .i64 (q3.pl)), (.bool (q3.op))])) rfl (by kernel_rfl) ?_
        refine Z3 (Z1 rfl) (d := 129) (v := (.int .i64 (q3.pl))) rfl (by kernel_rfl) ?_
        refine Z3 (Z1 rfl) (d := 130) (v := (.bool (q3.op))) rfl (by kernel_rfl) ?_
        refine Z3 (Z1 rfl) (d := 23) (v := (.int .i64 (q3.pl))) rfl (by kernel_rfl) ?_
        refine Z3 (Z1 rfl) (d := 24) (v := (.bool (q3.op))) rfl (by kernel_rfl) ?_
        refine Zm ?_
        refine Z7 ?_
        refine Zg ?_
        refine Zn ?_
        refine Z3 (Z1 rfl) (d := 132) (v := (.pointer (some ⟨c30, 0, none⟩))) rfl (by kernel_rfl) ?_
        refine ZE (Z1 rfl) (fun K290 hK290 => ?_)
        refine ZC (d := 133) rfl (by kernel_rfl) (Z1L w287 c30 b21 g lc F 1 0 [qa, qc, q3] (H288.at 2 rfl) (H288.at 3 rfl) (Nat.le_of_ble_eq_true rfl) 0 qa rfl 1 rfl) ?_
        rintro _ w291 ⟨rfl, u293⟩
        have H292 := H288.keepU u293
        refine ⟨_, rfl, ?_⟩
        refine hK290 _ _ ?_
        clear hK290 K290
        refine Z3 (Z1 rfl) (d := 131) (v := (.tuple #[(Zu qa.rp), (.bool (qa.dn))])) rfl (by kernel_rfl) ?_
        refine Z3 (Z1 rfl) (d := 134) (v := (Zu qa.rp)) rfl (by kernel_rfl) ?_
        refine Z3 (Z1 rfl) (d := 135) (v := (.bool (qa.dn))) rfl (by kernel_rfl) ?_
        refine Z3 (Z1 rfl) (d := 25) (v := (Zu qa.rp)) rfl (by kernel_rfl) ?_
        refine Z3 (Z1 rfl) (d := 26) (v := (.bool (qa.dn))) rfl (by kernel_rfl) ?_
        refine Zm ?_
        refine Z7 ?_
        refine Zg ?_
        refine Zn ?_
        refine Z3 (Z1 rfl) (d := 137) (v := (.pointer (some ⟨c30, 0, none⟩))) rfl (by kernel_rfl) ?_
        refine ZE (Z1 rfl) (fun K294 hK294 => ?_)
        refine ZC (d := 138) rfl (by kernel_rfl) (Z1L w291 c30 b21 g lc F 1 0 [qa, qc, q3] (H292.at 2 rfl) (H292.at 3 rfl) (Nat.le_of_ble_eq_true rfl) 1 qc rfl 2 rfl) ?_
        rintro _ w295 ⟨rfl, u297⟩
        have H296 := H292.keepU u297
        refine ⟨_, rfl, ?_⟩
        refine hK294 _ _ ?_
        clear hK294 K294
        refine Z3 (Z1 rfl) (d := 136) (v := (.tuple #[(Zu qc.rp), (.bool (qc.dn))])) rfl (by kernel_rfl) ?_
        refine Z3 (Z1 rfl) (d := 139) (v := (Zu qc.rp)) rfl (by kernel_rfl) ?_
        refine Z3 (Z1 rfl) (d := 140) (v := (.bool (qc.dn))) rfl (by kernel_rfl) ?_
        refine Z3 (Z1 rfl) (d := 27) (v := (Zu qc.rp)) rfl (by kernel_rfl) ?_
        refine Z3 (Z1 rfl) (d := 28) (v := (.bool (qc.dn))) rfl (by kernel_rfl) ?_
        refine Zm ?_
        refine Z7 ?_
        refine Zg ?_
        refine Zn ?_
        refine Z3 (Z1 rfl) (d := 142) (v := (.pointer (some ⟨c30, 0, none⟩))) rfl (by kernel_rfl) ?_
        refine ZE (Z1 rfl) (fun K298 hK298 => ?_)
        refine ZC (d := 143) rfl (by kernel_rfl) (Z1L w295 c30 b21 g lc F 1 0 [qa, qc, q3] (H296.at 2 rfl) (H296.at 3 rfl) (Nat.le_of_ble_eq_true rfl) 2 q3 rfl 3 rfl) ?_
        rintro _ w299 ⟨rfl, u301⟩
        have H300 := H296.keepU u301
        refine ⟨_, rfl, ?_⟩
        refine hK298 _ _ ?_
        clear hK298 K298
        refine Z3 (Z1 rfl) (d := 141) (v := (.tuple #[(Zu q3.rp), (.bool (q3.dn))])) rfl (by kernel_rfl) ?_
        refine Z3 (Z1 rfl) (d := 144) (v := (Zu q3.rp)) rfl (by kernel_rfl) ?_
        refine Z3 (Z1 rfl) (d := 145) (v := (.bool (q3.dn))) rfl (by kernel_rfl) ?_
        refine Z3 (Z1 rfl) (d := 29) (v := (Zu q3.rp)) rfl (by kernel_rfl) ?_
        refine Z3 (Z1 rfl) (d := 30) (v := (.bool (q3.dn))) rfl (by kernel_rfl) ?_
        refine Zm ?_
        refine Z7 ?_
        refine Zg ?_
        refine Zn ?_
        refine Z3 (Z1 rfl) (d := 146) (v := (.bool (qa.op))) rfl (by kernel_rfl) ?_
        refine Z3 (Z1 rfl) (d := 147) (v := (.bool (qa.op))) rfl (by kernel_rfl) ?_
        have b302 : (qa.op) = true := by exact hop1
        refine Z01 147 (.bool true) (congrArg Value.bool b302) ?_
        refine Z3 (Zr 1 147 true rfl (by kernel_rfl) rfl (by kernel_rfl)) (d := 148) (v := (.bool (qc.op))) rfl (by kernel_rfl) ?_
        refine Z3 (Z1 rfl) (d := 149) (v := (.bool (qc.op))) rfl (by kernel_rfl) ?_
        refine Z3 (Z1 rfl) (d := 150) (v := (.bool (qc.op))) rfl (by kernel_rfl) ?_
        have b303 : (qc.op) = true := by exact he.2.1
        refine Z01 150 (.bool true) (congrArg Value.bool b303) ?_
        refine Z3 (Zr 4 150 true rfl (by kernel_rfl) rfl (by kernel_rfl)) (d := 151) (v := (.bool (q3.op))) rfl (by kernel_rfl) ?_
        refine Z3 (Zr 4 150 true rfl (by kernel_rfl) rfl (by kernel_rfl)) (d := 152) (v := (.bool (!(q3.op)))) rfl (by kernel_rfl) ?_
        refine Z3 (Z1 rfl) (d := 153) (v := (.bool (!(q3.op)))) rfl (by kernel_rfl) ?_
        refine Z3 (Z1 rfl) (d := 154) (v := (.bool (!(q3.op)))) rfl (by kernel_rfl) ?_
        have b304 : (!(q3.op)) = true := by rw [hq3.1]; rfl
        refine Z01 154 (.bool true) (congrArg Value.bool b304) ?_
        have g305 := Z0y b304
        refine Z3 (Zr 8 154 true rfl (by kernel_rfl) rfl (by kernel_rfl)) (d := 155) (v := (.int .i64 (qa.pl))) rfl (by kernel_rfl) ?_
        refine Z3 (Zr 8 154 true rfl (by kernel_rfl) rfl (by kernel_rfl)) (d := 156) (v := (.int .i64 (fi))) rfl (by kernel_rfl) ?_
        refine Z3 (Zr 8 154 true rfl (by kernel_rfl) rfl (by kernel_rfl)) (d := 157) (v := (.bool (decide (qa.pl = fi)))) rfl (by kernel_rfl) ?_
        refine Z3 (Z1 rfl) (d := 158) (v := (.bool (decide (qa.pl = fi)))) rfl (by kernel_rfl) ?_
        refine Z3 (Z1 rfl) (d := 159) (v := (.bool (decide (qa.pl = fi)))) rfl (by kernel_rfl) ?_
        have b306 : (decide (qa.pl = fi)) = true := by exact decide_eq_true hpl1
        refine Z01 159 (.bool true) (congrArg Value.bool b306) ?_
        have g307 := of_decide_eq_true b306
        refine Z3 (Zr 13 159 true rfl (by kernel_rfl) rfl (by kernel_rfl)) (d := 160) (v := (.int .i64 (qc.pl))) rfl (by kernel_rfl) ?_
        refine Z3 (Zr 13 159 true rfl (by kernel_rfl) rfl (by kernel_rfl)) (d := 161) (v := (.int .i64 (se))) rfl (by kernel_rfl) ?_
        refine Z3 (Zr 13 159 true rfl (by kernel_rfl) rfl (by kernel_rfl)) (d := 162) (v := (.bool (decide (qc.pl = se)))) rfl (by kernel_rfl) ?_
        refine Z3 (Z1 rfl) (d := 163) (v := (.bool (decide (qc.pl = se)))) rfl (by kernel_rfl) ?_
        refine Z3 (Z1 rfl) (d := 164) (v := (.bool (decide (qc.pl = se)))) rfl (by kernel_rfl) ?_
        have b308 : (decide (qc.pl = se)) = true := by exact decide_eq_true he.2.2.1
        refine Z01 164 (.bool true) (congrArg Value.bool b308) ?_
        have g309 := of_decide_eq_true b308
        refine Z3 (Zr 18 164 true rfl (by kernel_rfl) rfl (by kernel_rfl)) (d := 165) (v := (.bool (qa.dn))) rfl (by kernel_rfl) ?_
        refine Z3 (Zr 18 164 true rfl (by kernel_rfl) rfl (by kernel_rfl)) (d := 166) (v := (.bool (!(qa.dn)))) rfl (by kernel_rfl) ?_
        refine Z3 (Z1 rfl) (d := 167) (v := (.bool (!(qa.dn)))) rfl (by kernel_rfl) ?_
        refine Z3 (Z1 rfl) (d := 168) (v := (.bool (!(qa.dn)))) rfl (by kernel_rfl) ?_
        have b310 : (!(qa.dn)) = true := by rw [hz1.2.2.1]; rfl
        refine Z01 168 (.bool true) (congrArg Value.bool b310) ?_
        have g311 := Z0y b310
        refine Z3 (Zr 22 168 true rfl (by kernel_rfl) rfl (by kernel_rfl)) (d := 169) (v := (.bool (qc.dn))) rfl (by kernel_rfl) ?_
        refine Z3 (Z1 rfl) (d := 170) (v := (.bool (qc.dn))) rfl (by kernel_rfl) ?_
        refine Z3 (Z1 rfl) (d := 171) (v := (.bool (qc.dn))) rfl (by kernel_rfl) ?_
        have b312 : (qc.dn) = true := by exact hdn
        refine Z01 171 (.bool true) (congrArg Value.bool b312) ?_
        refine Z3 (Zr 25 171 true rfl (by kernel_rfl) rfl (by kernel_rfl)) (d := 172) (v := (Zu qc.rp)) rfl (by kernel_rfl) ?_
        refine Z3 (Zr 25 171 true rfl (by kernel_rfl) rfl (by kernel_rfl)) (d := 173) (v := (.bool (decide (qc.rp = ([116, 119, 111]))))) rfl (Z4U qc.rp ([116, 119, 111]) rfl rfl) ?_
        refine Z3 (Z1 rfl) (d := 174) (v := (.bool (decide (qc.rp = ([116, 119, 111]))))) rfl (by kernel_rfl) ?_
        refine Z3 (Z1 rfl) (d := 175) (v := (.bool (decide (qc.rp = ([116, 119, 111]))))) rfl (by kernel_rfl) ?_
        have b313 : (decide (qc.rp = ([116, 119, 111]))) = true := by exact decide_eq_true hrp
        refine Z01 175 (.bool true) (congrArg Value.bool b313) ?_
        have g314 := of_decide_eq_true b313
        refine Z3 (Zr 29 175 true rfl (by kernel_rfl) rfl (by kernel_rfl)) (d := 176) (v := (.bool (q3.dn))) rfl (by kernel_rfl) ?_
        refine Z3 (Zr 29 175 true rfl (by kernel_rfl) rfl (by kernel_rfl)) (d := 177) (v := (.bool (!(q3.dn)))) rfl (by kernel_rfl) ?_
        refine Z3 (Z1 rfl) (d := 178) (v := (.bool (!(q3.dn)))) rfl (by kernel_rfl) ?_
        refine Z3 (Z1 rfl) (d := 179) (v := (.bool (!(q3.dn)))) rfl (by kernel_rfl) ?_
        have b315 : (!(q3.dn)) = true := by rw [hq3.2.2.2.1]; rfl
        refine Z01 179 (.bool true) (congrArg Value.bool b315) ?_
        have g316 := Z0y b315
        refine Z3 (Zr 33 179 true rfl (by kernel_rfl) rfl (by kernel_rfl)) (d := 180) (v := (.pointer (some ⟨c30, 0, none⟩))) rfl (by kernel_rfl) ?_
        refine ZE (Zr 33 179 true rfl (by kernel_rfl) rfl (by kernel_rfl)) (fun K317 hK317 => ?_)
        refine ZC (d := 181) rfl (by kernel_rfl) (Z1o w299 c30 b21 g lc F 1 0 [qa, qc, q3] (H300.at 2 rfl) (H300.at 3 rfl) (Nat.le_of_ble_eq_true rfl) 0 qa rfl 1 rfl) ?_
        rintro _ w318 ⟨rfl, u320⟩
        have H319 := H300.keepU u320
        refine ⟨_, rfl, ?_⟩
        refine hK317 _ _ ?_
        clear hK317 K317
        refine Z3 (Z1 rfl) (d := 182) (v := (.bool (qa.op))) rfl (by kernel_rfl) ?_
        refine Z3 (Z1 rfl) (d := 183) (v := (.bool (qa.op))) rfl (by kernel_rfl) ?_
        refine Z01 183 (.bool true) (congrArg Value.bool b302) ?_
        refine Z3 (Zr 37 183 true rfl (by kernel_rfl) rfl (by kernel_rfl)) (d := 184) (v := (.pointer (some ⟨c30, 0, none⟩))) rfl (by kernel_rfl) ?_
        refine ZE (Zr 37 183 true rfl (by kernel_rfl) rfl (by kernel_rfl)) (fun K321 hK321 => ?_)
        refine ZC (d := 185) rfl (by kernel_rfl) (Z1o w318 c30 b21 g lc F 1 0 [qa, qc, q3] (H319.at 2 rfl) (H319.at 3 rfl) (Nat.le_of_ble_eq_true rfl) 1 qc rfl 2 rfl) ?_
        rintro _ w322 ⟨rfl, u324⟩
        have H323 := H319.keepU u324
        refine ⟨_, rfl, ?_⟩
        refine hK321 _ _ ?_
        clear hK321 K321
        refine Z3 (Z1 rfl) (d := 186) (v := (.bool (qc.op))) rfl (by kernel_rfl) ?_
        refine Z3 (Z1 rfl) (d := 187) (v := (.bool (qc.op))) rfl (by kernel_rfl) ?_
        refine Z01 187 (.bool true) (congrArg Value.bool b303) ?_
        refine Z3 (Zr 41 187 true rfl (by kernel_rfl) rfl (by kernel_rfl)) (d := 188) (v := (.pointer (some ⟨c30, 0, none⟩))) rfl (by kernel_rfl) ?_
        refine ZE (Zr 41 187 true rfl (by kernel_rfl) rfl (by kernel_rfl)) (fun K325 hK325 => ?_)
        refine ZC (d := 189) rfl (by kernel_rfl) (Z1o w322 c30 b21 g lc F 1 0 [qa, qc, q3] (H323.at 2 rfl) (H323.at 3 rfl) (Nat.le_of_ble_eq_true rfl) 2 q3 rfl 3 rfl) ?_
        rintro _ w326 ⟨rfl, u328⟩
        have H327 := H323.keepU u328
        refine ⟨_, rfl, ?_⟩
        refine hK325 _ _ ?_
        clear hK325 K325
        refine Z3 (Zr 41 187 true rfl (by kernel_rfl) rfl (by kernel_rfl)) (d := 190) (v := (.bool (!(q3.op)))) rfl (by kernel_rfl) ?_
        refine Z3 (Z1 rfl) (d := 191) (v := (.bool (!(q3.op)))) rfl (by kernel_rfl) ?_
        refine Z3 (Z1 rfl) (d := 192) (v := (.bool (!(q3.op)))) rfl (by kernel_rfl) ?_
        refine Z01 192 (.bool true) (congrArg Value.bool b304) ?_
        have g329 := Z0y b304
        refine Z3 (Zr 46 192 true rfl (by kernel_rfl) rfl (by kernel_rfl)) (d := 193) (v := (.pointer (some ⟨c30, 0, none⟩))) rfl (by kernel_rfl) ?_
        refine ZE (Zr 46 192 true rfl (by kernel_rfl) rfl (by kernel_rfl)) (fun K330 hK330 => ?_)
        refine ZC (d := 194) rfl (by kernel_rfl) (Z3r w326 c30 b21 g lc F 1 0 [qa, qc, q3] (H327.at 2 rfl) (H327.at 3 rfl) (Nat.le_of_ble_eq_true rfl) 1 qc rfl (by omega) (by decide) (ListAt.row (e := 5) (enc := Zi) (sz := 1) ZM (by decide) (H327.at 6 rfl)) (by rw [he.2.2.2]; decide) hdn 2 rfl) ?_
        rintro _ w331 ⟨rfl, u332⟩
        have H333 := H327.keepU u332
        refine ⟨_, rfl, ?_⟩
        refine hK330 _ _ ?_
        clear hK330 K330
        refine Z3 (Zr 46 192 true rfl (by kernel_rfl) rfl (by kernel_rfl)) (d := 195) (v := (.int .i64 (0))) rfl (by kernel_rfl) ?_
        refine Z3 (Zr 46 192 true rfl (by kernel_rfl) rfl (by kernel_rfl)) (d := 196) (v := (.bool true)) rfl (by kernel_rfl) ?_
        refine Z3 (Z1 rfl) (d := 197) (v := (.bool true)) rfl (by kernel_rfl) ?_
        refine Z3 (Z1 rfl) (d := 198) (v := (.bool true)) rfl (by kernel_rfl) ?_
        refine Z3 (Zr 52 198 true rfl (by kernel_rfl) rfl (by kernel_rfl)) (d := 199) (v := (.pointer (some ⟨c30, 0, none⟩))) rfl (by kernel_rfl) ?_
        refine ZE (Zr 52 198 true rfl (by kernel_rfl) rfl (by kernel_rfl)) (fun K334 hK334 => ?_)
        refine ZC (d := 200) rfl (by kernel_rfl) (Z3q w331 c30 b21 g lc F 1 0 [qa, qc, q3] (H333.at 2 rfl) (H333.at 3 rfl) (Nat.le_of_ble_eq_true rfl) 2 q3 rfl (by omega) (by decide) ⟨hq3.2.1, hq3.1, hq3.2.2⟩ 3 rfl) ?_
        rintro _ w335 ⟨a336, c337, D338, B339, rfl, n340, o341, k342, p343, q344⟩
        have H345 : Sat w [Zb w (fun _ => False), Z5 x7 27 ([(.int .i64 (F)), (.int .i64 (1))] : List Value), Z5 c30 112 ([(.int .i64 (F)), (.int .i64 (1)), (.int .i64 (0)), (.pointer (some ⟨b21, 0, none⟩)), (.slice (some ⟨g, 0, none⟩) 3 lc)] : List Value), Zd 119 79 (.slice (some ⟨g, 0, none⟩) 3 lc) 3 (([qa, qc, q3]).flatMap Zf), Zh qc.mp (Value.int .i64) Zu S, Zd 5 1 (.slice qa.pa qa.P.length qa.pc) qa.P.length (qa.P.flatMap Zi), Zd 5 1 (.slice qc.pa qc.P.length qc.pc) qc.P.length (qc.P.flatMap Zi), Zd 5 1 (.slice q3.pa q3.P.length q3.pc) q3.P.length (q3.P.flatMap Zi), ZF [Zd 82 295 (.slice a336 D338.length c337) D338.length (D338.flatMap ZZ), Z0P B339]] w335 := H333.addU p343 k342 q344
        have H346 : Sat w [Zb w (fun _ => False), Z5 x7 27 ([(.int .i64 (F)), (.int .i64 (1))] : List Value), Z5 c30 112 ([(.int .i64 (F)), (.int .i64 (1)), (.int .i64 (0)), (.pointer (some ⟨b21, 0, none⟩)), (.slice (some ⟨g, 0, none⟩) 3 lc)] : List Value), Zd 119 79 (.slice (some ⟨g, 0, none⟩) 3 lc) 3 (([qa, qc, q3]).flatMap Zf), Zh qc.mp (Value.int .i64) Zu S, Zd 5 1 (.slice qa.pa qa.P.length qa.pc) qa.P.length (qa.P.flatMap Zi), Zd 5 1 (.slice qc.pa qc.P.length qc.pc) qc.P.length (qc.P.flatMap Zi), Zd 5 1 (.slice q3.pa q3.P.length q3.pc) q3.P.length (q3.P.flatMap Zi), Zd 82 295 (.slice a336 D338.length c337) D338.length (D338.flatMap ZZ), Z0P B339] w335 := H345.open 8 rfl
        refine ⟨_, rfl, ?_⟩
        refine hK334 _ _ ?_
        clear hK334 K334
        refine Z3 (Zr 52 198 true rfl (by kernel_rfl) rfl (by kernel_rfl)) (d := 201) (v := (.int .i64 ((D338.length : Int)))) rfl (by kernel_rfl) ?_
        refine Z3 (Zr 52 198 true rfl (by kernel_rfl) rfl (by kernel_rfl)) (d := 202) (v := (.bool (decide ((D338.length : Int) > 0)))) rfl (by kernel_rfl) ?_
        refine Z3 (Z1 rfl) (d := 203) (v := (.bool (decide ((D338.length : Int) > 0)))) rfl (by kernel_rfl) ?_
        refine Z3 (Z1 rfl) (d := 204) (v := (.bool (decide ((D338.length : Int) > 0)))) rfl (by kernel_rfl) ?_
        have b347 : (decide ((D338.length : Int) > 0)) = true := by exact decide_eq_true (by omega)
        refine Z01 204 (.bool true) (congrArg Value.bool b347) ?_
        have g348 := of_decide_eq_true b347
        refine ZE (Zr 58 204 true rfl (by kernel_rfl) rfl (by kernel_rfl)) (fun K349 hK349 => ?_)
        refine ZC (d := 205) rfl (by kernel_rfl) (Z4d w335) ?_
        rintro _ w350 ⟨rfl, u352⟩
        have H351 := H346.keepU u352
        refine ⟨_, rfl, ?_⟩
        refine hK349 _ _ ?_
        clear hK349 K349
        refine Z3 (Z1 rfl) (d := 206) (v := (.bool true)) rfl (by kernel_rfl) ?_
        refine Z3 (Z1 rfl) (d := 6) (v := (.bool true)) rfl (by kernel_rfl) ?_
        refine Zm ?_
        refine Z7 ?_
        refine ZW ?_
        refine Z0J rfl (ZI (v := (.bool true)) rfl) ?_
        exact ⟨rfl, H351.upd 0 rfl [] (fun _ h => h.elim)⟩
end Go.Proofs.YtgigjkjdmalmaaaGreat
