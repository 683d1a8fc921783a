/- WHAT IS PROVED: contracts and plain laws of ClV. Conditions: stated with each. -/
import Derived.Test.YtgigjkjdmalmaaaGreatPA09
import Derived.Test.YtgigjkjdmalmaaaGreatPA25
set_option maxHeartbeats 4000000
set_option maxRecDepth 100000
namespace Go.Proofs.YtgigjkjdmalmaaaGreat
open Go.RowKit
theorem out_at {fr : Int} {m x : OmR} {B : List Ck} {D : List OmR} {i : Nat} (h : ∀ j, j < D.length → Z4N fr m B j (D.getD j om0)) (hx : D[i]? = some x) : Z4N fr m B i x := by
 have q := h i (List.getElem?_eq_some_iff.1 hx).1
 rw [List.getD_eq_getElem?_getD, hx] at q
 exact q
theorem Z4d (w : World) :
  Calls Tryz.prog 19 #[] w fun e w' => e = .returned (.bool true) ∧ Upd [] w w' := by
 have H := Sat.start0 w
 refine Zx Tryz.func19 rfl 48 rfl (Nat.le_of_ble_eq_true rfl) ?_
 refine Zg ?_
 refine Zn ?_
 refine Z3 (Z1 rfl) (d := 0) (v := (.bool false)) rfl (by kernel_rfl) ?_
 refine Zm ?_
 refine Z7 ?_
 refine Zg ?_
 refine Zn ?_
 refine ZE (Z1 rfl) (fun K1 hK1 => ?_)
 refine ZC (d := 6) rfl (by kernel_rfl) (Z4n w) ?_
 rintro _ w2 ⟨b3, m4, rfl, k5, p6, q7⟩
 have H8 : Sat w [Zb w (fun _ => False), ZF [Z5 b3 108 [.map (some m4)], Zh m4 Zc (Value.int .i64) (Zk [])]] w2 := H.addU p6 k5 q7
 have H9 : Sat w [Zb w (fun _ => False), Z5 b3 108 ([(.map (some m4))] : List Value), Zh m4 Zc (Value.int .i64) (Zk [])] w2 := H8.open 1 rfl
 refine ⟨_, rfl, ?_⟩
 refine hK1 _ _ ?_
 clear hK1 K1
 refine Z3 (Z1 rfl) (d := 1) (v := (.pointer (some ⟨b3, 0, none⟩))) rfl (by kernel_rfl) ?_
 refine Zm ?_
 refine Z7 ?_
 refine Zg ?_
 refine Zg ?_
 refine Zn ?_
 refine Z3 (Z1 rfl) (d := 7) (v := (.pointer (some ⟨b3, 0, none⟩))) rfl (by kernel_rfl) ?_
 refine Z3 (Z1 rfl) (d := 8) (v := (.bool false)) rfl (by kernel_rfl) ?_
 refine Zm ?_
 refine Z7 ?_
 refine ZY rfl ?_
 refine ZN ?_
 refine Z7 ?_
 refine Zg ?_
 refine Zn ?_
 refine Z3 (Z1 rfl) (d := 10) (v := (.agg ⟨([(.int .i64 (1)), (.int .i64 (1))] : List Value)⟩)) rfl (by kernel_rfl) ?_
 refine Z3 (Z1 rfl) (d := 11) (v := (.pointer (some ⟨b3, 0, none⟩))) rfl (by kernel_rfl) ?_
 refine ZE (Z1 rfl) (fun K10 hK10 => ?_)
 refine ZC (d := 12) rfl (by kernel_rfl) (Z3t w2 1 1 (0 : Int) b3 (by kernel_rfl) (by omega)) ?_
 rintro _ w11 ⟨c12, rfl, k13, p14, q15⟩
 have H16 : Sat w [Zb w (fun _ => False), Z5 b3 108 ([(.map (some m4))] : List Value), Zh m4 Zc (Value.int .i64) (Zk []), Z5 c12 112 ([(.int .i64 (1)), (.int .i64 (1)), (.int .i64 (0)), (.pointer (some ⟨b3, 0, none⟩)), (.slice none 0 0)] : List Value)] w11 := H9.addU p14 k13 q15
 refine ⟨_, rfl, ?_⟩
 refine hK10 _ _ ?_
 clear hK10 K10
 refine Z3 (Z1 rfl) (d := 9) (v := (.tuple #[(.pointer (some ⟨c12, 0, none⟩)), (.int .i64 (0))])) rfl (by kernel_rfl) ?_
 refine Z3 (Z1 rfl) (d := 13) (v := (.pointer (some ⟨c12, 0, none⟩))) rfl (by kernel_rfl) ?_
 refine Z3 (Z1 rfl) (d := 14) (v := (.int .i64 (0))) rfl (by kernel_rfl) ?_
 refine Z3 (Z1 rfl) (d := 2) (v := (.pointer (some ⟨c12, 0, none⟩))) rfl (by kernel_rfl) ?_
 refine Z3 (Z1 rfl) (d := 3) (v := (.int .i64 (0))) rfl (by kernel_rfl) ?_
 refine Zm ?_
 refine Z7 ?_
 refine Zg ?_
 refine Zg ?_
 refine Zn ?_
 refine Z3 (Z1 rfl) (d := 15) (v := (.int .i64 (0))) rfl (by kernel_rfl) ?_
 refine Z3 (Z1 rfl) (d := 16) (v := (.bool false)) rfl (by kernel_rfl) ?_
 refine Z3 (Z1 rfl) (d := 17) (v := (.bool false)) rfl (by kernel_rfl) ?_
 refine Z3 (Zr 2 17 false rfl (by kernel_rfl) rfl (by kernel_rfl)) (d := 18) (v := (.pointer (some ⟨c12, 0, none⟩))) rfl (by kernel_rfl) ?_
 refine Z3 (Zr 2 17 false rfl (by kernel_rfl) rfl (by kernel_rfl)) (d := 19) (v := (.bool false)) rfl (by kernel_rfl) ?_
 refine Z3 (Z1 rfl) (d := 20) (v := (.bool false)) rfl (by kernel_rfl) ?_
 refine Zm ?_
 refine Z7 ?_
 refine ZY rfl ?_
 refine ZN ?_
 refine Z7 ?_
 refine Zg ?_
 have H18 : Sat w [Zb w (fun _ => False), Z5 b3 108 ([(.map (some m4))] : List Value), Zh m4 Zc (Value.int .i64) (Zk []), Z5 c12 112 ([(.int .i64 (1)), (.int .i64 (1)), (.int .i64 (0)), (.pointer (some ⟨b3, 0, none⟩)), (.slice none (([] : List Zl).length) 0)] : List Value), Zd 119 79 (.slice none (([] : List Zl).length) 0) (([] : List Zl).length) (([] : List Zl).flatMap Zf)] w11 := H16.addNil 119 79
 refine Zn ?_
 refine Z3 (Z1 rfl) (d := 22) (v := (.pointer (some ⟨c12, 0, none⟩))) rfl (by kernel_rfl) ?_
 refine ZE (Z1 rfl) (fun K19 hK19 => ?_)
 refine ZP (e := 5) (size := 1) (bytes := 1) (z := (.int .u8 (0))) (pvs := [(0, (.int .u8 (97)))]) (vs := ([(.int .u8 (97))] : List Value)) rfl H18 (by kernel_rfl) (by kernel_rfl) (by kernel_rfl) (by kernel_rfl) (by kernel_rfl) rfl rfl ?_
 intro b20 w21 (H22 : Sat w [Zb w (fun _ => False), Z5 b3 108 ([(.map (some m4))] : List Value), Zh m4 Zc (Value.int .i64) (Zk []), Z5 c12 112 ([(.int .i64 (1)), (.int .i64 (1)), (.int .i64 (0)), (.pointer (some ⟨b3, 0, none⟩)), (.slice none (([] : List Zl).length) 0)] : List Value), Zd 119 79 (.slice none (([] : List Zl).length) 0) (([] : List Zl).length) (([] : List Zl).flatMap Zf), Zd 5 1 (.slice (some ⟨b20, 0, none⟩) 1 1) 1 ([(.int .u8 (97))] : List Value)] w21)
 have H23 : Sat w [Zb w (fun _ => False), Z5 b3 108 ([(.map (some m4))] : List Value), Zh m4 Zc (Value.int .i64) (Zk []), Z5 c12 112 ([(.int .i64 (1)), (.int .i64 (1)), (.int .i64 (0)), (.pointer (some ⟨b3, 0, none⟩)), (.slice none (([] : List Zl).length) 0)] : List Value), Zd 119 79 (.slice none (([] : List Zl).length) 0) (([] : List Zl).length) (([] : List Zl).flatMap Zf), Zd 5 1 (.slice (some ⟨b20, 0, none⟩) 1 1) 1 ([97].flatMap Zi)] w21 := H22.cast (by rw [(show (([(.int .u8 (97))] : List Value) : List Value) = ([97] : List UInt8).flatMap Zi by kernel_rfl)])
 refine hK19 _ _ ?_
 clear hK19 K19
 refine ZE (Z1 rfl) (fun K24 hK24 => ?_)
 refine Z0F (e := 5) (s := [97]) rfl H23 5 rfl (by kernel_rfl) (by kernel_rfl) rfl ?_
 intro w25 (H26 : Sat w [Zb w (fun _ => False), Z5 b3 108 ([(.map (some m4))] : List Value), Zh m4 Zc (Value.int .i64) (Zk []), Z5 c12 112 ([(.int .i64 (1)), (.int .i64 (1)), (.int .i64 (0)), (.pointer (some ⟨b3, 0, none⟩)), (.slice none (([] : List Zl).length) 0)] : List Value), Zd 119 79 (.slice none (([] : List Zl).length) 0) (([] : List Zl).length) (([] : List Zl).flatMap Zf), ZH (.slice (some ⟨b20, 0, none⟩) 1 1) ([97])] w25)
 refine hK24 _ _ ?_
 clear hK24 K24
 refine Z3 (Z1 rfl) (d := 25) (v := (.agg ⟨(hc Z8)⟩)) rfl (by kernel_rfl) ?_
 refine ZE (Z1 rfl) (fun K27 hK27 => ?_)
 refine ZC (d := 26) rfl (by kernel_rfl) (Z1b w25 c12 b3 m4 0 none 1 1 0 ([] : List Zl) ([]) (some ⟨b20, 0, none⟩) 1 ([97]) (H26.fin [3, 4, 1, 2, 5] (by decide) rfl) Z8 (by decide) (by decide) (by decide) (fun _ e_ => by cases e_; rfl) (by omega) (by omega)) ?_
 rintro _ w28 ⟨g29, c30, a31, c32, m33, m34, m35, m36, a37, c38, D39, B40, rfl, n41, o42, T43⟩
 have H44 : Sat w [Zb w (fun _ => False), Z5 b3 108 ([(.map (some m4))] : List Value), Zh m4 Zc (Value.int .i64) (Zk (Ze ([]) (⟨1000 + 0, Z2 (⟨0, ((([] : List Zl).length : Int) + 1), Z9 (ofT 0 ((([] : List Zl).length : Int) + 1) Z8 ([97])), ([97]).length, 0, 0⟩ : Z0)⟩ : Z4))), Z5 c12 112 ([(.int .i64 (1)), (.int .i64 (1)), (.int .i64 (0)), (.pointer (some ⟨b3, 0, none⟩)), (.slice (some ⟨g29, 0, none⟩) ((([] : List Zl) ++ [(⟨(⟨0, ((([] : List Zl).length : Int) + 1), Z9 (ofT 0 ((([] : List Zl).length : Int) + 1) Z8 ([97])), ([97]).length, 1000 + 0, Za (Ze ([]) (⟨1000 + 0, Z2 (⟨0, ((([] : List Zl).length : Int) + 1), Z9 (ofT 0 ((([] : List Zl).length : Int) + 1) Z8 ([97])), ([97]).length, 0, 0⟩ : Z0)⟩ : Z4)) (⟨1000 + 0, Z2 (⟨0, ((([] : List Zl).length : Int) + 1), Z9 (ofT 0 ((([] : List Zl).length : Int) + 1) Z8 ([97])), ([97]).length, 0, 0⟩ : Z0)⟩ : Z4)⟩ : Z0), a31, c32, ([97]), Z8, m33, none, m34, m35, false, 0, m36, false, []⟩ : Zl)]).length) c30)] : List Value), Zd 119 79 (.slice (some ⟨g29, 0, none⟩) ((([] : List Zl) ++ [(⟨(⟨0, ((([] : List Zl).length : Int) + 1), Z9 (ofT 0 ((([] : List Zl).length : Int) + 1) Z8 ([97])), ([97]).length, 1000 + 0, Za (Ze ([]) (⟨1000 + 0, Z2 (⟨0, ((([] : List Zl).length : Int) + 1), Z9 (ofT 0 ((([] : List Zl).length : Int) + 1) Z8 ([97])), ([97]).length, 0, 0⟩ : Z0)⟩ : Z4)) (⟨1000 + 0, Z2 (⟨0, ((([] : List Zl).length : Int) + 1), Z9 (ofT 0 ((([] : List Zl).length : Int) + 1) Z8 ([97])), ([97]).length, 0, 0⟩ : Z0)⟩ : Z4)⟩ : Z0), a31, c32, ([97]), Z8, m33, none, m34, m35, false, 0, m36, false, []⟩ : Zl)]).length) c30) ((([] : List Zl) ++ [(⟨(⟨0, ((([] : List Zl).length : Int) + 1), Z9 (ofT 0 ((([] : List Zl).length : Int) + 1) Z8 ([97])), ([97]).length, 1000 + 0, Za (Ze ([]) (⟨1000 + 0, Z2 (⟨0, ((([] : List Zl).length : Int) + 1), Z9 (ofT 0 ((([] : List Zl).length : Int) + 1) Z8 ([97])), ([97]).length, 0, 0⟩ : Z0)⟩ : Z4)) (⟨1000 + 0, Z2 (⟨0, ((([] : List Zl).length : Int) + 1), Z9 (ofT 0 ((([] : List Zl).length : Int) + 1) Z8 ([97])), ([97]).length, 0, 0⟩ : Z0)⟩ : Z4)⟩ : Z0), a31, c32, ([97]), Z8, m33, none, m34, m35, false, 0, m36, false, []⟩ : Zl)]).length) ((([] : List Zl) ++ [(⟨(⟨0, ((([] : List Zl).length : Int) + 1), Z9 (ofT 0 ((([] : List Zl).length : Int) + 1) Z8 ([97])), ([97]).length, 1000 + 0, Za (Ze ([]) (⟨1000 + 0, Z2 (⟨0, ((([] : List Zl).length : Int) + 1), Z9 (ofT 0 ((([] : List Zl).length : Int) + 1) Z8 ([97])), ([97]).length, 0, 0⟩ : Z0)⟩ : Z4)) (⟨1000 + 0, Z2 (⟨0, ((([] : List Zl).length : Int) + 1), Z9 (ofT 0 ((([] : List Zl).length : Int) + 1) Z8 ([97])), ([97]).length, 0, 0⟩ : Z0)⟩ : Z4)⟩ : Z0), a31, c32, ([97]), Z8, m33, none, m34, m35, false, 0, m36, false, []⟩ : Zl)]).flatMap Zf), ZH (.slice (some ⟨b20, 0, none⟩) 1 1) ([97]), Zh m33 (Value.int .i64) Z07 [], Zh m34 (Value.int .i64) Value.bool [], Zh m35 (Value.int .i64) rcV [], Zh m36 (Value.int .i64) Zu [], Zd 5 1 (.slice a31 (([97]).length) c32) (([97]).length) (([97]).flatMap Zi), Zd 82 295 (.slice a37 D39.length c38) D39.length (D39.flatMap ZZ), Z0P B40] w28 := (Sat.turnL (L' := [Z5 c12 112 ([(.int .i64 (1)), (.int .i64 (1)), (.int .i64 (0)), (.pointer (some ⟨b3, 0, none⟩)), (.slice (some ⟨g29, 0, none⟩) ((([] : List Zl) ++ [(⟨(⟨0, ((([] : List Zl).length : Int) + 1), Z9 (ofT 0 ((([] : List Zl).length : Int) + 1) Z8 ([97])), ([97]).length, 1000 + 0, Za (Ze ([]) (⟨1000 + 0, Z2 (⟨0, ((([] : List Zl).length : Int) + 1), Z9 (ofT 0 ((([] : List Zl).length : Int) + 1) Z8 ([97])), ([97]).length, 0, 0⟩ : Z0)⟩ : Z4)) (⟨1000 + 0, Z2 (⟨0, ((([] : List Zl).length : Int) + 1), Z9 (ofT 0 ((([] : List Zl).length : Int) + 1) Z8 ([97])), ([97]).length, 0, 0⟩ : Z0)⟩ : Z4)⟩ : Z0), a31, c32, ([97]), Z8, m33, none, m34, m35, false, 0, m36, false, []⟩ : Zl)]).length) c30)] : List Value), Zd 119 79 (.slice (some ⟨g29, 0, none⟩) ((([] : List Zl) ++ [(⟨(⟨0, ((([] : List Zl).length : Int) + 1), Z9 (ofT 0 ((([] : List Zl).length : Int) + 1) Z8 ([97])), ([97]).length, 1000 + 0, Za (Ze ([]) (⟨1000 + 0, Z2 (⟨0, ((([] : List Zl).length : Int) + 1), Z9 (ofT 0 ((([] : List Zl).length : Int) + 1) Z8 ([97])), ([97]).length, 0, 0⟩ : Z0)⟩ : Z4)) (⟨1000 + 0, Z2 (⟨0, ((([] : List Zl).length : Int) + 1), Z9 (ofT 0 ((([] : List Zl).length : Int) + 1) Z8 ([97])), ([97]).length, 0, 0⟩ : Z0)⟩ : Z4)⟩ : Z0), a31, c32, ([97]), Z8, m33, none, m34, m35, false, 0, m36, false, []⟩ : Zl)]).length) c30) ((([] : List Zl) ++ [(⟨(⟨0, ((([] : List Zl).length : Int) + 1), Z9 (ofT 0 ((([] : List Zl).length : Int) + 1) Z8 ([97])), ([97]).length, 1000 + 0, Za (Ze ([]) (⟨1000 + 0, Z2 (⟨0, ((([] : List Zl).length : Int) + 1), Z9 (ofT 0 ((([] : List Zl).length : Int) + 1) Z8 ([97])), ([97]).length, 0, 0⟩ : Z0)⟩ : Z4)) (⟨1000 + 0, Z2 (⟨0, ((([] : List Zl).length : Int) + 1), Z9 (ofT 0 ((([] : List Zl).length : Int) + 1) Z8 ([97])), ([97]).length, 0, 0⟩ : Z0)⟩ : Z4)⟩ : Z0), a31, c32, ([97]), Z8, m33, none, m34, m35, false, 0, m36, false, []⟩ : Zl)]).length) ((([] : List Zl) ++ [(⟨(⟨0, ((([] : List Zl).length : Int) + 1), Z9 (ofT 0 ((([] : List Zl).length : Int) + 1) Z8 ([97])), ([97]).length, 1000 + 0, Za (Ze ([]) (⟨1000 + 0, Z2 (⟨0, ((([] : List Zl).length : Int) + 1), Z9 (ofT 0 ((([] : List Zl).length : Int) + 1) Z8 ([97])), ([97]).length, 0, 0⟩ : Z0)⟩ : Z4)) (⟨1000 + 0, Z2 (⟨0, ((([] : List Zl).length : Int) + 1), Z9 (ofT 0 ((([] : List Zl).length : Int) + 1) Z8 ([97])), ([97]).length, 0, 0⟩ : Z0)⟩ : Z4)⟩ : Z0), a31, c32, ([97]), Z8, m33, none, m34, m35, false, 0, m36, false, []⟩ : Zl)]).flatMap Zf), Z5 b3 108 ([(.map (some m4))] : List Value), Zh m4 Zc (Value.int .i64) (Zk (Ze ([]) (⟨1000 + 0, Z2 (⟨0, ((([] : List Zl).length : Int) + 1), Z9 (ofT 0 ((([] : List Zl).length : Int) + 1) Z8 ([97])), ([97]).length, 0, 0⟩ : Z0)⟩ : Z4))), ZH (.slice (some ⟨b20, 0, none⟩) 1 1) ([97]), Zh m33 (Value.int .i64) Z07 [], Zh m34 (Value.int .i64) Value.bool [], Zh m35 (Value.int .i64) rcV [], Zh m36 (Value.int .i64) Zu [], Zd 5 1 (.slice a31 (([97]).length) c32) (([97]).length) (([97]).flatMap Zi), Zd 82 295 (.slice a37 D39.length c38) D39.length (D39.flatMap ZZ), Z0P B40]) (R := [Zb w (fun _ => False)]) H26 [3, 4, 1, 2, 5] [0] (by decide) (by kernel_rfl) rfl T43).pick [12, 2, 3, 0, 1, 4, 5, 6, 7, 8, 9, 10, 11] (by decide)
 refine ⟨_, rfl, ?_⟩
 refine hK27 _ _ ?_
 clear hK27 K27
 refine Z3 (Z1 rfl) (d := 21) (v := (.tuple #[(.slice a37 D39.length c38), (.int .i64 (0))])) rfl (by kernel_rfl) ?_
 refine Z3 (Z1 rfl) (d := 27) (v := (.slice a37 D39.length c38)) rfl (by kernel_rfl) ?_
 refine Z3 (Z1 rfl) (d := 28) (v := (.int .i64 (0))) rfl (by kernel_rfl) ?_
 refine Z3 (Z1 rfl) (d := 4) (v := (.slice a37 D39.length c38)) rfl (by kernel_rfl) ?_
 refine Z3 (Z1 rfl) (d := 5) (v := (.int .i64 (0))) rfl (by kernel_rfl) ?_
 refine Zm ?_
 refine Z7 ?_
 refine Zg ?_
 refine Zn ?_
 refine Z3 (Z1 rfl) (d := 29) (v := (.int .i64 (0))) rfl (by kernel_rfl) ?_
 refine Z3 (Z1 rfl) (d := 30) (v := (.bool true)) rfl (by kernel_rfl) ?_
 refine Z3 (Z1 rfl) (d := 31) (v := (.bool true)) rfl (by kernel_rfl) ?_
 refine Z3 (Zr 2 31 true rfl (by kernel_rfl) rfl (by kernel_rfl)) (d := 32) (v := (.slice a37 D39.length c38)) rfl (by kernel_rfl) ?_
 refine Z3 (Zr 2 31 true rfl (by kernel_rfl) rfl (by kernel_rfl)) (d := 33) (v := (.int .i64 ((D39.length : Int)))) rfl (by kernel_rfl) ?_
 refine Z3 (Zr 2 31 true rfl (by kernel_rfl) rfl (by kernel_rfl)) (d := 34) (v := (.bool (decide ((D39.length : Int) = 4)))) rfl (by kernel_rfl) ?_
 refine Z3 (Z1 rfl) (d := 35) (v := (.bool (decide ((D39.length : Int) = 4)))) rfl (by kernel_rfl) ?_
 refine Z3 (Z1 rfl) (d := 36) (v := (.bool (decide ((D39.length : Int) = 4)))) rfl (by kernel_rfl) ?_
 have b45 : (decide ((D39.length : Int) = 4)) = true := by exact decide_eq_true (by omega)
 refine Z01 36 (.bool true) (congrArg Value.bool b45) ?_
 have g46 := of_decide_eq_true b45
 refine Z3 (Zr 7 36 true rfl (by kernel_rfl) rfl (by kernel_rfl)) (d := 37) (v := (.slice a37 D39.length c38)) rfl (by kernel_rfl) ?_
 obtain ⟨g47, c48, e49⟩ := Z1h (H44.at 11 rfl) (by omega)
 obtain ⟨x50, h51⟩ := Z6n (show 0 < D39.length by omega)
 refine Z3 (Zr 7 36 true rfl (by kernel_rfl) rfl (by kernel_rfl)) (d := 38) (v := (.pointer (some ⟨g47, 0 + ((0 : Int)).toNat * 295, none⟩))) rfl (Z2f (E := 82) (by kernel_rfl) (by kernel_rfl) (Nat.le_of_ble_eq_true rfl) rfl e49 rfl (by omega) (by omega)) ?_
 refine Z3 (Zr 7 36 true rfl (by kernel_rfl) rfl (by kernel_rfl)) (d := 39) (v := (.pointer (some ⟨g47, 0 + ((0 : Int)).toNat * 295, none⟩))) rfl (by kernel_rfl) ?_
 refine Z3 (Zr 7 36 true rfl (by kernel_rfl) rfl (by kernel_rfl)) (d := 40) (v := (.int .i64 (x50.k))) rfl (Zj rfl (by kernel_rfl) (Z00 (H44.at 11 rfl) e49 Z4X h51 0 rfl (show 0 + ((0 : Int)).toNat * 295 = 0 * 295 + 0 by omega) (by kernel_rfl))) ?_
 refine Z3 (Zr 7 36 true rfl (by kernel_rfl) rfl (by kernel_rfl)) (d := 41) (v := (.bool (decide (x50.k = 1)))) rfl (by kernel_rfl) ?_
 refine Z3 (Z1 rfl) (d := 42) (v := (.bool (decide (x50.k = 1)))) rfl (by kernel_rfl) ?_
 refine Z3 (Z1 rfl) (d := 43) (v := (.bool (decide (x50.k = 1)))) rfl (by kernel_rfl) ?_
 have b52 : (decide (x50.k = 1)) = true := by exact decide_eq_true (out_at o42 h51).k
 refine Z01 43 (.bool true) (congrArg Value.bool b52) ?_
 have g53 := of_decide_eq_true b52
 refine Z3 (Zr 14 43 true rfl (by kernel_rfl) rfl (by kernel_rfl)) (d := 44) (v := (.pointer (some ⟨c12, 0, none⟩))) rfl (by kernel_rfl) ?_
 refine ZE (Zr 14 43 true rfl (by kernel_rfl) rfl (by kernel_rfl)) (fun K54 hK54 => ?_)
 refine ZC (d := 45) rfl (by kernel_rfl) (Z1z w28 c12 b3 c30 (some ⟨g29, 0, none⟩) 1 1 0 ([] ++ [(⟨(⟨0, ((([] : List Zl).length : Int) + 1), Z9 (ofT 0 ((([] : List Zl).length : Int) + 1) Z8 ([97])), ([97]).length, 1000 + 0, Za (Ze ([]) (⟨1000 + 0, Z2 (⟨0, ((([] : List Zl).length : Int) + 1), Z9 (ofT 0 ((([] : List Zl).length : Int) + 1) Z8 ([97])), ([97]).length, 0, 0⟩ : Z0)⟩ : Z4)) (⟨1000 + 0, Z2 (⟨0, ((([] : List Zl).length : Int) + 1), Z9 (ofT 0 ((([] : List Zl).length : Int) + 1) Z8 ([97])), ([97]).length, 0, 0⟩ : Z0)⟩ : Z4)⟩ : Z0), a31, c32, ([97]), Z8, m33, none, m34, m35, false, 0, m36, false, []⟩ : Zl)]) (H44.at 3 rfl)) ?_
 rintro _ w55 ⟨rfl, u57⟩
 have H56 := H44.keepU u57
 refine ⟨_, rfl, ?_⟩
 refine hK54 _ _ ?_
 clear hK54 K54
 refine Z3 (Zr 14 43 true rfl (by kernel_rfl) rfl (by kernel_rfl)) (d := 46) (v := (.bool true)) rfl (by kernel_rfl) ?_
 refine Z3 (Z1 rfl) (d := 47) (v := (.bool true)) rfl (by kernel_rfl) ?_
 refine Z3 (Z1 rfl) (d := 0) (v := (.bool true)) rfl (by kernel_rfl) ?_
 refine Zm ?_
 refine Z7 ?_
 refine ZW ?_
 refine Z0J rfl (ZI (v := (.bool true)) rfl) ?_
 exact ⟨rfl, H56.upd 0 rfl [] (fun _ h => h.elim)⟩
end Go.Proofs.YtgigjkjdmalmaaaGreat
