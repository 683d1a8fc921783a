/- WHAT IS PROVED: contracts and plain laws of ClV. Conditions: stated with each. -/
import Derived.Test.YtgigjkjdmalmaaaGreatPC09
import Derived.Test.YtgigjkjdmalmaaaGreatPC24
set_option maxHeartbeats 4000000
set_option maxRecDepth 100000
namespace Go.Proofs.YtgigjkjdmalmaaaGreat
open Go.RowKit
theorem Z4D {fr : Int} {m x : OmR} {B : List Ck} {D : List OmR} {i : Nat} (h : ∀ j, j < D.length → Z5B fr m B j (D.getD j om0)) (hx : D[i]? = some x) : Z5B fr m B i x := by
 have q := h i (List.getElem?_eq_some_iff.1 hx).1
 rw [List.getD_eq_getElem?_getD, hx] at q
 exact q
theorem Z3o (w : World) :
  Calls Tryz.prog 19 #[] w fun e w' => e = .returned (.bool true) ∧ Upd [] w w' := by
 have H := Sat.start0 w
 refine Zv Tryz.func19 rfl 48 rfl (Nat.le_of_ble_eq_true rfl) ?_
 refine Zh ?_
 refine Zs ?_
 refine Z5 (Z2 rfl) (d := 0) (v := (.bool false)) rfl (by kernel_rfl) ?_
 refine Zr ?_
 refine Z7 ?_
 refine Zh ?_
 refine Zs ?_
 refine ZQ (Z2 rfl) (fun K1 hK1 => ?_)
 refine ZJ (d := 6) rfl (by kernel_rfl) (Z5p w) ?_
 rintro _ w2 ⟨b3, m4, rfl, k5, p6, q7⟩
 have H8 : Sat w [Za w (fun _ => False), ZP [Z3 b3 108 [.map (some m4)], Zn m4 Zc (Value.int .i64) (Zk [])]] w2 := H.addU p6 k5 q7
 have H9 : Sat w [Za w (fun _ => False), Z3 b3 108 ([(.map (some m4))] : List Value), Zn m4 Zc (Value.int .i64) (Zk [])] w2 := H8.open 1 rfl
 refine ⟨_, rfl, ?_⟩
 refine hK1 _ _ ?_
 clear hK1 K1
 refine Z5 (Z2 rfl) (d := 1) (v := (.pointer (some ⟨b3, 0, none⟩))) rfl (by kernel_rfl) ?_
 refine Zr ?_
 refine Z7 ?_
 refine Zh ?_
 refine Zh ?_
 refine Zs ?_
 refine Z5 (Z2 rfl) (d := 7) (v := (.pointer (some ⟨b3, 0, none⟩))) rfl (by kernel_rfl) ?_
 refine Z5 (Z2 rfl) (d := 8) (v := (.bool false)) rfl (by kernel_rfl) ?_
 refine Zr ?_
 refine Z7 ?_
 refine Z0o rfl ?_
 refine ZW ?_
 refine Z7 ?_
 refine Zh ?_
 refine Zs ?_
 refine Z5 (Z2 rfl) (d := 10) (v := (.agg ⟨([(.int .i64 (1)), (.int .i64 (1))] : List Value)⟩)) rfl (by kernel_rfl) ?_
 refine Z5 (Z2 rfl) (d := 11) (v := (.pointer (some ⟨b3, 0, none⟩))) rfl (by kernel_rfl) ?_
 refine ZQ (Z2 rfl) (fun K10 hK10 => ?_)
 refine ZJ (d := 12) rfl (by kernel_rfl) (Z4l w2 1 1 (0 : Int) b3 (by kernel_rfl) (by omega)) ?_
 rintro _ w11 ⟨c12, rfl, k13, p14, q15⟩
 have H16 : Sat w [Za w (fun _ => False), Z3 b3 108 ([(.map (some m4))] : List Value), Zn m4 Zc (Value.int .i64) (Zk []), Z3 c12 112 ([(.int .i64 (1)), (.int .i64 (1)), (.int .i64 (0)), (.pointer (some ⟨b3, 0, none⟩)), (.slice none 0 0)] : List Value)] w11 := H9.addU p14 k13 q15
 refine ⟨_, rfl, ?_⟩
 refine hK10 _ _ ?_
 clear hK10 K10
 refine Z5 (Z2 rfl) (d := 9) (v := (.tuple #[(.pointer (some ⟨c12, 0, none⟩)), (.int .i64 (0))])) rfl (by kernel_rfl) ?_
 refine Z5 (Z2 rfl) (d := 13) (v := (.pointer (some ⟨c12, 0, none⟩))) rfl (by kernel_rfl) ?_
 refine Z5 (Z2 rfl) (d := 14) (v := (.int .i64 (0))) rfl (by kernel_rfl) ?_
 refine Z5 (Z2 rfl) (d := 2) (v := (.pointer (some ⟨c12, 0, none⟩))) rfl (by kernel_rfl) ?_
 refine Z5 (Z2 rfl) (d := 3) (v := (.int .i64 (0))) rfl (by kernel_rfl) ?_
 refine Zr ?_
 refine Z7 ?_
 refine Zh ?_
 refine Zh ?_
 refine Zs ?_
 refine Z5 (Z2 rfl) (d := 15) (v := (.int .i64 (0))) rfl (by kernel_rfl) ?_
 refine Z5 (Z2 rfl) (d := 16) (v := (.bool false)) rfl (by kernel_rfl) ?_
 refine Z5 (Z2 rfl) (d := 17) (v := (.bool false)) rfl (by kernel_rfl) ?_
 refine Z5 (Zw 2 17 false rfl (by kernel_rfl) rfl (by kernel_rfl)) (d := 18) (v := (.pointer (some ⟨c12, 0, none⟩))) rfl (by kernel_rfl) ?_
 refine Z5 (Zw 2 17 false rfl (by kernel_rfl) rfl (by kernel_rfl)) (d := 19) (v := (.bool false)) rfl (by kernel_rfl) ?_
 refine Z5 (Z2 rfl) (d := 20) (v := (.bool false)) rfl (by kernel_rfl) ?_
 refine Zr ?_
 refine Z7 ?_
 refine Z0o rfl ?_
 refine ZW ?_
 refine Z7 ?_
 refine Zh ?_
 have H18 : Sat w [Za w (fun _ => False), Z3 b3 108 ([(.map (some m4))] : List Value), Zn m4 Zc (Value.int .i64) (Zk []), Z3 c12 112 ([(.int .i64 (1)), (.int .i64 (1)), (.int .i64 (0)), (.pointer (some ⟨b3, 0, none⟩)), (.slice none (([] : List Zq).length) 0)] : List Value), Ze 119 79 (.slice none (([] : List Zq).length) 0) (([] : List Zq).length) (([] : List Zq).flatMap Zm)] w11 := H16.addNil 119 79
 refine Zs ?_
 refine Z5 (Z2 rfl) (d := 22) (v := (.pointer (some ⟨c12, 0, none⟩))) rfl (by kernel_rfl) ?_
 refine ZQ (Z2 rfl) (fun K19 hK19 => ?_)
 refine ZY (e := 5) (size := 1) (bytes := 1) (z := (.int .u8 (0))) (pvs := [(0, (.int .u8 (97)))]) (vs := ([(.int .u8 (97))] : List Value)) rfl H18 (by kernel_rfl) (by kernel_rfl) (by kernel_rfl) (by kernel_rfl) (by kernel_rfl) rfl rfl ?_
 intro b20 w21 (H22 : Sat w [Za w (fun _ => False), Z3 b3 108 ([(.map (some m4))] : List Value), Zn m4 Zc (Value.int .i64) (Zk []), Z3 c12 112 ([(.int .i64 (1)), (.int .i64 (1)), (.int .i64 (0)), (.pointer (some ⟨b3, 0, none⟩)), (.slice none (([] : List Zq).length) 0)] : List Value), Ze 119 79 (.slice none (([] : List Zq).length) 0) (([] : List Zq).length) (([] : List Zq).flatMap Zm), Ze 5 1 (.slice (some ⟨b20, 0, none⟩) 1 1) 1 ([(.int .u8 (97))] : List Value)] w21)
 have H23 : Sat w [Za w (fun _ => False), Z3 b3 108 ([(.map (some m4))] : List Value), Zn m4 Zc (Value.int .i64) (Zk []), Z3 c12 112 ([(.int .i64 (1)), (.int .i64 (1)), (.int .i64 (0)), (.pointer (some ⟨b3, 0, none⟩)), (.slice none (([] : List Zq).length) 0)] : List Value), Ze 119 79 (.slice none (([] : List Zq).length) 0) (([] : List Zq).length) (([] : List Zq).flatMap Zm), Ze 5 1 (.slice (some ⟨b20, 0, none⟩) 1 1) 1 ([97].flatMap Zo)] w21 := H22.cast (by rw [(show (([(.int .u8 (97))] : List Value) : List Value) = ([97] : List UInt8).flatMap Zo by kernel_rfl)])
 refine hK19 _ _ ?_
 clear hK19 K19
 refine ZQ (Z2 rfl) (fun K24 hK24 => ?_)
 refine Z0E (e := 5) (s := [97]) rfl H23 5 rfl (by kernel_rfl) (by kernel_rfl) rfl ?_
 intro w25 (H26 : Sat w [Za w (fun _ => False), Z3 b3 108 ([(.map (some m4))] : List Value), Zn m4 Zc (Value.int .i64) (Zk []), Z3 c12 112 ([(.int .i64 (1)), (.int .i64 (1)), (.int .i64 (0)), (.pointer (some ⟨b3, 0, none⟩)), (.slice none (([] : List Zq).length) 0)] : List Value), Ze 119 79 (.slice none (([] : List Zq).length) 0) (([] : List Zq).length) (([] : List Zq).flatMap Zm), ZN (.slice (some ⟨b20, 0, none⟩) 1 1) ([97])] w25)
 refine hK24 _ _ ?_
 clear hK24 K24
 refine Z5 (Z2 rfl) (d := 25) (v := (.agg ⟨(hc Zb)⟩)) rfl (by kernel_rfl) ?_
 refine ZQ (Z2 rfl) (fun K27 hK27 => ?_)
 refine ZJ (d := 26) rfl (by kernel_rfl) (Z2M w25 c12 b3 m4 0 none 1 1 0 ([] : List Zq) ([]) (some ⟨b20, 0, none⟩) 1 ([97]) (H26.fin [3, 4, 1, 2, 5] (by decide) rfl) Zb (by decide) (by decide) (by decide) (fun _ e_ => by cases e_; rfl) (by omega) (by omega)) ?_
 rintro _ w28 ⟨g29, c30, a31, c32, m33, m34, m35, m36, a37, c38, D39, B40, rfl, n41, o42, T43⟩
 have H44 : Sat w [Za w (fun _ => False), Z3 b3 108 ([(.map (some m4))] : List Value), Zn m4 Zc (Value.int .i64) (Zk (Zd ([]) (⟨1000 + 0, Z1 (⟨0, ((([] : List Zq).length : Int) + 1), Z8 (ofT 0 ((([] : List Zq).length : Int) + 1) Zb ([97])), ([97]).length, 0, 0⟩ : Z0)⟩ : Z4))), Z3 c12 112 ([(.int .i64 (1)), (.int .i64 (1)), (.int .i64 (0)), (.pointer (some ⟨b3, 0, none⟩)), (.slice (some ⟨g29, 0, none⟩) ((([] : List Zq) ++ [(⟨(⟨0, ((([] : List Zq).length : Int) + 1), Z8 (ofT 0 ((([] : List Zq).length : Int) + 1) Zb ([97])), ([97]).length, 1000 + 0, Z9 (Zd ([]) (⟨1000 + 0, Z1 (⟨0, ((([] : List Zq).length : Int) + 1), Z8 (ofT 0 ((([] : List Zq).length : Int) + 1) Zb ([97])), ([97]).length, 0, 0⟩ : Z0)⟩ : Z4)) (⟨1000 + 0, Z1 (⟨0, ((([] : List Zq).length : Int) + 1), Z8 (ofT 0 ((([] : List Zq).length : Int) + 1) Zb ([97])), ([97]).length, 0, 0⟩ : Z0)⟩ : Z4)⟩ : Z0), a31, c32, ([97]), Zb, m33, none, m34, m35, false, 0, m36, false, []⟩ : Zq)]).length) c30)] : List Value), Ze 119 79 (.slice (some ⟨g29, 0, none⟩) ((([] : List Zq) ++ [(⟨(⟨0, ((([] : List Zq).length : Int) + 1), Z8 (ofT 0 ((([] : List Zq).length : Int) + 1) Zb ([97])), ([97]).length, 1000 + 0, Z9 (Zd ([]) (⟨1000 + 0, Z1 (⟨0, ((([] : List Zq).length : Int) + 1), Z8 (ofT 0 ((([] : List Zq).length : Int) + 1) Zb ([97])), ([97]).length, 0, 0⟩ : Z0)⟩ : Z4)) (⟨1000 + 0, Z1 (⟨0, ((([] : List Zq).length : Int) + 1), Z8 (ofT 0 ((([] : List Zq).length : Int) + 1) Zb ([97])), ([97]).length, 0, 0⟩ : Z0)⟩ : Z4)⟩ : Z0), a31, c32, ([97]), Zb, m33, none, m34, m35, false, 0, m36, false, []⟩ : Zq)]).length) c30) ((([] : List Zq) ++ [(⟨(⟨0, ((([] : List Zq).length : Int) + 1), Z8 (ofT 0 ((([] : List Zq).length : Int) + 1) Zb ([97])), ([97]).length, 1000 + 0, Z9 (Zd ([]) (⟨1000 + 0, Z1 (⟨0, ((([] : List Zq).length : Int) + 1), Z8 (ofT 0 ((([] : List Zq).length : Int) + 1) Zb ([97])), ([97]).length, 0, 0⟩ : Z0)⟩ : Z4)) (⟨1000 + 0, Z1 (⟨0, ((([] : List Zq).length : Int) + 1), Z8 (ofT 0 ((([] : List Zq).length : Int) + 1) Zb ([97])), ([97]).length, 0, 0⟩ : Z0)⟩ : Z4)⟩ : Z0), a31, c32, ([97]), Zb, m33, none, m34, m35, false, 0, m36, false, []⟩ : Zq)]).length) ((([] : List Zq) ++ [(⟨(⟨0, ((([] : List Zq).length : Int) + 1), Z8 (ofT 0 ((([] : List Zq).length : Int) + 1) Zb ([97])), ([97]).length, 1000 + 0, Z9 (Zd ([]) (⟨1000 + 0, Z1 (⟨0, ((([] : List Zq).length : Int) + 1), Z8 (ofT 0 ((([] : List Zq).length : Int) + 1) Zb ([97])), ([97]).length, 0, 0⟩ : Z0)⟩ : Z4)) (⟨1000 + 0, Z1 (⟨0, ((([] : List Zq).length : Int) + 1), Z8 (ofT 0 ((([] : List Zq).length : Int) + 1) Zb ([97])), ([97]).length, 0, 0⟩ : Z0)⟩ : Z4)⟩ : Z0), a31, c32, ([97]), Zb, m33, none, m34, m35, false, 0, m36, false, []⟩ : Zq)]).flatMap Zm), ZN (.slice (some ⟨b20, 0, none⟩) 1 1) ([97]), Zn m33 (Value.int .i64) ZO [], Zn m34 (Value.int .i64) Value.bool [], Zn m35 (Value.int .i64) rcV [], Zn m36 (Value.int .i64) ZX [], Ze 5 1 (.slice a31 (([97]).length) c32) (([97]).length) (([97]).flatMap Zo), Ze 82 295 (.slice a37 D39.length c38) D39.length (D39.flatMap Z0b), Z0u B40] w28 := (Sat.turnL (L' := [Z3 c12 112 ([(.int .i64 (1)), (.int .i64 (1)), (.int .i64 (0)), (.pointer (some ⟨b3, 0, none⟩)), (.slice (some ⟨g29, 0, none⟩) ((([] : List Zq) ++ [(⟨(⟨0, ((([] : List Zq).length : Int) + 1), Z8 (ofT 0 ((([] : List Zq).length : Int) + 1) Zb ([97])), ([97]).length, 1000 + 0, Z9 (Zd ([]) (⟨1000 + 0, Z1 (⟨0, ((([] : List Zq).length : Int) + 1), Z8 (ofT 0 ((([] : List Zq).length : Int) + 1) Zb ([97])), ([97]).length, 0, 0⟩ : Z0)⟩ : Z4)) (⟨1000 + 0, Z1 (⟨0, ((([] : List Zq).length : Int) + 1), Z8 (ofT 0 ((([] : List Zq).length : Int) + 1) Zb ([97])), ([97]).length, 0, 0⟩ : Z0)⟩ : Z4)⟩ : Z0), a31, c32, ([97]), Zb, m33, none, m34, m35, false, 0, m36, false, []⟩ : Zq)]).length) c30)] : List Value), Ze 119 79 (.slice (some ⟨g29, 0, none⟩) ((([] : List Zq) ++ [(⟨(⟨0, ((([] : List Zq).length : Int) + 1), Z8 (ofT 0 ((([] : List Zq).length : Int) + 1) Zb ([97])), ([97]).length, 1000 + 0, Z9 (Zd ([]) (⟨1000 + 0, Z1 (⟨0, ((([] : List Zq).length : Int) + 1), Z8 (ofT 0 ((([] : List Zq).length : Int) + 1) Zb ([97])), ([97]).length, 0, 0⟩ : Z0)⟩ : Z4)) (⟨1000 + 0, Z1 (⟨0, ((([] : List Zq).length : Int) + 1), Z8 (ofT 0 ((([] : List Zq).length : Int) + 1) Zb ([97])), ([97]).length, 0, 0⟩ : Z0)⟩ : Z4)⟩ : Z0), a31, c32, ([97]), Zb, m33, none, m34, m35, false, 0, m36, false, []⟩ : Zq)]).length) c30) ((([] : List Zq) ++ [(⟨(⟨0, ((([] : List Zq).length : Int) + 1), Z8 (ofT 0 ((([] : List Zq).length : Int) + 1) Zb ([97])), ([97]).length, 1000 + 0, Z9 (Zd ([]) (⟨1000 + 0, Z1 (⟨0, ((([] : List Zq).length : Int) + 1), Z8 (ofT 0 ((([] : List Zq).length : Int) + 1) Zb ([97])), ([97]).length, 0, 0⟩ : Z0)⟩ : Z4)) (⟨1000 + 0, Z1 (⟨0, ((([] : List Zq).length : Int) + 1), Z8 (ofT 0 ((([] : List Zq).length : Int) + 1) Zb ([97])), ([97]).length, 0, 0⟩ : Z0)⟩ : Z4)⟩ : Z0), a31, c32, ([97]), Zb, m33, none, m34, m35, false, 0, m36, false, []⟩ : Zq)]).length) ((([] : List Zq) ++ [(⟨(⟨0, ((([] : List Zq).length : Int) + 1), Z8 (ofT 0 ((([] : List Zq).length : Int) + 1) Zb ([97])), ([97]).length, 1000 + 0, Z9 (Zd ([]) (⟨1000 + 0, Z1 (⟨0, ((([] : List Zq).length : Int) + 1), Z8 (ofT 0 ((([] : List Zq).length : Int) + 1) Zb ([97])), ([97]).length, 0, 0⟩ : Z0)⟩ : Z4)) (⟨1000 + 0, Z1 (⟨0, ((([] : List Zq).length : Int) + 1), Z8 (ofT 0 ((([] : List Zq).length : Int) + 1) Zb ([97])), ([97]).length, 0, 0⟩ : Z0)⟩ : Z4)⟩ : Z0), a31, c32, ([97]), Zb, m33, none, m34, m35, false, 0, m36, false, []⟩ : Zq)]).flatMap Zm), Z3 b3 108 ([(.map (some m4))] : List Value), Zn m4 Zc (Value.int .i64) (Zk (Zd ([]) (⟨1000 + 0, Z1 (⟨0, ((([] : List Zq).length : Int) + 1), Z8 (ofT 0 ((([] : List Zq).length : Int) + 1) Zb ([97])), ([97]).length, 0, 0⟩ : Z0)⟩ : Z4))), ZN (.slice (some ⟨b20, 0, none⟩) 1 1) ([97]), Zn m33 (Value.int .i64) ZO [], Zn m34 (Value.int .i64) Value.bool [], Zn m35 (Value.int .i64) rcV [], Zn m36 (Value.int .i64) ZX [], Ze 5 1 (.slice a31 (([97]).length) c32) (([97]).length) (([97]).flatMap Zo), Ze 82 295 (.slice a37 D39.length c38) D39.length (D39.flatMap Z0b), Z0u B40]) (R := [Za w (fun _ => False)]) H26 [3, 4, 1, 2, 5] [0] (by decide) (by kernel_rfl) rfl T43).pick [12, 2, 3, 0, 1, 4, 5, 6, 7, 8, 9, 10, 11] (by decide)
 refine ⟨_, rfl, ?_⟩
 refine hK27 _ _ ?_
 clear hK27 K27
 refine Z5 (Z2 rfl) (d := 21) (v := (.tuple #[(.slice a37 D39.length c38), (.int .i64 (0))])) rfl (by kernel_rfl) ?_
 refine Z5 (Z2 rfl) (d := 27) (v := (.slice a37 D39.length c38)) rfl (by kernel_rfl) ?_
 refine Z5 (Z2 rfl) (d := 28) (v := (.int .i64 (0))) rfl (by kernel_rfl) ?_
 refine Z5 (Z2 rfl) (d := 4) (v := (.slice a37 D39.length c38)) rfl (by kernel_rfl) ?_
 refine Z5 (Z2 rfl) (d := 5) (v := (.int .i64 (0))) rfl (by kernel_rfl) ?_
 refine Zr ?_
 refine Z7 ?_
 refine Zh ?_
 refine Zs ?_
 refine Z5 (Z2 rfl) (d := 29) (v := (.int .i64 (0))) rfl (by kernel_rfl) ?_
 refine Z5 (Z2 rfl) (d := 30) (v := (.bool true)) rfl (by kernel_rfl) ?_
 refine Z5 (Z2 rfl) (d := 31) (v := (.bool true)) rfl (by kernel_rfl) ?_
 refine Z5 (Zw 2 31 true rfl (by kernel_rfl) rfl (by kernel_rfl)) (d := 32) (v := (.slice a37 D39.length c38)) rfl (by kernel_rfl) ?_
 refine Z5 (Zw 2 31 true rfl (by kernel_rfl) rfl (by kernel_rfl)) (d := 33) (v := (.int .i64 ((D39.length : Int)))) rfl (by kernel_rfl) ?_
 refine Z5 (Zw 2 31 true rfl (by kernel_rfl) rfl (by kernel_rfl)) (d := 34) (v := (.bool (decide ((D39.length : Int) = 4)))) rfl (by kernel_rfl) ?_
 refine Z5 (Z2 rfl) (d := 35) (v := (.bool (decide ((D39.length : Int) = 4)))) rfl (by kernel_rfl) ?_
 refine Z5 (Z2 rfl) (d := 36) (v := (.bool (decide ((D39.length : Int) = 4)))) rfl (by kernel_rfl) ?_
 have b45 : (decide ((D39.length : Int) = 4)) = true := by exact decide_eq_true (by omega)
 refine Z05 36 (.bool true) (congrArg Value.bool b45) ?_
 have g46 := of_decide_eq_true b45
 refine Z5 (Zw 7 36 true rfl (by kernel_rfl) rfl (by kernel_rfl)) (d := 37) (v := (.slice a37 D39.length c38)) rfl (by kernel_rfl) ?_
 obtain ⟨g47, c48, e49⟩ := Z0R (H44.at 11 rfl) (by omega)
 obtain ⟨x50, h51⟩ := Z3C (show 0 < D39.length by omega)
 refine Z5 (Zw 7 36 true rfl (by kernel_rfl) rfl (by kernel_rfl)) (d := 38) (v := (.pointer (some ⟨g47, 0 + ((0 : Int)).toNat * 295, none⟩))) rfl (Z0O (E := 82) (by kernel_rfl) (by kernel_rfl) (Nat.le_of_ble_eq_true rfl) rfl e49 rfl (by omega) (by omega)) ?_
 refine Z5 (Zw 7 36 true rfl (by kernel_rfl) rfl (by kernel_rfl)) (d := 39) (v := (.pointer (some ⟨g47, 0 + ((0 : Int)).toNat * 295, none⟩))) rfl (by kernel_rfl) ?_
 refine Z5 (Zw 7 36 true rfl (by kernel_rfl) rfl (by kernel_rfl)) (d := 40) (v := (.int .i64 (x50.k))) rfl (Zi rfl (by kernel_rfl) (Z0y (H44.at 11 rfl) e49 Z1N h51 0 rfl (show 0 + ((0 : Int)).toNat * 295 = 0 * 295 + 0 by omega) (by kernel_rfl))) ?_
 refine Z5 (Zw 7 36 true rfl (by kernel_rfl) rfl (by kernel_rfl)) (d := 41) (v := (.bool (decide (x50.k = 1)))) rfl (by kernel_rfl) ?_
 refine Z5 (Z2 rfl) (d := 42) (v := (.bool (decide (x50.k = 1)))) rfl (by kernel_rfl) ?_
 refine Z5 (Z2 rfl) (d := 43) (v := (.bool (decide (x50.k = 1)))) rfl (by kernel_rfl) ?_
 have b52 : (decide (x50.k = 1)) = true := by exact decide_eq_true (Z4D o42 h51).k
 refine Z05 43 (.bool true) (congrArg Value.bool b52) ?_
 have g53 := of_decide_eq_true b52
 refine Z5 (Zw 14 43 true rfl (by kernel_rfl) rfl (by kernel_rfl)) (d := 44) (v := (.pointer (some ⟨c12, 0, none⟩))) rfl (by kernel_rfl) ?_
 refine ZQ (Zw 14 43 true rfl (by kernel_rfl) rfl (by kernel_rfl)) (fun K54 hK54 => ?_)
 refine ZJ (d := 45) rfl (by kernel_rfl) (Z1X w28 c12 b3 c30 (some ⟨g29, 0, none⟩) 1 1 0 ([] ++ [(⟨(⟨0, ((([] : List Zq).length : Int) + 1), Z8 (ofT 0 ((([] : List Zq).length : Int) + 1) Zb ([97])), ([97]).length, 1000 + 0, Z9 (Zd ([]) (⟨1000 + 0, Z1 (⟨0, ((([] : List Zq).length : Int) + 1), Z8 (ofT 0 ((([] : List Zq).length : Int) + 1) Zb ([97])), ([97]).length, 0, 0⟩ : Z0)⟩ : Z4)) (⟨1000 + 0, Z1 (⟨0, ((([] : List Zq).length : Int) + 1), Z8 (ofT 0 ((([] : List Zq).length : Int) + 1) Zb ([97])), ([97]).length, 0, 0⟩ : Z0)⟩ : Z4)⟩ : Z0), a31, c32, ([97]), Zb, m33, none, m34, m35, false, 0, m36, false, []⟩ : Zq)]) (H44.at 3 rfl)) ?_
 rintro _ w55 ⟨rfl, u57⟩
 have H56 := H44.keepU u57
 refine ⟨_, rfl, ?_⟩
 refine hK54 _ _ ?_
 clear hK54 K54
 refine Z5 (Zw 14 43 true rfl (by kernel_rfl) rfl (by kernel_rfl)) (d := 46) (v := (.bool true)) rfl (by kernel_rfl) ?_
 refine Z5 (Z2 rfl) (d := 47) (v := (.bool true)) rfl (by kernel_rfl) ?_
 refine Z5 (Z2 rfl) (d := 0) (v := (.bool true)) rfl (by kernel_rfl) ?_
 refine Zr ?_
 refine Z7 ?_
 refine ZU ?_
 refine Z0T rfl (ZK (v := (.bool true)) rfl) ?_
 exact ⟨rfl, H56.upd 0 rfl [] (fun _ h => h.elim)⟩
end Go.Proofs.YtgigjkjdmalmaaaGreat
