/- WHAT IS PROVED: contracts and plain laws of Certs22. Conditions: stated with each. -/
import Derived.Test.YtgigjkjdmalmaaaGreatPC04
import Derived.Test.YtgigjkjdmalmaaaGreatPC11
import Derived.Test.YtgigjkjdmalmaaaGreatPC12
import Derived.Test.YtgigjkjdmalmaaaGreatPC13
import Derived.Test.YtgigjkjdmalmaaaGreatPC25
import Derived.Test.YtgigjkjdmalmaaaGreatPC29
import Derived.Test.YtgigjkjdmalmaaaGreatPC30
import Derived.Test.YtgigjkjdmalmaaaGreatPC31
set_option maxHeartbeats 4000000
set_option maxRecDepth 100000
namespace Go.Proofs.YtgigjkjdmalmaaaGreat
open Go.RowKit
abbrev Zt (p0 : Int) : List Value := ([(.int .i64 p0), (.int .i64 (2))] : List Value)
abbrev ZB (p0 : Nat) (p1 : List Z4) : Ck := Zn p0 Zc (Value.int .i64) (Zk p1)
abbrev ZA (p0 : Nat) : List Value := ([(.map (some p0))] : List Value)
abbrev Z3D (p0 : Int) (p1 : Nat) (p2 : Nat) : List Value := ([(.int .i64 p0), (.int .i64 (2)), (.int .i64 (1)), (pt p1 0), (.slice none p2 0)] : List Value)
abbrev ZG (p0 : Int) (p1 : Nat) (p2 : Nat) (p3 : Nat) : List Value := ([(.int .i64 p0), (.int .i64 (2)), (.int .i64 (1)), (pt p1 0), (.slice (some ⟨p2, 0, none⟩) 1 p3)] : List Value)
abbrev ZD (p0 : Option Addr) (p1 : List UInt8) (p2 : Nat) : Ck := Ze 5 1 (.slice p0 p1.length p2) p1.length (p1.flatMap Zo)
abbrev Z3E (p0 : Int) (p1 : Nat) (p2 : Nat) (p3 : Nat) (p4 : Nat) : List Value := ([(.int .i64 p0), (.int .i64 (2)), (.int .i64 (1)), (pt p1 0), (.slice (some ⟨p2, 0, none⟩) p3 p4)] : List Value)
abbrev Z19 (p0 : Int) (p1 : Z1H) : List Value := ([(.int .i64 p0), (.int .i64 (1)), (.int .i64 (1))] : List Value) ++ hc p1 ++ ([(.int .u64 (3)), (.int .i64 (0)), (.int .i64 (0))] : List Value)
abbrev Z2B : List Value := ([(.int .i64 (0)), (.int .i64 (0)), (.int .i64 (0))] : List Value) ++ hc Zb ++ ([(.int .u64 (0)), (.int .i64 (0)), (.int .i64 (0))] : List Value)
abbrev Z1a (p0 : Int) (p1 : Z1H) (p2 : Int) : List Value := ([(.int .i64 p0), (.int .i64 (1)), (.int .i64 (1))] : List Value) ++ hc p1 ++ ([(.int .u64 p2), (.int .i64 (0)), (.int .i64 (0))] : List Value)
abbrev Z0c (p0 : Int) (p1 : Z1H) (p2 : Int) (p3 : Int) : List Value := ([(.int .i64 p0), (.int .i64 (1)), (.int .i64 (1))] : List Value) ++ hc p1 ++ ([(.int .u64 p2), (.int .i64 p0), (.int .i64 p3)] : List Value)
abbrev Z39 (p0 : Int) (p1 : Z1H) (p2 : Int) (p3 : Int) (p4 : Value) : List Value := ([(.int .i64 (2)), (.int .i64 p0), (.int .i64 (1001)), (.int .i64 (0)), (.int .i64 (0))] : List Value) ++ hc Zb ++ ([(.int .i64 (0)), (.int .i64 (0)), (.int .i64 (0)), (.int .i64 p0), (.int .i64 (1)), (.int .i64 (1))] : List Value) ++ hc p1 ++ ([(.int .u64 p2), (.int .i64 p0), (.int .i64 p3), (.int .i64 (0)), (.int .i64 (0))] : List Value) ++ hc Zb ++ ([(.int .i64 (0)), (.int .i64 (0)), (.int .i64 (0)), (.slice none 0 0), (.int .i64 (0)), (.int .i64 (0)), (.int .i64 (0))] : List Value) ++ hc Zb ++ ([(.int .u64 (0)), (.int .i64 (0)), (.int .i64 (0)), (.int .i64 (0)), (.int .i64 (0)), (.int .u64 (0)), (.int .i64 (0)), (.int .i64 (0)), (.int .u64 (0)), (.slice none 0 0), (.int .i64 (0)), (.int .i64 (0)), (.int .i64 (0)), (.int .i64 (0)), (.int .i64 (0)), (.int .i64 (0)), (.int .i64 (0)), (.int .u64 (0)), (.slice none 0 0), (.slice none 0 0), (.slice none 0 0), (.int .i64 (0)), (.int .i64 (0)), (.int .i64 (0))] : List Value) ++ ([(.int .i64 (0)), (.int .i64 (0)), (.int .i64 (0))] : List Value) ++ hc Zb ++ ([(.int .i64 (0)), (.int .i64 (0)), (.int .i64 (0)), (.int .i64 (0)), (.int .i64 (0))] : List Value) ++ hc Zb ++ ([(.int .u64 (0)), (.int .i64 (0)), (.slice none 0 0)] : List Value) ++ hc Zb ++ ([(.int .i64 (0)), (.int .i64 (0)), (.int .i64 (0)), (.int .i64 (0)), p4, (.int .i64 (0)), (.int .i64 (0)), (.int .i64 (0)), (.int .u64 (0)), (.slice none 0 0), (.slice none 0 0), (.slice none 0 0), (.slice none 0 0)] : List Value)
abbrev Z10 (p0 : Z0) (p1 : Option Addr) (p2 : Nat) (p3 : Nat) : List Value := ([(.int .i64 p0.cl), (.int .i64 p0.seq)] : List Value) ++ hc p0.h ++ ([(.int .i64 p0.len), (.int .i64 p0.sb), (.int .i64 p0.sm), (.slice p1 p2 p3)] : List Value)
abbrev Z11 (p0 : Option Addr) (p1 : List Zl) (p2 : Nat) : Ck := Ze 49 38 (.slice p0 p1.length p2) p1.length (p1.flatMap ZT)
theorem Z7P {TS : List Int} {m : Int} {i : Nat} (h : ∀ x ∈ TS, 0 ≤ x ∧ x ≤ m) : 0 ≤ TS.getD i 0 := by
 rcases Nat.lt_or_ge i TS.length with q | q
 ·rw [List.getD_eq_getElem?_getD, List.getElem?_eq_getElem q]; exact (h _ (List.getElem_mem q)).1
 rw [List.getD_eq_getElem?_getD, List.getElem?_eq_none q]; exact Int.le_refl _
theorem Z7q {x y : Z4} (h : y ∈ Zd [] x) : y = x := by
 unfold Zd at h
 rw [if_neg (by simp)] at h
 exact List.mem_singleton.1 h
theorem Z4S (w : World) (f : Int) (wa : Option Addr) (wc : Nat) (W : List Int) (hW : ListAt encJ 1 w (.slice wa W.length wc) W) (ta : Option Addr) (tc : Nat) (TS : List Int) (hT : ListAt encU 1 w (.slice ta TS.length tc) TS) (hTb : ∀ x ∈ TS, 0 ≤ x ∧ x ≤ 18446744073709551615) (ba : Option Addr) (bc : Nat) (BD : List Bool) (hBd : ListAt encBo 1 w (.slice ba BD.length bc) BD) :
  Calls Tryz.prog 3 #[(.int .i64 (f)), (.slice wa W.length wc), (.slice ta TS.length tc), (.slice ba BD.length bc)] w fun e w' => e = .returned (.bool true) ∧ Upd [] w w' := by
 have hw3 := Z2L f 3 (by omega)
 have hlW := SliceOf.le hW
 have hlT := SliceOf.le hT
 have hlBd := SliceOf.le hBd
 unfold maxLen at hlW hlT hlBd
 have H := Sat.start0 w
 refine Zv Tryz.func3 rfl 193 rfl (Nat.le_of_ble_eq_true rfl) ?_
 apply zsl
 refine wv 8 (.bool false) ?_
 apply znt
 refine Z0K [9, 25, 26, 27, 28] (fun G_ W_ => ∃ (F : Int) (x9 : Nat), G_ 9 = (pt x9 0) ∧ (1 ≤ F ∧ F ≤ 3) ∧ Sat w [Za w (fun _ => False), Z3 x9 27 (Zt F)] W_) ?_ ?_
 ·apply Zs
  refine wv 25 (.int .i64 (f)) ?_
  refine zwd fun Kq kq => ?_
  refine zdq 26 (Z2K w f 3 (by omega)) H ?_
  intro w3 H4
  refine kq _ _ ?_
  clear kq Kq
  refine zwi 27 (1 + (Z0G f 3)) ?_
  refine wv 28 (.agg ⟨(Zt (1 + (Z0G f 3)))⟩) ?_
  refine zwd fun Kq kq => ?_
  refine zda ([(.int .i64 (0)), (.int .i64 (0))] : List Value) H4 ?_
  intro b7 w8 H9
  refine kq _ _ ?_
  clear kq Kq
  refine zwd fun Kq kq => ?_
  refine Z4P (Zt (1 + (Z0G f 3))) H9 1 ?_
  intro w11 (H12 : Sat w [Za w (fun _ => False), Z3 b7 27 (Zt (1 + (Z0G f 3)))] w11)
  refine kq _ _ ?_
  clear kq Kq
  apply Zr
  have H14 := H12.pk [0, 1]
  refine Z02 ?_ ⟨(1 + (Z0G f 3)), b7, rfl, (by omega), H14⟩
  exact zs
 rintro f15 w16 ⟨F, x9, v18, hF, H17⟩
 refine Zy 9 _ v18 ?_
 apply zsl
 refine zwN 29 (Zt F) (H17.at 1 rfl) ?_
 refine zwd fun Kq kq => ?_
 refine zdq 30 (Z8a w16 F 2 (by omega)) H17 ?_
 intro w20 H21
 refine kq _ _ ?_
 clear kq Kq
 refine wv 10 (.int .i64 (3 * F + 1)) ?_
 apply Z1J
 refine zwd fun Kq kq => ?_
 refine zdc 31 (Z5p w20) ?_
 rintro _ w24 ⟨b25, m26, rfl, k27, p28, q29⟩
 have H30 : Sat w [Za w (fun _ => False), Z3 x9 27 (Zt F), ZP [Z3 b25 108 [.map (some m26)], (ZB m26 ([]))]] w24 := H21.addU p28 k27 q29
 have H31 := H30.open 2 rfl
 refine ⟨_, rfl, ?_⟩
 refine kq _ _ ?_
 clear kq Kq
 refine wv 11 (pt b25 0) ?_
 apply znt
 apply Zh
 apply zsl
 refine wv 32 (pt b25 0) ?_
 refine wv 33 (.bool false) ?_
 apply znt
 refine Z0o rfl ?_
 apply ZW
 apply ztn
 apply zsl
 refine zwN 35 (Zt F) (H31.at 1 rfl) ?_
 refine wv 36 (pt b25 0) ?_
 refine zwd fun Kq kq => ?_
 refine zdc 37 (Z4l w24 F 2 (1 : Int) b25 (by unfold Z21; simp; omega) (by omega)) ?_
 rintro _ w33 ⟨c34, rfl, k35, p36, q37⟩
 have H38 : Sat w [Za w (fun _ => False), Z3 x9 27 (Zt F), Z3 b25 108 (ZA m26), (ZB m26 ([])), Z3 c34 112 ([(.int .i64 (F)), (.int .i64 (2)), (.int .i64 (1)), (pt b25 0), (.slice none 0 0)] : List Value)] w33 := H31.addU p36 k35 q37
 refine ⟨_, rfl, ?_⟩
 refine kq _ _ ?_
 clear kq Kq
 refine wv 34 (.tuple #[(pt c34 0), (.int .i64 (0))]) ?_
 refine wv 38 (pt c34 0) ?_
 refine wv 39 (.int .i64 (0)) ?_
 refine wv 12 (pt c34 0) ?_
 refine wv 13 (.int .i64 (0)) ?_
 apply znt
 apply Zh
 apply zsl
 refine wv 40 (.int .i64 (0)) ?_
 refine wv 41 (.bool false) ?_
 refine wv 42 (.bool false) ?_
 refine wy 2 42 false 43 (pt c34 0) ?_
 refine wy 2 42 false 44 (.bool false) ?_
 refine wv 45 (.bool false) ?_
 apply znt
 refine Z0o rfl ?_
 apply ZW
 apply ztn
 have H40 := H38.addNil 119 79
 refine Z0K ([8, 14, 15] ++ List.range' 46 10) (fun G_ W_ => ∃ (g lc : Nat) (q : Zq) (L : List Z4), (q.op = false ∧ q.dn = false ∧ q.pl = 0 ∧ q.rp = [] ∧ q.x.cl = 1 ∧ q.x.seq = 1) ∧ (q.x.h = Z8 (ofT 1 1 Zb [97])) ∧ (q.P.length = 1) ∧ (q.cb = none) ∧ (SgL q.x.h L) ∧ (L.length ≤ 1) ∧ Sat w [Za w (fun _ => False), Z3 x9 27 (Zt F), Z3 c34 112 (ZG F b25 g lc), Ze 119 79 (.slice (some ⟨g, 0, none⟩) 1 lc) 1 (([q]).flatMap Zm), Zn q.ms (Value.int .i64) ZO [], Z3 b25 108 (ZA m26), (ZB m26 L), (ZD q.pa q.P q.pc), Z0u []] W_) ?_ ?_
 ·apply zsl
  refine wv 47 (pt c34 0) ?_
  refine zwd fun Kq kq => ?_
  refine Z5y 5 1 1 (.int .u8 (0)) [(0, (.int .u8 (97)))] ([(.int .u8 (97))] : List Value) H40 ?_
  intro b43 w44 (H45 : Sat w [Za w (fun _ => False), Z3 x9 27 (Zt F), Z3 b25 108 (ZA m26), (ZB m26 ([])), Z3 c34 112 (Z3D F b25 (([] : List Zq).length)), Ze 119 79 (.slice none (([] : List Zq).length) 0) (([] : List Zq).length) (([] : List Zq).flatMap Zm), Ze 5 1 (.slice (some ⟨b43, 0, none⟩) 1 1) 1 ([(.int .u8 (97))] : List Value)] w44)
  have H46 := H45.ct 6 rfl (Ze 5 1 (.slice (some ⟨b43, 0, none⟩) 1 1) 1 ([97].flatMap Zo)) (by rw [(show (([(.int .u8 (97))] : List Value) : List Value) = ([97] : List UInt8).flatMap Zo by kernel_rfl)])
  refine kq _ _ ?_
  clear kq Kq
  refine zwd fun Kq kq => ?_
  refine Z0E (e := 5) (s := [97]) rfl H46 6 rfl (by kernel_rfl) (by kernel_rfl) rfl ?_
  intro w48 (H49 : Sat w [Za w (fun _ => False), Z3 x9 27 (Zt F), Z3 b25 108 (ZA m26), (ZB m26 ([])), Z3 c34 112 (Z3D F b25 (([] : List Zq).length)), Ze 119 79 (.slice none (([] : List Zq).length) 0) (([] : List Zq).length) (([] : List Zq).flatMap Zm), ZN (.slice (some ⟨b43, 0, none⟩) 1 1) ([97])] w48)
  refine kq _ _ ?_
  clear kq Kq
  refine wv 50 (.agg ⟨(hc Zb)⟩) ?_
  refine zwd fun Kq kq => ?_
  refine zdc 51 (Z2M w48 c34 b25 m26 0 none F 2 1 ([] : List Zq) ([]) (some ⟨b43, 0, none⟩) 1 ([97]) (H49.fn [4, 5, 2, 3, 6]) Zb (by decide) (by decide) (by decide) (fun _ e_ => by cases e_; rfl) (by omega) (by omega)) ?_
  rintro _ w51 ⟨g52, c53, a54, c55, m56, m57, m58, m59, a60, c61, D62, B63, rfl, n64, o65, T66⟩
  have H67 := H49.tl [Z3 c34 112 (Z3E F b25 g52 ((([] : List Zq) ++ [(⟨(⟨1, ((([] : List Zq).length : Int) + 1), Z8 (ofT 1 ((([] : List Zq).length : Int) + 1) Zb ([97])), ([97]).length, 1000 + 1, Z9 (Zd ([]) (⟨1000 + 1, Z1 (⟨1, ((([] : List Zq).length : Int) + 1), Z8 (ofT 1 ((([] : List Zq).length : Int) + 1) Zb ([97])), ([97]).length, 0, 0⟩ : Z0)⟩ : Z4)) (⟨1000 + 1, Z1 (⟨1, ((([] : List Zq).length : Int) + 1), Z8 (ofT 1 ((([] : List Zq).length : Int) + 1) Zb ([97])), ([97]).length, 0, 0⟩ : Z0)⟩ : Z4)⟩ : Z0), a54, c55, ([97]), Zb, m56, none, m57, m58, false, 0, m59, false, []⟩ : Zq)]).length) c53), Ze 119 79 (.slice (some ⟨g52, 0, none⟩) ((([] : List Zq) ++ [(⟨(⟨1, ((([] : List Zq).length : Int) + 1), Z8 (ofT 1 ((([] : List Zq).length : Int) + 1) Zb ([97])), ([97]).length, 1000 + 1, Z9 (Zd ([]) (⟨1000 + 1, Z1 (⟨1, ((([] : List Zq).length : Int) + 1), Z8 (ofT 1 ((([] : List Zq).length : Int) + 1) Zb ([97])), ([97]).length, 0, 0⟩ : Z0)⟩ : Z4)) (⟨1000 + 1, Z1 (⟨1, ((([] : List Zq).length : Int) + 1), Z8 (ofT 1 ((([] : List Zq).length : Int) + 1) Zb ([97])), ([97]).length, 0, 0⟩ : Z0)⟩ : Z4)⟩ : Z0), a54, c55, ([97]), Zb, m56, none, m57, m58, false, 0, m59, false, []⟩ : Zq)]).length) c53) ((([] : List Zq) ++ [(⟨(⟨1, ((([] : List Zq).length : Int) + 1), Z8 (ofT 1 ((([] : List Zq).length : Int) + 1) Zb ([97])), ([97]).length, 1000 + 1, Z9 (Zd ([]) (⟨1000 + 1, Z1 (⟨1, ((([] : List Zq).length : Int) + 1), Z8 (ofT 1 ((([] : List Zq).length : Int) + 1) Zb ([97])), ([97]).length, 0, 0⟩ : Z0)⟩ : Z4)) (⟨1000 + 1, Z1 (⟨1, ((([] : List Zq).length : Int) + 1), Z8 (ofT 1 ((([] : List Zq).length : Int) + 1) Zb ([97])), ([97]).length, 0, 0⟩ : Z0)⟩ : Z4)⟩ : Z0), a54, c55, ([97]), Zb, m56, none, m57, m58, false, 0, m59, false, []⟩ : Zq)]).length) ((([] : List Zq) ++ [(⟨(⟨1, ((([] : List Zq).length : Int) + 1), Z8 (ofT 1 ((([] : List Zq).length : Int) + 1) Zb ([97])), ([97]).length, 1000 + 1, Z9 (Zd ([]) (⟨1000 + 1, Z1 (⟨1, ((([] : List Zq).length : Int) + 1), Z8 (ofT 1 ((([] : List Zq).length : Int) + 1) Zb ([97])), ([97]).length, 0, 0⟩ : Z0)⟩ : Z4)) (⟨1000 + 1, Z1 (⟨1, ((([] : List Zq).length : Int) + 1), Z8 (ofT 1 ((([] : List Zq).length : Int) + 1) Zb ([97])), ([97]).length, 0, 0⟩ : Z0)⟩ : Z4)⟩ : Z0), a54, c55, ([97]), Zb, m56, none, m57, m58, false, 0, m59, false, []⟩ : Zq)]).flatMap Zm), Z3 b25 108 (ZA m26), (ZB m26 (Zd ([]) (⟨1000 + 1, Z1 (⟨1, ((([] : List Zq).length : Int) + 1), Z8 (ofT 1 ((([] : List Zq).length : Int) + 1) Zb ([97])), ([97]).length, 0, 0⟩ : Z0)⟩ : Z4))), ZN (.slice (some ⟨b43, 0, none⟩) 1 1) ([97]), Zn m56 (Value.int .i64) ZO [], Zn m57 (Value.int .i64) Value.bool [], Zn m58 (Value.int .i64) rcV [], Zn m59 (Value.int .i64) ZX [], (ZD a54 ([97]) c55), Ze 82 295 (.slice a60 D62.length c61) D62.length (D62.flatMap Z0b), Z0u B63] [4, 5, 2, 3, 6] [0, 1] T66 [12, 13, 2, 3, 0, 1, 4, 5, 6, 7, 8, 9, 10, 11]
  refine ⟨_, rfl, ?_⟩
  refine kq _ _ ?_
  clear kq Kq
  refine wv 46 (.tuple #[(.slice a60 D62.length c61), (.int .i64 (0))]) ?_
  refine wv 52 (.slice a60 D62.length c61) ?_
  refine wv 53 (.int .i64 (0)) ?_
  refine wv 14 (.slice a60 D62.length c61) ?_
  refine wv 15 (.int .i64 (0)) ?_
  apply Z1J
  refine wv 54 (.int .i64 (0)) ?_
  refine wv 55 (.bool false) ?_
  apply znt
  refine Z0o rfl ?_
  apply ZW
  have H68 : Sat w [Za w (fun _ => False), Z3 x9 27 (Zt F), Z3 c34 112 (Z3E F b25 g52 ((([] : List Zq) ++ [(⟨(⟨1, ((([] : List Zq).length : Int) + 1), Z8 (ofT 1 ((([] : List Zq).length : Int) + 1) Zb ([97])), ([97]).length, 1000 + 1, Z9 (Zd ([]) (⟨1000 + 1, Z1 (⟨1, ((([] : List Zq).length : Int) + 1), Z8 (ofT 1 ((([] : List Zq).length : Int) + 1) Zb ([97])), ([97]).length, 0, 0⟩ : Z0)⟩ : Z4)) (⟨1000 + 1, Z1 (⟨1, ((([] : List Zq).length : Int) + 1), Z8 (ofT 1 ((([] : List Zq).length : Int) + 1) Zb ([97])), ([97]).length, 0, 0⟩ : Z0)⟩ : Z4)⟩ : Z0), a54, c55, ([97]), Zb, m56, none, m57, m58, false, 0, m59, false, []⟩ : Zq)]).length) c53), Ze 119 79 (.slice (some ⟨g52, 0, none⟩) ((([] : List Zq) ++ [(⟨(⟨1, ((([] : List Zq).length : Int) + 1), Z8 (ofT 1 ((([] : List Zq).length : Int) + 1) Zb ([97])), ([97]).length, 1000 + 1, Z9 (Zd ([]) (⟨1000 + 1, Z1 (⟨1, ((([] : List Zq).length : Int) + 1), Z8 (ofT 1 ((([] : List Zq).length : Int) + 1) Zb ([97])), ([97]).length, 0, 0⟩ : Z0)⟩ : Z4)) (⟨1000 + 1, Z1 (⟨1, ((([] : List Zq).length : Int) + 1), Z8 (ofT 1 ((([] : List Zq).length : Int) + 1) Zb ([97])), ([97]).length, 0, 0⟩ : Z0)⟩ : Z4)⟩ : Z0), a54, c55, ([97]), Zb, m56, none, m57, m58, false, 0, m59, false, []⟩ : Zq)]).length) c53) ((([] : List Zq) ++ [(⟨(⟨1, ((([] : List Zq).length : Int) + 1), Z8 (ofT 1 ((([] : List Zq).length : Int) + 1) Zb ([97])), ([97]).length, 1000 + 1, Z9 (Zd ([]) (⟨1000 + 1, Z1 (⟨1, ((([] : List Zq).length : Int) + 1), Z8 (ofT 1 ((([] : List Zq).length : Int) + 1) Zb ([97])), ([97]).length, 0, 0⟩ : Z0)⟩ : Z4)) (⟨1000 + 1, Z1 (⟨1, ((([] : List Zq).length : Int) + 1), Z8 (ofT 1 ((([] : List Zq).length : Int) + 1) Zb ([97])), ([97]).length, 0, 0⟩ : Z0)⟩ : Z4)⟩ : Z0), a54, c55, ([97]), Zb, m56, none, m57, m58, false, 0, m59, false, []⟩ : Zq)]).length) ((([] : List Zq) ++ [(⟨(⟨1, ((([] : List Zq).length : Int) + 1), Z8 (ofT 1 ((([] : List Zq).length : Int) + 1) Zb ([97])), ([97]).length, 1000 + 1, Z9 (Zd ([]) (⟨1000 + 1, Z1 (⟨1, ((([] : List Zq).length : Int) + 1), Z8 (ofT 1 ((([] : List Zq).length : Int) + 1) Zb ([97])), ([97]).length, 0, 0⟩ : Z0)⟩ : Z4)) (⟨1000 + 1, Z1 (⟨1, ((([] : List Zq).length : Int) + 1), Z8 (ofT 1 ((([] : List Zq).length : Int) + 1) Zb ([97])), ([97]).length, 0, 0⟩ : Z0)⟩ : Z4)⟩ : Z0), a54, c55, ([97]), Zb, m56, none, m57, m58, false, 0, m59, false, []⟩ : Zq)]).flatMap Zm), Zn m56 (Value.int .i64) ZO [], Z3 b25 108 (ZA m26), (ZB m26 (Zd ([]) (⟨1000 + 1, Z1 (⟨1, ((([] : List Zq).length : Int) + 1), Z8 (ofT 1 ((([] : List Zq).length : Int) + 1) Zb ([97])), ([97]).length, 0, 0⟩ : Z0)⟩ : Z4))), (ZD a54 ([97]) c55)] w51 := H67.pk [0, 1, 4, 5, 7, 2, 3, 11]
  have H69 := H68.bag0
  refine Z02 ?_ ⟨g52, c53, (⟨(⟨1, ((([] : List Zq).length : Int) + 1), Z8 (ofT 1 ((([] : List Zq).length : Int) + 1) Zb ([97])), ([97]).length, 1000 + 1, Z9 (Zd ([]) (⟨1000 + 1, Z1 (⟨1, ((([] : List Zq).length : Int) + 1), Z8 (ofT 1 ((([] : List Zq).length : Int) + 1) Zb ([97])), ([97]).length, 0, 0⟩ : Z0)⟩ : Z4)) (⟨1000 + 1, Z1 (⟨1, ((([] : List Zq).length : Int) + 1), Z8 (ofT 1 ((([] : List Zq).length : Int) + 1) Zb ([97])), ([97]).length, 0, 0⟩ : Z0)⟩ : Z4)⟩ : Z0), a54, c55, ([97]), Zb, m56, none, m57, m58, false, 0, m59, false, []⟩ : Zq), (Zd ([]) (⟨1000 + 1, Z1 (⟨1, ((([] : List Zq).length : Int) + 1), Z8 (ofT 1 ((([] : List Zq).length : Int) + 1) Zb ([97])), ([97]).length, 0, 0⟩ : Z0)⟩ : Z4)), ⟨rfl, rfl, rfl, rfl, rfl, (by rfl)⟩, (by rfl), rfl, rfl, (fun y_ hy_ => .inl (by have q_ := Z7q hy_; rw [q_]; decide)), (Nat.le_trans (Z1T _ _) (by decide)), H69⟩
  exact zs
 rintro f70 w71 ⟨g, lc, q, L, hq0, hqh, hqP, hqc, hSg, hlL, H72⟩
 refine Z0K [16, 56, 57, 58, 59, 60] (fun G_ W_ => ∃ (x16 : Nat), G_ 16 = (pt x16 0) ∧ Sat w [Za w (fun _ => False), Z3 x9 27 (Zt F), Z3 c34 112 (ZG F b25 g lc), Ze 119 79 (.slice (some ⟨g, 0, none⟩) 1 lc) 1 (([q]).flatMap Zm), Zn q.ms (Value.int .i64) ZO [], Z3 b25 108 (ZA m26), (ZB m26 L), (ZD q.pa q.P q.pc), Z0u [], Z3 x16 40 (hc q.x.h)] W_) ?_ ?_
 ·apply Zs
  refine wv 56 (.agg ⟨([(.int .i64 (1)), (.int .i64 (1))] : List Value)⟩) ?_
  refine wv 57 (.agg ⟨(hc Zb)⟩) ?_
  refine zwd fun Kq kq => ?_
  refine Z5y 5 1 1 (.int .u8 (0)) [(0, (.int .u8 (97)))] ([(.int .u8 (97))] : List Value) H72 ?_
  intro b75 w76 (H77 : Sat w [Za w (fun _ => False), Z3 x9 27 (Zt F), Z3 c34 112 (ZG F b25 g lc), Ze 119 79 (.slice (some ⟨g, 0, none⟩) 1 lc) 1 (([q]).flatMap Zm), Zn q.ms (Value.int .i64) ZO [], Z3 b25 108 (ZA m26), (ZB m26 L), (ZD q.pa q.P q.pc), Z0u [], Ze 5 1 (.slice (some ⟨b75, 0, none⟩) 1 1) 1 ([(.int .u8 (97))] : List Value)] w76)
  have H78 : Sat w [Za w (fun _ => False), Z3 x9 27 (Zt F), Z3 c34 112 (ZG F b25 g lc), Ze 119 79 (.slice (some ⟨g, 0, none⟩) 1 lc) 1 (([q]).flatMap Zm), Zn q.ms (Value.int .i64) ZO [], Z3 b25 108 (ZA m26), (ZB m26 L), (ZD q.pa q.P q.pc), Z0u [], Ze 5 1 (.slice (some ⟨b75, 0, none⟩) 1 1) 1 ([97].flatMap Zo)] w76 := H77.cast (by rw [(show (([(.int .u8 (97))] : List Value) : List Value) = ([97] : List UInt8).flatMap Zo by kernel_rfl)])
  refine kq _ _ ?_
  clear kq Kq
  refine zwd fun Kq kq => ?_
  refine Z0E (e := 5) (s := [97]) rfl H78 9 rfl (by kernel_rfl) (by kernel_rfl) rfl ?_
  intro w80 H81
  refine kq _ _ ?_
  clear kq Kq
  refine zwd fun Kq kq => ?_
  refine zdq 60 (Z7Z w80 1 1 Zb (some ⟨b75, 0, none⟩) 1 ([97]) (ListAt.ofTxt (H81.at 9 rfl)) (by decide) (by decide) (by decide)) H81 ?_
  intro w83 H84
  refine kq _ _ ?_
  clear kq Kq
  refine zwd fun Kq kq => ?_
  refine zda (hc Zb) H84 ?_
  intro b87 w88 (H89 : Sat w [Za w (fun _ => False), Z3 x9 27 (Zt F), Z3 c34 112 (ZG F b25 g lc), Ze 119 79 (.slice (some ⟨g, 0, none⟩) 1 lc) 1 (([q]).flatMap Zm), Zn q.ms (Value.int .i64) ZO [], Z3 b25 108 (ZA m26), (ZB m26 L), (ZD q.pa q.P q.pc), Z0u [], ZN (.slice (some ⟨b75, 0, none⟩) 1 1) ([97]), Z3 b87 40 (hc Zb)] w88)
  refine kq _ _ ?_
  clear kq Kq
  refine zwd fun Kq kq => ?_
  refine Z4P (hc (Z8 (ofT 1 1 Zb [97]))) H89 10 ?_
  intro w91 H92
  refine kq _ _ ?_
  clear kq Kq
  apply Zr
  have H94 : Sat w [Za w (fun _ => False), Z3 x9 27 (Zt F), Z3 c34 112 (ZG F b25 g lc), Ze 119 79 (.slice (some ⟨g, 0, none⟩) 1 lc) 1 (([q]).flatMap Zm), Zn q.ms (Value.int .i64) ZO [], Z3 b25 108 (ZA m26), (ZB m26 L), (ZD q.pa q.P q.pc), Z0u [], Z3 b87 40 (hc (Z8 (ofT 1 1 Zb [97])))] w91 := H92.pk [0, 1, 2, 3, 4, 5, 6, 7, 8, 10]
  have H95 := H94.ct 9 rfl (Z3 b87 40 (hc q.x.h)) (by rw [hqh])
  refine Z02 ?_ ⟨b87, rfl, H95⟩
  exact zs
 rintro f96 w97 ⟨x16, v99, H98⟩
 refine Zy 16 _ v99 ?_
 apply zsl
 refine zwd fun Kq kq => ?_
 refine Z0l (Value.int .i64) Value.bool rfl H98 ?_
 intro b101 w102 (H103 : Sat w [Za w (fun _ => False), Z3 x9 27 (Zt F), Z3 c34 112 (ZG F b25 g lc), Ze 119 79 (.slice (some ⟨g, 0, none⟩) 1 lc) 1 (([q]).flatMap Zm), Zn q.ms (Value.int .i64) ZO [], Z3 b25 108 (ZA m26), (ZB m26 L), (ZD q.pa q.P q.pc), Z0u [], Z3 x16 40 (hc q.x.h), Zn b101 (Value.int .i64) Value.bool []] w102)
 refine kq _ _ ?_
 clear kq Kq
 refine wv 17 (.map (some b101)) ?_
 apply Z1J
 refine wv 18 (.bool false) ?_
 apply znt
 apply Zh
 apply zsl
 refine wv 19 (.int .i64 (0)) ?_
 apply znt
 apply ZM
 refine Z07 ([8, 18, 19, 20, 21, 22] ++ List.range' 62 101) (fun F_ W_ m_ => ∃ (i : Nat) (qi : Zq) (M : List (Int × Zl)) (Li : List Z4) (Bz : List Ck), F_ 19 = (.int .i64 ((i : Int))) ∧ F_ 18 = (.bool (qi.cb.isSome)) ∧ (i ≤ 40) ∧ (Li.length ≤ i + 1) ∧ (qi.op = false ∧ qi.dn = false ∧ qi.pl = 0 ∧ qi.rp = [] ∧ qi.x.cl = 1 ∧ qi.x.seq = 1) ∧ (qi.P.length = 1) ∧ (StM F qi.x M) ∧ (qi.cb.isSome = decide (2 * F + 1 ≤ (M.length : Int))) ∧ (∀ z, qi.cb = some z → ∃ sa sc S T, CrtIn Bz qi.x z sa sc S T) ∧ (SgL qi.x.h Li) ∧ Sat w [Za w (fun _ => False), Z3 x9 27 (Zt F), Z3 c34 112 (ZG F b25 g lc), Ze 119 79 (.slice (some ⟨g, 0, none⟩) 1 lc) 1 (([qi]).flatMap Zm), Zn qi.ms (Value.int .i64) ZO M, Z3 b25 108 (ZA m26), (ZB m26 Li), (ZD qi.pa qi.P qi.pc), Z0u Bz, Z3 x16 40 (hc qi.x.h), Zn b101 (Value.int .i64) Value.bool (Z0p M)] W_ ∧ m_ = 41 - i) _ ⟨0, q, [], L, [], (show ((.int .i64 (0)) : Value) = _ by first | rfl | go_num), (show (Value.bool false) = .bool q.cb.isSome by rw [hqc]; rfl), (Nat.zero_le _), hlL, hq0, hqP, StM.nil, (by rw [hqc]; exact (decide_eq_false (by show ¬ (2 * F + 1 ≤ ((0 : Nat) : Int)); omega)).symm), (fun z_ h_ => by rw [hqc] at h_; cases h_), hSg, H103, rfl⟩ ?_
 rintro g104 w105 _ ⟨i, qi, M, Li, Bz, v107, v108, hi, hlLi, hq0, hqP, hM, hcb, hcr, hSg, H106, rfl⟩
 refine Zy 19 _ v107 ?_
 refine Zy 18 _ v108 ?_
 apply Zh
 refine Z0K [62, 63, 64, 65, 66, 67, 68, 69] (fun G_ W_ => G_ 69 = (.bool (decide ((i : Int) < (W.length : Int)) && decide ((i : Int) < 40))) ∧ Sat w [Za w (fun _ => False), Z3 x9 27 (Zt F), Z3 c34 112 (ZG F b25 g lc), Ze 119 79 (.slice (some ⟨g, 0, none⟩) 1 lc) 1 (([qi]).flatMap Zm), Zn qi.ms (Value.int .i64) ZO M, Z3 b25 108 (ZA m26), (ZB m26 Li), (ZD qi.pa qi.P qi.pc), Z0u Bz, Z3 x16 40 (hc qi.x.h), Zn b101 (Value.int .i64) Value.bool (Z0p M)] W_) ?_ ?_
 ·apply Zs
  refine wv 62 (.int .i64 ((i : Int))) ?_
  refine wv 63 (.slice wa W.length wc) ?_
  refine wv 64 (.int .i64 ((W.length : Int))) ?_
  refine wv 65 (.bool (decide ((i : Int) < (W.length : Int)))) ?_
  refine wv 66 (.bool (decide ((i : Int) < (W.length : Int)))) ?_
  refine (Z00 (decide ((i : Int) < (W.length : Int)))).elim (fun b111 => ?_) (fun b111 => ?_)
  ·have g112 := of_decide_eq_true b111
   refine Z05 66 (.bool true) (congrArg Value.bool b111) ?_
   refine wy 4 66 true 67 (.int .i64 ((i : Int))) ?_
   refine wy 4 66 true 68 (.bool (decide ((i : Int) < 40))) ?_
   refine wv 69 (.bool (decide ((i : Int) < 40))) ?_
   apply Zr
   refine Z02 ?_ ⟨(congrArg Value.bool (show (decide ((i : Int) < 40)) = (decide ((i : Int) < (W.length : Int)) && decide ((i : Int) < 40)) by rw [b111]; rfl)), H106⟩
   exact zs
  have g114 := of_decide_eq_false b111
  refine Z05 66 (.bool false) (congrArg Value.bool b111) ?_
  iterate 2 refine wn 4 66 true ?_
  refine wv 69 (.bool false) ?_
  apply Zr
  refine Z02 ?_ ⟨(congrArg Value.bool (show false = (decide ((i : Int) < (W.length : Int)) && decide ((i : Int) < 40)) by rw [b111]; rfl)), H106⟩
  exact zs
 rintro f116 w117 ⟨v119, H118⟩
 refine Zy 69 _ v119 ?_
 refine (Z00 (decide ((i : Int) < (W.length : Int)) && decide ((i : Int) < 40))).elim (fun b120 => ?_) (fun b120 => ?_)
 ·refine Z2v _ b120 ?_
  apply ZW
  apply ztn
  apply Zh
  apply ZM
  have hii := b120
  simp only [Bool.and_eq_true, decide_eq_true_eq] at hii
  obtain ⟨hi1, hi2⟩ := hii
  refine Z0K [20, 72, 73, 74, 75, 76, 77, 78, 79, 80] (fun G_ W_ => ∃ (fr : Int) (x20 : Nat), G_ 20 = (pt x20 0) ∧ (0 ≤ fr ∧ fr < 3 * F + 1) ∧ Sat w [Za w (fun _ => False), Z3 x9 27 (Zt F), Z3 c34 112 (ZG F b25 g lc), Ze 119 79 (.slice (some ⟨g, 0, none⟩) 1 lc) 1 (([qi]).flatMap Zm), Zn qi.ms (Value.int .i64) ZO M, Z3 b25 108 (ZA m26), (ZB m26 Li), (ZD qi.pa qi.P qi.pc), Z0u Bz, Z3 x16 40 (hc qi.x.h), Zn b101 (Value.int .i64) Value.bool (Z0p M), Z3 x20 49 (Z19 fr qi.x.h)] W_) ?_ ?_
  ·obtain ⟨g122, o123, c124, e125, R126⟩ := SliceOf.atD hW 0 (show i < W.length by omega)
   obtain ⟨g127, o128, c129, e130, R131⟩ := SliceOf.atD hW 0 (show i < W.length by omega)
   obtain ⟨g132, o133, c134, e135, R136⟩ := SliceOf.atD hW 0 (show i < W.length by omega)
   refine Z0g H118 [Za w (fun _ => False), Z3 x9 27 (Zt F), Z3 c34 112 (ZG F b25 g lc), Ze 119 79 (.slice (some ⟨g, 0, none⟩) 1 lc) 1 (([qi]).flatMap Zm), Zn qi.ms (Value.int .i64) ZO M, Z3 b25 108 (ZA m26), (ZB m26 Li), (ZD qi.pa qi.P qi.pc), Z0u Bz, Z3 x16 40 (hc qi.x.h), Zn b101 (Value.int .i64) Value.bool (Z0p M)] 11 rfl (by kernel_rfl) (fun Hx => (Hx.pk [0, 1, 2, 3, 4, 5, 6, 7, 8, 9, 10])) ?_
   intro w137 H138 S139
   refine hv0 0 S139 72 (.slice wa W.length wc) ?_
   refine hv0 1 S139 73 (.int .i64 ((i : Int))) ?_
   obtain ⟨g140, o141, c142, e143, R144⟩ := SliceOf.atD hW 0 (show i < W.length by omega)
   refine Zp 2 rfl (by kernel_rfl) (by kernel_rfl) (by kernel_rfl) (fun _ _ _ h => h) S139 (Z2 rfl) (d := 74) (v := (.pointer (some ⟨g140, o141 + ((i : Int)).toNat * 1, none⟩))) rfl (fun _ H' => (Z0d (E := 3) (by kernel_rfl) (by kernel_rfl) (Nat.le_of_ble_eq_true rfl) rfl e143 rfl (by omega) (by omega))) ?_
   refine hv0 3 S139 75 (.int .i64 ((W.getD i 0))) ?_ (he := fun _ H' => (Zi rfl (by kernel_rfl) (H'.cellR 0 rfl (Z2c R144 0 (by kernel_rfl) (show o141 + ((i : Int)).toNat * 1 = o141 + i * 1 + 0 by omega)) (fun h => h))))
   refine hv0 4 S139 76 (.int .i64 (3 * F + 1)) ?_
   refine Zp 6 rfl (by kernel_rfl) (by kernel_rfl) (by kernel_rfl) (fun _ _ _ h => h) S139 (Z2 rfl) (d := 78) (v := (.agg ⟨([(.int .i64 (1)), (.int .i64 (1))] : List Value)⟩)) rfl (fun _ H' => (by kernel_rfl)) ?_
   refine hv0 7 S139 79 (.agg ⟨(hc qi.x.h)⟩) ?_ (he := fun _ H' => (ZE (vs := (hc qi.x.h)) rfl (by kernel_rfl) (by kernel_rfl) (by exact Nat.le_of_ble_eq_true (by kernel_rfl)) (H'.at 9 rfl) (by kernel_rfl)))
   refine Z2A 5 9 rfl rfl (by kernel_rfl) (Z2 rfl) (Z2 rfl) (fun Kq kq => ?_) (fun Kq kq => ?_)
   ·refine zdq 77 (Z2K w137 (W.getD i 0) (3 * F + 1) (by omega)) H138 ?_
    intro w146 H147
    have S149 := H147.pk [0, 1, 2, 3, 4, 5, 6, 7, 8, 9, 10]
    refine kq _ _ S149 ?_
    clear kq Kq
    refine Zp 8 rfl (by kernel_rfl) (by kernel_rfl) (by kernel_rfl) (fun _ _ _ h => h) S149 (Z2 rfl) (d := 80) (v := (.agg ⟨(Z19 (Z0G (W.getD i 0) (3 * F + 1)) qi.x.h)⟩)) rfl (fun _ H' => (by kernel_rfl)) ?_
    refine Z0L 9 fun Kq kq => ?_
    refine zda (Z2B) H147 ?_
    intro b151 w152 H153
    have S154 := H153.pk [0, 1, 2, 3, 4, 5, 6, 7, 8, 9, 10]
    refine kq _ _ S154 ?_
    clear kq Kq
    refine Z0L 10 fun Kq kq => ?_
    refine Z4P (Z19 (Z0G (W.getD i 0) (3 * F + 1)) qi.x.h) H153 11 ?_
    intro w156 (H157 : Sat w [Za w (fun _ => False), Z3 x9 27 (Zt F), Z3 c34 112 (ZG F b25 g lc), Ze 119 79 (.slice (some ⟨g, 0, none⟩) 1 lc) 1 (([qi]).flatMap Zm), Zn qi.ms (Value.int .i64) ZO M, Z3 b25 108 (ZA m26), (ZB m26 Li), (ZD qi.pa qi.P qi.pc), Z0u Bz, Z3 x16 40 (hc qi.x.h), Zn b101 (Value.int .i64) Value.bool (Z0p M), Z3 b151 49 (Z19 (Z0G (W.getD i 0) (3 * F + 1)) qi.x.h)] w156)
    have S159 := H157.pk [0, 1, 2, 3, 4, 5, 6, 7, 8, 9, 10]
    refine kq _ _ S159 ?_
    clear kq Kq
    refine zhf ?_
    have H160 := H157.pk [0, 1, 2, 3, 4, 5, 6, 7, 8, 9, 10, 11]
    refine Z02 ?_ ⟨(Z0G (W.getD i 0) (3 * F + 1)), b151, rfl, (by have q_ := Z2L (W.getD i 0) (3 * F + 1) (by omega); omega), H160⟩
    exact zs
   refine zda (Z2B) H138 ?_
   intro b161 w162 (H163 : Sat w [Za w (fun _ => False), Z3 x9 27 (Zt F), Z3 c34 112 (ZG F b25 g lc), Ze 119 79 (.slice (some ⟨g, 0, none⟩) 1 lc) 1 (([qi]).flatMap Zm), Zn qi.ms (Value.int .i64) ZO M, Z3 b25 108 (ZA m26), (ZB m26 Li), (ZD qi.pa qi.P qi.pc), Z0u Bz, Z3 x16 40 (hc qi.x.h), Zn b101 (Value.int .i64) Value.bool (Z0p M), Z3 b161 49 (Z2B)] w162)
   have S164 := H163.pk [0, 1, 2, 3, 4, 5, 6, 7, 8, 9, 10]
   refine kq _ _ S164 ?_
   clear kq Kq
   refine Z0L 5 fun Kq kq => ?_
   refine zdq 77 (Z2K w162 (W.getD i 0) (3 * F + 1) (by omega)) H163 ?_
   intro w166 H167
   have S169 := H167.pk [0, 1, 2, 3, 4, 5, 6, 7, 8, 9, 10]
   refine kq _ _ S169 ?_
   clear kq Kq
   refine Zp 8 rfl (by kernel_rfl) (by kernel_rfl) (by kernel_rfl) (fun _ _ _ h => h) S169 (Z2 rfl) (d := 80) (v := (.agg ⟨(Z19 (Z0G (W.getD i 0) (3 * F + 1)) qi.x.h)⟩)) rfl (fun _ H' => (by kernel_rfl)) ?_
   refine Z0L 10 fun Kq kq => ?_
   refine Z4P (Z19 (Z0G (W.getD i 0) (3 * F + 1)) qi.x.h) H167 11 ?_
   intro w171 H172
   have S174 := H172.pk [0, 1, 2, 3, 4, 5, 6, 7, 8, 9, 10]
   refine kq _ _ S174 ?_
   clear kq Kq
   refine zhf ?_
   have H175 : Sat w [Za w (fun _ => False), Z3 x9 27 (Zt F), Z3 c34 112 (ZG F b25 g lc), Ze 119 79 (.slice (some ⟨g, 0, none⟩) 1 lc) 1 (([qi]).flatMap Zm), Zn qi.ms (Value.int .i64) ZO M, Z3 b25 108 (ZA m26), (ZB m26 Li), (ZD qi.pa qi.P qi.pc), Z0u Bz, Z3 x16 40 (hc qi.x.h), Zn b101 (Value.int .i64) Value.bool (Z0p M), Z3 b161 49 (Z19 (Z0G (W.getD i 0) (3 * F + 1)) qi.x.h)] w171 := H172.pk [0, 1, 2, 3, 4, 5, 6, 7, 8, 9, 10, 11]
   refine Z02 ?_ ⟨(Z0G (W.getD i 0) (3 * F + 1)), b161, rfl, (by have q_ := Z2L (W.getD i 0) (3 * F + 1) (by omega); omega), H175⟩
   exact zs
  rintro f176 w177 ⟨fr, x20, v179, hfr, H178⟩
  refine Zy 20 _ v179 ?_
  refine Z0K [81, 82, 83, 84, 85, 86, 87, 88, 89, 90, 91] (fun G_ W_ => ∃ (tm : Int), (1 ≤ tm ∧ tm ≤ 50) ∧ Sat w [Za w (fun _ => False), Z3 x9 27 (Zt F), Z3 c34 112 (ZG F b25 g lc), Ze 119 79 (.slice (some ⟨g, 0, none⟩) 1 lc) 1 (([qi]).flatMap Zm), Zn qi.ms (Value.int .i64) ZO M, Z3 b25 108 (ZA m26), (ZB m26 Li), (ZD qi.pa qi.P qi.pc), Z0u Bz, Z3 x16 40 (hc qi.x.h), Zn b101 (Value.int .i64) Value.bool (Z0p M), Z3 x20 49 (Z1a fr qi.x.h tm)] W_) ?_ ?_
  ·apply zsl
   refine wv 81 (.int .i64 ((i : Int))) ?_
   refine wv 82 (.slice ta TS.length tc) ?_
   refine wv 83 (.int .i64 ((TS.length : Int))) ?_
   refine wv 84 (.bool (decide ((i : Int) < (TS.length : Int)))) ?_
   apply znt
   refine (Z00 (decide ((i : Int) < (TS.length : Int)))).elim (fun b181 => ?_) (fun b181 => ?_)
   ·have g182 := of_decide_eq_true b181
    refine Z2v _ b181 ?_
    have htm0 : 0 ≤ TS.getD i 0 := Z7P hTb
    apply Zs
    refine wv 85 (.slice ta TS.length tc) ?_
    refine wv 86 (.int .i64 ((i : Int))) ?_
    obtain ⟨g184, o185, c186, e187, R188⟩ := SliceOf.atD hT 0 (show i < TS.length by omega)
    refine wv 87 (.pointer (some ⟨g184, o185 + ((i : Int)).toNat * 1, none⟩)) ?_ (hr := Z0d (E := 45) (by kernel_rfl) (by kernel_rfl) (Nat.le_of_ble_eq_true rfl) rfl e187 rfl (by omega) (by omega))
    refine zw1 88 (.int .u64 ((TS.getD i 0))) (H178.cellR 0 rfl (Z2c R188 0 (by kernel_rfl) (show o185 + ((i : Int)).toNat * 1 = o185 + i * 1 + 0 by omega)) (fun h => h)) ?_
    refine wv 89 (.int .u64 ((TS.getD i 0) % 50)) ?_ (hr := Z78 (by kernel_rfl) (by omega) (by omega))
    refine wv 90 (.int .u64 (1 + ((TS.getD i 0) % 50))) ?_ (hr := Z0h (z := 1 + ((TS.getD i 0) % 50)) (by kernel_rfl) (Z0Z (by omega)))
    refine wv 91 (pt x20 35) ?_
    refine zwd fun Kq kq => ?_
    refine zds ([(.int .u64 (1 + ((TS.getD i 0) % 50)))] : List Value) (Z1a fr qi.x.h (1 + ((TS.getD i 0) % 50))) H178 11 ?_
    intro w190 H191
    refine kq _ _ ?_
    clear kq Kq
    apply Zr
    have H193 : Sat w [Za w (fun _ => False), Z3 x9 27 (Zt F), Z3 c34 112 (ZG F b25 g lc), Ze 119 79 (.slice (some ⟨g, 0, none⟩) 1 lc) 1 (([qi]).flatMap Zm), Zn qi.ms (Value.int .i64) ZO M, Z3 b25 108 (ZA m26), (ZB m26 Li), (ZD qi.pa qi.P qi.pc), Z0u Bz, Z3 x16 40 (hc qi.x.h), Zn b101 (Value.int .i64) Value.bool (Z0p M), Z3 x20 49 (Z1a fr qi.x.h (1 + ((TS.getD i 0) % 50)))] w190 := H191.pk [0, 1, 2, 3, 4, 5, 6, 7, 8, 9, 10, 11]
    refine Z02 ?_ ⟨(1 + ((TS.getD i 0) % 50)), (by omega), H193⟩
    exact zs
   have g194 := of_decide_eq_false b181
   refine Z1K _ b181 ?_
   apply ZW
   have H196 := H178.pk [0, 1, 2, 3, 4, 5, 6, 7, 8, 9, 10, 11]
   refine Z02 ?_ ⟨(3 : Int), (by omega), H196⟩
   exact zs
  rintro f197 w198 ⟨tm, htm, H199⟩
  refine Z0K [92, 93, 94, 95, 96, 97, 98] (fun G_ W_ => ∃ (L2 : List Z4) (sm : Int), (yS qi.x.h fr tm ∈ L2) ∧ (SgL qi.x.h L2) ∧ (sm = Z9 L2 (yS qi.x.h fr tm)) ∧ (L2.length ≤ i + 2) ∧ Sat w [Za w (fun _ => False), Z3 x9 27 (Zt F), Z3 c34 112 (ZG F b25 g lc), Ze 119 79 (.slice (some ⟨g, 0, none⟩) 1 lc) 1 (([qi]).flatMap Zm), Zn qi.ms (Value.int .i64) ZO M, Z3 b25 108 (ZA m26), (ZB m26 L2), (ZD qi.pa qi.P qi.pc), Z0u Bz, Z3 x16 40 (hc qi.x.h), Zn b101 (Value.int .i64) Value.bool (Z0p M), Z3 x20 49 (Z0c fr qi.x.h tm sm)] W_) ?_ ?_
  ·refine Z12 H199 [Za w (fun _ => False), Z3 x9 27 (Zt F), Z3 c34 112 (ZG F b25 g lc), Ze 119 79 (.slice (some ⟨g, 0, none⟩) 1 lc) 1 (([qi]).flatMap Zm), Zn qi.ms (Value.int .i64) ZO M, Z3 b25 108 (ZA m26), (ZD qi.pa qi.P qi.pc), Z0u Bz, Z3 x16 40 (hc qi.x.h), Zn b101 (Value.int .i64) Value.bool (Z0p M), Z3 x20 49 (Z1a fr qi.x.h tm)] [7] 8 rfl (by kernel_rfl) (fun Hx => (Hx.pk [0, 1, 2, 3, 4, 5, 7, 8, 9, 10, 11])) ?_
   intro w201 H202 S203
   refine zkp 0 S203 92 (pt b25 0) ?_
   refine zkp 1 S203 93 (pt x20 0) ?_
   refine zkv 2 S203 94 (.int .i64 (fr)) ?_ (he := fun _ H' => (Zi rfl (by kernel_rfl) (H'.cell 10 rfl (by kernel_rfl))))
   refine zkv 3 S203 95 (.agg ⟨(Z1a fr qi.x.h tm)⟩) ?_ (he := fun _ H' => (ZE (vs := (Z1a fr qi.x.h tm)) rfl (by kernel_rfl) (by kernel_rfl) (by exact Nat.le_of_ble_eq_true (by kernel_rfl)) (H'.at 10 rfl) (by kernel_rfl)))
   refine Z7y 4 fun Kq kq => ?_
   refine zdc 96 (Z3v w201 (⟨fr, 1, 1, qi.x.h, tm, 0, 0⟩ : Zl) ⟨by show fr ≤ _; omega, by show (1 : Int) ≤ _; omega, by show (1 : Int) ≤ _; omega, by show 0 ≤ tm; omega, by show tm < _; omega⟩) ?_
   rintro _ w205 ⟨u206, rfl, k207, p208, q209⟩
   have H210 : Sat w [Za w (fun _ => False), Z3 x9 27 (Zt F), Z3 c34 112 (ZG F b25 g lc), Ze 119 79 (.slice (some ⟨g, 0, none⟩) 1 lc) 1 (([qi]).flatMap Zm), Zn qi.ms (Value.int .i64) ZO M, Z3 b25 108 (ZA m26), (ZB m26 Li), (ZD qi.pa qi.P qi.pc), Z0u Bz, Z3 x16 40 (hc qi.x.h), Zn b101 (Value.int .i64) Value.bool (Z0p M), Z3 x20 49 (Z1a fr qi.x.h tm), Ze 5 1 u206 ((Z08 (⟨fr, 1, 1, qi.x.h, tm, 0, 0⟩ : Zl)).length) ((Z08 (⟨fr, 1, 1, qi.x.h, tm, 0, 0⟩ : Zl)).flatMap Zo)] w205 := H202.addU p208 k207 q209
   obtain ⟨a211, c212, rfl⟩ := Zg (H210.at 12 rfl)
   refine ⟨_, rfl, ?_⟩
   have S213 := H210.pk [0, 1, 2, 3, 4, 5, 7, 8, 9, 10, 11]
   refine kq _ _ S213 ?_
   clear kq Kq
   refine Z7y 5 fun Kq kq => ?_
   refine zdc 97 (Z3e w205 b25 m26 Li (.slice a211 ((Z08 (⟨fr, 1, 1, qi.x.h, tm, 0, 0⟩ : Zl)).length) c212) (Z08 (⟨fr, 1, 1, qi.x.h, tm, 0, 0⟩ : Zl)) (H210.fn [5, 6, 12]) (by omega) fr) ?_
   rintro _ w215 ⟨rfl, T216⟩
   have hsl := Z1T Li (⟨fr, (Z08 (⟨fr, 1, 1, qi.x.h, tm, 0, 0⟩ : Zl))⟩ : Z4)
   have H217 := H210.tl [Z3 b25 108 (ZA m26), (ZB m26 (Zd Li (⟨fr, (Z08 (⟨fr, 1, 1, qi.x.h, tm, 0, 0⟩ : Zl))⟩ : Z4))), (ZD a211 (Z08 (⟨fr, 1, 1, qi.x.h, tm, 0, 0⟩ : Zl)) c212)] [5, 6, 12] [0, 1, 2, 3, 4, 7, 8, 9, 10, 11] T216 [3, 4, 5, 6, 7, 0, 1, 8, 9, 10, 11, 12, 2]
   refine ⟨_, rfl, ?_⟩
   have S218 := H217.pk [0, 1, 2, 3, 4, 5, 7, 8, 9, 10, 11]
   refine kq _ _ S218 ?_
   clear kq Kq
   refine zkp 6 S218 98 (pt x20 36) ?_
   refine Z29 7 (Sat w [Za w (fun _ => False), Z3 x9 27 (Zt F), Z3 c34 112 (ZG F b25 g lc), Ze 119 79 (.slice (some ⟨g, 0, none⟩) 1 lc) 1 (([qi]).flatMap Zm), Zn qi.ms (Value.int .i64) ZO M, Z3 b25 108 (ZA m26), (ZD qi.pa qi.P qi.pc), Z0u Bz, Z3 x16 40 (hc qi.x.h), Zn b101 (Value.int .i64) Value.bool (Z0p M)]) rfl (by kernel_rfl) (Z2 rfl) rfl (fun Kq kq => ?_)
   refine zds ([(.int .i64 (fr)), (.int .i64 (Z9 (Zd Li (⟨fr, (Z08 (⟨fr, 1, 1, qi.x.h, tm, 0, 0⟩ : Zl))⟩ : Z4)) (⟨fr, (Z08 (⟨fr, 1, 1, qi.x.h, tm, 0, 0⟩ : Zl))⟩ : Z4)))] : List Value) (Z0c fr qi.x.h tm (Z9 (Zd Li (⟨fr, (Z08 (⟨fr, 1, 1, qi.x.h, tm, 0, 0⟩ : Zl))⟩ : Z4)) (⟨fr, (Z08 (⟨fr, 1, 1, qi.x.h, tm, 0, 0⟩ : Zl))⟩ : Z4))) H217 11 ?_
   intro w220 (H221 : Sat w [Za w (fun _ => False), Z3 x9 27 (Zt F), Z3 c34 112 (ZG F b25 g lc), Ze 119 79 (.slice (some ⟨g, 0, none⟩) 1 lc) 1 (([qi]).flatMap Zm), Zn qi.ms (Value.int .i64) ZO M, Z3 b25 108 (ZA m26), (ZB m26 (Zd Li (⟨fr, (Z08 (⟨fr, 1, 1, qi.x.h, tm, 0, 0⟩ : Zl))⟩ : Z4))), (ZD qi.pa qi.P qi.pc), Z0u Bz, Z3 x16 40 (hc qi.x.h), Zn b101 (Value.int .i64) Value.bool (Z0p M), Z3 x20 49 (Z0c fr qi.x.h tm (Z9 (Zd Li (⟨fr, (Z08 (⟨fr, 1, 1, qi.x.h, tm, 0, 0⟩ : Zl))⟩ : Z4)) (⟨fr, (Z08 (⟨fr, 1, 1, qi.x.h, tm, 0, 0⟩ : Zl))⟩ : Z4))), (ZD a211 (Z08 (⟨fr, 1, 1, qi.x.h, tm, 0, 0⟩ : Zl)) c212)] w220)
   have S223 := H221.pk [0, 1, 2, 3, 4, 5, 7, 8, 9, 10]
   refine kq _ _ S223 ?_
   clear kq Kq
   refine zhf ?_
   have H224 := H221.pk [0, 1, 2, 3, 4, 5, 6, 7, 8, 9, 10, 11]
   refine Z02 ?_ ⟨(Zd Li (⟨fr, (Z08 (⟨fr, 1, 1, qi.x.h, tm, 0, 0⟩ : Zl))⟩ : Z4)), (Z9 (Zd Li (⟨fr, (Z08 (⟨fr, 1, 1, qi.x.h, tm, 0, 0⟩ : Zl))⟩ : Z4)) (⟨fr, (Z08 (⟨fr, 1, 1, qi.x.h, tm, 0, 0⟩ : Zl))⟩ : Z4)), (Z6K _ _), (hSg.sign htm), rfl, (Nat.le_trans (Z1T _ _) (by omega)), H224⟩
   exact zs
  rintro f225 w226 ⟨L2, sm, hy2, hSg2, hsm, hlL2, H227⟩
  refine Z0K [21, 99, 100, 101, 102, 103, 104, 105, 106, 107, 108] (fun G_ W_ => ∃ (wr : Bool), G_ 21 = (.bool (wr)) ∧ Sat w [Za w (fun _ => False), Z3 x9 27 (Zt F), Z3 c34 112 (ZG F b25 g lc), Ze 119 79 (.slice (some ⟨g, 0, none⟩) 1 lc) 1 (([qi]).flatMap Zm), Zn qi.ms (Value.int .i64) ZO M, Z3 b25 108 (ZA m26), (ZB m26 L2), (ZD qi.pa qi.P qi.pc), Z0u Bz, Z3 x16 40 (hc qi.x.h), Zn b101 (Value.int .i64) Value.bool (Z0p M), Z3 x20 49 (Z0c fr qi.x.h tm sm)] W_) ?_ ?_
  ·apply Zs
   refine wv 99 (.int .i64 ((i : Int))) ?_
   refine wv 100 (.slice ba BD.length bc) ?_
   refine wv 101 (.int .i64 ((BD.length : Int))) ?_
   refine wv 102 (.bool (decide ((i : Int) < (BD.length : Int)))) ?_
   refine wv 103 (.bool (decide ((i : Int) < (BD.length : Int)))) ?_
   refine (Z00 (decide ((i : Int) < (BD.length : Int)))).elim (fun b229 => ?_) (fun b229 => ?_)
   ·have g230 := of_decide_eq_true b229
    refine Z05 103 (.bool true) (congrArg Value.bool b229) ?_
    refine wy 4 103 true 104 (.slice ba BD.length bc) ?_
    refine wy 4 103 true 105 (.int .i64 ((i : Int))) ?_
    obtain ⟨g232, o233, c234, e235, R236⟩ := SliceOf.atD hBd false (show i < BD.length by omega)
    refine wy 4 103 true 106 (.pointer (some ⟨g232, o233 + ((i : Int)).toNat * 1, none⟩)) ?_ (hr := Z0d (E := 4) (by kernel_rfl) (by kernel_rfl) (Nat.le_of_ble_eq_true rfl) rfl e235 rfl (by omega) (by omega))
    refine wy 4 103 true 107 (.bool ((BD.getD i false))) ?_ (hr := Zi rfl (by kernel_rfl) (H227.cellR 0 rfl (Z2c R236 0 (by kernel_rfl) (show o233 + ((i : Int)).toNat * 1 = o233 + i * 1 + 0 by omega)) (fun h => h)))
    refine wv 108 (.bool ((BD.getD i false))) ?_
    refine wv 21 (.bool ((BD.getD i false))) ?_
    apply Zr
    have H237 : Sat w [Za w (fun _ => False), Z3 x9 27 (Zt F), Z3 c34 112 (ZG F b25 g lc), Ze 119 79 (.slice (some ⟨g, 0, none⟩) 1 lc) 1 (([qi]).flatMap Zm), Zn qi.ms (Value.int .i64) ZO M, Z3 b25 108 (ZA m26), (ZB m26 L2), (ZD qi.pa qi.P qi.pc), Z0u Bz, Z3 x16 40 (hc qi.x.h), Zn b101 (Value.int .i64) Value.bool (Z0p M), Z3 x20 49 (Z0c fr qi.x.h tm sm)] w226 := H227.pk [0, 1, 2, 3, 4, 5, 6, 7, 8, 9, 10, 11]
    refine Z02 ?_ ⟨((BD.getD i false)), rfl, H237⟩
    exact zs
   have g238 := of_decide_eq_false b229
   refine Z05 103 (.bool false) (congrArg Value.bool b229) ?_
   iterate 4 refine wn 4 103 true ?_
   refine wv 108 (.bool false) ?_
   refine wv 21 (.bool false) ?_
   apply Zr
   have H240 := H227.pk [0, 1, 2, 3, 4, 5, 6, 7, 8, 9, 10, 11]
   refine Z02 ?_ ⟨false, rfl, H240⟩
   exact zs
  rintro f241 w242 ⟨wr, v244, H243⟩
  refine Zy 21 _ v244 ?_
  apply Zh
  apply zsl
  refine wv 109 (.bool (wr)) ?_
  apply znt
  refine (Z00 (wr)).elim (fun b245 => ?_) (fun b245 => ?_)
  ·refine Z2v _ b245 ?_
   apply Zs
   refine wv 110 (pt x20 35) ?_
   refine zw1 111 (.int .u64 (tm)) (H243.cell 11 rfl (by kernel_rfl)) ?_
   refine wv 112 (.int .u64 (tm + 60)) ?_ (hr := Z0h (z := tm + 60) (by kernel_rfl) (Z0Z (by omega)))
   refine wv 113 (pt x20 35) ?_
   refine zwd fun Kq kq => ?_
   refine zds ([(.int .u64 (tm + 60))] : List Value) (Z0c fr qi.x.h (tm + 60) sm) H243 11 ?_
   intro w247 (H248 : Sat w [Za w (fun _ => False), Z3 x9 27 (Zt F), Z3 c34 112 (ZG F b25 g lc), Ze 119 79 (.slice (some ⟨g, 0, none⟩) 1 lc) 1 (([qi]).flatMap Zm), Zn qi.ms (Value.int .i64) ZO M, Z3 b25 108 (ZA m26), (ZB m26 L2), (ZD qi.pa qi.P qi.pc), Z0u Bz, Z3 x16 40 (hc qi.x.h), Zn b101 (Value.int .i64) Value.bool (Z0p M), Z3 x20 49 (Z0c fr qi.x.h (tm + 60) sm)] w247)
   refine kq _ _ ?_
   clear kq Kq
   apply Z1J
   refine wv 114 (pt c34 0) ?_
   refine wv 115 (pt x20 0) ?_
   refine zw1 116 (.int .i64 (fr)) (H248.cell 11 rfl (by kernel_rfl)) ?_
   refine zwN 117 (Z0c fr qi.x.h (tm + 60) sm) (H248.at 11 rfl) ?_
   refine wv 118 (.agg ⟨(Z39 fr qi.x.h (tm + 60) sm (ZX ([] : List UInt8)))⟩) ?_
   refine zwd fun Kq kq => ?_
   have hsr : Z0W F L2 (⟨fr, 1, 1, qi.x.h, tm + 60, fr, sm⟩ : Zl) = false := ct_no hSg2 (by omega) htm
   refine zdc 119 (Z35 w247 c34 b25 m26 g lc F 2 1 [qi] 0 qi rfl L2 M (H248.fn [2, 3, 4, 5, 6]) (Nat.le_of_ble_eq_true rfl) hM hF (by decide) fr 1 (tm + 60) fr sm rfl ⟨hq0.2.2.2.2.1, hq0.2.2.2.2.2⟩ ⟨by show fr ≤ _; omega, by show (1 : Int) ≤ _; omega, by show (1 : Int) ≤ _; omega, by show 0 ≤ (tm + 60); omega, by show (tm + 60) < _; omega⟩ (by unfold inB; simp; omega)) ?_
   rintro _ w251 (⟨h1, rfl, hT_⟩ | ⟨h1, h2, rfl, hT_⟩ | ⟨h1, h2, z, sa, sc, S3, T, da, dc, D, B, rfl, hDn, hO, hS3, hT_⟩)
   ·have H252 := H248.tl [Z3 c34 112 (ZG F b25 g lc), Ze 119 79 (.slice (some ⟨g, 0, none⟩) 1 lc) 1 (([qi]).flatMap Zm), Zn qi.ms (Value.int .i64) ZO M, Z3 b25 108 (ZA m26), (ZB m26 L2)] [2, 3, 4, 5, 6] [0, 1, 7, 8, 9, 10, 11] hT_ [5, 6, 0, 1, 2, 3, 4, 7, 8, 9, 10, 11]
    refine ⟨_, rfl, ?_⟩
    refine kq _ _ ?_
    clear kq Kq
    refine wv 22 (.slice none 0 0) ?_
    apply znt
    apply Zh
    apply zsl
    refine wv 120 (.bool (wr)) ?_
    refine wv 121 (.bool (!(wr))) ?_
    apply znt
    have b253 : (!(wr)) = false := by rw [b245]; rfl
    have g254 := Z09 b253
    refine Z1K _ b253 ?_
    apply ZW
    apply ztn
    apply Zh
    apply zsl
    refine wv 125 (.slice none 0 0) ?_
    refine wv 126 (.int .i64 (0)) ?_
    refine wv 127 (.bool false) ?_
    refine wv 128 (.bool (qi.cb.isSome)) ?_
    refine wv 129 (.bool (!(qi.cb.isSome))) ?_
    refine wv 130 (.bool (!(qi.cb.isSome))) ?_
    refine (Z00 (!(qi.cb.isSome))).elim (fun b255 => ?_) (fun b255 => ?_)
    ·have g256 := Z14 b255
     refine Z05 130 (.bool true) (congrArg Value.bool b255) ?_
     refine wy 5 130 true 131 (.map (some b101)) ?_
     refine wy 5 130 true 132 (.int .i64 ((((Z0p M)).length : Int))) ?_ (hr := Z6b (kt := 3) (et := 4) (by kernel_rfl) (H252.at 10 rfl) rfl)
     refine wy 5 130 true 133 (.agg ⟨(Zt F)⟩) ?_ (hr := ZE (vs := (Zt F)) rfl (by kernel_rfl) (by kernel_rfl) (by exact Nat.le_of_ble_eq_true (by kernel_rfl)) (H252.at 1 rfl) (by kernel_rfl))
     refine ZQ (Zw 5 130 true rfl (by kernel_rfl) rfl (by kernel_rfl)) (fun Kq kq => ?_)
     refine zdq 134 (Z4e w251 F 2 (by omega)) H252 ?_
     intro w259 H260
     refine kq _ _ ?_
     clear kq Kq
     refine wy 5 130 true 135 (.bool (decide ((((Z0p M)).length : Int) ≥ (2 * F + 1)))) ?_
     refine wv 136 (.bool (decide ((((Z0p M)).length : Int) ≥ (2 * F + 1)))) ?_
     refine wv 137 (.bool (!(false == (decide ((((Z0p M)).length : Int) ≥ (2 * F + 1)))))) ?_
     apply znt
     have b262 : (!(false == (decide ((((Z0p M)).length : Int) ≥ (2 * F + 1))))) = false := by have q1_ := (show qi.cb.isSome = false by have q_ := b255; simpa using q_); have q2_ := hcb; rw [q1_] at q2_; rw [Z3b, decide_eq_false (show ¬ ((M.length : Int) ≥ 2 * F + 1) from fun z_ => of_decide_eq_false q2_.symm z_)]; rfl
     have g263 := Z09 b262
     refine Z1K _ b262 ?_
     apply ZW
     apply ztn
     apply zsl
     refine wv 138 (.slice none 0 0) ?_
     refine wv 139 (.int .i64 (0)) ?_
     refine wv 140 (.bool false) ?_
     apply znt
     refine Z0o rfl ?_
     apply ZW
     apply ZR
     apply ztn
     apply Zs
     refine wv 70 (.int .i64 ((i : Int))) ?_
     refine zwi 71 ((i : Int) + 1) ?_
     refine wv 19 (.int .i64 ((i : Int) + 1)) ?_
     apply Zr
     have H264 : Sat w [Za w (fun _ => False), Z3 x9 27 (Zt F), Z3 c34 112 (ZG F b25 g lc), Ze 119 79 (.slice (some ⟨g, 0, none⟩) 1 lc) 1 (([qi]).flatMap Zm), Zn qi.ms (Value.int .i64) ZO M, Z3 b25 108 (ZA m26), (ZB m26 L2), (ZD qi.pa qi.P qi.pc), Z0u Bz, Z3 x16 40 (hc qi.x.h), Zn b101 (Value.int .i64) Value.bool (Z0p M)] w259 := H260.pk [0, 1, 2, 3, 4, 5, 6, 7, 8, 9, 10]
     refine ZS ?_ _ ⟨(i + 1), qi, M, L2, Bz, rfl, rfl, (by omega), (by omega), hq0, hqP, hM, hcb, hcr, hSg2, H264, rfl⟩ (by omega)
     exact zs
    have g265 := Z09 b255
    refine Z05 130 (.bool false) (congrArg Value.bool b255) ?_
    iterate 5 refine wn 5 130 true ?_
    refine wv 136 (.bool false) ?_
    refine wv 137 (.bool false) ?_
    apply znt
    refine Z0o rfl ?_
    apply ZW
    apply ztn
    apply zsl
    refine wv 138 (.slice none 0 0) ?_
    refine wv 139 (.int .i64 (0)) ?_
    refine wv 140 (.bool false) ?_
    apply znt
    refine Z0o rfl ?_
    apply ZW
    apply ZR
    apply ztn
    apply Zs
    refine wv 70 (.int .i64 ((i : Int))) ?_
    refine zwi 71 ((i : Int) + 1) ?_
    refine wv 19 (.int .i64 ((i : Int) + 1)) ?_
    apply Zr
    have H267 := H252.pk [0, 1, 2, 3, 4, 5, 6, 7, 8, 9, 10]
    refine ZS ?_ _ ⟨(i + 1), qi, M, L2, Bz, rfl, rfl, (by omega), (by omega), hq0, hqP, hM, hcb, hcr, hSg2, H267, rfl⟩ (by omega)
    exact zs
   ·rw [hsr] at h1; cases h1
   rw [hsr] at h1; cases h1
  refine Z1K _ b245 ?_
  apply ZW
  apply ztn
  apply zsl
  refine wv 114 (pt c34 0) ?_
  refine wv 115 (pt x20 0) ?_
  refine zw1 116 (.int .i64 (fr)) (H243.cell 11 rfl (by kernel_rfl)) ?_
  refine zwN 117 (Z0c fr qi.x.h tm sm) (H243.at 11 rfl) ?_
  refine wv 118 (.agg ⟨(Z39 fr qi.x.h tm sm (ZX ([] : List UInt8)))⟩) ?_
  refine zwd fun Kq kq => ?_
  have hsr : Z0W F L2 (⟨fr, 1, 1, qi.x.h, tm, fr, sm⟩ : Zl) = true := ct_yes hy2 hfr htm hsm
  refine zdc 119 (Z35 w242 c34 b25 m26 g lc F 2 1 [qi] 0 qi rfl L2 M (H243.fn [2, 3, 4, 5, 6]) (Nat.le_of_ble_eq_true rfl) hM hF (by decide) fr 1 tm fr sm rfl ⟨hq0.2.2.2.2.1, hq0.2.2.2.2.2⟩ ⟨by show fr ≤ _; omega, by show (1 : Int) ≤ _; omega, by show (1 : Int) ≤ _; omega, by show 0 ≤ tm; omega, by show tm < _; omega⟩ (by unfold inB; simp; omega)) ?_
  rintro _ w269 (⟨h1, rfl, hT_⟩ | ⟨h1, h2, rfl, hT_⟩ | ⟨h1, h2, z, sa, sc, S3, T, da, dc, D, B, rfl, hDn, hO, hS3, hT_⟩)
  ·rw [hsr] at h1; cases h1
  ·have H270 : Sat w [Za w (fun _ => False), Z3 x9 27 (Zt F), Z3 c34 112 (ZG F b25 g lc), Ze 119 79 (.slice (some ⟨g, 0, none⟩) 1 lc) 1 (([qi]).flatMap Zm), Zn qi.ms (Value.int .i64) ZO (Z1k M fr (⟨fr, 1, 1, qi.x.h, tm, fr, sm⟩ : Zl)), Z3 b25 108 (ZA m26), (ZB m26 L2), (ZD qi.pa qi.P qi.pc), Z0u Bz, Z3 x16 40 (hc qi.x.h), Zn b101 (Value.int .i64) Value.bool (Z0p M), Z3 x20 49 (Z0c fr qi.x.h tm sm)] w269 := (Sat.turnL (L' := [Z3 c34 112 (ZG F b25 g lc), Ze 119 79 (.slice (some ⟨g, 0, none⟩) 1 lc) 1 (([qi]).flatMap Zm), Zn qi.ms (Value.int .i64) ZO (Z1k M fr (⟨fr, 1, 1, qi.x.h, tm, fr, sm⟩ : Zl)), Z3 b25 108 (ZA m26), (ZB m26 L2)]) (R := [Za w (fun _ => False), Z3 x9 27 (Zt F), (ZD qi.pa qi.P qi.pc), Z0u Bz, Z3 x16 40 (hc qi.x.h), Zn b101 (Value.int .i64) Value.bool (Z0p M), Z3 x20 49 (Z0c fr qi.x.h tm sm)]) H243 [2, 3, 4, 5, 6] [0, 1, 7, 8, 9, 10, 11] (by decide) (by kernel_rfl) rfl hT_).pk [5, 6, 0, 1, 2, 3, 4, 7, 8, 9, 10, 11]
   refine ⟨_, rfl, ?_⟩
   have hM2 : StM F qi.x (Z1k M fr (⟨fr, 1, 1, qi.x.h, tm, fr, sm⟩ : Zl)) := hM.add (s := (⟨fr, 1, 1, qi.x.h, tm, fr, sm⟩ : Zl)) hfr (by unfold Z2H; simp [hq0.2.2.2.2.1, hq0.2.2.2.2.2])
   refine kq _ _ ?_
   clear kq Kq
   refine wv 22 (.slice none 0 0) ?_
   apply znt
   apply Zh
   apply zsl
   refine wv 120 (.bool (wr)) ?_
   refine wv 121 (.bool (!(wr))) ?_
   apply znt
   have b271 : (!(wr)) = true := by rw [b245]; rfl
   have g272 := Z14 b271
   refine Z2v _ b271 ?_
   apply Zs
   refine wv 122 (.map (some b101)) ?_
   refine wv 123 (pt x20 0) ?_
   refine zw1 124 (.int .i64 (fr)) (H270.cell 11 rfl (by kernel_rfl)) ?_
   refine zwd fun Kq kq => ?_
   refine Z1A (kt := 3) (et := 4) rfl H270 10 rfl (KeyTy.int (by kernel_rfl)) (by kernel_rfl) rfl fr rfl true rfl ?_
   intro w274 (H275 : Sat w [Za w (fun _ => False), Z3 x9 27 (Zt F), Z3 c34 112 (ZG F b25 g lc), Ze 119 79 (.slice (some ⟨g, 0, none⟩) 1 lc) 1 (([qi]).flatMap Zm), Zn qi.ms (Value.int .i64) ZO (Z1k M fr (⟨fr, 1, 1, qi.x.h, tm, fr, sm⟩ : Zl)), Z3 b25 108 (ZA m26), (ZB m26 L2), (ZD qi.pa qi.P qi.pc), Z0u Bz, Z3 x16 40 (hc qi.x.h), Zn b101 (Value.int .i64) Value.bool (Z2q (Z0p M) fr true), Z3 x20 49 (Z0c fr qi.x.h tm sm)] w274)
   refine kq _ _ ?_
   clear kq Kq
   apply znt
   apply Zh
   apply Zh
   have H276 : Sat w [Za w (fun _ => False), Z3 x9 27 (Zt F), Z3 c34 112 (ZG F b25 g lc), Ze 119 79 (.slice (some ⟨g, 0, none⟩) 1 lc) 1 (([qi]).flatMap Zm), Zn qi.ms (Value.int .i64) ZO (Z1k M fr (⟨fr, 1, 1, qi.x.h, tm, fr, sm⟩ : Zl)), Z3 b25 108 (ZA m26), (ZB m26 L2), (ZD qi.pa qi.P qi.pc), Z0u Bz, Z3 x16 40 (hc qi.x.h), Zn b101 (Value.int .i64) Value.bool (Z0p (Z1k M fr (⟨fr, 1, 1, qi.x.h, tm, fr, sm⟩ : Zl))), Z3 x20 49 (Z0c fr qi.x.h tm sm)] w274 := H275.cast (by rw [Z4z])
   have hle2 : M.length ≤ (Z1k M fr (⟨fr, 1, 1, qi.x.h, tm, fr, sm⟩ : Zl)).length := Z62
   have hsh : decide (2 * F + 1 ≤ ((Z1k M fr (⟨fr, 1, 1, qi.x.h, tm, fr, sm⟩ : Zl)).length : Int)) = qi.cb.isSome := by
    rcases h2 with h2 | h2
    ·rw [h2]; rw [h2] at hcb; exact decide_eq_true (by have q_ := of_decide_eq_true hcb.symm; omega)
    rw [hcb, decide_eq_false (by omega)]; exact (decide_eq_false (by omega)).symm
   apply Zs
   refine wv 125 (.slice none 0 0) ?_
   refine wv 126 (.int .i64 (0)) ?_
   refine wv 127 (.bool false) ?_
   refine wv 128 (.bool (qi.cb.isSome)) ?_
   refine wv 129 (.bool (!(qi.cb.isSome))) ?_
   refine wv 130 (.bool (!(qi.cb.isSome))) ?_
   refine (Z00 (!(qi.cb.isSome))).elim (fun b277 => ?_) (fun b277 => ?_)
   ·have g278 := Z14 b277
    refine Z05 130 (.bool true) (congrArg Value.bool b277) ?_
    refine wy 5 130 true 131 (.map (some b101)) ?_
    refine wy 5 130 true 132 (.int .i64 ((((Z0p (Z1k M fr (⟨fr, 1, 1, qi.x.h, tm, fr, sm⟩ : Zl)))).length : Int))) ?_ (hr := Z6b (kt := 3) (et := 4) (by kernel_rfl) (H276.at 10 rfl) rfl)
    refine wy 5 130 true 133 (.agg ⟨(Zt F)⟩) ?_ (hr := ZE (vs := (Zt F)) rfl (by kernel_rfl) (by kernel_rfl) (by exact Nat.le_of_ble_eq_true (by kernel_rfl)) (H276.at 1 rfl) (by kernel_rfl))
    refine ZQ (Zw 5 130 true rfl (by kernel_rfl) rfl (by kernel_rfl)) (fun Kq kq => ?_)
    refine zdq 134 (Z4e w274 F 2 (by omega)) H276 ?_
    intro w281 H282
    refine kq _ _ ?_
    clear kq Kq
    refine wy 5 130 true 135 (.bool (decide ((((Z0p (Z1k M fr (⟨fr, 1, 1, qi.x.h, tm, fr, sm⟩ : Zl)))).length : Int) ≥ (2 * F + 1)))) ?_
    refine wv 136 (.bool (decide ((((Z0p (Z1k M fr (⟨fr, 1, 1, qi.x.h, tm, fr, sm⟩ : Zl)))).length : Int) ≥ (2 * F + 1)))) ?_
    refine wv 137 (.bool (!(false == (decide ((((Z0p (Z1k M fr (⟨fr, 1, 1, qi.x.h, tm, fr, sm⟩ : Zl)))).length : Int) ≥ (2 * F + 1)))))) ?_
    apply znt
    have b284 : (!(false == (decide ((((Z0p (Z1k M fr (⟨fr, 1, 1, qi.x.h, tm, fr, sm⟩ : Zl)))).length : Int) ≥ (2 * F + 1))))) = false := by have q1_ := (show qi.cb.isSome = false by have q_ := b277; simpa using q_); have q2_ := hsh; rw [q1_] at q2_; rw [Z3b, decide_eq_false (fun z_ => of_decide_eq_false q2_ z_)]; rfl
    have g285 := Z09 b284
    refine Z1K _ b284 ?_
    apply ZW
    apply ztn
    apply zsl
    refine wv 138 (.slice none 0 0) ?_
    refine wv 139 (.int .i64 (0)) ?_
    refine wv 140 (.bool false) ?_
    apply znt
    refine Z0o rfl ?_
    apply ZW
    apply ZR
    apply ztn
    apply Zs
    refine wv 70 (.int .i64 ((i : Int))) ?_
    refine zwi 71 ((i : Int) + 1) ?_
    refine wv 19 (.int .i64 ((i : Int) + 1)) ?_
    apply Zr
    have H286 := H282.pk [0, 1, 2, 3, 4, 5, 6, 7, 8, 9, 10]
    refine ZS ?_ _ ⟨(i + 1), qi, (Z1k M fr (⟨fr, 1, 1, qi.x.h, tm, fr, sm⟩ : Zl)), L2, Bz, rfl, rfl, (by omega), (by omega), hq0, hqP, hM2, hsh.symm, hcr, hSg2, H286, rfl⟩ (by omega)
    exact zs
   have g287 := Z09 b277
   refine Z05 130 (.bool false) (congrArg Value.bool b277) ?_
   iterate 5 refine wn 5 130 true ?_
   refine wv 136 (.bool false) ?_
   refine wv 137 (.bool false) ?_
   apply znt
   refine Z0o rfl ?_
   apply ZW
   apply ztn
   apply zsl
   refine wv 138 (.slice none 0 0) ?_
   refine wv 139 (.int .i64 (0)) ?_
   refine wv 140 (.bool false) ?_
   apply znt
   refine Z0o rfl ?_
   apply ZW
   apply ZR
   apply ztn
   apply Zs
   refine wv 70 (.int .i64 ((i : Int))) ?_
   refine zwi 71 ((i : Int) + 1) ?_
   refine wv 19 (.int .i64 ((i : Int) + 1)) ?_
   apply Zr
   have H289 : Sat w [Za w (fun _ => False), Z3 x9 27 (Zt F), Z3 c34 112 (ZG F b25 g lc), Ze 119 79 (.slice (some ⟨g, 0, none⟩) 1 lc) 1 (([qi]).flatMap Zm), Zn qi.ms (Value.int .i64) ZO (Z1k M fr (⟨fr, 1, 1, qi.x.h, tm, fr, sm⟩ : Zl)), Z3 b25 108 (ZA m26), (ZB m26 L2), (ZD qi.pa qi.P qi.pc), Z0u Bz, Z3 x16 40 (hc qi.x.h), Zn b101 (Value.int .i64) Value.bool (Z0p (Z1k M fr (⟨fr, 1, 1, qi.x.h, tm, fr, sm⟩ : Zl)))] w274 := H276.pk [0, 1, 2, 3, 4, 5, 6, 7, 8, 9, 10]
   refine ZS ?_ _ ⟨(i + 1), qi, (Z1k M fr (⟨fr, 1, 1, qi.x.h, tm, fr, sm⟩ : Zl)), L2, Bz, rfl, rfl, (by omega), (by omega), hq0, hqP, hM2, hsh.symm, hcr, hSg2, H289, rfl⟩ (by omega)
   exact zs
  have H290 := H243.tl [Z3 c34 112 (ZG F b25 g lc), Ze 119 79 (.slice (some ⟨g, 0, none⟩) 1 lc) 1 (([(⟨qi.x, qi.pa, qi.pc, qi.P, qi.no, qi.ms, some z, qi.ma, qi.mr, qi.op, qi.pl, qi.mp, qi.dn, qi.rp⟩ : Zq)]).flatMap Zm), Zn qi.ms (Value.int .i64) ZO (Z1k M fr (⟨fr, 1, 1, qi.x.h, tm, fr, sm⟩ : Zl)), Z3 b25 108 (ZA m26), (ZB m26 L2), Z3 z 57 (Z10 qi.x sa S3.length sc), (Z11 sa T sc), Ze 82 295 (.slice da D.length dc) D.length (D.flatMap Z0b), Z0u B] [2, 3, 4, 5, 6] [0, 1, 7, 8, 9, 10, 11] hT_ [9, 10, 0, 1, 2, 3, 4, 11, 12, 13, 14, 15, 5, 6, 7, 8]
  refine ⟨_, rfl, ?_⟩
  have hM2 : StM F qi.x (Z1k M fr (⟨fr, 1, 1, qi.x.h, tm, fr, sm⟩ : Zl)) := hM.add (s := (⟨fr, 1, 1, qi.x.h, tm, fr, sm⟩ : Zl)) hfr (by unfold Z2H; simp [hq0.2.2.2.2.1, hq0.2.2.2.2.2])
  refine kq _ _ ?_
  clear kq Kq
  refine wv 22 (.slice da D.length dc) ?_
  apply znt
  apply Zh
  apply zsl
  refine wv 120 (.bool (wr)) ?_
  refine wv 121 (.bool (!(wr))) ?_
  apply znt
  have b291 : (!(wr)) = true := by rw [b245]; rfl
  have g292 := Z14 b291
  refine Z2v _ b291 ?_
  apply Zs
  refine wv 122 (.map (some b101)) ?_
  refine wv 123 (pt x20 0) ?_
  refine zw1 124 (.int .i64 (fr)) (H290.cell 11 rfl (by kernel_rfl)) ?_
  refine zwd fun Kq kq => ?_
  refine Z1A (kt := 3) (et := 4) rfl H290 10 rfl (KeyTy.int (by kernel_rfl)) (by kernel_rfl) rfl fr rfl true rfl ?_
  intro w294 (H295 : Sat w [Za w (fun _ => False), Z3 x9 27 (Zt F), Z3 c34 112 (ZG F b25 g lc), Ze 119 79 (.slice (some ⟨g, 0, none⟩) 1 lc) 1 (([(⟨qi.x, qi.pa, qi.pc, qi.P, qi.no, qi.ms, some z, qi.ma, qi.mr, qi.op, qi.pl, qi.mp, qi.dn, qi.rp⟩ : Zq)]).flatMap Zm), Zn qi.ms (Value.int .i64) ZO (Z1k M fr (⟨fr, 1, 1, qi.x.h, tm, fr, sm⟩ : Zl)), Z3 b25 108 (ZA m26), (ZB m26 L2), (ZD qi.pa qi.P qi.pc), Z0u Bz, Z3 x16 40 (hc qi.x.h), Zn b101 (Value.int .i64) Value.bool (Z2q (Z0p M) fr true), Z3 x20 49 (Z0c fr qi.x.h tm sm), Z3 z 57 (Z10 qi.x sa S3.length sc), (Z11 sa T sc), Ze 82 295 (.slice da D.length dc) D.length (D.flatMap Z0b), Z0u B] w294)
  refine kq _ _ ?_
  clear kq Kq
  apply znt
  apply Zh
  apply Zh
  have H296 := H295.ct 10 rfl (Zn b101 (Value.int .i64) Value.bool (Z0p (Z1k M fr (⟨fr, 1, 1, qi.x.h, tm, fr, sm⟩ : Zl)))) (by rw [Z4z])
  have hle2 : M.length ≤ (Z1k M fr (⟨fr, 1, 1, qi.x.h, tm, fr, sm⟩ : Zl)).length := Z62
  apply Zs
  refine wv 125 (.slice da D.length dc) ?_
  refine wv 126 (.int .i64 ((D.length : Int))) ?_
  refine wv 127 (.bool (decide ((D.length : Int) > 0))) ?_
  refine wv 128 (.bool (qi.cb.isSome)) ?_
  refine wv 129 (.bool (!(qi.cb.isSome))) ?_
  refine wv 130 (.bool (!(qi.cb.isSome))) ?_
  have b297 : (!(qi.cb.isSome)) = true := by rw [h2.1]; rfl
  refine Z05 130 (.bool true) (congrArg Value.bool b297) ?_
  have g298 := Z14 b297
  refine wy 5 130 true 131 (.map (some b101)) ?_
  refine wy 5 130 true 132 (.int .i64 ((((Z0p (Z1k M fr (⟨fr, 1, 1, qi.x.h, tm, fr, sm⟩ : Zl)))).length : Int))) ?_ (hr := Z6b (kt := 3) (et := 4) (by kernel_rfl) (H296.at 10 rfl) rfl)
  refine wy 5 130 true 133 (.agg ⟨(Zt F)⟩) ?_ (hr := ZE (vs := (Zt F)) rfl (by kernel_rfl) (by kernel_rfl) (by exact Nat.le_of_ble_eq_true (by kernel_rfl)) (H296.at 1 rfl) (by kernel_rfl))
  refine ZQ (Zw 5 130 true rfl (by kernel_rfl) rfl (by kernel_rfl)) (fun Kq kq => ?_)
  refine zdq 134 (Z4e w294 F 2 (by omega)) H296 ?_
  intro w300 H301
  refine kq _ _ ?_
  clear kq Kq
  refine wy 5 130 true 135 (.bool (decide ((((Z0p (Z1k M fr (⟨fr, 1, 1, qi.x.h, tm, fr, sm⟩ : Zl)))).length : Int) ≥ (2 * F + 1)))) ?_
  refine wv 136 (.bool (decide ((((Z0p (Z1k M fr (⟨fr, 1, 1, qi.x.h, tm, fr, sm⟩ : Zl)))).length : Int) ≥ (2 * F + 1)))) ?_
  refine wv 137 (.bool (!((decide ((D.length : Int) > 0)) == (decide ((((Z0p (Z1k M fr (⟨fr, 1, 1, qi.x.h, tm, fr, sm⟩ : Zl)))).length : Int) ≥ (2 * F + 1)))))) ?_
  apply znt
  have b303 : (!((decide ((D.length : Int) > 0)) == (decide ((((Z0p (Z1k M fr (⟨fr, 1, 1, qi.x.h, tm, fr, sm⟩ : Zl)))).length : Int) ≥ (2 * F + 1))))) = false := by rw [Z3b, decide_eq_true (show (_ : Int) ≥ _ from h2.2), decide_eq_true (by omega)]; rfl
  have g304 := Z09 b303
  refine Z1K _ b303 ?_
  apply ZW
  apply ztn
  apply zsl
  refine wv 138 (.slice da D.length dc) ?_
  refine wv 139 (.int .i64 ((D.length : Int))) ?_
  refine wv 140 (.bool (decide ((D.length : Int) > 0))) ?_
  apply znt
  have b305 : (decide ((D.length : Int) > 0)) = true := by exact decide_eq_true (by omega)
  have g306 := of_decide_eq_true b305
  refine Z2v _ b305 ?_
  apply Zh
  apply Zh
  refine zqs H301 ?_
  refine qv 141 (.slice da D.length dc) ?_
  refine Z0C (Z2 rfl) (d := 142) (v := (.int .i64 ((D.length : Int)))) rfl (fun _ H' => (by kernel_rfl)) ?_
  refine qv 143 (.int .i64 (3 * F + 1)) ?_
  refine qv 144 (.bool (!(decide ((D.length : Int) = (3 * F + 1))))) ?_
  refine qv 145 (.bool (!(decide ((D.length : Int) = (3 * F + 1))))) ?_
  have b307 : (!(decide ((D.length : Int) = (3 * F + 1)))) = false := by rw [decide_eq_true (by omega)]; rfl
  refine Z3f 145 (.bool false) (congrArg Value.bool b307) ?_
  have g308 := Z09 b307
  have g309 := of_decide_eq_true g308
  refine qy 4 145 false 146 (.slice da D.length dc) ?_
  obtain ⟨g310, c311, e312⟩ := Z0R (H301.at 14 rfl) (by omega)
  obtain ⟨x313, h314⟩ := Z3C (show 0 < D.length by omega)
  refine qy 4 145 false 147 (.pointer (some ⟨g310, 0 + ((0 : Int)).toNat * 295, none⟩)) ?_ (hr := fun _ H' => (Z0O (E := 82) (by kernel_rfl) (by kernel_rfl) (Nat.le_of_ble_eq_true rfl) rfl e312 rfl (by omega) (by omega)))
  refine qy 4 145 false 148 (.pointer (some ⟨g310, 0 + ((0 : Int)).toNat * 295, none⟩)) ?_
  refine qy 4 145 false 149 (.int .i64 (x313.k)) ?_ (hr := fun _ H' => (Zi rfl (by kernel_rfl) (Z0y (H'.at 14 rfl) e312 Z1N h314 0 rfl (show 0 + ((0 : Int)).toNat * 295 = 0 * 295 + 0 by omega) (by kernel_rfl))))
  refine qy 4 145 false 150 (.bool (!(decide (x313.k = 3)))) ?_
  refine qv 151 (.bool (!(decide (x313.k = 3)))) ?_
  refine qv 152 (.bool (!(decide (x313.k = 3)))) ?_
  have b315 : (!(decide (x313.k = 3))) = false := by rw [show x313.k = 3 from (Z4D hO h314).k]; rfl
  refine Z3f 152 (.bool false) (congrArg Value.bool b315) ?_
  have g316 := Z09 b315
  have g317 := of_decide_eq_true g316
  refine qy 11 152 false 153 (.slice da D.length dc) ?_
  refine qy 11 152 false 154 (.pointer (some ⟨g310, 0 + ((0 : Int)).toNat * 295, none⟩)) ?_ (hr := fun _ H' => (Z0O (E := 82) (by kernel_rfl) (by kernel_rfl) (Nat.le_of_ble_eq_true rfl) rfl e312 rfl (by omega) (by omega)))
  refine qy 11 152 false 155 (.pointer (some ⟨g310, 0 + ((0 : Int)).toNat * 295 + 78, none⟩)) ?_
  refine qy 11 152 false 156 (.pointer (some ⟨g310, 0 + ((0 : Int)).toNat * 295 + 78 + 37, none⟩)) ?_
  refine qy 11 152 false 157 ((.slice x313.sa x313.S.length x313.sc)) ?_ (hr := fun _ H' => (Zi rfl (by kernel_rfl) (Z0y (H'.at 14 rfl) e312 Z1N h314 115 rfl (show 0 + ((0 : Int)).toNat * 295 + 78 + 37 = 0 * 295 + 115 by omega) (by kernel_rfl))))
  refine Z0C (Zw 11 152 false rfl (by kernel_rfl) rfl (by kernel_rfl)) (d := 158) (v := (.int .i64 ((x313.S.length : Int)))) rfl (fun _ H' => (by kernel_rfl)) ?_
  refine qy 11 152 false 159 (.agg ⟨(Zt F)⟩) ?_ (hr := fun _ H' => (ZE (vs := (Zt F)) rfl (by kernel_rfl) (by kernel_rfl) (by exact Nat.le_of_ble_eq_true (by kernel_rfl)) (H'.at 1 rfl) (by kernel_rfl)))
  refine Z25 (Zw 11 152 false rfl (by kernel_rfl) rfl (by kernel_rfl)) (d := 160) (v := (.int .i64 (2 * F + 1))) rfl (fun _ _ => by kernel_rfl) (fun w' H' => (Z4e w' F 2 (by omega)).mono fun _ _ h => ⟨h.1, H'.keepU h.2⟩) ?_
  refine qy 11 152 false 161 (.bool (!(decide ((x313.S.length : Int) = (2 * F + 1))))) ?_
  refine qv 162 (.bool (!(decide ((x313.S.length : Int) = (2 * F + 1))))) ?_
  refine Z22 ?_
  intro w318 H319
  apply ztn
  have b320 : (!(decide ((x313.S.length : Int) = (2 * F + 1)))) = false := by rw [show x313.S = S3 from (Z4D hO h314).S, decide_eq_true hS3.2.2.2]; rfl
  have g321 := Z09 b320
  have g322 := of_decide_eq_true g321
  refine Z1K _ b320 ?_
  apply ZW
  apply ztn
  apply Zs
  refine wv 18 (.bool true) ?_
  apply Zr
  apply ZR
  apply ztn
  have H323 : Sat w [Z0u (Z3 z 57 (Z10 qi.x sa S3.length sc) :: Bz), Za w (fun _ => False), Z3 x9 27 (Zt F), Z3 c34 112 (ZG F b25 g lc), Ze 119 79 (.slice (some ⟨g, 0, none⟩) 1 lc) 1 (([(⟨qi.x, qi.pa, qi.pc, qi.P, qi.no, qi.ms, some z, qi.ma, qi.mr, qi.op, qi.pl, qi.mp, qi.dn, qi.rp⟩ : Zq)]).flatMap Zm), Zn qi.ms (Value.int .i64) ZO (Z1k M fr (⟨fr, 1, 1, qi.x.h, tm, fr, sm⟩ : Zl)), Z3 b25 108 (ZA m26), (ZB m26 L2), (ZD qi.pa qi.P qi.pc), Z3 x16 40 (hc qi.x.h), Zn b101 (Value.int .i64) Value.bool (Z0p (Z1k M fr (⟨fr, 1, 1, qi.x.h, tm, fr, sm⟩ : Zl))), Z3 x20 49 (Z0c fr qi.x.h tm sm), (Z11 sa T sc), Ze 82 295 (.slice da D.length dc) D.length (D.flatMap Z0b), Z0u B] w318 := (H319.pk [8, 12, 0, 1, 2, 3, 4, 5, 6, 7, 9, 10, 11, 13, 14, 15]).bag
  have H324 := H323.pk [1, 2, 3, 4, 5, 6, 7, 8, 0, 9, 10, 11, 12, 13, 14]
  have H325 : Sat w [Z0u ((Z11 sa T sc) :: Z3 z 57 (Z10 qi.x sa S3.length sc) :: Bz), Za w (fun _ => False), Z3 x9 27 (Zt F), Z3 c34 112 (ZG F b25 g lc), Ze 119 79 (.slice (some ⟨g, 0, none⟩) 1 lc) 1 (([(⟨qi.x, qi.pa, qi.pc, qi.P, qi.no, qi.ms, some z, qi.ma, qi.mr, qi.op, qi.pl, qi.mp, qi.dn, qi.rp⟩ : Zq)]).flatMap Zm), Zn qi.ms (Value.int .i64) ZO (Z1k M fr (⟨fr, 1, 1, qi.x.h, tm, fr, sm⟩ : Zl)), Z3 b25 108 (ZA m26), (ZB m26 L2), (ZD qi.pa qi.P qi.pc), Z3 x16 40 (hc qi.x.h), Zn b101 (Value.int .i64) Value.bool (Z0p (Z1k M fr (⟨fr, 1, 1, qi.x.h, tm, fr, sm⟩ : Zl))), Z3 x20 49 (Z0c fr qi.x.h tm sm), Ze 82 295 (.slice da D.length dc) D.length (D.flatMap Z0b), Z0u B] w318 := (H324.pk [8, 12, 0, 1, 2, 3, 4, 5, 6, 7, 9, 10, 11, 13, 14]).bag
  have H326 := H325.pk [1, 2, 3, 4, 5, 6, 7, 8, 0, 9, 10, 11, 12, 13]
  have hcrt : CrtIn ((Z11 sa T sc) :: Z3 z 57 (Z10 qi.x sa S3.length sc) :: Bz) qi.x z sa sc S3 T := ⟨List.mem_cons_of_mem _ List.mem_cons_self, List.mem_cons_self, hS3.1, hS3.2.1, hS3.2.2.1⟩
  apply Zs
  refine wv 70 (.int .i64 ((i : Int))) ?_
  refine zwi 71 ((i : Int) + 1) ?_
  refine wv 19 (.int .i64 ((i : Int) + 1)) ?_
  apply Zr
  have H327 : Sat w [Za w (fun _ => False), Z3 x9 27 (Zt F), Z3 c34 112 (ZG F b25 g lc), Ze 119 79 (.slice (some ⟨g, 0, none⟩) 1 lc) 1 (([(⟨qi.x, qi.pa, qi.pc, qi.P, qi.no, qi.ms, some z, qi.ma, qi.mr, qi.op, qi.pl, qi.mp, qi.dn, qi.rp⟩ : Zq)]).flatMap Zm), Zn qi.ms (Value.int .i64) ZO (Z1k M fr (⟨fr, 1, 1, qi.x.h, tm, fr, sm⟩ : Zl)), Z3 b25 108 (ZA m26), (ZB m26 L2), (ZD qi.pa qi.P qi.pc), Z0u ((Z11 sa T sc) :: Z3 z 57 (Z10 qi.x sa S3.length sc) :: Bz), Z3 x16 40 (hc qi.x.h), Zn b101 (Value.int .i64) Value.bool (Z0p (Z1k M fr (⟨fr, 1, 1, qi.x.h, tm, fr, sm⟩ : Zl)))] w318 := H326.pk [0, 1, 2, 3, 4, 5, 6, 7, 8, 9, 10]
  refine ZS ?_ _ ⟨(i + 1), (⟨qi.x, qi.pa, qi.pc, qi.P, qi.no, qi.ms, some z, qi.ma, qi.mr, qi.op, qi.pl, qi.mp, qi.dn, qi.rp⟩ : Zq), (Z1k M fr (⟨fr, 1, 1, qi.x.h, tm, fr, sm⟩ : Zl)), L2, ((Z11 sa T sc) :: Z3 z 57 (Z10 qi.x sa S3.length sc) :: Bz), rfl, rfl, (by omega), (by omega), hq0, hqP, hM2, (decide_eq_true h2.2).symm, (fun z_ h_ => by cases h_; exact ⟨_, _, _, _, hcrt⟩), hSg2, H327, rfl⟩ (by omega)
  exact zs
 refine Z1K _ b120 ?_
 apply zxb
 apply ztn
 apply zsl
 refine wv 163 (pt c34 0) ?_
 refine zwd fun Kq kq => ?_
 rcases Option.eq_none_or_eq_some qi.cb with hcq | ⟨z, hcq⟩
 ·refine zdc 164 (Z4j w117 c34 b25 g lc F 2 1 [qi] (H118.at 2 rfl) (H118.at 3 rfl) (Nat.le_of_ble_eq_true rfl) 0 qi rfl (by omega) (by decide) ⟨hcq, hq0.1, hq0.2.2.1, hq0.2.1, hq0.2.2.2.1⟩ 1 rfl) ?_
  rintro _ w329 ⟨a330, c331, D332, B333, rfl, n334, o335, k336, p337, q338⟩
  have H339 := H118.addU p337 k336 q338
  have H340 : Sat w [Za w (fun _ => False), Z3 x9 27 (Zt F), Z3 c34 112 (ZG F b25 g lc), Ze 119 79 (.slice (some ⟨g, 0, none⟩) 1 lc) 1 (([qi]).flatMap Zm), Zn qi.ms (Value.int .i64) ZO M, Z3 b25 108 (ZA m26), (ZB m26 Li), (ZD qi.pa qi.P qi.pc), Z0u Bz, Z3 x16 40 (hc qi.x.h), Zn b101 (Value.int .i64) Value.bool (Z0p M), Ze 82 295 (.slice a330 D332.length c331) D332.length (D332.flatMap Z0b), Z0u B333] w329 := H339.open 11 rfl
  refine ⟨_, rfl, ?_⟩
  refine kq _ _ ?_
  clear kq Kq
  refine wv 23 (.slice a330 D332.length c331) ?_
  apply Z1J
  refine wv 24 (.int .i64 (1)) ?_
  apply znt
  apply Zh
  apply zsl
  refine wv 165 (.bool (qi.cb.isSome)) ?_
  apply znt
  have b341 : (qi.cb.isSome) = false := by rw [hcq]; rfl
  refine Z1K _ b341 ?_
  apply ZW
  apply ztn
  apply zsl
  refine wv 166 (.slice a330 D332.length c331) ?_
  refine wv 167 (.int .i64 ((D332.length : Int))) ?_
  refine wv 168 (.int .i64 (3 * F + 1)) ?_
  refine wv 169 (.bool (decide ((D332.length : Int) = (3 * F + 1)))) ?_
  refine wv 170 (.bool (decide ((D332.length : Int) = (3 * F + 1)))) ?_
  have b342 : (decide ((D332.length : Int) = (3 * F + 1))) = true := by exact decide_eq_true (by omega)
  refine Z05 170 (.bool true) (congrArg Value.bool b342) ?_
  have g343 := of_decide_eq_true b342
  refine wy 4 170 true 171 (.slice a330 D332.length c331) ?_
  obtain ⟨g344, c345, e346⟩ := Z0R (H340.at 11 rfl) (by omega)
  obtain ⟨x347, h348⟩ := Z3C (show 0 < D332.length by omega)
  refine wy 4 170 true 172 (.pointer (some ⟨g344, 0 + ((0 : Int)).toNat * 295, none⟩)) ?_ (hr := Z0O (E := 82) (by kernel_rfl) (by kernel_rfl) (Nat.le_of_ble_eq_true rfl) rfl e346 rfl (by omega) (by omega))
  refine wy 4 170 true 173 (.pointer (some ⟨g344, 0 + ((0 : Int)).toNat * 295, none⟩)) ?_
  refine wy 4 170 true 174 (.int .i64 (x347.k)) ?_ (hr := Zi rfl (by kernel_rfl) (Z0y (H340.at 11 rfl) e346 Z1N h348 0 rfl (show 0 + ((0 : Int)).toNat * 295 = 0 * 295 + 0 by omega) (by kernel_rfl)))
  refine wy 4 170 true 175 (.int .i64 (1)) ?_
  refine wy 4 170 true 176 (.bool (decide (x347.k = 1))) ?_
  refine wv 177 (.bool (decide (x347.k = 1))) ?_
  refine wv 178 (.bool (decide (x347.k = 1))) ?_
  have b349 : (decide (x347.k = 1)) = true := by exact decide_eq_true (Z4D o335 h348).k
  refine Z05 178 (.bool true) (congrArg Value.bool b349) ?_
  have g350 := of_decide_eq_true b349
  refine wy 12 178 true 179 (pt c34 0) ?_
  refine ZQ (Zw 12 178 true rfl (by kernel_rfl) rfl (by kernel_rfl)) (fun Kq kq => ?_)
  refine zdq 180 (Z1s w329 c34 b25 g lc F 2 1 [qi] (H340.at 2 rfl) (H340.at 3 rfl) (Nat.le_of_ble_eq_true rfl) 2 (by show (2 : Int) < 1 ∨ ((1 : Nat) : Int) < 2; omega)) H340 ?_
  intro w352 H354
  refine kq _ _ ?_
  clear kq Kq
  refine wy 12 178 true 181 (.int .i64 (0)) ?_
  refine wy 12 178 true 182 (.bool true) ?_
  refine wv 183 (.bool true) ?_
  refine wv 184 (.bool true) ?_
  refine wy 18 184 true 185 (pt c34 0) ?_
  refine ZQ (Zw 18 184 true rfl (by kernel_rfl) rfl (by kernel_rfl)) (fun Kq kq => ?_)
  refine zdq 186 (Z1s w352 c34 b25 g lc F 2 1 [qi] (H354.at 2 rfl) (H354.at 3 rfl) (Nat.le_of_ble_eq_true rfl) 0 (by show (0 : Int) < 1 ∨ ((1 : Nat) : Int) < 0; omega)) H354 ?_
  intro w356 H358
  refine kq _ _ ?_
  clear kq Kq
  refine wy 18 184 true 187 (.int .i64 (0)) ?_
  refine wy 18 184 true 188 (.bool true) ?_
  refine wv 189 (.bool true) ?_
  refine wv 190 (.bool true) ?_
  refine ZQ (Zw 24 190 true rfl (by kernel_rfl) rfl (by kernel_rfl)) (fun Kq kq => ?_)
  refine zdq 191 (Z3o w356) H358 ?_
  intro w360 H361
  refine kq _ _ ?_
  clear kq Kq
  refine wv 192 (.bool true) ?_
  refine wv 8 (.bool true) ?_
  apply znt
  apply ZU
  refine ze1 (.bool true) ?_
  exact ⟨rfl, H361.upd 0 rfl [] (fun _ h => h.elim)⟩
 obtain ⟨sa, sc, S, T, hct⟩ := hcr z hcq
 refine zdc 164 (Z4k w117 c34 b25 g lc F 2 1 [qi] (H118.at 2 rfl) (H118.at 3 rfl) (Nat.le_of_ble_eq_true rfl) 0 qi rfl (by omega) (by decide) z sa sc S (hct.cell (H118.at 8 rfl)) (hct.at (H118.at 8 rfl)) (Nat.le_trans hct.short (by decide)) ⟨hcq, hq0.1, hq0.2.1⟩ 1 rfl) ?_
 rintro _ w363 ⟨a364, c365, D366, B367, rfl, n368, o369, k370, p371, q372⟩
 have H373 := H118.addU p371 k370 q372
 have H374 : Sat w [Za w (fun _ => False), Z3 x9 27 (Zt F), Z3 c34 112 (ZG F b25 g lc), Ze 119 79 (.slice (some ⟨g, 0, none⟩) 1 lc) 1 (([qi]).flatMap Zm), Zn qi.ms (Value.int .i64) ZO M, Z3 b25 108 (ZA m26), (ZB m26 Li), (ZD qi.pa qi.P qi.pc), Z0u Bz, Z3 x16 40 (hc qi.x.h), Zn b101 (Value.int .i64) Value.bool (Z0p M), Ze 82 295 (.slice a364 D366.length c365) D366.length (D366.flatMap Z0b), Z0u B367] w363 := H373.open 11 rfl
 refine ⟨_, rfl, ?_⟩
 refine kq _ _ ?_
 clear kq Kq
 refine wv 23 (.slice a364 D366.length c365) ?_
 apply Z1J
 refine wv 24 (.int .i64 (1)) ?_
 apply znt
 apply Zh
 apply zsl
 refine wv 165 (.bool (qi.cb.isSome)) ?_
 apply znt
 have b375 : (qi.cb.isSome) = true := by rw [hcq]; rfl
 refine Z2v _ b375 ?_
 apply Zs
 refine wv 24 (.int .i64 (3)) ?_
 apply Z1J
 refine wv 166 (.slice a364 D366.length c365) ?_
 refine wv 167 (.int .i64 ((D366.length : Int))) ?_
 refine wv 168 (.int .i64 (3 * F + 1)) ?_
 refine wv 169 (.bool (decide ((D366.length : Int) = (3 * F + 1)))) ?_
 refine wv 170 (.bool (decide ((D366.length : Int) = (3 * F + 1)))) ?_
 have b376 : (decide ((D366.length : Int) = (3 * F + 1))) = true := by exact decide_eq_true (by omega)
 refine Z05 170 (.bool true) (congrArg Value.bool b376) ?_
 have g377 := of_decide_eq_true b376
 refine wy 4 170 true 171 (.slice a364 D366.length c365) ?_
 obtain ⟨g378, c379, e380⟩ := Z0R (H374.at 11 rfl) (by omega)
 obtain ⟨x381, h382⟩ := Z3C (show 0 < D366.length by omega)
 refine wy 4 170 true 172 (.pointer (some ⟨g378, 0 + ((0 : Int)).toNat * 295, none⟩)) ?_ (hr := Z0O (E := 82) (by kernel_rfl) (by kernel_rfl) (Nat.le_of_ble_eq_true rfl) rfl e380 rfl (by omega) (by omega))
 refine wy 4 170 true 173 (.pointer (some ⟨g378, 0 + ((0 : Int)).toNat * 295, none⟩)) ?_
 refine wy 4 170 true 174 (.int .i64 (x381.k)) ?_ (hr := Zi rfl (by kernel_rfl) (Z0y (H374.at 11 rfl) e380 Z1N h382 0 rfl (show 0 + ((0 : Int)).toNat * 295 = 0 * 295 + 0 by omega) (by kernel_rfl)))
 refine wy 4 170 true 175 (.int .i64 (3)) ?_
 refine wy 4 170 true 176 (.bool (decide (x381.k = 3))) ?_
 refine wv 177 (.bool (decide (x381.k = 3))) ?_
 refine wv 178 (.bool (decide (x381.k = 3))) ?_
 have b383 : (decide (x381.k = 3)) = true := by exact decide_eq_true (Z4D o369 h382).k
 refine Z05 178 (.bool true) (congrArg Value.bool b383) ?_
 have g384 := of_decide_eq_true b383
 refine wy 12 178 true 179 (pt c34 0) ?_
 refine ZQ (Zw 12 178 true rfl (by kernel_rfl) rfl (by kernel_rfl)) (fun Kq kq => ?_)
 refine zdq 180 (Z1s w363 c34 b25 g lc F 2 1 [qi] (H374.at 2 rfl) (H374.at 3 rfl) (Nat.le_of_ble_eq_true rfl) 2 (by show (2 : Int) < 1 ∨ ((1 : Nat) : Int) < 2; omega)) H374 ?_
 intro w386 H388
 refine kq _ _ ?_
 clear kq Kq
 refine wy 12 178 true 181 (.int .i64 (0)) ?_
 refine wy 12 178 true 182 (.bool true) ?_
 refine wv 183 (.bool true) ?_
 refine wv 184 (.bool true) ?_
 refine wy 18 184 true 185 (pt c34 0) ?_
 refine ZQ (Zw 18 184 true rfl (by kernel_rfl) rfl (by kernel_rfl)) (fun Kq kq => ?_)
 refine zdq 186 (Z1s w386 c34 b25 g lc F 2 1 [qi] (H388.at 2 rfl) (H388.at 3 rfl) (Nat.le_of_ble_eq_true rfl) 0 (by show (0 : Int) < 1 ∨ ((1 : Nat) : Int) < 0; omega)) H388 ?_
 intro w390 H392
 refine kq _ _ ?_
 clear kq Kq
 refine wy 18 184 true 187 (.int .i64 (0)) ?_
 refine wy 18 184 true 188 (.bool true) ?_
 refine wv 189 (.bool true) ?_
 refine wv 190 (.bool true) ?_
 refine ZQ (Zw 24 190 true rfl (by kernel_rfl) rfl (by kernel_rfl)) (fun Kq kq => ?_)
 refine zdq 191 (Z3o w390) H392 ?_
 intro w394 H395
 refine kq _ _ ?_
 clear kq Kq
 refine wv 192 (.bool true) ?_
 refine wv 8 (.bool true) ?_
 apply znt
 apply ZU
 refine ze1 (.bool true) ?_
 exact ⟨rfl, H395.upd 0 rfl [] (fun _ h => h.elim)⟩
end Go.Proofs.YtgigjkjdmalmaaaGreat
