/- WHAT IS PROVED: contracts and plain laws of Silent22. Conditions: stated with each. -/
import Derived.Test.YtgigjkjdmalmaaaGreatPS11
import Derived.Test.YtgigjkjdmalmaaaGreatPS18
import Derived.Test.YtgigjkjdmalmaaaGreatPS26
import Derived.Test.YtgigjkjdmalmaaaGreatPS27
set_option maxHeartbeats 4000000
set_option maxRecDepth 100000
namespace Go.Proofs.YtgigjkjdmalmaaaGreat
open Go.RowKit
theorem Z6t {TS : List Int} {m : Int} {i : Nat} (h : ∀ x ∈ TS, 0 ≤ x ∧ x ≤ m) : 0 ≤ TS.getD i 0 := by
 rcases Nat.lt_or_ge i TS.length with q | q
 ·rw [List.getD_eq_getElem?_getD, List.getElem?_eq_getElem q]; exact (h _ (List.getElem_mem q)).1
 ·rw [List.getD_eq_getElem?_getD, List.getElem?_eq_none q]; exact Int.le_refl _
theorem Z3M (w : World) (f : Int) (wa : Option Addr) (wc : Nat) (W : List Int) (hW : ListAt encJ 1 w (.slice wa W.length wc) W) (pla : Option Addr) (plc : Nat) (PLs : List Int) (hPl : ListAt encJ 1 w (.slice pla PLs.length plc) PLs) (ta : Option Addr) (tc : Nat) (TS : List Int) (hT : ListAt encU 1 w (.slice ta TS.length tc) TS) (hTb : ∀ x ∈ TS, 0 ≤ x ∧ x ≤ 18446744073709551615) (xa : Option Addr) (xc : Nat) (X : List UInt8) (hX : ListAt Zl 1 w (.slice xa X.length xc) X) :
  Calls Tryz.prog 5 #[(.int .i64 (f)), (.slice wa W.length wc), (.slice pla PLs.length plc), (.slice ta TS.length tc), (.slice xa X.length xc)] w fun e w' => e = .returned (.bool true) ∧ Upd [] w w' := by
 have hw3 := Z2a f 3 (by omega)
 have hlW := SliceOf.le hW
 have hlPl := SliceOf.le hPl
 have hlT := SliceOf.le hT
 have hlX := SliceOf.le hX
 unfold maxLen at hlW hlPl hlT hlX
 have H := Sat.start0 w
 refine Zw Tryz.func5 rfl 237 rfl (Nat.le_of_ble_eq_true rfl) ?_
 refine Zf ?_
 refine Zr ?_
 refine Z4 (Z3 rfl) (d := 10) (v := (.bool false)) rfl (by kernel_rfl) ?_
 refine Zn ?_
 refine Z7 ?_
 refine Z0n [11, 36, 37, 38, 39] (fun G_ W_ => ∃ (F : Int) (x11 : Nat), G_ 11 = (.pointer (some ⟨x11, 0, none⟩)) ∧ (1 ≤ F ∧ F ≤ 3) ∧ Sat w [Za w (fun _ => False), Z5 x11 27 ([(.int .i64 (F)), (.int .i64 (1))] : List Value)] W_) ?_ ?_
 ·refine Zr ?_
  refine Z4 (Z3 rfl) (d := 36) (v := (.int .i64 (f))) rfl (by kernel_rfl) ?_
  refine ZG (Z3 rfl) (fun K2 hK2 => ?_)
  refine ZI (d := 37) rfl (by kernel_rfl) (Z29 w f 3 (by omega)) ?_
  rintro _ w3 ⟨rfl, u5⟩
  have H4 := H.keepU u5
  refine ⟨_, rfl, ?_⟩
  refine hK2 _ _ ?_
  clear hK2 K2
  refine Z4 (Z3 rfl) (d := 38) (v := (.int .i64 (1 + (Z0m f 3)))) rfl (Z08 (z := 1 + (Z0m f 3)) (by kernel_rfl) (IntWalk.i64_in _ (by omega))) ?_
  refine Z4 (Z3 rfl) (d := 39) (v := (.agg ⟨([(.int .i64 (1 + (Z0m f 3))), (.int .i64 (1))] : List Value)⟩)) rfl (by kernel_rfl) ?_
  refine ZG (Z3 rfl) (fun K6 hK6 => ?_)
  refine Z0o (zs := ([(.int .i64 (0)), (.int .i64 (0))] : List Value)) (z := (.agg ⟨([(.int .i64 (0)), (.int .i64 (0))] : List Value)⟩)) rfl H4 (by kernel_rfl) (by kernel_rfl) ?_
  intro b7 w8 (H9 : Sat w [Za w (fun _ => False), Z5 b7 27 ([(.int .i64 (0)), (.int .i64 (0))] : List Value)] w8)
  refine hK6 _ _ ?_
  clear hK6 K6
  refine ZG (Z3 rfl) (fun K10 hK10 => ?_)
  refine ZP (vs := ([(.int .i64 (1 + (Z0m f 3))), (.int .i64 (1))] : List Value)) (cs' := ([(.int .i64 (1 + (Z0m f 3))), (.int .i64 (1))] : List Value)) rfl H9 1 rfl rfl rfl rfl (by kernel_rfl) (Nat.le_of_ble_eq_true (by kernel_rfl)) (Nat.le_of_ble_eq_true (by kernel_rfl)) (by kernel_rfl) (by kernel_rfl) ?_
  intro w11 (H12 : Sat w [Za w (fun _ => False), Z5 b7 27 ([(.int .i64 (1 + (Z0m f 3))), (.int .i64 (1))] : List Value)] w11)
  refine hK10 _ _ ?_
  clear hK10 K10
  refine Zn ?_
  have H14 : Sat w [Za w (fun _ => False), Z5 b7 27 ([(.int .i64 (1 + (Z0m f 3))), (.int .i64 (1))] : List Value)] w11 := H12.pick [0, 1] (by decide)
  refine ZT ?_ ⟨(1 + (Z0m f 3)), b7, rfl, (by omega), H14⟩
  exact (Z1 rfl (Z1 rfl (Z1 rfl (Z1 rfl (Z1 rfl (ZQ))))))
 ·rintro f15 w16 ⟨F, x11, v18, hF, H17⟩
  refine Zq 11 _ v18 ?_
  refine Zf ?_
  refine Zr ?_
  refine Z4 (Z3 rfl) (d := 40) (v := (.agg ⟨([(.int .i64 (F)), (.int .i64 (1))] : List Value)⟩)) rfl (ZK (vs := ([(.int .i64 (F)), (.int .i64 (1))] : List Value)) rfl (by kernel_rfl) (by kernel_rfl) (by exact Nat.le_of_ble_eq_true (by kernel_rfl)) (H17.at 1 rfl) (by kernel_rfl)) ?_
  refine ZG (Z3 rfl) (fun K19 hK19 => ?_)
  refine ZI (d := 41) rfl (by kernel_rfl) (rN_any w16 F 1 (by omega)) ?_
  rintro _ w20 ⟨rfl, u22⟩
  have H21 := H17.keepU u22
  refine ⟨_, rfl, ?_⟩
  refine hK19 _ _ ?_
  clear hK19 K19
  refine Z4 (Z3 rfl) (d := 12) (v := (.int .i64 (3 * F + 1))) rfl (by kernel_rfl) ?_
  refine Zn ?_
  refine Z7 ?_
  refine Zf ?_
  refine Zr ?_
  refine ZG (Z3 rfl) (fun K23 hK23 => ?_)
  refine ZI (d := 42) rfl (by kernel_rfl) (Z4m w20) ?_
  rintro _ w24 ⟨b25, m26, rfl, k27, p28, q29⟩
  have H30 : Sat w [Za w (fun _ => False), Z5 x11 27 ([(.int .i64 (F)), (.int .i64 (1))] : List Value), ZJ [Z5 b25 108 [.map (some m26)], Zh m26 Zb (Value.int .i64) (Zj [])]] w24 := H21.addU p28 k27 q29
  have H31 : Sat w [Za w (fun _ => False), Z5 x11 27 ([(.int .i64 (F)), (.int .i64 (1))] : List Value), Z5 b25 108 ([(.map (some m26))] : List Value), Zh m26 Zb (Value.int .i64) (Zj [])] w24 := H30.open 2 rfl
  refine ⟨_, rfl, ?_⟩
  refine hK23 _ _ ?_
  clear hK23 K23
  refine Z4 (Z3 rfl) (d := 13) (v := (.pointer (some ⟨b25, 0, none⟩))) rfl (by kernel_rfl) ?_
  refine Zn ?_
  refine Z7 ?_
  refine Zf ?_
  refine Zf ?_
  refine Zr ?_
  refine Z4 (Z3 rfl) (d := 43) (v := (.pointer (some ⟨b25, 0, none⟩))) rfl (by kernel_rfl) ?_
  refine Z4 (Z3 rfl) (d := 44) (v := (.bool false)) rfl (by kernel_rfl) ?_
  refine Zn ?_
  refine Z7 ?_
  refine Z00 rfl ?_
  refine ZR ?_
  refine Z7 ?_
  refine Zf ?_
  refine Zr ?_
  refine Z4 (Z3 rfl) (d := 46) (v := (.agg ⟨([(.int .i64 (F)), (.int .i64 (1))] : List Value)⟩)) rfl (ZK (vs := ([(.int .i64 (F)), (.int .i64 (1))] : List Value)) rfl (by kernel_rfl) (by kernel_rfl) (by exact Nat.le_of_ble_eq_true (by kernel_rfl)) (H31.at 1 rfl) (by kernel_rfl)) ?_
  refine Z4 (Z3 rfl) (d := 47) (v := (.pointer (some ⟨b25, 0, none⟩))) rfl (by kernel_rfl) ?_
  refine ZG (Z3 rfl) (fun K32 hK32 => ?_)
  refine ZI (d := 48) rfl (by kernel_rfl) (Z3s w24 F 1 (0 : Int) b25 (by unfold Z1G; simp; omega) (by omega)) ?_
  rintro _ w33 ⟨c34, rfl, k35, p36, q37⟩
  have H38 : Sat w [Za w (fun _ => False), Z5 x11 27 ([(.int .i64 (F)), (.int .i64 (1))] : List Value), Z5 b25 108 ([(.map (some m26))] : List Value), Zh m26 Zb (Value.int .i64) (Zj []), Z5 c34 112 ([(.int .i64 (F)), (.int .i64 (1)), (.int .i64 (0)), (.pointer (some ⟨b25, 0, none⟩)), (.slice none 0 0)] : List Value)] w33 := H31.addU p36 k35 q37
  refine ⟨_, rfl, ?_⟩
  refine hK32 _ _ ?_
  clear hK32 K32
  refine Z4 (Z3 rfl) (d := 45) (v := (.tuple #[(.pointer (some ⟨c34, 0, none⟩)), (.int .i64 (0))])) rfl (by kernel_rfl) ?_
  refine Z4 (Z3 rfl) (d := 49) (v := (.pointer (some ⟨c34, 0, none⟩))) rfl (by kernel_rfl) ?_
  refine Z4 (Z3 rfl) (d := 50) (v := (.int .i64 (0))) rfl (by kernel_rfl) ?_
  refine Z4 (Z3 rfl) (d := 14) (v := (.pointer (some ⟨c34, 0, none⟩))) rfl (by kernel_rfl) ?_
  refine Z4 (Z3 rfl) (d := 15) (v := (.int .i64 (0))) rfl (by kernel_rfl) ?_
  refine Zn ?_
  refine Z7 ?_
  refine Zf ?_
  refine Zf ?_
  refine Zr ?_
  refine Z4 (Z3 rfl) (d := 51) (v := (.int .i64 (0))) rfl (by kernel_rfl) ?_
  refine Z4 (Z3 rfl) (d := 52) (v := (.bool false)) rfl (by kernel_rfl) ?_
  refine Z4 (Z3 rfl) (d := 53) (v := (.bool false)) rfl (by kernel_rfl) ?_
  refine Z4 (Zo 2 53 false rfl (by kernel_rfl) rfl (by kernel_rfl)) (d := 54) (v := (.pointer (some ⟨c34, 0, none⟩))) rfl (by kernel_rfl) ?_
  refine Z4 (Zo 2 53 false rfl (by kernel_rfl) rfl (by kernel_rfl)) (d := 55) (v := (.bool false)) rfl (by kernel_rfl) ?_
  refine Z4 (Z3 rfl) (d := 56) (v := (.bool false)) rfl (by kernel_rfl) ?_
  refine Zn ?_
  refine Z7 ?_
  refine Z00 rfl ?_
  refine ZR ?_
  refine Z7 ?_
  refine Z0n [4, 57, 58] (fun G_ W_ => ∃ (P : List UInt8) (oa : Option Addr) (oc : Nat), G_ 4 = (.slice oa P.length oc) ∧ (P.length ≤ 50) ∧ (∀ ad, oa = some ad → ad.spot = none) ∧ Sat w [Za w (fun _ => False), Z5 x11 27 ([(.int .i64 (F)), (.int .i64 (1))] : List Value), Z5 b25 108 ([(.map (some m26))] : List Value), Zh m26 Zb (Value.int .i64) (Zj []), Z5 c34 112 ([(.int .i64 (F)), (.int .i64 (1)), (.int .i64 (0)), (.pointer (some ⟨b25, 0, none⟩)), (.slice none 0 0)] : List Value), Zy (.slice oa P.length oc) P] W_) ?_ ?_
  ·refine Zr ?_
   refine Z4 (Z3 rfl) (d := 57) (v := (.slice xa X.length xc)) rfl (by kernel_rfl) ?_
   refine ZG (Z3 rfl) (fun K41 hK41 => ?_)
   refine ZI (d := 58) rfl (by kernel_rfl) (Z5J w33 xa xc X (ListAt.now H38 0 rfl hX) 50 (by decide)) ?_
   rintro _ w42 ⟨u43, rfl, k44, p45, q46⟩
   have H47 : Sat w [Za w (fun _ => False), Z5 x11 27 ([(.int .i64 (F)), (.int .i64 (1))] : List Value), Z5 b25 108 ([(.map (some m26))] : List Value), Zh m26 Zb (Value.int .i64) (Zj []), Z5 c34 112 ([(.int .i64 (F)), (.int .i64 (1)), (.int .i64 (0)), (.pointer (some ⟨b25, 0, none⟩)), (.slice none 0 0)] : List Value), Ze 5 1 u43 ((X.take 50).length) ((X.take 50).flatMap Zl)] w42 := H38.addU p45 k44 q46
   obtain ⟨a48, c49, rfl⟩ := Zk (H47.at 5 rfl)
   refine ⟨_, rfl, ?_⟩
   refine hK41 _ _ ?_
   clear hK41 K41
   refine Z4 (Z3 rfl) (d := 4) (v := (.slice a48 ((X.take 50).length) c49)) rfl (by kernel_rfl) ?_
   refine Zn ?_
   have H50 : Sat w [Za w (fun _ => False), Z5 x11 27 ([(.int .i64 (F)), (.int .i64 (1))] : List Value), Z5 b25 108 ([(.map (some m26))] : List Value), Zh m26 Zb (Value.int .i64) (Zj []), Z5 c34 112 ([(.int .i64 (F)), (.int .i64 (1)), (.int .i64 (0)), (.pointer (some ⟨b25, 0, none⟩)), (.slice none 0 0)] : List Value), Zy (.slice a48 (X.take 50).length c49) (X.take 50)] w42 := H47.conv 5 rfl (fun h_ => Z1i (ListAt.row (enc := Zl) (sz := 1) ZS (by decide) h_)) (fun _ h_ => h_.2)
   have H51 : Sat w [Za w (fun _ => False), Z5 x11 27 ([(.int .i64 (F)), (.int .i64 (1))] : List Value), Z5 b25 108 ([(.map (some m26))] : List Value), Zh m26 Zb (Value.int .i64) (Zj []), Z5 c34 112 ([(.int .i64 (F)), (.int .i64 (1)), (.int .i64 (0)), (.pointer (some ⟨b25, 0, none⟩)), (.slice none 0 0)] : List Value), Zy (.slice a48 (X.take 50).length c49) (X.take 50)] w42 := H50.pick [0, 1, 2, 3, 4, 5] (by decide)
   refine ZT ?_ ⟨(X.take 50), a48, c49, rfl, (by rw [List.length_take]; omega), (Z67 (H47.at 5 rfl)), H51⟩
   exact (Z1 rfl (Z1 rfl (Z1 rfl (ZQ))))
  ·rintro f52 w53 ⟨P, oa, oc, v55, hlP, hsp, H54⟩
   refine Zq 4 _ v55 ?_
   have H56 : Sat w [Za w (fun _ => False), Z5 x11 27 ([(.int .i64 (F)), (.int .i64 (1))] : List Value), Z5 b25 108 ([(.map (some m26))] : List Value), Zh m26 Zb (Value.int .i64) (Zj []), Z5 c34 112 ([(.int .i64 (F)), (.int .i64 (1)), (.int .i64 (0)), (.pointer (some ⟨b25, 0, none⟩)), (.slice none (([] : List Zm).length) 0)] : List Value), Zy (.slice oa P.length oc) P, Ze 119 79 (.slice none (([] : List Zm).length) 0) (([] : List Zm).length) (([] : List Zm).flatMap Zg)] w53 := H54.addNil 119 79
   refine Z0n [10, 16, 17, 59, 60, 61, 62, 63, 64, 65, 66, 67] (fun G_ W_ => ∃ (g lc : Nat) (q : Zm), (q.op = false) ∧ (q.x.h = Z8 (ofT 0 1 Z0J P)) ∧ (q.P = P) ∧ Sat w [Za w (fun _ => False), Z5 x11 27 ([(.int .i64 (F)), (.int .i64 (1))] : List Value), Z5 c34 112 ([(.int .i64 (F)), (.int .i64 (1)), (.int .i64 (0)), (.pointer (some ⟨b25, 0, none⟩)), (.slice (some ⟨g, 0, none⟩) 1 lc)] : List Value), Ze 119 79 (.slice (some ⟨g, 0, none⟩) 1 lc) 1 (([q]).flatMap Zg), Zh q.mr (Value.int .i64) rcV [], Ze 5 1 (.slice q.pa q.P.length q.pc) q.P.length (q.P.flatMap Zl), Zy (.slice oa P.length oc) P] W_) ?_ ?_
   ·refine Zf ?_
    refine Zr ?_
    refine Z4 (Z3 rfl) (d := 60) (v := (.pointer (some ⟨c34, 0, none⟩))) rfl (by kernel_rfl) ?_
    refine Z4 (Z3 rfl) (d := 61) (v := (.slice oa P.length oc)) rfl (by kernel_rfl) ?_
    refine Z4 (Z3 rfl) (d := 62) (v := (.agg ⟨(hc (hash1 (9)))⟩)) rfl (by kernel_rfl) ?_
    refine ZG (Z3 rfl) (fun K58 hK58 => ?_)
    refine ZI (d := 63) rfl (by kernel_rfl) (Z2c w53 c34 b25 m26 0 none F 1 0 ([] : List Zm) ([]) oa oc P (H56.fin [4, 6, 2, 3, 5] (by decide) rfl) Z0J (by decide) (by decide) (by omega) hsp (by omega) (by omega)) ?_
    rintro _ w59 ⟨g60, c61, a62, c63, m64, m65, m66, m67, a68, c69, D70, B71, rfl, n72, o73, T74⟩
    have H75 : Sat w [Za w (fun _ => False), Z5 x11 27 ([(.int .i64 (F)), (.int .i64 (1))] : List Value), Z5 b25 108 ([(.map (some m26))] : List Value), Zh m26 Zb (Value.int .i64) (Zj (Zc ([]) (⟨1000 + 0, Z2 (⟨0, ((([] : List Zm).length : Int) + 1), Z8 (ofT 0 ((([] : List Zm).length : Int) + 1) Z0J P), P.length, 0, 0⟩ : Z0)⟩ : Z6))), Z5 c34 112 ([(.int .i64 (F)), (.int .i64 (1)), (.int .i64 (0)), (.pointer (some ⟨b25, 0, none⟩)), (.slice (some ⟨g60, 0, none⟩) ((([] : List Zm) ++ [(⟨(⟨0, ((([] : List Zm).length : Int) + 1), Z8 (ofT 0 ((([] : List Zm).length : Int) + 1) Z0J P), P.length, 1000 + 0, Z9 (Zc ([]) (⟨1000 + 0, Z2 (⟨0, ((([] : List Zm).length : Int) + 1), Z8 (ofT 0 ((([] : List Zm).length : Int) + 1) Z0J P), P.length, 0, 0⟩ : Z0)⟩ : Z6)) (⟨1000 + 0, Z2 (⟨0, ((([] : List Zm).length : Int) + 1), Z8 (ofT 0 ((([] : List Zm).length : Int) + 1) Z0J P), P.length, 0, 0⟩ : Z0)⟩ : Z6)⟩ : Z0), a62, c63, P, Z0J, m64, none, m65, m66, false, 0, m67, false, []⟩ : Zm)]).length) c61)] : List Value), Zy (.slice oa P.length oc) P, Ze 119 79 (.slice (some ⟨g60, 0, none⟩) ((([] : List Zm) ++ [(⟨(⟨0, ((([] : List Zm).length : Int) + 1), Z8 (ofT 0 ((([] : List Zm).length : Int) + 1) Z0J P), P.length, 1000 + 0, Z9 (Zc ([]) (⟨1000 + 0, Z2 (⟨0, ((([] : List Zm).length : Int) + 1), Z8 (ofT 0 ((([] : List Zm).length : Int) + 1) Z0J P), P.length, 0, 0⟩ : Z0)⟩ : Z6)) (⟨1000 + 0, Z2 (⟨0, ((([] : List Zm).length : Int) + 1), Z8 (ofT 0 ((([] : List Zm).length : Int) + 1) Z0J P), P.length, 0, 0⟩ : Z0)⟩ : Z6)⟩ : Z0), a62, c63, P, Z0J, m64, none, m65, m66, false, 0, m67, false, []⟩ : Zm)]).length) c61) ((([] : List Zm) ++ [(⟨(⟨0, ((([] : List Zm).length : Int) + 1), Z8 (ofT 0 ((([] : List Zm).length : Int) + 1) Z0J P), P.length, 1000 + 0, Z9 (Zc ([]) (⟨1000 + 0, Z2 (⟨0, ((([] : List Zm).length : Int) + 1), Z8 (ofT 0 ((([] : List Zm).length : Int) + 1) Z0J P), P.length, 0, 0⟩ : Z0)⟩ : Z6)) (⟨1000 + 0, Z2 (⟨0, ((([] : List Zm).length : Int) + 1), Z8 (ofT 0 ((([] : List Zm).length : Int) + 1) Z0J P), P.length, 0, 0⟩ : Z0)⟩ : Z6)⟩ : Z0), a62, c63, P, Z0J, m64, none, m65, m66, false, 0, m67, false, []⟩ : Zm)]).length) ((([] : List Zm) ++ [(⟨(⟨0, ((([] : List Zm).length : Int) + 1), Z8 (ofT 0 ((([] : List Zm).length : Int) + 1) Z0J P), P.length, 1000 + 0, Z9 (Zc ([]) (⟨1000 + 0, Z2 (⟨0, ((([] : List Zm).length : Int) + 1), Z8 (ofT 0 ((([] : List Zm).length : Int) + 1) Z0J P), P.length, 0, 0⟩ : Z0)⟩ : Z6)) (⟨1000 + 0, Z2 (⟨0, ((([] : List Zm).length : Int) + 1), Z8 (ofT 0 ((([] : List Zm).length : Int) + 1) Z0J P), P.length, 0, 0⟩ : Z0)⟩ : Z6)⟩ : Z0), a62, c63, P, Z0J, m64, none, m65, m66, false, 0, m67, false, []⟩ : Zm)]).flatMap Zg), Zh m64 (Value.int .i64) Z0c [], Zh m65 (Value.int .i64) Value.bool [], Zh m66 (Value.int .i64) rcV [], Zh m67 (Value.int .i64) ZU [], Ze 5 1 (.slice a62 P.length c63) P.length (P.flatMap Zl), Ze 82 295 (.slice a68 D70.length c69) D70.length (D70.flatMap Z01), Z0G B71] w59 := (Sat.turnL (L' := [Z5 c34 112 ([(.int .i64 (F)), (.int .i64 (1)), (.int .i64 (0)), (.pointer (some ⟨b25, 0, none⟩)), (.slice (some ⟨g60, 0, none⟩) ((([] : List Zm) ++ [(⟨(⟨0, ((([] : List Zm).length : Int) + 1), Z8 (ofT 0 ((([] : List Zm).length : Int) + 1) Z0J P), P.length, 1000 + 0, Z9 (Zc ([]) (⟨1000 + 0, Z2 (⟨0, ((([] : List Zm).length : Int) + 1), Z8 (ofT 0 ((([] : List Zm).length : Int) + 1) Z0J P), P.length, 0, 0⟩ : Z0)⟩ : Z6)) (⟨1000 + 0, Z2 (⟨0, ((([] : List Zm).length : Int) + 1), Z8 (ofT 0 ((([] : List Zm).length : Int) + 1) Z0J P), P.length, 0, 0⟩ : Z0)⟩ : Z6)⟩ : Z0), a62, c63, P, Z0J, m64, none, m65, m66, false, 0, m67, false, []⟩ : Zm)]).length) c61)] : List Value), Ze 119 79 (.slice (some ⟨g60, 0, none⟩) ((([] : List Zm) ++ [(⟨(⟨0, ((([] : List Zm).length : Int) + 1), Z8 (ofT 0 ((([] : List Zm).length : Int) + 1) Z0J P), P.length, 1000 + 0, Z9 (Zc ([]) (⟨1000 + 0, Z2 (⟨0, ((([] : List Zm).length : Int) + 1), Z8 (ofT 0 ((([] : List Zm).length : Int) + 1) Z0J P), P.length, 0, 0⟩ : Z0)⟩ : Z6)) (⟨1000 + 0, Z2 (⟨0, ((([] : List Zm).length : Int) + 1), Z8 (ofT 0 ((([] : List Zm).length : Int) + 1) Z0J P), P.length, 0, 0⟩ : Z0)⟩ : Z6)⟩ : Z0), a62, c63, P, Z0J, m64, none, m65, m66, false, 0, m67, false, []⟩ : Zm)]).length) c61) ((([] : List Zm) ++ [(⟨(⟨0, ((([] : List Zm).length : Int) + 1), Z8 (ofT 0 ((([] : List Zm).length : Int) + 1) Z0J P), P.length, 1000 + 0, Z9 (Zc ([]) (⟨1000 + 0, Z2 (⟨0, ((([] : List Zm).length : Int) + 1), Z8 (ofT 0 ((([] : List Zm).length : Int) + 1) Z0J P), P.length, 0, 0⟩ : Z0)⟩ : Z6)) (⟨1000 + 0, Z2 (⟨0, ((([] : List Zm).length : Int) + 1), Z8 (ofT 0 ((([] : List Zm).length : Int) + 1) Z0J P), P.length, 0, 0⟩ : Z0)⟩ : Z6)⟩ : Z0), a62, c63, P, Z0J, m64, none, m65, m66, false, 0, m67, false, []⟩ : Zm)]).length) ((([] : List Zm) ++ [(⟨(⟨0, ((([] : List Zm).length : Int) + 1), Z8 (ofT 0 ((([] : List Zm).length : Int) + 1) Z0J P), P.length, 1000 + 0, Z9 (Zc ([]) (⟨1000 + 0, Z2 (⟨0, ((([] : List Zm).length : Int) + 1), Z8 (ofT 0 ((([] : List Zm).length : Int) + 1) Z0J P), P.length, 0, 0⟩ : Z0)⟩ : Z6)) (⟨1000 + 0, Z2 (⟨0, ((([] : List Zm).length : Int) + 1), Z8 (ofT 0 ((([] : List Zm).length : Int) + 1) Z0J P), P.length, 0, 0⟩ : Z0)⟩ : Z6)⟩ : Z0), a62, c63, P, Z0J, m64, none, m65, m66, false, 0, m67, false, []⟩ : Zm)]).flatMap Zg), Z5 b25 108 ([(.map (some m26))] : List Value), Zh m26 Zb (Value.int .i64) (Zj (Zc ([]) (⟨1000 + 0, Z2 (⟨0, ((([] : List Zm).length : Int) + 1), Z8 (ofT 0 ((([] : List Zm).length : Int) + 1) Z0J P), P.length, 0, 0⟩ : Z0)⟩ : Z6))), Zy (.slice oa P.length oc) P, Zh m64 (Value.int .i64) Z0c [], Zh m65 (Value.int .i64) Value.bool [], Zh m66 (Value.int .i64) rcV [], Zh m67 (Value.int .i64) ZU [], Ze 5 1 (.slice a62 P.length c63) P.length (P.flatMap Zl), Ze 82 295 (.slice a68 D70.length c69) D70.length (D70.flatMap Z01), Z0G B71]) (R := [Za w (fun _ => False), Z5 x11 27 ([(.int .i64 (F)), (.int .i64 (1))] : List Value)]) H56 [4, 6, 2, 3, 5] [0, 1] (by decide) (by kernel_rfl) rfl T74).pick [12, 13, 2, 3, 0, 4, 1, 5, 6, 7, 8, 9, 10, 11] (by decide)
    refine ⟨_, rfl, ?_⟩
    refine hK58 _ _ ?_
    clear hK58 K58
    refine Z4 (Z3 rfl) (d := 59) (v := (.tuple #[(.slice a68 D70.length c69), (.int .i64 (0))])) rfl (by kernel_rfl) ?_
    refine Z4 (Z3 rfl) (d := 64) (v := (.slice a68 D70.length c69)) rfl (by kernel_rfl) ?_
    refine Z4 (Z3 rfl) (d := 65) (v := (.int .i64 (0))) rfl (by kernel_rfl) ?_
    refine Z4 (Z3 rfl) (d := 16) (v := (.slice a68 D70.length c69)) rfl (by kernel_rfl) ?_
    refine Z4 (Z3 rfl) (d := 17) (v := (.int .i64 (0))) rfl (by kernel_rfl) ?_
    refine Zn ?_
    refine Z7 ?_
    refine Zf ?_
    refine Zr ?_
    refine Z4 (Z3 rfl) (d := 66) (v := (.int .i64 (0))) rfl (by kernel_rfl) ?_
    refine Z4 (Z3 rfl) (d := 67) (v := (.bool false)) rfl (by kernel_rfl) ?_
    refine Zn ?_
    refine Z7 ?_
    refine Z00 rfl ?_
    refine ZR ?_
    have H76 : Sat w [Za w (fun _ => False), Z5 x11 27 ([(.int .i64 (F)), (.int .i64 (1))] : List Value), Z5 c34 112 ([(.int .i64 (F)), (.int .i64 (1)), (.int .i64 (0)), (.pointer (some ⟨b25, 0, none⟩)), (.slice (some ⟨g60, 0, none⟩) ((([] : List Zm) ++ [(⟨(⟨0, ((([] : List Zm).length : Int) + 1), Z8 (ofT 0 ((([] : List Zm).length : Int) + 1) Z0J P), P.length, 1000 + 0, Z9 (Zc ([]) (⟨1000 + 0, Z2 (⟨0, ((([] : List Zm).length : Int) + 1), Z8 (ofT 0 ((([] : List Zm).length : Int) + 1) Z0J P), P.length, 0, 0⟩ : Z0)⟩ : Z6)) (⟨1000 + 0, Z2 (⟨0, ((([] : List Zm).length : Int) + 1), Z8 (ofT 0 ((([] : List Zm).length : Int) + 1) Z0J P), P.length, 0, 0⟩ : Z0)⟩ : Z6)⟩ : Z0), a62, c63, P, Z0J, m64, none, m65, m66, false, 0, m67, false, []⟩ : Zm)]).length) c61)] : List Value), Ze 119 79 (.slice (some ⟨g60, 0, none⟩) ((([] : List Zm) ++ [(⟨(⟨0, ((([] : List Zm).length : Int) + 1), Z8 (ofT 0 ((([] : List Zm).length : Int) + 1) Z0J P), P.length, 1000 + 0, Z9 (Zc ([]) (⟨1000 + 0, Z2 (⟨0, ((([] : List Zm).length : Int) + 1), Z8 (ofT 0 ((([] : List Zm).length : Int) + 1) Z0J P), P.length, 0, 0⟩ : Z0)⟩ : Z6)) (⟨1000 + 0, Z2 (⟨0, ((([] : List Zm).length : Int) + 1), Z8 (ofT 0 ((([] : List Zm).length : Int) + 1) Z0J P), P.length, 0, 0⟩ : Z0)⟩ : Z6)⟩ : Z0), a62, c63, P, Z0J, m64, none, m65, m66, false, 0, m67, false, []⟩ : Zm)]).length) c61) ((([] : List Zm) ++ [(⟨(⟨0, ((([] : List Zm).length : Int) + 1), Z8 (ofT 0 ((([] : List Zm).length : Int) + 1) Z0J P), P.length, 1000 + 0, Z9 (Zc ([]) (⟨1000 + 0, Z2 (⟨0, ((([] : List Zm).length : Int) + 1), Z8 (ofT 0 ((([] : List Zm).length : Int) + 1) Z0J P), P.length, 0, 0⟩ : Z0)⟩ : Z6)) (⟨1000 + 0, Z2 (⟨0, ((([] : List Zm).length : Int) + 1), Z8 (ofT 0 ((([] : List Zm).length : Int) + 1) Z0J P), P.length, 0, 0⟩ : Z0)⟩ : Z6)⟩ : Z0), a62, c63, P, Z0J, m64, none, m65, m66, false, 0, m67, false, []⟩ : Zm)]).length) ((([] : List Zm) ++ [(⟨(⟨0, ((([] : List Zm).length : Int) + 1), Z8 (ofT 0 ((([] : List Zm).length : Int) + 1) Z0J P), P.length, 1000 + 0, Z9 (Zc ([]) (⟨1000 + 0, Z2 (⟨0, ((([] : List Zm).length : Int) + 1), Z8 (ofT 0 ((([] : List Zm).length : Int) + 1) Z0J P), P.length, 0, 0⟩ : Z0)⟩ : Z6)) (⟨1000 + 0, Z2 (⟨0, ((([] : List Zm).length : Int) + 1), Z8 (ofT 0 ((([] : List Zm).length : Int) + 1) Z0J P), P.length, 0, 0⟩ : Z0)⟩ : Z6)⟩ : Z0), a62, c63, P, Z0J, m64, none, m65, m66, false, 0, m67, false, []⟩ : Zm)]).flatMap Zg), Zh m66 (Value.int .i64) rcV [], Ze 5 1 (.slice a62 P.length c63) P.length (P.flatMap Zl), Zy (.slice oa P.length oc) P] w59 := H75.pick [0, 1, 4, 6, 9, 11, 5] (by decide)
    refine ZT ?_ ⟨g60, c61, (⟨(⟨0, ((([] : List Zm).length : Int) + 1), Z8 (ofT 0 ((([] : List Zm).length : Int) + 1) Z0J P), P.length, 1000 + 0, Z9 (Zc ([]) (⟨1000 + 0, Z2 (⟨0, ((([] : List Zm).length : Int) + 1), Z8 (ofT 0 ((([] : List Zm).length : Int) + 1) Z0J P), P.length, 0, 0⟩ : Z0)⟩ : Z6)) (⟨1000 + 0, Z2 (⟨0, ((([] : List Zm).length : Int) + 1), Z8 (ofT 0 ((([] : List Zm).length : Int) + 1) Z0J P), P.length, 0, 0⟩ : Z0)⟩ : Z6)⟩ : Z0), a62, c63, P, Z0J, m64, none, m65, m66, false, 0, m67, false, []⟩ : Zm), rfl, (by rfl), rfl, H76⟩
    exact (Z1 rfl (Z1 rfl (Z1 rfl (Z1 rfl (Z1 rfl (Z1 rfl (Z1 rfl (Z1 rfl (Z1 rfl (Z1 rfl (Z1 rfl (ZQ))))))))))))
   ·rintro f77 w78 ⟨g, lc, q, hqo, hqh, hqP, H79⟩
    refine Z0n [18, 68, 69, 70, 71] (fun G_ W_ => ∃ (x18 : Nat), G_ 18 = (.pointer (some ⟨x18, 0, none⟩)) ∧ Sat w [Za w (fun _ => False), Z5 x11 27 ([(.int .i64 (F)), (.int .i64 (1))] : List Value), Z5 c34 112 ([(.int .i64 (F)), (.int .i64 (1)), (.int .i64 (0)), (.pointer (some ⟨b25, 0, none⟩)), (.slice (some ⟨g, 0, none⟩) 1 lc)] : List Value), Ze 119 79 (.slice (some ⟨g, 0, none⟩) 1 lc) 1 (([q]).flatMap Zg), Zh q.mr (Value.int .i64) rcV [], Ze 5 1 (.slice q.pa q.P.length q.pc) q.P.length (q.P.flatMap Zl), Zy (.slice oa P.length oc) P, Z5 x18 40 (hc q.x.h)] W_) ?_ ?_
    ·refine Zr ?_
     refine Z4 (Z3 rfl) (d := 68) (v := (.agg ⟨([(.int .i64 (0)), (.int .i64 (1))] : List Value)⟩)) rfl (by kernel_rfl) ?_
     refine Z4 (Z3 rfl) (d := 69) (v := (.agg ⟨(hc (hash1 (9)))⟩)) rfl (by kernel_rfl) ?_
     refine Z4 (Z3 rfl) (d := 70) (v := (.slice oa P.length oc)) rfl (by kernel_rfl) ?_
     refine ZG (Z3 rfl) (fun K81 hK81 => ?_)
     refine ZI (d := 71) rfl (by kernel_rfl) (Z6A w78 0 1 Z0J oa oc P (ListAt.ofTxt (H79.at 6 rfl)) (by decide) (by decide) (by omega)) ?_
     rintro _ w82 ⟨rfl, u84⟩
     have H83 := H79.keepU u84
     refine ⟨_, rfl, ?_⟩
     refine hK81 _ _ ?_
     clear hK81 K81
     refine ZG (Z3 rfl) (fun K85 hK85 => ?_)
     refine Z0o (zs := (hc Zd)) (z := (.agg ⟨(hc Zd)⟩)) rfl H83 (by kernel_rfl) (by kernel_rfl) ?_
     intro b86 w87 (H88 : Sat w [Za w (fun _ => False), Z5 x11 27 ([(.int .i64 (F)), (.int .i64 (1))] : List Value), Z5 c34 112 ([(.int .i64 (F)), (.int .i64 (1)), (.int .i64 (0)), (.pointer (some ⟨b25, 0, none⟩)), (.slice (some ⟨g, 0, none⟩) 1 lc)] : List Value), Ze 119 79 (.slice (some ⟨g, 0, none⟩) 1 lc) 1 (([q]).flatMap Zg), Zh q.mr (Value.int .i64) rcV [], Ze 5 1 (.slice q.pa q.P.length q.pc) q.P.length (q.P.flatMap Zl), Zy (.slice oa P.length oc) P, Z5 b86 40 (hc Zd)] w87)
     refine hK85 _ _ ?_
     clear hK85 K85
     refine ZG (Z3 rfl) (fun K89 hK89 => ?_)
     refine ZP (vs := (hc (Z8 (ofT 0 1 Z0J P)))) (cs' := (hc (Z8 (ofT 0 1 Z0J P)))) rfl H88 7 rfl rfl rfl rfl (by kernel_rfl) (Nat.le_of_ble_eq_true (by kernel_rfl)) (Nat.le_of_ble_eq_true (by kernel_rfl)) (by kernel_rfl) (by kernel_rfl) ?_
     intro w90 (H91 : Sat w [Za w (fun _ => False), Z5 x11 27 ([(.int .i64 (F)), (.int .i64 (1))] : List Value), Z5 c34 112 ([(.int .i64 (F)), (.int .i64 (1)), (.int .i64 (0)), (.pointer (some ⟨b25, 0, none⟩)), (.slice (some ⟨g, 0, none⟩) 1 lc)] : List Value), Ze 119 79 (.slice (some ⟨g, 0, none⟩) 1 lc) 1 (([q]).flatMap Zg), Zh q.mr (Value.int .i64) rcV [], Ze 5 1 (.slice q.pa q.P.length q.pc) q.P.length (q.P.flatMap Zl), Zy (.slice oa P.length oc) P, Z5 b86 40 (hc (Z8 (ofT 0 1 Z0J P)))] w90)
     refine hK89 _ _ ?_
     clear hK89 K89
     refine Zn ?_
     have H93 : Sat w [Za w (fun _ => False), Z5 x11 27 ([(.int .i64 (F)), (.int .i64 (1))] : List Value), Z5 c34 112 ([(.int .i64 (F)), (.int .i64 (1)), (.int .i64 (0)), (.pointer (some ⟨b25, 0, none⟩)), (.slice (some ⟨g, 0, none⟩) 1 lc)] : List Value), Ze 119 79 (.slice (some ⟨g, 0, none⟩) 1 lc) 1 (([q]).flatMap Zg), Zh q.mr (Value.int .i64) rcV [], Ze 5 1 (.slice q.pa q.P.length q.pc) q.P.length (q.P.flatMap Zl), Zy (.slice oa P.length oc) P, Z5 b86 40 (hc (Z8 (ofT 0 1 Z0J P)))] w90 := H91.pick [0, 1, 2, 3, 4, 5, 6, 7] (by decide)
     have H94 : Sat w [Za w (fun _ => False), Z5 x11 27 ([(.int .i64 (F)), (.int .i64 (1))] : List Value), Z5 c34 112 ([(.int .i64 (F)), (.int .i64 (1)), (.int .i64 (0)), (.pointer (some ⟨b25, 0, none⟩)), (.slice (some ⟨g, 0, none⟩) 1 lc)] : List Value), Ze 119 79 (.slice (some ⟨g, 0, none⟩) 1 lc) 1 (([q]).flatMap Zg), Zh q.mr (Value.int .i64) rcV [], Ze 5 1 (.slice q.pa q.P.length q.pc) q.P.length (q.P.flatMap Zl), Zy (.slice oa P.length oc) P, Z5 b86 40 (hc q.x.h)] w90 := H93.cast (by rw [hqh])
     refine ZT ?_ ⟨b86, rfl, H94⟩
     exact (Z1 rfl (Z1 rfl (Z1 rfl (Z1 rfl (Z1 rfl (ZQ))))))
    ·rintro f95 w96 ⟨x18, v98, H97⟩
     refine Zq 18 _ v98 ?_
     refine Zf ?_
     refine Zr ?_
     refine ZG (Z3 rfl) (fun K99 hK99 => ?_)
     refine Z0a (Value.int .i64) syV rfl H97 ?_
     intro b100 w101 (H102 : Sat w [Za w (fun _ => False), Z5 x11 27 ([(.int .i64 (F)), (.int .i64 (1))] : List Value), Z5 c34 112 ([(.int .i64 (F)), (.int .i64 (1)), (.int .i64 (0)), (.pointer (some ⟨b25, 0, none⟩)), (.slice (some ⟨g, 0, none⟩) 1 lc)] : List Value), Ze 119 79 (.slice (some ⟨g, 0, none⟩) 1 lc) 1 (([q]).flatMap Zg), Zh q.mr (Value.int .i64) rcV [], Ze 5 1 (.slice q.pa q.P.length q.pc) q.P.length (q.P.flatMap Zl), Zy (.slice oa P.length oc) P, Z5 x18 40 (hc q.x.h), Zh b100 (Value.int .i64) syV []] w101)
     refine hK99 _ _ ?_
     clear hK99 K99
     refine Z4 (Z3 rfl) (d := 19) (v := (.map (some b100))) rfl (by kernel_rfl) ?_
     refine Zn ?_
     refine Z7 ?_
     refine Zf ?_
     refine Zr ?_
     refine Z4 (Z3 rfl) (d := 20) (v := (.bool false)) rfl (by kernel_rfl) ?_
     refine Zn ?_
     refine Z7 ?_
     refine Zf ?_
     refine Zf ?_
     refine Zr ?_
     refine Z4 (Z3 rfl) (d := 21) (v := (.int .i64 (0))) rfl (by kernel_rfl) ?_
     refine Zn ?_
     refine Z7 ?_
     refine ZD ?_
     refine ZW [10, 20, 21, 22, 23, 24, 25, 26, 27, 29, 30, 32, 33, 34, 35, 73, 74, 75, 76, 77, 78, 79, 80, 81, 82, 83, 84, 85, 86, 87, 88, 89, 90, 91, 92, 93, 94, 95, 96, 97, 98, 99, 100, 101, 102, 103, 104, 105, 106, 107, 108, 109, 110, 111, 112, 113, 114, 115, 116, 117, 118, 119, 120, 121, 122, 123, 124, 125, 126, 127, 128, 129, 130, 131, 132, 133, 134, 135, 136, 137, 138, 139, 140, 141, 142, 143, 144, 145, 146, 147, 148, 149, 150, 151, 152, 153, 154, 155, 156, 157, 158, 159, 160, 161, 162, 163, 164, 165, 166, 167, 168, 169, 170, 171, 172, 173, 174, 175, 176, 177, 178, 179, 180, 181, 182, 183, 184, 185, 186, 187, 188, 189, 190, 191, 192, 193, 194, 195, 196, 197, 198, 199, 200, 201, 202, 203, 204, 205, 206, 207, 208, 209, 210, 211, 212, 213, 214, 215, 216, 217, 218, 219, 220, 221, 222, 223, 224, 225, 226, 227, 228, 229, 230, 231, 232, 233, 234, 235] (fun F_ W_ m_ => ∃ (i : Nat) (S : List (Int × Z2q)) (R : List (Int × RcD)) (qi : Zm), F_ 21 = (.int .i64 ((i : Int))) ∧ F_ 20 = (.bool (qi.op)) ∧ (i ≤ 40) ∧ (S.length ≤ i) ∧ (Sil F qi.x.h S R qi.op) ∧ (qi.P = P) ∧ (R.length ≤ i) ∧ Sat w [Za w (fun _ => False), Z5 x11 27 ([(.int .i64 (F)), (.int .i64 (1))] : List Value), Z5 c34 112 ([(.int .i64 (F)), (.int .i64 (1)), (.int .i64 (0)), (.pointer (some ⟨b25, 0, none⟩)), (.slice (some ⟨g, 0, none⟩) 1 lc)] : List Value), Ze 119 79 (.slice (some ⟨g, 0, none⟩) 1 lc) 1 (([qi]).flatMap Zg), Zh qi.mr (Value.int .i64) rcV R, Ze 5 1 (.slice qi.pa qi.P.length qi.pc) qi.P.length (qi.P.flatMap Zl), Zy (.slice oa P.length oc) P, Z5 x18 40 (hc qi.x.h), Zh b100 (Value.int .i64) syV S] W_ ∧ m_ = 41 - i) _ ⟨0, [], [], q, (show ((.int .i64 (0)) : Value) = _ by first | rfl | go_num), (show (Value.bool false) = .bool q.op by rw [hqo]), (Nat.zero_le _), (Nat.zero_le _), (by rw [hqo]; exact Sil.nil), hqP, (Nat.zero_le _), H102, rfl⟩ ?_
     rintro g103 w104 _ ⟨i, S, R, qi, v106, v107, hi, hSl, hSil, hqiP, hRl, H105, rfl⟩
     refine Zq 21 _ v106 ?_
     refine Zq 20 _ v107 ?_
     refine Zf ?_
     refine Z0n [73, 74, 75, 76, 77, 78, 79, 80, 81, 82, 83, 84, 85, 86] (fun G_ W_ => G_ 86 = (.bool ((decide ((i : Int) < (W.length : Int)) && decide ((i : Int) < (PLs.length : Int))) && decide ((i : Int) < 40))) ∧ Sat w [Za w (fun _ => False), Z5 x11 27 ([(.int .i64 (F)), (.int .i64 (1))] : List Value), Z5 c34 112 ([(.int .i64 (F)), (.int .i64 (1)), (.int .i64 (0)), (.pointer (some ⟨b25, 0, none⟩)), (.slice (some ⟨g, 0, none⟩) 1 lc)] : List Value), Ze 119 79 (.slice (some ⟨g, 0, none⟩) 1 lc) 1 (([qi]).flatMap Zg), Zh qi.mr (Value.int .i64) rcV R, Ze 5 1 (.slice qi.pa qi.P.length qi.pc) qi.P.length (qi.P.flatMap Zl), Zy (.slice oa P.length oc) P, Z5 x18 40 (hc qi.x.h), Zh b100 (Value.int .i64) syV S] W_) ?_ ?_
     ·refine Zr ?_
      refine Z4 (Z3 rfl) (d := 73) (v := (.int .i64 ((i : Int)))) rfl (by kernel_rfl) ?_
      refine Z4 (Z3 rfl) (d := 74) (v := (.slice wa W.length wc)) rfl (by kernel_rfl) ?_
      refine Z4 (Z3 rfl) (d := 75) (v := (.int .i64 ((W.length : Int)))) rfl (by kernel_rfl) ?_
      refine Z4 (Z3 rfl) (d := 76) (v := (.bool (decide ((i : Int) < (W.length : Int))))) rfl (by kernel_rfl) ?_
      refine Z4 (Z3 rfl) (d := 77) (v := (.bool (decide ((i : Int) < (W.length : Int))))) rfl (by kernel_rfl) ?_
      refine (Z02 (decide ((i : Int) < (W.length : Int)))).elim (fun b110 => ?_) (fun b110 => ?_)
      ·have g111 := of_decide_eq_true b110
       refine ZZ 77 (.bool true) (congrArg Value.bool b110) ?_
       have g112 := of_decide_eq_true b110
       refine Z4 (Zo 4 77 true rfl (by kernel_rfl) rfl (by kernel_rfl)) (d := 78) (v := (.int .i64 ((i : Int)))) rfl (by kernel_rfl) ?_
       refine Z4 (Zo 4 77 true rfl (by kernel_rfl) rfl (by kernel_rfl)) (d := 79) (v := (.slice pla PLs.length plc)) rfl (by kernel_rfl) ?_
       refine Z4 (Zo 4 77 true rfl (by kernel_rfl) rfl (by kernel_rfl)) (d := 80) (v := (.int .i64 ((PLs.length : Int)))) rfl (by kernel_rfl) ?_
       refine Z4 (Zo 4 77 true rfl (by kernel_rfl) rfl (by kernel_rfl)) (d := 81) (v := (.bool (decide ((i : Int) < (PLs.length : Int))))) rfl (by kernel_rfl) ?_
       refine Z4 (Z3 rfl) (d := 82) (v := (.bool (decide ((i : Int) < (PLs.length : Int))))) rfl (by kernel_rfl) ?_
       refine Z4 (Z3 rfl) (d := 83) (v := (.bool (decide ((i : Int) < (PLs.length : Int))))) rfl (by kernel_rfl) ?_
       refine (Z02 (decide ((i : Int) < (PLs.length : Int)))).elim (fun b113 => ?_) (fun b113 => ?_)
       ·have g114 := of_decide_eq_true b113
        refine ZZ 83 (.bool true) (congrArg Value.bool b113) ?_
        have g115 := of_decide_eq_true b113
        refine Z4 (Zo 10 83 true rfl (by kernel_rfl) rfl (by kernel_rfl)) (d := 84) (v := (.int .i64 ((i : Int)))) rfl (by kernel_rfl) ?_
        refine Z4 (Zo 10 83 true rfl (by kernel_rfl) rfl (by kernel_rfl)) (d := 85) (v := (.bool (decide ((i : Int) < 40)))) rfl (by kernel_rfl) ?_
        refine Z4 (Z3 rfl) (d := 86) (v := (.bool (decide ((i : Int) < 40)))) rfl (by kernel_rfl) ?_
        refine Zn ?_
        refine ZT ?_ ⟨(congrArg Value.bool (show (decide ((i : Int) < 40)) = ((decide ((i : Int) < (W.length : Int)) && decide ((i : Int) < (PLs.length : Int))) && decide ((i : Int) < 40)) by rw [b110, b113]; rfl)), H105⟩
        exact (Z1 rfl (Z1 rfl (Z1 rfl (Z1 rfl (Z1 rfl (Z1 rfl (Z1 rfl (Z1 rfl (Z1 rfl (Z1 rfl (Z1 rfl (Z1 rfl (Z1 rfl (Z1 rfl (Z1 rfl (Z1 rfl (ZQ)))))))))))))))))
       ·have g116 := of_decide_eq_false b113
        refine ZZ 83 (.bool false) (congrArg Value.bool b113) ?_
        have g117 := of_decide_eq_false b113
        refine ZB (ZN 10 83 true rfl (by kernel_rfl) rfl (by kernel_rfl)) rfl ?_
        refine ZB (ZN 10 83 true rfl (by kernel_rfl) rfl (by kernel_rfl)) rfl ?_
        refine Z4 (Z3 rfl) (d := 86) (v := (.bool false)) rfl (by kernel_rfl) ?_
        refine Zn ?_
        refine ZT ?_ ⟨(congrArg Value.bool (show false = ((decide ((i : Int) < (W.length : Int)) && decide ((i : Int) < (PLs.length : Int))) && decide ((i : Int) < 40)) by rw [b110, b113]; rfl)), H105⟩
        exact (Z1 rfl (Z1 rfl (Z1 rfl (Z1 rfl (Z1 rfl (Z1 rfl (Z1 rfl (Z1 rfl (Z1 rfl (Z1 rfl (Z1 rfl (Z1 rfl (Z1 rfl (Z1 rfl (Z1 rfl (Z1 rfl (ZQ)))))))))))))))))
      ·have g118 := of_decide_eq_false b110
       refine ZZ 77 (.bool false) (congrArg Value.bool b110) ?_
       have g119 := of_decide_eq_false b110
       refine ZB (ZN 4 77 true rfl (by kernel_rfl) rfl (by kernel_rfl)) rfl ?_
       refine ZB (ZN 4 77 true rfl (by kernel_rfl) rfl (by kernel_rfl)) rfl ?_
       refine ZB (ZN 4 77 true rfl (by kernel_rfl) rfl (by kernel_rfl)) rfl ?_
       refine ZB (ZN 4 77 true rfl (by kernel_rfl) rfl (by kernel_rfl)) rfl ?_
       refine Z4 (Z3 rfl) (d := 82) (v := (.bool false)) rfl (by kernel_rfl) ?_
       refine Z4 (Z3 rfl) (d := 83) (v := (.bool false)) rfl (by kernel_rfl) ?_
       refine ZB (ZN 10 83 true rfl (by kernel_rfl) rfl (by kernel_rfl)) rfl ?_
       refine ZB (ZN 10 83 true rfl (by kernel_rfl) rfl (by kernel_rfl)) rfl ?_
       refine Z4 (Z3 rfl) (d := 86) (v := (.bool false)) rfl (by kernel_rfl) ?_
       refine Zn ?_
       refine ZT ?_ ⟨(congrArg Value.bool (show false = ((decide ((i : Int) < (W.length : Int)) && decide ((i : Int) < (PLs.length : Int))) && decide ((i : Int) < 40)) by rw [b110]; rfl)), H105⟩
       exact (Z1 rfl (Z1 rfl (Z1 rfl (Z1 rfl (Z1 rfl (Z1 rfl (Z1 rfl (Z1 rfl (Z1 rfl (Z1 rfl (Z1 rfl (Z1 rfl (Z1 rfl (Z1 rfl (Z1 rfl (ZQ))))))))))))))))
     ·rintro f120 w121 ⟨v123, H122⟩
      refine Zq 86 _ v123 ?_
      refine (Z02 ((decide ((i : Int) < (W.length : Int)) && decide ((i : Int) < (PLs.length : Int))) && decide ((i : Int) < 40))).elim (fun b124 => ?_) (fun b124 => ?_)
      ·refine Zq 86 (.bool true) (congrArg Value.bool b124) ?_
       refine Z0y rfl ?_
       refine ZR ?_
       refine Z7 ?_
       refine Zf ?_
       refine ZD ?_
       have hii := b124
       simp only [Bool.and_eq_true, decide_eq_true_eq] at hii
       obtain ⟨⟨hi1, hi2⟩, hi3⟩ := hii
       refine Z0n [22, 89, 90, 91, 92, 93, 94] (fun G_ W_ => ∃ (fr : Int), G_ 22 = (.int .i64 (fr)) ∧ (0 ≤ fr ∧ fr < 3 * F + 1) ∧ Sat w [Za w (fun _ => False), Z5 x11 27 ([(.int .i64 (F)), (.int .i64 (1))] : List Value), Z5 c34 112 ([(.int .i64 (F)), (.int .i64 (1)), (.int .i64 (0)), (.pointer (some ⟨b25, 0, none⟩)), (.slice (some ⟨g, 0, none⟩) 1 lc)] : List Value), Ze 119 79 (.slice (some ⟨g, 0, none⟩) 1 lc) 1 (([qi]).flatMap Zg), Zh qi.mr (Value.int .i64) rcV R, Ze 5 1 (.slice qi.pa qi.P.length qi.pc) qi.P.length (qi.P.flatMap Zl), Zy (.slice oa P.length oc) P, Z5 x18 40 (hc qi.x.h), Zh b100 (Value.int .i64) syV S] W_) ?_ ?_
       ·refine Zr ?_
        refine Z4 (Z3 rfl) (d := 89) (v := (.slice wa W.length wc)) rfl (by kernel_rfl) ?_
        refine Z4 (Z3 rfl) (d := 90) (v := (.int .i64 ((i : Int)))) rfl (by kernel_rfl) ?_
        obtain ⟨g126, o127, c128, e129, R130⟩ := SliceOf.atD hW 0 (show i < W.length by omega)
        refine Z4 (Z3 rfl) (d := 91) (v := (.pointer (some ⟨g126, o127 + ((i : Int)).toNat * 1, none⟩))) rfl (Z03 (E := 3) (by kernel_rfl) (by kernel_rfl) (Nat.le_of_ble_eq_true rfl) rfl e129 rfl (by omega) (by omega)) ?_
        refine Z4 (Z3 rfl) (d := 92) (v := (.int .i64 ((W.getD i 0)))) rfl (Zi rfl (by kernel_rfl) (H122.cellR 0 rfl (Z1l R130 0 (by kernel_rfl) (show o127 + ((i : Int)).toNat * 1 = o127 + i * 1 + 0 by omega)) (fun h => h))) ?_
        refine Z4 (Z3 rfl) (d := 93) (v := (.int .i64 (3 * F + 1))) rfl (by kernel_rfl) ?_
        refine ZG (Z3 rfl) (fun K131 hK131 => ?_)
        refine ZI (d := 94) rfl (by kernel_rfl) (Z29 w121 (W.getD i 0) (3 * F + 1) (by omega)) ?_
        rintro _ w132 ⟨rfl, u134⟩
        have H133 := H122.keepU u134
        refine ⟨_, rfl, ?_⟩
        refine hK131 _ _ ?_
        clear hK131 K131
        refine Z4 (Z3 rfl) (d := 22) (v := (.int .i64 (Z0m (W.getD i 0) (3 * F + 1)))) rfl (by kernel_rfl) ?_
        refine Zn ?_
        have H135 : Sat w [Za w (fun _ => False), Z5 x11 27 ([(.int .i64 (F)), (.int .i64 (1))] : List Value), Z5 c34 112 ([(.int .i64 (F)), (.int .i64 (1)), (.int .i64 (0)), (.pointer (some ⟨b25, 0, none⟩)), (.slice (some ⟨g, 0, none⟩) 1 lc)] : List Value), Ze 119 79 (.slice (some ⟨g, 0, none⟩) 1 lc) 1 (([qi]).flatMap Zg), Zh qi.mr (Value.int .i64) rcV R, Ze 5 1 (.slice qi.pa qi.P.length qi.pc) qi.P.length (qi.P.flatMap Zl), Zy (.slice oa P.length oc) P, Z5 x18 40 (hc qi.x.h), Zh b100 (Value.int .i64) syV S] w132 := H133.pick [0, 1, 2, 3, 4, 5, 6, 7, 8] (by decide)
        refine ZT ?_ ⟨(Z0m (W.getD i 0) (3 * F + 1)), rfl, (by have q_ := Z2a (W.getD i 0) (3 * F + 1) (by omega); omega), H135⟩
        exact (Z1 rfl (Z1 rfl (Z1 rfl (Z1 rfl (Z1 rfl (Z1 rfl (Z1 rfl (ZQ))))))))
       ·rintro f136 w137 ⟨fr, v139, hfr, H138⟩
        refine Zq 22 _ v139 ?_
        refine Z0n [23, 95, 96, 97, 98, 99, 100] (fun G_ W_ => ∃ (ix : Int) (x23 : Nat), G_ 23 = (.pointer (some ⟨x23, 0, none⟩)) ∧ (0 ≤ ix ∧ ix < 3) ∧ Sat w [Za w (fun _ => False), Z5 x11 27 ([(.int .i64 (F)), (.int .i64 (1))] : List Value), Z5 c34 112 ([(.int .i64 (F)), (.int .i64 (1)), (.int .i64 (0)), (.pointer (some ⟨b25, 0, none⟩)), (.slice (some ⟨g, 0, none⟩) 1 lc)] : List Value), Ze 119 79 (.slice (some ⟨g, 0, none⟩) 1 lc) 1 (([qi]).flatMap Zg), Zh qi.mr (Value.int .i64) rcV R, Ze 5 1 (.slice qi.pa qi.P.length qi.pc) qi.P.length (qi.P.flatMap Zl), Zy (.slice oa P.length oc) P, Z5 x18 40 (hc qi.x.h), Zh b100 (Value.int .i64) syV S, Z5 x23 94 ([(.int .i64 (ix)), (.int .u64 (0))] : List Value)] W_) ?_ ?_
        ·refine Zr ?_
         refine Z4 (Z3 rfl) (d := 95) (v := (.slice pla PLs.length plc)) rfl (by kernel_rfl) ?_
         refine Z4 (Z3 rfl) (d := 96) (v := (.int .i64 ((i : Int)))) rfl (by kernel_rfl) ?_
         obtain ⟨g141, o142, c143, e144, R145⟩ := SliceOf.atD hPl 0 (show i < PLs.length by omega)
         refine Z4 (Z3 rfl) (d := 97) (v := (.pointer (some ⟨g141, o142 + ((i : Int)).toNat * 1, none⟩))) rfl (Z03 (E := 3) (by kernel_rfl) (by kernel_rfl) (Nat.le_of_ble_eq_true rfl) rfl e144 rfl (by omega) (by omega)) ?_
         refine Z4 (Z3 rfl) (d := 98) (v := (.int .i64 ((PLs.getD i 0)))) rfl (Zi rfl (by kernel_rfl) (H138.cellR 0 rfl (Z1l R145 0 (by kernel_rfl) (show o142 + ((i : Int)).toNat * 1 = o142 + i * 1 + 0 by omega)) (fun h => h))) ?_
         refine ZG (Z3 rfl) (fun K146 hK146 => ?_)
         refine ZI (d := 99) rfl (by kernel_rfl) (Z29 w137 (PLs.getD i 0) 3 (by omega)) ?_
         rintro _ w147 ⟨rfl, u149⟩
         have H148 := H138.keepU u149
         refine ⟨_, rfl, ?_⟩
         refine hK146 _ _ ?_
         clear hK146 K146
         refine Z4 (Z3 rfl) (d := 100) (v := (.agg ⟨([(.int .i64 (Z0m (PLs.getD i 0) 3)), (.int .u64 (0))] : List Value)⟩)) rfl (by kernel_rfl) ?_
         refine ZG (Z3 rfl) (fun K150 hK150 => ?_)
         refine Z0o (zs := ([(.int .i64 (0)), (.int .u64 (0))] : List Value)) (z := (.agg ⟨([(.int .i64 (0)), (.int .u64 (0))] : List Value)⟩)) rfl H148 (by kernel_rfl) (by kernel_rfl) ?_
         intro b151 w152 (H153 : Sat w [Za w (fun _ => False), Z5 x11 27 ([(.int .i64 (F)), (.int .i64 (1))] : List Value), Z5 c34 112 ([(.int .i64 (F)), (.int .i64 (1)), (.int .i64 (0)), (.pointer (some ⟨b25, 0, none⟩)), (.slice (some ⟨g, 0, none⟩) 1 lc)] : List Value), Ze 119 79 (.slice (some ⟨g, 0, none⟩) 1 lc) 1 (([qi]).flatMap Zg), Zh qi.mr (Value.int .i64) rcV R, Ze 5 1 (.slice qi.pa qi.P.length qi.pc) qi.P.length (qi.P.flatMap Zl), Zy (.slice oa P.length oc) P, Z5 x18 40 (hc qi.x.h), Zh b100 (Value.int .i64) syV S, Z5 b151 94 ([(.int .i64 (0)), (.int .u64 (0))] : List Value)] w152)
         refine hK150 _ _ ?_
         clear hK150 K150
         refine ZG (Z3 rfl) (fun K154 hK154 => ?_)
         refine ZP (vs := ([(.int .i64 (Z0m (PLs.getD i 0) 3)), (.int .u64 (0))] : List Value)) (cs' := ([(.int .i64 (Z0m (PLs.getD i 0) 3)), (.int .u64 (0))] : List Value)) rfl H153 9 rfl rfl rfl rfl (by kernel_rfl) (Nat.le_of_ble_eq_true (by kernel_rfl)) (Nat.le_of_ble_eq_true (by kernel_rfl)) (by kernel_rfl) (by kernel_rfl) ?_
         intro w155 (H156 : Sat w [Za w (fun _ => False), Z5 x11 27 ([(.int .i64 (F)), (.int .i64 (1))] : List Value), Z5 c34 112 ([(.int .i64 (F)), (.int .i64 (1)), (.int .i64 (0)), (.pointer (some ⟨b25, 0, none⟩)), (.slice (some ⟨g, 0, none⟩) 1 lc)] : List Value), Ze 119 79 (.slice (some ⟨g, 0, none⟩) 1 lc) 1 (([qi]).flatMap Zg), Zh qi.mr (Value.int .i64) rcV R, Ze 5 1 (.slice qi.pa qi.P.length qi.pc) qi.P.length (qi.P.flatMap Zl), Zy (.slice oa P.length oc) P, Z5 x18 40 (hc qi.x.h), Zh b100 (Value.int .i64) syV S, Z5 b151 94 ([(.int .i64 (Z0m (PLs.getD i 0) 3)), (.int .u64 (0))] : List Value)] w155)
         refine hK154 _ _ ?_
         clear hK154 K154
         refine Zn ?_
         have H158 : Sat w [Za w (fun _ => False), Z5 x11 27 ([(.int .i64 (F)), (.int .i64 (1))] : List Value), Z5 c34 112 ([(.int .i64 (F)), (.int .i64 (1)), (.int .i64 (0)), (.pointer (some ⟨b25, 0, none⟩)), (.slice (some ⟨g, 0, none⟩) 1 lc)] : List Value), Ze 119 79 (.slice (some ⟨g, 0, none⟩) 1 lc) 1 (([qi]).flatMap Zg), Zh qi.mr (Value.int .i64) rcV R, Ze 5 1 (.slice qi.pa qi.P.length qi.pc) qi.P.length (qi.P.flatMap Zl), Zy (.slice oa P.length oc) P, Z5 x18 40 (hc qi.x.h), Zh b100 (Value.int .i64) syV S, Z5 b151 94 ([(.int .i64 (Z0m (PLs.getD i 0) 3)), (.int .u64 (0))] : List Value)] w155 := H156.pick [0, 1, 2, 3, 4, 5, 6, 7, 8, 9] (by decide)
         refine ZT ?_ ⟨(Z0m (PLs.getD i 0) 3), b151, rfl, (by have q_ := Z2a (PLs.getD i 0) 3 (by omega); omega), H158⟩
         exact (Z1 rfl (Z1 rfl (Z1 rfl (Z1 rfl (Z1 rfl (Z1 rfl (Z1 rfl (ZQ))))))))
        ·rintro f159 w160 ⟨ix, x23, v162, hix, H161⟩
         refine Zq 23 _ v162 ?_
         refine Z0n [101, 102, 103, 104, 105, 106, 107, 108, 109, 110] (fun G_ W_ => ∃ (tm : Int), (0 ≤ tm) ∧ Sat w [Za w (fun _ => False), Z5 x11 27 ([(.int .i64 (F)), (.int .i64 (1))] : List Value), Z5 c34 112 ([(.int .i64 (F)), (.int .i64 (1)), (.int .i64 (0)), (.pointer (some ⟨b25, 0, none⟩)), (.slice (some ⟨g, 0, none⟩) 1 lc)] : List Value), Ze 119 79 (.slice (some ⟨g, 0, none⟩) 1 lc) 1 (([qi]).flatMap Zg), Zh qi.mr (Value.int .i64) rcV R, Ze 5 1 (.slice qi.pa qi.P.length qi.pc) qi.P.length (qi.P.flatMap Zl), Zy (.slice oa P.length oc) P, Z5 x18 40 (hc qi.x.h), Zh b100 (Value.int .i64) syV S, Z5 x23 94 ([(.int .i64 (ix)), (.int .u64 (tm))] : List Value)] W_) ?_ ?_
         ·refine Zf ?_
          refine Zr ?_
          refine Z4 (Z3 rfl) (d := 101) (v := (.int .i64 ((i : Int)))) rfl (by kernel_rfl) ?_
          refine Z4 (Z3 rfl) (d := 102) (v := (.slice ta TS.length tc)) rfl (by kernel_rfl) ?_
          refine Z4 (Z3 rfl) (d := 103) (v := (.int .i64 ((TS.length : Int)))) rfl (by kernel_rfl) ?_
          refine Z4 (Z3 rfl) (d := 104) (v := (.bool (decide ((i : Int) < (TS.length : Int))))) rfl (by kernel_rfl) ?_
          refine Zn ?_
          refine Z7 ?_
          refine (Z02 (decide ((i : Int) < (TS.length : Int)))).elim (fun b164 => ?_) (fun b164 => ?_)
          ·have g165 := of_decide_eq_true b164
           refine Zq 104 (.bool true) (congrArg Value.bool b164) ?_
           have g166 := of_decide_eq_true b164
           refine Z0y rfl ?_
           have htm0 : 0 ≤ TS.getD i 0 := Z6t hTb
           refine Zr ?_
           refine Z4 (Z3 rfl) (d := 105) (v := (.slice ta TS.length tc)) rfl (by kernel_rfl) ?_
           refine Z4 (Z3 rfl) (d := 106) (v := (.int .i64 ((i : Int)))) rfl (by kernel_rfl) ?_
           obtain ⟨g167, o168, c169, e170, R171⟩ := SliceOf.atD hT 0 (show i < TS.length by omega)
           refine Z4 (Z3 rfl) (d := 107) (v := (.pointer (some ⟨g167, o168 + ((i : Int)).toNat * 1, none⟩))) rfl (Z03 (E := 45) (by kernel_rfl) (by kernel_rfl) (Nat.le_of_ble_eq_true rfl) rfl e170 rfl (by omega) (by omega)) ?_
           refine Z4 (Z3 rfl) (d := 108) (v := (.int .u64 ((TS.getD i 0)))) rfl (Zi rfl (by kernel_rfl) (H161.cellR 0 rfl (Z1l R171 0 (by kernel_rfl) (show o168 + ((i : Int)).toNat * 1 = o168 + i * 1 + 0 by omega)) (fun h => h))) ?_
           refine Z4 (Z3 rfl) (d := 109) (v := (.int .u64 ((TS.getD i 0) % 2))) rfl (Z5M (by kernel_rfl) (by omega) (by omega)) ?_
           refine Z4 (Z3 rfl) (d := 110) (v := (.pointer (some ⟨x23, 1, none⟩))) rfl (by kernel_rfl) ?_
           refine ZG (Z3 rfl) (fun K172 hK172 => ?_)
           refine ZP (vs := ([(.int .u64 ((TS.getD i 0) % 2))] : List Value)) (cs' := ([(.int .i64 (ix)), (.int .u64 ((TS.getD i 0) % 2))] : List Value)) rfl H161 9 rfl rfl rfl rfl (by kernel_rfl) (Nat.le_of_ble_eq_true (by kernel_rfl)) (Nat.le_of_ble_eq_true (by kernel_rfl)) (by kernel_rfl) (by kernel_rfl) ?_
           intro w173 (H174 : Sat w [Za w (fun _ => False), Z5 x11 27 ([(.int .i64 (F)), (.int .i64 (1))] : List Value), Z5 c34 112 ([(.int .i64 (F)), (.int .i64 (1)), (.int .i64 (0)), (.pointer (some ⟨b25, 0, none⟩)), (.slice (some ⟨g, 0, none⟩) 1 lc)] : List Value), Ze 119 79 (.slice (some ⟨g, 0, none⟩) 1 lc) 1 (([qi]).flatMap Zg), Zh qi.mr (Value.int .i64) rcV R, Ze 5 1 (.slice qi.pa qi.P.length qi.pc) qi.P.length (qi.P.flatMap Zl), Zy (.slice oa P.length oc) P, Z5 x18 40 (hc qi.x.h), Zh b100 (Value.int .i64) syV S, Z5 x23 94 ([(.int .i64 (ix)), (.int .u64 ((TS.getD i 0) % 2))] : List Value)] w173)
           refine hK172 _ _ ?_
           clear hK172 K172
           refine Zn ?_
           have H176 : Sat w [Za w (fun _ => False), Z5 x11 27 ([(.int .i64 (F)), (.int .i64 (1))] : List Value), Z5 c34 112 ([(.int .i64 (F)), (.int .i64 (1)), (.int .i64 (0)), (.pointer (some ⟨b25, 0, none⟩)), (.slice (some ⟨g, 0, none⟩) 1 lc)] : List Value), Ze 119 79 (.slice (some ⟨g, 0, none⟩) 1 lc) 1 (([qi]).flatMap Zg), Zh qi.mr (Value.int .i64) rcV R, Ze 5 1 (.slice qi.pa qi.P.length qi.pc) qi.P.length (qi.P.flatMap Zl), Zy (.slice oa P.length oc) P, Z5 x18 40 (hc qi.x.h), Zh b100 (Value.int .i64) syV S, Z5 x23 94 ([(.int .i64 (ix)), (.int .u64 ((TS.getD i 0) % 2))] : List Value)] w173 := H174.pick [0, 1, 2, 3, 4, 5, 6, 7, 8, 9] (by decide)
           refine ZT ?_ ⟨((TS.getD i 0) % 2), (by omega), H176⟩
           exact (Z1 rfl (Z1 rfl (Z1 rfl (Z1 rfl (Z1 rfl (Z1 rfl (Z1 rfl (Z1 rfl (Z1 rfl (Z1 rfl (Z1 rfl (ZQ))))))))))))
          ·have g177 := of_decide_eq_false b164
           refine Zq 104 (.bool false) (congrArg Value.bool b164) ?_
           have g178 := of_decide_eq_false b164
           refine Z00 rfl ?_
           refine ZR ?_
           have H179 : Sat w [Za w (fun _ => False), Z5 x11 27 ([(.int .i64 (F)), (.int .i64 (1))] : List Value), Z5 c34 112 ([(.int .i64 (F)), (.int .i64 (1)), (.int .i64 (0)), (.pointer (some ⟨b25, 0, none⟩)), (.slice (some ⟨g, 0, none⟩) 1 lc)] : List Value), Ze 119 79 (.slice (some ⟨g, 0, none⟩) 1 lc) 1 (([qi]).flatMap Zg), Zh qi.mr (Value.int .i64) rcV R, Ze 5 1 (.slice qi.pa qi.P.length qi.pc) qi.P.length (qi.P.flatMap Zl), Zy (.slice oa P.length oc) P, Z5 x18 40 (hc qi.x.h), Zh b100 (Value.int .i64) syV S, Z5 x23 94 ([(.int .i64 (ix)), (.int .u64 (0))] : List Value)] w160 := H161.pick [0, 1, 2, 3, 4, 5, 6, 7, 8, 9] (by decide)
           refine ZT ?_ ⟨(0 : Int), (by omega), H179⟩
           exact (Z1 rfl (Z1 rfl (Z1 rfl (Z1 rfl (Z1 rfl (ZQ))))))
         ·rintro f180 w181 ⟨tm, htm, H182⟩
          refine Z0n [24, 111, 112, 113, 114, 115, 116, 117, 118, 119, 120, 121] (fun G_ W_ => ∃ (R2 : List (Int × RcD)) (q2 : Zm) (da : Option Addr) (dc : Nat) (D : List OmR) (B : List Ck), G_ 24 = (.slice da D.length dc) ∧ (R2 = (Z0I R fr (⟨ix, ⟨0, 1, qi.x.h, tm⟩⟩ : RcD))) ∧ (q2.x = qi.x ∧ q2.P = qi.P ∧ q2.mr = qi.mr ∧ q2.pa = qi.pa ∧ q2.pc = qi.pc) ∧ (Sil F qi.x.h (Z0I S fr (⟨ix, tm⟩ : Z2q)) R2 q2.op) ∧ ((D = [] ∧ q2.op = qi.op) ∨ (qi.op = false ∧ q2.op = true ∧ (D.length : Int) = 3 * F + 1 ∧ q2.pl = ix ∧ ∀ j, j < D.length → Z4J (1000 + 0) (⟨10, 0, 0, co0, co0, none, 0, [], ix, qi.pa, qi.pc, qi.P, qi.no⟩ : OmR) B j (D.getD j om0))) ∧ Sat w [Za w (fun _ => False), Z5 x11 27 ([(.int .i64 (F)), (.int .i64 (1))] : List Value), Z5 c34 112 ([(.int .i64 (F)), (.int .i64 (1)), (.int .i64 (0)), (.pointer (some ⟨b25, 0, none⟩)), (.slice (some ⟨g, 0, none⟩) 1 lc)] : List Value), Ze 119 79 (.slice (some ⟨g, 0, none⟩) 1 lc) 1 (([q2]).flatMap Zg), Zh qi.mr (Value.int .i64) rcV R2, Ze 5 1 (.slice qi.pa qi.P.length qi.pc) qi.P.length (qi.P.flatMap Zl), Zy (.slice oa P.length oc) P, Z5 x18 40 (hc qi.x.h), Zh b100 (Value.int .i64) syV S, Z5 x23 94 ([(.int .i64 (ix)), (.int .u64 (tm))] : List Value), Ze 82 295 (.slice da D.length dc) D.length (D.flatMap Z01), Z0G B] W_) ?_ ?_
          ·refine Zr ?_
           refine Z4 (Z3 rfl) (d := 111) (v := (.pointer (some ⟨c34, 0, none⟩))) rfl (by kernel_rfl) ?_
           refine Z4 (Z3 rfl) (d := 112) (v := (.int .i64 (fr))) rfl (by kernel_rfl) ?_
           refine Z4 (Z3 rfl) (d := 113) (v := (.pointer (some ⟨x23, 0, none⟩))) rfl (by kernel_rfl) ?_
           refine Z4 (Z3 rfl) (d := 114) (v := (.int .i64 (ix))) rfl (Zi rfl (by kernel_rfl) (H182.cell 9 rfl rfl)) ?_
           refine Z4 (Z3 rfl) (d := 115) (v := (.agg ⟨([(.int .i64 (0)), (.int .i64 (1))] : List Value)⟩)) rfl (by kernel_rfl) ?_
           refine Z4 (Z3 rfl) (d := 116) (v := (.agg ⟨(hc qi.x.h)⟩)) rfl (ZK (vs := (hc qi.x.h)) rfl (by kernel_rfl) (by kernel_rfl) (by exact Nat.le_of_ble_eq_true (by kernel_rfl)) (H182.at 7 rfl) (by kernel_rfl)) ?_
           refine Z4 (Z3 rfl) (d := 117) (v := (.pointer (some ⟨x23, 1, none⟩))) rfl (by kernel_rfl) ?_
           refine Z4 (Z3 rfl) (d := 118) (v := (.int .u64 (tm))) rfl (Zi rfl (by kernel_rfl) (H182.cell 9 rfl rfl)) ?_
           refine Z4 (Z3 rfl) (d := 119) (v := (.agg ⟨(([(.int .i64 (0)), (.int .i64 (1))] : List Value) ++ hc qi.x.h ++ ([(.int .u64 (tm))] : List Value))⟩)) rfl (by kernel_rfl) ?_
           refine Z4 (Z3 rfl) (d := 120) (v := (.agg ⟨(([(.int .i64 (9)), (.int .i64 (fr)), (.int .i64 (1000)), (.int .i64 (0)), (.int .i64 (0))] : List Value) ++ hc Zd ++ ([(.int .i64 (0)), (.int .i64 (0)), (.int .i64 (0)), (.int .i64 (0)), (.int .i64 (0)), (.int .i64 (0))] : List Value) ++ hc Zd ++ ([(.int .u64 (0)), (.int .i64 (0)), (.int .i64 (0)), (.int .i64 (0)), (.int .i64 (0))] : List Value) ++ hc Zd ++ ([(.int .i64 (0)), (.int .i64 (0)), (.int .i64 (0)), (.slice none 0 0), (.int .i64 (0)), (.int .i64 (0)), (.int .i64 (0))] : List Value) ++ hc Zd ++ ([(.int .u64 (0)), (.int .i64 (0)), (.int .i64 (0)), (.int .i64 (0)), (.int .i64 (0)), (.int .u64 (0)), (.int .i64 (0)), (.int .i64 (0)), (.int .u64 (0)), (.slice none 0 0), (.int .i64 (0)), (.int .i64 (0)), (.int .i64 (0)), (.int .i64 (0)), (.int .i64 (0)), (.int .i64 (0)), (.int .i64 (0)), (.int .u64 (0)), (.slice none 0 0), (.slice none 0 0), (.slice none 0 0), (.int .i64 (0)), (.int .i64 (0)), (.int .i64 (0))] : List Value) ++ ([(.int .i64 (0)), (.int .i64 (0)), (.int .i64 (0))] : List Value) ++ hc Zd ++ ([(.int .i64 (0)), (.int .i64 (0)), (.int .i64 (ix)), (.int .i64 (0)), (.int .i64 (1))] : List Value) ++ hc qi.x.h ++ ([(.int .u64 (tm)), (.int .i64 (0)), (.slice none 0 0)] : List Value) ++ hc Zd ++ ([(.int .i64 (0)), (.int .i64 (0)), (.int .i64 (0)), (.int .i64 (0)), (ZU ([] : List UInt8)), (.int .i64 (0)), (.int .i64 (0)), (.int .i64 (0)), (.int .u64 (0)), (.slice none 0 0), (.slice none 0 0), (.slice none 0 0), (.slice none 0 0)] : List Value))⟩)) rfl (by kernel_rfl) ?_
           refine ZG (Z3 rfl) (fun K184 hK184 => ?_)
           refine ZI (d := 121) rfl (by kernel_rfl) (Z3U w181 c34 b25 g lc F 1 0 [qi] 0 qi rfl R (H182.fin [2, 3, 4, 5] (by decide) rfl) (Nat.le_of_ble_eq_true rfl) (by omega) (by rw [hqiP]; omega) (by omega) (by decide) fr ix 1 tm rfl (by unfold inB; simp; omega)) ?_
           rintro _ w185 (⟨k186, rfl, T187⟩ | ⟨k188, a189, c190, D191, B192, rfl, n193, o194, T195⟩)
           ·have H196 : Sat w [Za w (fun _ => False), Z5 x11 27 ([(.int .i64 (F)), (.int .i64 (1))] : List Value), Z5 c34 112 ([(.int .i64 (F)), (.int .i64 (1)), (.int .i64 (0)), (.pointer (some ⟨b25, 0, none⟩)), (.slice (some ⟨g, 0, none⟩) 1 lc)] : List Value), Ze 119 79 (.slice (some ⟨g, 0, none⟩) 1 lc) 1 (([qi]).flatMap Zg), Zh qi.mr (Value.int .i64) rcV (Z0I R fr (⟨ix, ⟨0, 1, qi.x.h, tm⟩⟩ : RcD)), Ze 5 1 (.slice qi.pa qi.P.length qi.pc) qi.P.length (qi.P.flatMap Zl), Zy (.slice oa P.length oc) P, Z5 x18 40 (hc qi.x.h), Zh b100 (Value.int .i64) syV S, Z5 x23 94 ([(.int .i64 (ix)), (.int .u64 (tm))] : List Value)] w185 := (Sat.turnL (L' := [Z5 c34 112 ([(.int .i64 (F)), (.int .i64 (1)), (.int .i64 (0)), (.pointer (some ⟨b25, 0, none⟩)), (.slice (some ⟨g, 0, none⟩) 1 lc)] : List Value), Ze 119 79 (.slice (some ⟨g, 0, none⟩) 1 lc) 1 (([qi]).flatMap Zg), Zh qi.mr (Value.int .i64) rcV (Z0I R fr (⟨ix, ⟨0, 1, qi.x.h, tm⟩⟩ : RcD)), Ze 5 1 (.slice qi.pa qi.P.length qi.pc) qi.P.length (qi.P.flatMap Zl)]) (R := [Za w (fun _ => False), Z5 x11 27 ([(.int .i64 (F)), (.int .i64 (1))] : List Value), Zy (.slice oa P.length oc) P, Z5 x18 40 (hc qi.x.h), Zh b100 (Value.int .i64) syV S, Z5 x23 94 ([(.int .i64 (ix)), (.int .u64 (tm))] : List Value)]) H182 [2, 3, 4, 5] [0, 1, 6, 7, 8, 9] (by decide) (by kernel_rfl) rfl T187).pick [4, 5, 0, 1, 2, 3, 6, 7, 8, 9] (by decide)
            refine ⟨_, rfl, ?_⟩
            refine hK184 _ _ ?_
            clear hK184 K184
            refine Z4 (Z3 rfl) (d := 24) (v := (.slice none 0 0)) rfl (by kernel_rfl) ?_
            refine Zn ?_
            have H197 := H196.addNil 82 295
            have H198 := H197.bag0
            have H199 : Sat w [Za w (fun _ => False), Z5 x11 27 ([(.int .i64 (F)), (.int .i64 (1))] : List Value), Z5 c34 112 ([(.int .i64 (F)), (.int .i64 (1)), (.int .i64 (0)), (.pointer (some ⟨b25, 0, none⟩)), (.slice (some ⟨g, 0, none⟩) 1 lc)] : List Value), Ze 119 79 (.slice (some ⟨g, 0, none⟩) 1 lc) 1 (([qi]).flatMap Zg), Zh qi.mr (Value.int .i64) rcV (Z0I R fr (⟨ix, ⟨0, 1, qi.x.h, tm⟩⟩ : RcD)), Ze 5 1 (.slice qi.pa qi.P.length qi.pc) qi.P.length (qi.P.flatMap Zl), Zy (.slice oa P.length oc) P, Z5 x18 40 (hc qi.x.h), Zh b100 (Value.int .i64) syV S, Z5 x23 94 ([(.int .i64 (ix)), (.int .u64 (tm))] : List Value), Ze 82 295 (.slice none (([] : List OmR).length) 0) (([] : List OmR).length) (([] : List OmR).flatMap Z01), Z0G []] w185 := H198.pick [0, 1, 2, 3, 4, 5, 6, 7, 8, 9, 10, 11] (by decide)
            refine ZT ?_ ⟨(Z0I R fr (⟨ix, ⟨0, 1, qi.x.h, tm⟩⟩ : RcD)), qi, none, 0, [], [], rfl, rfl, ⟨rfl, rfl, rfl, rfl, rfl⟩, (hSil.no k186), (.inl ⟨rfl, rfl⟩), H199⟩
            exact (Z1 rfl (Z1 rfl (Z1 rfl (Z1 rfl (Z1 rfl (Z1 rfl (Z1 rfl (Z1 rfl (Z1 rfl (Z1 rfl (Z1 rfl (Z1 rfl (ZQ)))))))))))))
           ·have H200 : Sat w [Za w (fun _ => False), Z5 x11 27 ([(.int .i64 (F)), (.int .i64 (1))] : List Value), Z5 c34 112 ([(.int .i64 (F)), (.int .i64 (1)), (.int .i64 (0)), (.pointer (some ⟨b25, 0, none⟩)), (.slice (some ⟨g, 0, none⟩) 1 lc)] : List Value), Ze 119 79 (.slice (some ⟨g, 0, none⟩) 1 lc) 1 (([(⟨qi.x, qi.pa, qi.pc, qi.P, qi.no, qi.ms, qi.cb, qi.ma, qi.mr, true, ((Zs (Z0I R fr (⟨ix, ⟨0, 1, qi.x.h, tm⟩⟩ : RcD)) fr).getD rc0).i, qi.mp, qi.dn, qi.rp⟩ : Zm)]).flatMap Zg), Zh qi.mr (Value.int .i64) rcV (Z0I R fr (⟨ix, ⟨0, 1, qi.x.h, tm⟩⟩ : RcD)), Ze 5 1 (.slice qi.pa qi.P.length qi.pc) qi.P.length (qi.P.flatMap Zl), Zy (.slice oa P.length oc) P, Z5 x18 40 (hc qi.x.h), Zh b100 (Value.int .i64) syV S, Z5 x23 94 ([(.int .i64 (ix)), (.int .u64 (tm))] : List Value), Ze 82 295 (.slice a189 D191.length c190) D191.length (D191.flatMap Z01), Z0G B192] w185 := (Sat.turnL (L' := [Z5 c34 112 ([(.int .i64 (F)), (.int .i64 (1)), (.int .i64 (0)), (.pointer (some ⟨b25, 0, none⟩)), (.slice (some ⟨g, 0, none⟩) 1 lc)] : List Value), Ze 119 79 (.slice (some ⟨g, 0, none⟩) 1 lc) 1 (([(⟨qi.x, qi.pa, qi.pc, qi.P, qi.no, qi.ms, qi.cb, qi.ma, qi.mr, true, ((Zs (Z0I R fr (⟨ix, ⟨0, 1, qi.x.h, tm⟩⟩ : RcD)) fr).getD rc0).i, qi.mp, qi.dn, qi.rp⟩ : Zm)]).flatMap Zg), Zh qi.mr (Value.int .i64) rcV (Z0I R fr (⟨ix, ⟨0, 1, qi.x.h, tm⟩⟩ : RcD)), Ze 5 1 (.slice qi.pa qi.P.length qi.pc) qi.P.length (qi.P.flatMap Zl), Ze 82 295 (.slice a189 D191.length c190) D191.length (D191.flatMap Z01), Z0G B192]) (R := [Za w (fun _ => False), Z5 x11 27 ([(.int .i64 (F)), (.int .i64 (1))] : List Value), Zy (.slice oa P.length oc) P, Z5 x18 40 (hc qi.x.h), Zh b100 (Value.int .i64) syV S, Z5 x23 94 ([(.int .i64 (ix)), (.int .u64 (tm))] : List Value)]) H182 [2, 3, 4, 5] [0, 1, 6, 7, 8, 9] (by decide) (by kernel_rfl) rfl T195).pick [6, 7, 0, 1, 2, 3, 8, 9, 10, 11, 4, 5] (by decide)
            refine ⟨_, rfl, ?_⟩
            refine hK184 _ _ ?_
            clear hK184 K184
            refine Z4 (Z3 rfl) (d := 24) (v := (.slice a189 D191.length c190)) rfl (by kernel_rfl) ?_
            refine Zn ?_
            have H201 : Sat w [Za w (fun _ => False), Z5 x11 27 ([(.int .i64 (F)), (.int .i64 (1))] : List Value), Z5 c34 112 ([(.int .i64 (F)), (.int .i64 (1)), (.int .i64 (0)), (.pointer (some ⟨b25, 0, none⟩)), (.slice (some ⟨g, 0, none⟩) 1 lc)] : List Value), Ze 119 79 (.slice (some ⟨g, 0, none⟩) 1 lc) 1 (([(⟨qi.x, qi.pa, qi.pc, qi.P, qi.no, qi.ms, qi.cb, qi.ma, qi.mr, true, ((Zs (Z0I R fr (⟨ix, ⟨0, 1, qi.x.h, tm⟩⟩ : RcD)) fr).getD rc0).i, qi.mp, qi.dn, qi.rp⟩ : Zm)]).flatMap Zg), Zh qi.mr (Value.int .i64) rcV (Z0I R fr (⟨ix, ⟨0, 1, qi.x.h, tm⟩⟩ : RcD)), Ze 5 1 (.slice qi.pa qi.P.length qi.pc) qi.P.length (qi.P.flatMap Zl), Zy (.slice oa P.length oc) P, Z5 x18 40 (hc qi.x.h), Zh b100 (Value.int .i64) syV S, Z5 x23 94 ([(.int .i64 (ix)), (.int .u64 (tm))] : List Value), Ze 82 295 (.slice a189 D191.length c190) D191.length (D191.flatMap Z01), Z0G B192] w185 := H200.pick [0, 1, 2, 3, 4, 5, 6, 7, 8, 9, 10, 11] (by decide)
            have e202 := hSil.place (s := (⟨ix, tm⟩ : Z2q)) (fr := fr) k188.1 (by omega) k188.2
            refine ZT ?_ ⟨(Z0I R fr (⟨ix, ⟨0, 1, qi.x.h, tm⟩⟩ : RcD)), (⟨qi.x, qi.pa, qi.pc, qi.P, qi.no, qi.ms, qi.cb, qi.ma, qi.mr, true, ((Zs (Z0I R fr (⟨ix, ⟨0, 1, qi.x.h, tm⟩⟩ : RcD)) fr).getD rc0).i, qi.mp, qi.dn, qi.rp⟩ : Zm), a189, c190, D191, B192, rfl, rfl, ⟨rfl, rfl, rfl, rfl, rfl⟩, (hSil.yes (s := (⟨ix, tm⟩ : Z2q)) k188.2), (.inr ⟨k188.1, rfl, n193, e202, fun j_ h_ => (fun q_ => ⟨q_.k, q_.fr, q_.to, q_.co, q_.cx, q_.oi.trans e202, q_.oh, q_.S, q_.P, q_.sb, q_.ob⟩) (o194 j_ h_)⟩), H201⟩
            exact (Z1 rfl (Z1 rfl (Z1 rfl (Z1 rfl (Z1 rfl (Z1 rfl (Z1 rfl (Z1 rfl (Z1 rfl (Z1 rfl (Z1 rfl (Z1 rfl (ZQ)))))))))))))
          ·rintro f203 w204 ⟨R2, q2, da, dc, D, B, v206, hR2e, hq2, hSil2, hD, H205⟩
           refine Zq 24 _ v206 ?_
           refine Z0n [25, 26, 122, 123, 124, 125, 126, 127, 128, 129, 130, 131, 132] (fun G_ W_ => ∃ (S2 : List (Int × Z2q)), (S2 = Z0I S fr (⟨ix, tm⟩ : Z2q)) ∧ Sat w [Za w (fun _ => False), Z5 x11 27 ([(.int .i64 (F)), (.int .i64 (1))] : List Value), Z5 c34 112 ([(.int .i64 (F)), (.int .i64 (1)), (.int .i64 (0)), (.pointer (some ⟨b25, 0, none⟩)), (.slice (some ⟨g, 0, none⟩) 1 lc)] : List Value), Ze 119 79 (.slice (some ⟨g, 0, none⟩) 1 lc) 1 (([q2]).flatMap Zg), Zh qi.mr (Value.int .i64) rcV R2, Ze 5 1 (.slice qi.pa qi.P.length qi.pc) qi.P.length (qi.P.flatMap Zl), Zy (.slice oa P.length oc) P, Z5 x18 40 (hc qi.x.h), Zh b100 (Value.int .i64) syV S2, Z5 x23 94 ([(.int .i64 (ix)), (.int .u64 (tm))] : List Value), Ze 82 295 (.slice da D.length dc) D.length (D.flatMap Z01), Z0G B] W_) ?_ ?_
           ·refine Zf ?_
            refine Zr ?_
            refine Z4 (Z3 rfl) (d := 123) (v := (.map (some b100))) rfl (by kernel_rfl) ?_
            refine Z4 (Z3 rfl) (d := 124) (v := (.int .i64 (fr))) rfl (by kernel_rfl) ?_
            refine Z4 (Z3 rfl) (d := 125) (v := (.tuple #[(.agg ⟨([(.int .i64 (((Zs S fr).getD sy0).p)), (.int .u64 (((Zs S fr).getD sy0).t))] : List Value)⟩), (.bool ((Zs S fr).isSome))])) rfl (Z3v (kt := 3) (et := 94) (KeyTy.int (by kernel_rfl)) (by kernel_rfl) zeroSy rfl fr rfl (H205.at 8 rfl) (Z6z syV _ _) rfl) ?_
            refine Z4 (Z3 rfl) (d := 122) (v := (.tuple #[(.agg ⟨([(.int .i64 (((Zs S fr).getD sy0).p)), (.int .u64 (((Zs S fr).getD sy0).t))] : List Value)⟩), (.bool ((Zs S fr).isSome))])) rfl (by kernel_rfl) ?_
            refine Z4 (Z3 rfl) (d := 126) (v := (.agg ⟨([(.int .i64 (((Zs S fr).getD sy0).p)), (.int .u64 (((Zs S fr).getD sy0).t))] : List Value)⟩)) rfl (by kernel_rfl) ?_
            refine Z4 (Z3 rfl) (d := 127) (v := (.bool ((Zs S fr).isSome))) rfl (by kernel_rfl) ?_
            refine ZG (Z3 rfl) (fun K208 hK208 => ?_)
            refine Z0o (zs := ([(.int .i64 (0)), (.int .u64 (0))] : List Value)) (z := (.agg ⟨([(.int .i64 (0)), (.int .u64 (0))] : List Value)⟩)) rfl H205 (by kernel_rfl) (by kernel_rfl) ?_
            intro b209 w210 (H211 : Sat w [Za w (fun _ => False), Z5 x11 27 ([(.int .i64 (F)), (.int .i64 (1))] : List Value), Z5 c34 112 ([(.int .i64 (F)), (.int .i64 (1)), (.int .i64 (0)), (.pointer (some ⟨b25, 0, none⟩)), (.slice (some ⟨g, 0, none⟩) 1 lc)] : List Value), Ze 119 79 (.slice (some ⟨g, 0, none⟩) 1 lc) 1 (([q2]).flatMap Zg), Zh qi.mr (Value.int .i64) rcV R2, Ze 5 1 (.slice qi.pa qi.P.length qi.pc) qi.P.length (qi.P.flatMap Zl), Zy (.slice oa P.length oc) P, Z5 x18 40 (hc qi.x.h), Zh b100 (Value.int .i64) syV S, Z5 x23 94 ([(.int .i64 (ix)), (.int .u64 (tm))] : List Value), Ze 82 295 (.slice da D.length dc) D.length (D.flatMap Z01), Z0G B, Z5 b209 94 ([(.int .i64 (0)), (.int .u64 (0))] : List Value)] w210)
            refine hK208 _ _ ?_
            clear hK208 K208
            refine ZG (Z3 rfl) (fun K212 hK212 => ?_)
            refine ZP (vs := ([(.int .i64 (((Zs S fr).getD sy0).p)), (.int .u64 (((Zs S fr).getD sy0).t))] : List Value)) (cs' := ([(.int .i64 (((Zs S fr).getD sy0).p)), (.int .u64 (((Zs S fr).getD sy0).t))] : List Value)) rfl H211 12 rfl rfl rfl rfl (by kernel_rfl) (Nat.le_of_ble_eq_true (by kernel_rfl)) (Nat.le_of_ble_eq_true (by kernel_rfl)) (by kernel_rfl) (by kernel_rfl) ?_
            intro w213 (H214 : Sat w [Za w (fun _ => False), Z5 x11 27 ([(.int .i64 (F)), (.int .i64 (1))] : List Value), Z5 c34 112 ([(.int .i64 (F)), (.int .i64 (1)), (.int .i64 (0)), (.pointer (some ⟨b25, 0, none⟩)), (.slice (some ⟨g, 0, none⟩) 1 lc)] : List Value), Ze 119 79 (.slice (some ⟨g, 0, none⟩) 1 lc) 1 (([q2]).flatMap Zg), Zh qi.mr (Value.int .i64) rcV R2, Ze 5 1 (.slice qi.pa qi.P.length qi.pc) qi.P.length (qi.P.flatMap Zl), Zy (.slice oa P.length oc) P, Z5 x18 40 (hc qi.x.h), Zh b100 (Value.int .i64) syV S, Z5 x23 94 ([(.int .i64 (ix)), (.int .u64 (tm))] : List Value), Ze 82 295 (.slice da D.length dc) D.length (D.flatMap Z01), Z0G B, Z5 b209 94 ([(.int .i64 (((Zs S fr).getD sy0).p)), (.int .u64 (((Zs S fr).getD sy0).t))] : List Value)] w213)
            refine hK212 _ _ ?_
            clear hK212 K212
            refine Z4 (Z3 rfl) (d := 26) (v := (.bool ((Zs S fr).isSome))) rfl (by kernel_rfl) ?_
            refine Zn ?_
            refine Z7 ?_
            refine Zf ?_
            refine Zr ?_
            refine Z4 (Z3 rfl) (d := 128) (v := (.bool ((Zs S fr).isSome))) rfl (by kernel_rfl) ?_
            refine Z4 (Z3 rfl) (d := 129) (v := (.bool (!((Zs S fr).isSome)))) rfl (by kernel_rfl) ?_
            refine Zn ?_
            refine Z7 ?_
            refine (Z02 (!((Zs S fr).isSome))).elim (fun b216 => ?_) (fun b216 => ?_)
            ·have g217 := Z0C b216
             refine Zq 129 (.bool true) (congrArg Value.bool b216) ?_
             have g218 := Z0C b216
             refine Z0y rfl ?_
             refine Zr ?_
             refine Z4 (Z3 rfl) (d := 130) (v := (.map (some b100))) rfl (by kernel_rfl) ?_
             refine Z4 (Z3 rfl) (d := 131) (v := (.int .i64 (fr))) rfl (by kernel_rfl) ?_
             refine Z4 (Z3 rfl) (d := 132) (v := (.agg ⟨([(.int .i64 (ix)), (.int .u64 (tm))] : List Value)⟩)) rfl (ZK (vs := ([(.int .i64 (ix)), (.int .u64 (tm))] : List Value)) rfl (by kernel_rfl) (by kernel_rfl) (by exact Nat.le_of_ble_eq_true (by kernel_rfl)) (H214.at 9 rfl) (by kernel_rfl)) ?_
             refine ZG (Z3 rfl) (fun K219 hK219 => ?_)
             refine Z1M (kt := 3) (et := 94) rfl H214 8 rfl (KeyTy.int (by kernel_rfl)) (by kernel_rfl) rfl fr rfl (⟨ix, tm⟩ : Z2q) rfl ?_
             intro w220 (H221 : Sat w [Za w (fun _ => False), Z5 x11 27 ([(.int .i64 (F)), (.int .i64 (1))] : List Value), Z5 c34 112 ([(.int .i64 (F)), (.int .i64 (1)), (.int .i64 (0)), (.pointer (some ⟨b25, 0, none⟩)), (.slice (some ⟨g, 0, none⟩) 1 lc)] : List Value), Ze 119 79 (.slice (some ⟨g, 0, none⟩) 1 lc) 1 (([q2]).flatMap Zg), Zh qi.mr (Value.int .i64) rcV R2, Ze 5 1 (.slice qi.pa qi.P.length qi.pc) qi.P.length (qi.P.flatMap Zl), Zy (.slice oa P.length oc) P, Z5 x18 40 (hc qi.x.h), Zh b100 (Value.int .i64) syV (Z1I S fr (⟨ix, tm⟩ : Z2q)), Z5 x23 94 ([(.int .i64 (ix)), (.int .u64 (tm))] : List Value), Ze 82 295 (.slice da D.length dc) D.length (D.flatMap Z01), Z0G B, Z5 b209 94 ([(.int .i64 (((Zs S fr).getD sy0).p)), (.int .u64 (((Zs S fr).getD sy0).t))] : List Value)] w220)
             refine hK219 _ _ ?_
             clear hK219 K219
             refine Zn ?_
             have H222 : Sat w [Za w (fun _ => False), Z5 x11 27 ([(.int .i64 (F)), (.int .i64 (1))] : List Value), Z5 c34 112 ([(.int .i64 (F)), (.int .i64 (1)), (.int .i64 (0)), (.pointer (some ⟨b25, 0, none⟩)), (.slice (some ⟨g, 0, none⟩) 1 lc)] : List Value), Ze 119 79 (.slice (some ⟨g, 0, none⟩) 1 lc) 1 (([q2]).flatMap Zg), Zh qi.mr (Value.int .i64) rcV R2, Ze 5 1 (.slice qi.pa qi.P.length qi.pc) qi.P.length (qi.P.flatMap Zl), Zy (.slice oa P.length oc) P, Z5 x18 40 (hc qi.x.h), Zh b100 (Value.int .i64) syV (Z1I S fr (⟨ix, tm⟩ : Z2q)), Z5 x23 94 ([(.int .i64 (ix)), (.int .u64 (tm))] : List Value), Ze 82 295 (.slice da D.length dc) D.length (D.flatMap Z01), Z0G B] w220 := H221.pick [0, 1, 2, 3, 4, 5, 6, 7, 8, 9, 10, 11] (by decide)
             have hno : fr ∉ S.map (·.1) := Z15.1 (by have q_ := b216; simpa using q_)
             refine ZT ?_ ⟨(Z1I S fr (⟨ix, tm⟩ : Z2q)), (Z4o hno), H222⟩
             exact (Z1 rfl (Z1 rfl (Z1 rfl (Z1 rfl (Z1 rfl (Z1 rfl (Z1 rfl (Z1 rfl (Z1 rfl (Z1 rfl (Z1 rfl (Z1 rfl (Z1 rfl (Z1 rfl (ZQ)))))))))))))))
            ·have g223 := ZO b216
             refine Zq 129 (.bool false) (congrArg Value.bool b216) ?_
             have g224 := ZO b216
             refine Z00 rfl ?_
             refine ZR ?_
             have H225 : Sat w [Za w (fun _ => False), Z5 x11 27 ([(.int .i64 (F)), (.int .i64 (1))] : List Value), Z5 c34 112 ([(.int .i64 (F)), (.int .i64 (1)), (.int .i64 (0)), (.pointer (some ⟨b25, 0, none⟩)), (.slice (some ⟨g, 0, none⟩) 1 lc)] : List Value), Ze 119 79 (.slice (some ⟨g, 0, none⟩) 1 lc) 1 (([q2]).flatMap Zg), Zh qi.mr (Value.int .i64) rcV R2, Ze 5 1 (.slice qi.pa qi.P.length qi.pc) qi.P.length (qi.P.flatMap Zl), Zy (.slice oa P.length oc) P, Z5 x18 40 (hc qi.x.h), Zh b100 (Value.int .i64) syV S, Z5 x23 94 ([(.int .i64 (ix)), (.int .u64 (tm))] : List Value), Ze 82 295 (.slice da D.length dc) D.length (D.flatMap Z01), Z0G B] w213 := H214.pick [0, 1, 2, 3, 4, 5, 6, 7, 8, 9, 10, 11] (by decide)
             have hin_ : fr ∈ S.map (·.1) := Decidable.byContradiction fun h_ => by have q_ := b216; rw [Z15.2 h_] at q_; simp at q_
             refine ZT ?_ ⟨S, (Z2r hin_).symm, H225⟩
             exact (Z1 rfl (Z1 rfl (Z1 rfl (Z1 rfl (Z1 rfl (Z1 rfl (Z1 rfl (Z1 rfl (Z1 rfl (Z1 rfl (Z1 rfl (ZQ))))))))))))
           ·rintro f226 w227 ⟨S2, hS2e, H228⟩
            refine Zf ?_
            refine Zr ?_
            refine Z4 (Z3 rfl) (d := 27) (v := (.int .i64 (0))) rfl (by kernel_rfl) ?_
            refine Zn ?_
            refine Z7 ?_
            refine Z0n [27, 29, 30, 32, 133, 134, 135, 136, 137, 138, 139, 140, 141, 142, 143, 144, 145, 146, 147, 148, 149, 150, 151, 152] (fun G_ W_ => ∃ (mo : Int), G_ 27 = (.int .i64 (mo)) ∧ (∀ n : Nat, 1 ≤ n → ((n : Int) ≤ mo ↔ Z3e S2 n)) ∧ Sat w [Za w (fun _ => False), Z5 x11 27 ([(.int .i64 (F)), (.int .i64 (1))] : List Value), Z5 c34 112 ([(.int .i64 (F)), (.int .i64 (1)), (.int .i64 (0)), (.pointer (some ⟨b25, 0, none⟩)), (.slice (some ⟨g, 0, none⟩) 1 lc)] : List Value), Ze 119 79 (.slice (some ⟨g, 0, none⟩) 1 lc) 1 (([q2]).flatMap Zg), Zh qi.mr (Value.int .i64) rcV R2, Ze 5 1 (.slice qi.pa qi.P.length qi.pc) qi.P.length (qi.P.flatMap Zl), Zy (.slice oa P.length oc) P, Z5 x18 40 (hc qi.x.h), Zh b100 (Value.int .i64) syV S2, Z5 x23 94 ([(.int .i64 (ix)), (.int .u64 (tm))] : List Value), Ze 82 295 (.slice da D.length dc) D.length (D.flatMap Z01), Z0G B] W_) ?_ ?_
            ·refine Zf ?_
             have hMs : MapAt w227 b100 (Value.int .i64) syV S2 := H228.at 8 rfl
             have hlS2 : S2.length ≤ 41 := by rw [hS2e]; exact Nat.le_trans Z0E (by omega)
             have HK := Sat.start0 w227
             refine Zr ?_
             refine Z4 (Z3 rfl) (d := 133) (v := (.map (some b100))) rfl (by kernel_rfl) ?_
             refine ZG (Z3 rfl) (fun K230 hK230 => ?_)
             refine Z36 (kt := 3) (et := 94) rfl HK 0 rfl hMs (fun h => h) (by kernel_rfl) rfl ?_
             intro r231 w232 (H233 : Sat w227 [Za w227 (fun _ => False), Z0F w227 r231 b100 (Value.int .i64) syV S2 []] w232)
             refine hK230 _ _ ?_
             clear hK230 K230
             refine Zn ?_
             refine Z7 ?_
             refine ZD ?_
             refine ZW [27, 29, 30, 32, 135, 136, 137, 138, 139, 140, 141, 142, 143, 144, 145, 146, 147, 148, 149, 150, 151, 152] (fun F_ W_ m_ => ∃ (seen rest : List (Int × Z2q)) (mo : Int), F_ 27 = (.int .i64 (mo)) ∧ (S2.Perm (seen ++ rest)) ∧ (∀ n : Nat, 1 ≤ n → ((n : Int) ≤ mo ↔ ∃ z ∈ seen, n ≤ Z0U S2 z.2)) ∧ Sat w227 [Za w227 (fun _ => False), Z0F w227 r231 b100 (Value.int .i64) syV S2 seen] W_ ∧ m_ = rest.length) _ ⟨[], S2, 0, (show ((.int .i64 (0)) : Value) = _ by first | rfl | go_num), (List.Perm.refl _), (fun n_ hn_ => ⟨fun h_ => by omega, fun ⟨z_, hz_, _⟩ => by cases hz_⟩), H233, rfl⟩ ?_
             rintro g234 w235 _ ⟨seen, rest, mo, v237, hperm, hmo, H236, rfl⟩
             refine Zq 27 _ v237 ?_
             refine Zf ?_
             refine Zr ?_
             refine ZG (Z3 rfl) (fun K239 hK239 => ?_)
             refine Z40 rfl H236 1 rfl 0 rfl (fun h => h) rfl ?_ ?_
             ·intro p240
              refine hK239 _ _ ?_
              clear hK239 K239
              refine Z4 (Z3 rfl) (d := 136) (v := (.bool false)) rfl (by kernel_rfl) ?_
              refine Zn ?_
              refine Z7 ?_
              refine Zf ?_
              refine Z00 rfl ?_
              refine Z1K ?_
              refine Z0D ?_
              refine Z0B ?_
              refine Z1f ?_
              have H241 : Sat w [Za w (fun _ => False), Z5 x11 27 ([(.int .i64 (F)), (.int .i64 (1))] : List Value), Z5 c34 112 ([(.int .i64 (F)), (.int .i64 (1)), (.int .i64 (0)), (.pointer (some ⟨b25, 0, none⟩)), (.slice (some ⟨g, 0, none⟩) 1 lc)] : List Value), Ze 119 79 (.slice (some ⟨g, 0, none⟩) 1 lc) 1 (([q2]).flatMap Zg), Zh qi.mr (Value.int .i64) rcV R2, Ze 5 1 (.slice qi.pa qi.P.length qi.pc) qi.P.length (qi.P.flatMap Zl), Zy (.slice oa P.length oc) P, Z5 x18 40 (hc qi.x.h), Zh b100 (Value.int .i64) syV S2, Z5 x23 94 ([(.int .i64 (ix)), (.int .u64 (tm))] : List Value), Ze 82 295 (.slice da D.length dc) D.length (D.flatMap Z01), Z0G B] w235 := H228.keepU (H236.upd 0 rfl [] (fun _ h => h.elim))
              refine ZT ?_ ⟨mo, rfl, (Z5g p240 hmo), H241⟩
              exact (Z1 rfl (Z1 rfl (Z1 rfl (ZA rfl (Z1 rfl (Z1 rfl (ZQ)))))))
             ·intro y242 t243 w244 p245 (H246 : Sat w227 [Za w227 (fun _ => False), Z0F w227 r231 b100 (Value.int .i64) syV S2 (seen ++ [y242])] w244)
              refine hK239 _ _ ?_
              clear hK239 K239
              refine Z4 (Z3 rfl) (d := 136) (v := (.bool true)) rfl (by kernel_rfl) ?_
              refine Zn ?_
              refine Z7 ?_
              refine Zf ?_
              refine Z0y rfl ?_
              refine ZR ?_
              refine Z7 ?_
              refine ZD ?_
              refine Zf ?_
              refine Zr ?_
              refine Z4 (Z3 rfl) (d := 137) (v := (.tuple #[(.int .i64 (y242.1)), (.agg ⟨([(.int .i64 (y242.2.p)), (.int .u64 (y242.2.t))] : List Value)⟩)])) rfl (H246.entryR 1 rfl 0 rfl (fun h => h) rfl) ?_
              refine Z4 (Z3 rfl) (d := 138) (v := (.agg ⟨([(.int .i64 (y242.2.p)), (.int .u64 (y242.2.t))] : List Value)⟩)) rfl (by kernel_rfl) ?_
              refine ZG (Z3 rfl) (fun K247 hK247 => ?_)
              refine Z0o (zs := ([(.int .i64 (0)), (.int .u64 (0))] : List Value)) (z := (.agg ⟨([(.int .i64 (0)), (.int .u64 (0))] : List Value)⟩)) rfl H246 (by kernel_rfl) (by kernel_rfl) ?_
              intro b248 w249 (H250 : Sat w227 [Za w227 (fun _ => False), Z0F w227 r231 b100 (Value.int .i64) syV S2 (seen ++ [y242]), Z5 b248 94 ([(.int .i64 (0)), (.int .u64 (0))] : List Value)] w249)
              refine hK247 _ _ ?_
              clear hK247 K247
              refine ZG (Z3 rfl) (fun K251 hK251 => ?_)
              refine ZP (vs := ([(.int .i64 (y242.2.p)), (.int .u64 (y242.2.t))] : List Value)) (cs' := ([(.int .i64 (y242.2.p)), (.int .u64 (y242.2.t))] : List Value)) rfl H250 2 rfl rfl rfl rfl (by kernel_rfl) (Nat.le_of_ble_eq_true (by kernel_rfl)) (Nat.le_of_ble_eq_true (by kernel_rfl)) (by kernel_rfl) (by kernel_rfl) ?_
              intro w252 (H253 : Sat w227 [Za w227 (fun _ => False), Z0F w227 r231 b100 (Value.int .i64) syV S2 (seen ++ [y242]), Z5 b248 94 ([(.int .i64 (y242.2.p)), (.int .u64 (y242.2.t))] : List Value)] w252)
              refine hK251 _ _ ?_
              clear hK251 K251
              refine Zn ?_
              refine Z7 ?_
              refine Zf ?_
              refine Zr ?_
              refine Z4 (Z3 rfl) (d := 30) (v := (.int .i64 (0))) rfl (by kernel_rfl) ?_
              refine Zn ?_
              refine Z7 ?_
              refine Zf ?_
              refine Zf ?_
              refine Zr ?_
              refine Z4 (Z3 rfl) (d := 139) (v := (.map (some b100))) rfl (by kernel_rfl) ?_
              refine ZG (Z3 rfl) (fun K255 hK255 => ?_)
              refine Z36 (kt := 3) (et := 94) rfl H253 0 rfl hMs (fun h => h) (by kernel_rfl) rfl ?_
              intro r256 w257 (H258 : Sat w227 [Za w227 (fun _ => False), Z0F w227 r231 b100 (Value.int .i64) syV S2 (seen ++ [y242]), Z5 b248 94 ([(.int .i64 (y242.2.p)), (.int .u64 (y242.2.t))] : List Value), Z0F w227 r256 b100 (Value.int .i64) syV S2 []] w257)
              refine hK255 _ _ ?_
              clear hK255 K255
              refine Zn ?_
              refine Z7 ?_
              refine ZD ?_
              refine ZW [30, 32, 141, 142, 143, 144, 145, 146, 147, 148, 149] (fun F_ W_ m_ => ∃ (seen2 rest2 : List (Int × Z2q)), F_ 30 = (.int .i64 ((Z0U seen2 y242.2 : Int))) ∧ (S2.Perm (seen2 ++ rest2)) ∧ Sat w227 [Za w227 (fun _ => False), Z0F w227 r231 b100 (Value.int .i64) syV S2 (seen ++ [y242]), Z5 b248 94 ([(.int .i64 (y242.2.p)), (.int .u64 (y242.2.t))] : List Value), Z0F w227 r256 b100 (Value.int .i64) syV S2 seen2] W_ ∧ m_ = rest2.length) _ ⟨[], S2, (show ((.int .i64 (0)) : Value) = _ by first | rfl | go_num), (List.Perm.refl _), H258, rfl⟩ ?_
              rintro g259 w260 _ ⟨seen2, rest2, v262, hperm2, H261, rfl⟩
              refine Zq 30 _ v262 ?_
              refine Zf ?_
              refine Zr ?_
              refine ZG (Z3 rfl) (fun K264 hK264 => ?_)
              refine Z40 rfl H261 3 rfl 0 rfl (fun h => h) rfl ?_ ?_
              ·intro p265
               refine hK264 _ _ ?_
               clear hK264 K264
               refine Z4 (Z3 rfl) (d := 142) (v := (.bool false)) rfl (by kernel_rfl) ?_
               refine Zn ?_
               refine Z7 ?_
               refine Zf ?_
               refine Z00 rfl ?_
               refine Z1K ?_
               refine Z0D ?_
               refine Z0B ?_
               refine Z1f ?_
               refine Z7 ?_
               refine Zr ?_
               refine Z4 (Z3 rfl) (d := 150) (v := (.int .i64 (mo))) rfl (by kernel_rfl) ?_
               refine Z4 (Z3 rfl) (d := 151) (v := (.int .i64 ((Z0U seen2 y242.2 : Int)))) rfl (by kernel_rfl) ?_
               refine Z4 (Z3 rfl) (d := 152) (v := (.int .i64 (max mo (Z0U seen2 y242.2 : Int)))) rfl (Z4T (k := .i64) (a := mo) (b := (Z0U seen2 y242.2 : Int)) (z := max mo (Z0U seen2 y242.2 : Int)) rfl rfl rfl) ?_
               refine Z4 (Z3 rfl) (d := 27) (v := (.int .i64 (max mo (Z0U seen2 y242.2 : Int)))) rfl (by kernel_rfl) ?_
               refine Zn ?_
               refine ZE ?_
               have hce : Z0U S2 y242.2 = Z0U seen2 y242.2 := Z4e p265
               have H266 : Sat w227 [Za w227 (fun _ => False), Z0F w227 r231 b100 (Value.int .i64) syV S2 (seen ++ [y242])] w260 := H261.pick [0, 1] (by decide)
               refine ZF ?_ _ ⟨(seen ++ [y242]), t243, max mo (Z0U seen2 y242.2 : Int), (show ((.int .i64 (max mo (Z0U seen2 y242.2 : Int))) : Value) = _ by first | rfl | go_num), p245, (by rw [← hce]; exact Z5h hmo), H266, rfl⟩ (by have h1 := hperm.length_eq; have h2 := p245.length_eq; simp only [List.length_append, List.length_cons, List.length_nil] at h1 h2; omega)
               exact (Z1 rfl (Z1 rfl (Z1 rfl (Z1 rfl (Z1 rfl (Z1 rfl (Z1 rfl (ZA rfl (Z1 rfl (Z1 rfl (Z1 rfl (Z1 rfl (Z1 rfl (Z1 rfl (Z1 rfl (Z1 rfl (Z1 rfl (Z0s))))))))))))))))))
              ·intro y267 t268 w269 p270 (H271 : Sat w227 [Za w227 (fun _ => False), Z0F w227 r231 b100 (Value.int .i64) syV S2 (seen ++ [y242]), Z5 b248 94 ([(.int .i64 (y242.2.p)), (.int .u64 (y242.2.t))] : List Value), Z0F w227 r256 b100 (Value.int .i64) syV S2 (seen2 ++ [y267])] w269)
               refine hK264 _ _ ?_
               clear hK264 K264
               refine Z4 (Z3 rfl) (d := 142) (v := (.bool true)) rfl (by kernel_rfl) ?_
               refine Zn ?_
               refine Z7 ?_
               refine Zf ?_
               refine Z0y rfl ?_
               refine ZR ?_
               refine Z7 ?_
               refine ZD ?_
               refine Zf ?_
               refine Zr ?_
               refine Z4 (Z3 rfl) (d := 143) (v := (.tuple #[(.int .i64 (y267.1)), (.agg ⟨([(.int .i64 (y267.2.p)), (.int .u64 (y267.2.t))] : List Value)⟩)])) rfl (H271.entryR 3 rfl 0 rfl (fun h => h) rfl) ?_
               refine Z4 (Z3 rfl) (d := 144) (v := (.agg ⟨([(.int .i64 (y267.2.p)), (.int .u64 (y267.2.t))] : List Value)⟩)) rfl (by kernel_rfl) ?_
               refine ZG (Z3 rfl) (fun K272 hK272 => ?_)
               refine Z0o (zs := ([(.int .i64 (0)), (.int .u64 (0))] : List Value)) (z := (.agg ⟨([(.int .i64 (0)), (.int .u64 (0))] : List Value)⟩)) rfl H271 (by kernel_rfl) (by kernel_rfl) ?_
               intro b273 w274 (H275 : Sat w227 [Za w227 (fun _ => False), Z0F w227 r231 b100 (Value.int .i64) syV S2 (seen ++ [y242]), Z5 b248 94 ([(.int .i64 (y242.2.p)), (.int .u64 (y242.2.t))] : List Value), Z0F w227 r256 b100 (Value.int .i64) syV S2 (seen2 ++ [y267]), Z5 b273 94 ([(.int .i64 (0)), (.int .u64 (0))] : List Value)] w274)
               refine hK272 _ _ ?_
               clear hK272 K272
               refine ZG (Z3 rfl) (fun K276 hK276 => ?_)
               refine ZP (vs := ([(.int .i64 (y267.2.p)), (.int .u64 (y267.2.t))] : List Value)) (cs' := ([(.int .i64 (y267.2.p)), (.int .u64 (y267.2.t))] : List Value)) rfl H275 4 rfl rfl rfl rfl (by kernel_rfl) (Nat.le_of_ble_eq_true (by kernel_rfl)) (Nat.le_of_ble_eq_true (by kernel_rfl)) (by kernel_rfl) (by kernel_rfl) ?_
               intro w277 (H278 : Sat w227 [Za w227 (fun _ => False), Z0F w227 r231 b100 (Value.int .i64) syV S2 (seen ++ [y242]), Z5 b248 94 ([(.int .i64 (y242.2.p)), (.int .u64 (y242.2.t))] : List Value), Z0F w227 r256 b100 (Value.int .i64) syV S2 (seen2 ++ [y267]), Z5 b273 94 ([(.int .i64 (y267.2.p)), (.int .u64 (y267.2.t))] : List Value)] w277)
               refine hK276 _ _ ?_
               clear hK276 K276
               refine Zn ?_
               refine Z7 ?_
               refine Zf ?_
               refine Zr ?_
               refine Z4 (Z3 rfl) (d := 145) (v := (.agg ⟨([(.int .i64 (y267.2.p)), (.int .u64 (y267.2.t))] : List Value)⟩)) rfl (ZK (vs := ([(.int .i64 (y267.2.p)), (.int .u64 (y267.2.t))] : List Value)) rfl (by kernel_rfl) (by kernel_rfl) (by exact Nat.le_of_ble_eq_true (by kernel_rfl)) (H278.at 4 rfl) (by kernel_rfl)) ?_
               refine Z4 (Z3 rfl) (d := 146) (v := (.agg ⟨([(.int .i64 (y242.2.p)), (.int .u64 (y242.2.t))] : List Value)⟩)) rfl (ZK (vs := ([(.int .i64 (y242.2.p)), (.int .u64 (y242.2.t))] : List Value)) rfl (by kernel_rfl) (by kernel_rfl) (by exact Nat.le_of_ble_eq_true (by kernel_rfl)) (H278.at 2 rfl) (by kernel_rfl)) ?_
               refine Z4 (Z3 rfl) (d := 147) (v := (.bool (decide (y267.2 = y242.2)))) rfl (syF.e_eq y267.2 y242.2 rfl rfl) ?_
               refine Zn ?_
               refine Z7 ?_
               refine (Z02 (decide (y267.2 = y242.2))).elim (fun b280 => ?_) (fun b280 => ?_)
               ·have g281 := of_decide_eq_true b280
                refine Zq 147 (.bool true) (congrArg Value.bool b280) ?_
                have g282 := of_decide_eq_true b280
                refine Z0y rfl ?_
                refine Zr ?_
                refine Z4 (Z3 rfl) (d := 148) (v := (.int .i64 ((Z0U seen2 y242.2 : Int)))) rfl (by kernel_rfl) ?_
                refine Z4 (Z3 rfl) (d := 149) (v := (.int .i64 ((Z0U seen2 y242.2 : Int) + 1))) rfl (Z08 (z := (Z0U seen2 y242.2 : Int) + 1) (by kernel_rfl) (IntWalk.i64_in _ (by have h1 := hperm2.length_eq; have h2 := Z6k (l := seen2) (x := y242.2); simp only [List.length_append] at h1; omega))) ?_
                refine Z4 (Z3 rfl) (d := 30) (v := (.int .i64 ((Z0U seen2 y242.2 : Int) + 1))) rfl (by kernel_rfl) ?_
                refine Zn ?_
                refine ZE ?_
                have H283 : Sat w227 [Za w227 (fun _ => False), Z0F w227 r231 b100 (Value.int .i64) syV S2 (seen ++ [y242]), Z5 b248 94 ([(.int .i64 (y242.2.p)), (.int .u64 (y242.2.t))] : List Value), Z0F w227 r256 b100 (Value.int .i64) syV S2 (seen2 ++ [y267])] w277 := H278.pick [0, 1, 2, 3] (by decide)
                refine ZF ?_ _ ⟨(seen2 ++ [y267]), t268, (show ((.int .i64 ((Z0U seen2 y242.2 : Int) + 1)) : Value) = _ by rw [Z21, Z2x]; have q_ := b280; simp at q_; simp [q_]), p270, H283, rfl⟩ (by have h1 := hperm2.length_eq; have h2 := p270.length_eq; simp only [List.length_append, List.length_cons, List.length_nil] at h1 h2; omega)
                exact (Z1 rfl (Z1 rfl (Z1 rfl (Z1 rfl (Z1 rfl (Z1 rfl (Z1 rfl (Z1 rfl (Z1 rfl (Z1 rfl (Z1 rfl (Z1 rfl (Z1 rfl (Z0s))))))))))))))
               ·have g284 := of_decide_eq_false b280
                refine Zq 147 (.bool false) (congrArg Value.bool b280) ?_
                have g285 := of_decide_eq_false b280
                refine Z00 rfl ?_
                refine ZR ?_
                refine ZE ?_
                have H286 : Sat w227 [Za w227 (fun _ => False), Z0F w227 r231 b100 (Value.int .i64) syV S2 (seen ++ [y242]), Z5 b248 94 ([(.int .i64 (y242.2.p)), (.int .u64 (y242.2.t))] : List Value), Z0F w227 r256 b100 (Value.int .i64) syV S2 (seen2 ++ [y267])] w277 := H278.pick [0, 1, 2, 3] (by decide)
                refine ZF ?_ _ ⟨(seen2 ++ [y267]), t268, (show ((.int .i64 ((Z0U seen2 y242.2 : Int))) : Value) = _ by rw [Z21, Z2x]; have q_ := b280; simp at q_; simp [q_]), p270, H286, rfl⟩ (by have h1 := hperm2.length_eq; have h2 := p270.length_eq; simp only [List.length_append, List.length_cons, List.length_nil] at h1 h2; omega)
                exact (Z1 rfl (Z1 rfl (Z1 rfl (Z1 rfl (Z1 rfl (Z1 rfl (Z1 rfl (Z1 rfl (Z1 rfl (Z1 rfl (Z0s)))))))))))
            ·rintro f287 w288 ⟨mo, v290, hmo, H289⟩
             refine Zq 27 _ v290 ?_
             refine Zf ?_
             have hSil2b : Sil F qi.x.h S2 R2 q2.op := by rw [hS2e]; exact hSil2
             have hms : decide (mo ≥ F + 1) = q2.op := hSil2b.most (by omega) hmo
             have hDp : (D.length : Int) > 0 → qi.op = false ∧ q2.op = true ∧ (D.length : Int) = 3 * F + 1 ∧ q2.pl = ix ∧ ∀ j, j < D.length → Z4J (1000 + 0) (⟨10, 0, 0, co0, co0, none, 0, [], ix, qi.pa, qi.pc, qi.P, qi.no⟩ : OmR) B j (D.getD j om0) := fun h_ => hD.resolve_left (fun q_ => by rw [q_.1] at h_; simp at h_)
             have hDn0 : ¬ (D.length : Int) > 0 → q2.op = qi.op := fun h_ => hD.elim (fun q_ => q_.2) (fun q_ => absurd (show (D.length : Int) > 0 by have := q_.2.2.1; omega) h_)
             refine Zr ?_
             refine Z4 (Z3 rfl) (d := 153) (v := (.int .i64 (mo))) rfl (by kernel_rfl) ?_
             refine Z4 (Z3 rfl) (d := 154) (v := (.pointer (some ⟨x11, 0, none⟩))) rfl (by kernel_rfl) ?_
             refine Z4 (Z3 rfl) (d := 155) (v := (.int .i64 (F))) rfl (Zi rfl (by kernel_rfl) (H289.cell 1 rfl rfl)) ?_
             refine Z4 (Z3 rfl) (d := 156) (v := (.int .i64 (F + 1))) rfl (Z08 (z := F + 1) (by kernel_rfl) (IntWalk.i64_in _ (by omega))) ?_
             refine Z4 (Z3 rfl) (d := 157) (v := (.bool (decide (mo ≥ (F + 1))))) rfl (by kernel_rfl) ?_
             refine Z4 (Z3 rfl) (d := 33) (v := (.bool (decide (mo ≥ (F + 1))))) rfl (by kernel_rfl) ?_
             refine Zn ?_
             refine Z7 ?_
             refine Zf ?_
             refine Zf ?_
             refine Zr ?_
             refine Z4 (Z3 rfl) (d := 158) (v := (.bool (decide (mo ≥ (F + 1))))) rfl (by kernel_rfl) ?_
             refine Z4 (Z3 rfl) (d := 159) (v := (.bool (qi.op))) rfl (by kernel_rfl) ?_
             refine Z4 (Z3 rfl) (d := 160) (v := (.bool (qi.op))) rfl (by kernel_rfl) ?_
             refine (Z02 (qi.op)).elim (fun b291 => ?_) (fun b291 => ?_)
             ·refine ZZ 160 (.bool true) (congrArg Value.bool b291) ?_
              refine ZB (ZN 2 160 false rfl (by kernel_rfl) rfl (by kernel_rfl)) rfl ?_
              refine ZB (ZN 2 160 false rfl (by kernel_rfl) rfl (by kernel_rfl)) rfl ?_
              refine ZB (ZN 2 160 false rfl (by kernel_rfl) rfl (by kernel_rfl)) rfl ?_
              refine Z4 (Z3 rfl) (d := 164) (v := (.bool true)) rfl (by kernel_rfl) ?_
              refine Z4 (Z3 rfl) (d := 165) (v := (.bool (!((decide (mo ≥ (F + 1))) == true)))) rfl (by kernel_rfl) ?_
              refine Z4 (Z3 rfl) (d := 166) (v := (.bool (!((decide (mo ≥ (F + 1))) == true)))) rfl (by kernel_rfl) ?_
              have b292 : (!((decide (mo ≥ (F + 1))) == true)) = false := by rw [hms]; have z_ : q2.op = true := (if h_ : (D.length : Int) > 0 then (hDp h_).2.1 else (hDn0 h_).trans b291); rw [z_]; rfl
              refine ZZ 166 (.bool false) (congrArg Value.bool b292) ?_
              have g293 := ZO b292
              refine Z4 (Zo 8 166 false rfl (by kernel_rfl) rfl (by kernel_rfl)) (d := 167) (v := (.bool (qi.op))) rfl (by kernel_rfl) ?_
              refine Z4 (Zo 8 166 false rfl (by kernel_rfl) rfl (by kernel_rfl)) (d := 168) (v := (.bool (qi.op))) rfl (by kernel_rfl) ?_
              refine ZZ 168 (.bool true) (congrArg Value.bool b291) ?_
              refine Z4 (Zo 10 168 true rfl (by kernel_rfl) rfl (by kernel_rfl)) (d := 169) (v := (.slice da D.length dc)) rfl (by kernel_rfl) ?_
              refine Z4 (Zo 10 168 true rfl (by kernel_rfl) rfl (by kernel_rfl)) (d := 170) (v := (.int .i64 ((D.length : Int)))) rfl (by kernel_rfl) ?_
              refine Z4 (Zo 10 168 true rfl (by kernel_rfl) rfl (by kernel_rfl)) (d := 171) (v := (.bool (decide ((D.length : Int) > 0)))) rfl (by kernel_rfl) ?_
              refine Z4 (Zo 8 166 false rfl (by kernel_rfl) rfl (by kernel_rfl)) (d := 172) (v := (.bool (decide ((D.length : Int) > 0)))) rfl (by kernel_rfl) ?_
              refine Z4 (Z3 rfl) (d := 173) (v := (.bool (decide ((D.length : Int) > 0)))) rfl (by kernel_rfl) ?_
              refine Zn ?_
              refine Z7 ?_
              have b294 : (decide ((D.length : Int) > 0)) = false := by exact decide_eq_false (fun h_ => by rw [(hDp h_).1] at b291; cases b291)
              refine Zq 173 (.bool false) (congrArg Value.bool b294) ?_
              have g295 := of_decide_eq_false b294
              refine Z00 rfl ?_
              refine ZR ?_
              refine Z7 ?_
              refine Z0n [10, 20, 174, 175, 176, 177, 178, 179, 180, 181, 182, 183, 184, 185, 186, 187, 188, 189, 190, 191, 192, 193, 194, 195, 196, 197, 198, 199, 200, 201, 202, 203, 204, 205, 206, 207] (fun G_ W_ => G_ 20 = (.bool (q2.op)) ∧ Sat w [Za w (fun _ => False), Z5 x11 27 ([(.int .i64 (F)), (.int .i64 (1))] : List Value), Z5 c34 112 ([(.int .i64 (F)), (.int .i64 (1)), (.int .i64 (0)), (.pointer (some ⟨b25, 0, none⟩)), (.slice (some ⟨g, 0, none⟩) 1 lc)] : List Value), Ze 119 79 (.slice (some ⟨g, 0, none⟩) 1 lc) 1 (([q2]).flatMap Zg), Zh qi.mr (Value.int .i64) rcV R2, Ze 5 1 (.slice qi.pa qi.P.length qi.pc) qi.P.length (qi.P.flatMap Zl), Zy (.slice oa P.length oc) P, Z5 x18 40 (hc qi.x.h), Zh b100 (Value.int .i64) syV S2, Z5 x23 94 ([(.int .i64 (ix)), (.int .u64 (tm))] : List Value), Ze 82 295 (.slice da D.length dc) D.length (D.flatMap Z01), Z0G B] W_) ?_ ?_
              ·refine Zf ?_
               refine Zr ?_
               refine Z4 (Z3 rfl) (d := 174) (v := (.slice da D.length dc)) rfl (by kernel_rfl) ?_
               refine Z4 (Z3 rfl) (d := 175) (v := (.int .i64 ((D.length : Int)))) rfl (by kernel_rfl) ?_
               refine Z4 (Z3 rfl) (d := 176) (v := (.bool (decide ((D.length : Int) > 0)))) rfl (by kernel_rfl) ?_
               refine Zn ?_
               refine Z7 ?_
               refine Zq 176 (.bool false) (congrArg Value.bool b294) ?_
               have g297 := of_decide_eq_false b294
               refine Z00 rfl ?_
               refine ZR ?_
               have H298 : Sat w [Za w (fun _ => False), Z5 x11 27 ([(.int .i64 (F)), (.int .i64 (1))] : List Value), Z5 c34 112 ([(.int .i64 (F)), (.int .i64 (1)), (.int .i64 (0)), (.pointer (some ⟨b25, 0, none⟩)), (.slice (some ⟨g, 0, none⟩) 1 lc)] : List Value), Ze 119 79 (.slice (some ⟨g, 0, none⟩) 1 lc) 1 (([q2]).flatMap Zg), Zh qi.mr (Value.int .i64) rcV R2, Ze 5 1 (.slice qi.pa qi.P.length qi.pc) qi.P.length (qi.P.flatMap Zl), Zy (.slice oa P.length oc) P, Z5 x18 40 (hc qi.x.h), Zh b100 (Value.int .i64) syV S2, Z5 x23 94 ([(.int .i64 (ix)), (.int .u64 (tm))] : List Value), Ze 82 295 (.slice da D.length dc) D.length (D.flatMap Z01), Z0G B] w288 := H289.pick [0, 1, 2, 3, 4, 5, 6, 7, 8, 9, 10, 11] (by decide)
               refine ZT ?_ ⟨(congrArg Value.bool (show (qi.op) = q2.op by rw [hDn0 (by omega)])), H298⟩
               exact (Z1 rfl (Z1 rfl (Z1 rfl (Z1 rfl (ZQ)))))
              ·rintro f299 w300 ⟨v302, H301⟩
               refine Zq 20 _ v302 ?_
               refine Zf ?_
               refine Zr ?_
               refine Z4 (Z3 rfl) (d := 209) (v := (.pointer (some ⟨c34, 0, none⟩))) rfl (by kernel_rfl) ?_
               refine ZG (Z3 rfl) (fun K303 hK303 => ?_)
               refine ZI (d := 210) rfl (by kernel_rfl) (Z2w w300 c34 b25 g lc F 1 0 [q2] (H301.at 2 rfl) (H301.at 3 rfl) (Nat.le_of_ble_eq_true rfl) 0 q2 rfl 1 rfl) ?_
               rintro _ w304 ⟨rfl, u306⟩
               have H305 := H301.keepU u306
               refine ⟨_, rfl, ?_⟩
               refine hK303 _ _ ?_
               clear hK303 K303
               refine Z4 (Z3 rfl) (d := 208) (v := (.tuple #[(.int .i64 (q2.pl)), (.bool (q2.op))])) rfl (by kernel_rfl) ?_
               refine Z4 (Z3 rfl) (d := 211) (v := (.int .i64 (q2.pl))) rfl (by kernel_rfl) ?_
               refine Z4 (Z3 rfl) (d := 212) (v := (.bool (q2.op))) rfl (by kernel_rfl) ?_
               refine Z4 (Z3 rfl) (d := 34) (v := (.int .i64 (q2.pl))) rfl (by kernel_rfl) ?_
               refine Z4 (Z3 rfl) (d := 35) (v := (.bool (q2.op))) rfl (by kernel_rfl) ?_
               refine Zn ?_
               refine Z7 ?_
               refine Zf ?_
               refine Zr ?_
               refine Z4 (Z3 rfl) (d := 213) (v := (.bool (q2.op))) rfl (by kernel_rfl) ?_
               refine Z4 (Z3 rfl) (d := 214) (v := (.bool (q2.op))) rfl (by kernel_rfl) ?_
               refine Z4 (Z3 rfl) (d := 215) (v := (.bool (!((q2.op) == (q2.op))))) rfl (by kernel_rfl) ?_
               refine Z4 (Z3 rfl) (d := 216) (v := (.bool (!((q2.op) == (q2.op))))) rfl (by kernel_rfl) ?_
               have b307 : (!((q2.op) == (q2.op))) = false := by rw [beq_self_eq_true]; rfl
               refine ZZ 216 (.bool false) (congrArg Value.bool b307) ?_
               have g308 := ZO b307
               refine Z4 (Zo 3 216 false rfl (by kernel_rfl) rfl (by kernel_rfl)) (d := 217) (v := (.pointer (some ⟨c34, 0, none⟩))) rfl (by kernel_rfl) ?_
               refine ZG (Zo 3 216 false rfl (by kernel_rfl) rfl (by kernel_rfl)) (fun K309 hK309 => ?_)
               refine ZI (d := 218) rfl (by kernel_rfl) (Z2b w304 c34 b25 g lc F 1 0 [q2] (H305.at 2 rfl) (H305.at 3 rfl) (Nat.le_of_ble_eq_true rfl) 0 q2 rfl 1 rfl) ?_
               rintro _ w310 ⟨rfl, u312⟩
               have H311 := H305.keepU u312
               refine ⟨_, rfl, ?_⟩
               refine hK309 _ _ ?_
               clear hK309 K309
               refine Z4 (Zo 3 216 false rfl (by kernel_rfl) rfl (by kernel_rfl)) (d := 219) (v := (.bool (q2.op))) rfl (by kernel_rfl) ?_
               refine Z4 (Zo 3 216 false rfl (by kernel_rfl) rfl (by kernel_rfl)) (d := 220) (v := (.bool (!((q2.op) == (q2.op))))) rfl (by kernel_rfl) ?_
               refine Z4 (Z3 rfl) (d := 221) (v := (.bool (!((q2.op) == (q2.op))))) rfl (by kernel_rfl) ?_
               refine Z4 (Z3 rfl) (d := 222) (v := (.bool (!((q2.op) == (q2.op))))) rfl (by kernel_rfl) ?_
               refine ZZ 222 (.bool false) (congrArg Value.bool b307) ?_
               have g313 := ZO b307
               refine Z4 (Zo 9 222 false rfl (by kernel_rfl) rfl (by kernel_rfl)) (d := 223) (v := (.bool (q2.op))) rfl (by kernel_rfl) ?_
               refine Z4 (Zo 9 222 false rfl (by kernel_rfl) rfl (by kernel_rfl)) (d := 224) (v := (.bool (q2.op))) rfl (by kernel_rfl) ?_
               refine (Z02 (q2.op)).elim (fun b314 => ?_) (fun b314 => ?_)
               ·refine ZZ 224 (.bool true) (congrArg Value.bool b314) ?_
                refine Z4 (Zo 11 224 true rfl (by kernel_rfl) rfl (by kernel_rfl)) (d := 225) (v := (.slice da D.length dc)) rfl (by kernel_rfl) ?_
                refine Z4 (Zo 11 224 true rfl (by kernel_rfl) rfl (by kernel_rfl)) (d := 226) (v := (.int .i64 ((D.length : Int)))) rfl (by kernel_rfl) ?_
                refine Z4 (Zo 11 224 true rfl (by kernel_rfl) rfl (by kernel_rfl)) (d := 227) (v := (.bool (decide ((D.length : Int) > 0)))) rfl (by kernel_rfl) ?_
                refine Z4 (Zo 9 222 false rfl (by kernel_rfl) rfl (by kernel_rfl)) (d := 228) (v := (.bool (decide ((D.length : Int) > 0)))) rfl (by kernel_rfl) ?_
                refine Z4 (Zo 9 222 false rfl (by kernel_rfl) rfl (by kernel_rfl)) (d := 229) (v := (.bool (decide ((D.length : Int) > 0)))) rfl (by kernel_rfl) ?_
                refine ZZ 229 (.bool false) (congrArg Value.bool b294) ?_
                have g315 := of_decide_eq_false b294
                refine ZB (ZN 16 229 true rfl (by kernel_rfl) rfl (by kernel_rfl)) rfl ?_
                refine ZB (ZN 16 229 true rfl (by kernel_rfl) rfl (by kernel_rfl)) rfl ?_
                refine ZB (ZN 16 229 true rfl (by kernel_rfl) rfl (by kernel_rfl)) rfl ?_
                refine ZB (ZN 16 229 true rfl (by kernel_rfl) rfl (by kernel_rfl)) rfl ?_
                refine Z4 (Zo 9 222 false rfl (by kernel_rfl) rfl (by kernel_rfl)) (d := 234) (v := (.bool false)) rfl (by kernel_rfl) ?_
                refine Z4 (Z3 rfl) (d := 235) (v := (.bool false)) rfl (by kernel_rfl) ?_
                refine Zn ?_
                refine Z7 ?_
                refine Z00 rfl ?_
                refine ZR ?_
                refine ZE ?_
                refine Z7 ?_
                refine Zr ?_
                refine Z4 (Z3 rfl) (d := 87) (v := (.int .i64 ((i : Int)))) rfl (by kernel_rfl) ?_
                refine Z4 (Z3 rfl) (d := 88) (v := (.int .i64 ((i : Int) + 1))) rfl (Z08 (z := (i : Int) + 1) (by kernel_rfl) (IntWalk.i64_in _ (by omega))) ?_
                refine Z4 (Z3 rfl) (d := 21) (v := (.int .i64 ((i : Int) + 1))) rfl (by kernel_rfl) ?_
                refine Zn ?_
                have H316 : Sat w [Za w (fun _ => False), Z5 x11 27 ([(.int .i64 (F)), (.int .i64 (1))] : List Value), Z5 c34 112 ([(.int .i64 (F)), (.int .i64 (1)), (.int .i64 (0)), (.pointer (some ⟨b25, 0, none⟩)), (.slice (some ⟨g, 0, none⟩) 1 lc)] : List Value), Ze 119 79 (.slice (some ⟨g, 0, none⟩) 1 lc) 1 (([q2]).flatMap Zg), Zh qi.mr (Value.int .i64) rcV R2, Ze 5 1 (.slice qi.pa qi.P.length qi.pc) qi.P.length (qi.P.flatMap Zl), Zy (.slice oa P.length oc) P, Z5 x18 40 (hc qi.x.h), Zh b100 (Value.int .i64) syV S2] w310 := H311.pick [0, 1, 2, 3, 4, 5, 6, 7, 8] (by decide)
                have H317 : Sat w [Za w (fun _ => False), Z5 x11 27 ([(.int .i64 (F)), (.int .i64 (1))] : List Value), Z5 c34 112 ([(.int .i64 (F)), (.int .i64 (1)), (.int .i64 (0)), (.pointer (some ⟨b25, 0, none⟩)), (.slice (some ⟨g, 0, none⟩) 1 lc)] : List Value), Ze 119 79 (.slice (some ⟨g, 0, none⟩) 1 lc) 1 (([q2]).flatMap Zg), Zh q2.mr (Value.int .i64) rcV R2, Ze 5 1 (.slice q2.pa q2.P.length q2.pc) q2.P.length (q2.P.flatMap Zl), Zy (.slice oa P.length oc) P, Z5 x18 40 (hc q2.x.h), Zh b100 (Value.int .i64) syV S2] w310 := by rw [hq2.1, hq2.2.1, hq2.2.2.1, hq2.2.2.2.1, hq2.2.2.2.2]; exact H316
                refine ZF ?_ _ ⟨(i + 1), S2, R2, q2, (show ((.int .i64 ((i : Int) + 1)) : Value) = _ by first | rfl | go_num), (show ((.bool (q2.op)) : Value) = _ by first | rfl | go_num), (by omega), (by rw [hS2e]; exact Nat.le_trans Z0E (by omega)), (by rw [hq2.1]; exact hSil2b), (by rw [hq2.2.1]; exact hqiP), (by rw [hR2e]; exact Nat.le_trans Z0E (by omega)), H317, rfl⟩ (by omega)
                exact (Z1 rfl (Z1 rfl (Z1 rfl (Z1 rfl (Z1 rfl (Z1 rfl (Z1 rfl (Z1 rfl (Z1 rfl (Z1 rfl (Z1 rfl (Z1 rfl (Z1 rfl (Z1 rfl (Z1 rfl (Z1 rfl (Z1 rfl (Z1 rfl (Z1 rfl (Z1 rfl (Z1 rfl (Z1 rfl (Z1 rfl (Z1 rfl (Z1 rfl (Z1 rfl (Z1 rfl (Z1 rfl (Z1 rfl (Z1 rfl (Z1 rfl (Z1 rfl (Z1 rfl (Z1 rfl (Z1 rfl (Z1 rfl (Z1 rfl (Z1 rfl (ZA rfl (Z1 rfl (Z1 rfl (Z1 rfl (Z1 rfl (Z1 rfl (Z1 rfl (Z1 rfl (Z1 rfl (Z1 rfl (Z1 rfl (Z1 rfl (Z1 rfl (Z1 rfl (Z1 rfl (Z1 rfl (Z1 rfl (Z1 rfl (Z1 rfl (Z1 rfl (Z1 rfl (Z1 rfl (Z1 rfl (Z1 rfl (Z1 rfl (Z1 rfl (Z1 rfl (Z1 rfl (ZA rfl (Z1 rfl (ZA rfl (Z1 rfl (ZA rfl (ZA rfl (Z1 rfl (ZA rfl (Z1 rfl (ZA rfl (Z1 rfl (Z1 rfl (ZA rfl (Z1 rfl (Z1 rfl (Z0s))))))))))))))))))))))))))))))))))))))))))))))))))))))))))))))))))))))))))))))))))
               ·refine ZZ 224 (.bool false) (congrArg Value.bool b314) ?_
                refine ZB (ZN 11 224 true rfl (by kernel_rfl) rfl (by kernel_rfl)) rfl ?_
                refine ZB (ZN 11 224 true rfl (by kernel_rfl) rfl (by kernel_rfl)) rfl ?_
                refine ZB (ZN 11 224 true rfl (by kernel_rfl) rfl (by kernel_rfl)) rfl ?_
                refine Z4 (Zo 9 222 false rfl (by kernel_rfl) rfl (by kernel_rfl)) (d := 228) (v := (.bool false)) rfl (by kernel_rfl) ?_
                refine Z4 (Zo 9 222 false rfl (by kernel_rfl) rfl (by kernel_rfl)) (d := 229) (v := (.bool false)) rfl (by kernel_rfl) ?_
                refine ZB (ZN 16 229 true rfl (by kernel_rfl) rfl (by kernel_rfl)) rfl ?_
                refine ZB (ZN 16 229 true rfl (by kernel_rfl) rfl (by kernel_rfl)) rfl ?_
                refine ZB (ZN 16 229 true rfl (by kernel_rfl) rfl (by kernel_rfl)) rfl ?_
                refine ZB (ZN 16 229 true rfl (by kernel_rfl) rfl (by kernel_rfl)) rfl ?_
                refine Z4 (Zo 9 222 false rfl (by kernel_rfl) rfl (by kernel_rfl)) (d := 234) (v := (.bool false)) rfl (by kernel_rfl) ?_
                refine Z4 (Z3 rfl) (d := 235) (v := (.bool false)) rfl (by kernel_rfl) ?_
                refine Zn ?_
                refine Z7 ?_
                refine Z00 rfl ?_
                refine ZR ?_
                refine ZE ?_
                refine Z7 ?_
                refine Zr ?_
                refine Z4 (Z3 rfl) (d := 87) (v := (.int .i64 ((i : Int)))) rfl (by kernel_rfl) ?_
                refine Z4 (Z3 rfl) (d := 88) (v := (.int .i64 ((i : Int) + 1))) rfl (Z08 (z := (i : Int) + 1) (by kernel_rfl) (IntWalk.i64_in _ (by omega))) ?_
                refine Z4 (Z3 rfl) (d := 21) (v := (.int .i64 ((i : Int) + 1))) rfl (by kernel_rfl) ?_
                refine Zn ?_
                have H318 : Sat w [Za w (fun _ => False), Z5 x11 27 ([(.int .i64 (F)), (.int .i64 (1))] : List Value), Z5 c34 112 ([(.int .i64 (F)), (.int .i64 (1)), (.int .i64 (0)), (.pointer (some ⟨b25, 0, none⟩)), (.slice (some ⟨g, 0, none⟩) 1 lc)] : List Value), Ze 119 79 (.slice (some ⟨g, 0, none⟩) 1 lc) 1 (([q2]).flatMap Zg), Zh qi.mr (Value.int .i64) rcV R2, Ze 5 1 (.slice qi.pa qi.P.length qi.pc) qi.P.length (qi.P.flatMap Zl), Zy (.slice oa P.length oc) P, Z5 x18 40 (hc qi.x.h), Zh b100 (Value.int .i64) syV S2] w310 := H311.pick [0, 1, 2, 3, 4, 5, 6, 7, 8] (by decide)
                have H319 : Sat w [Za w (fun _ => False), Z5 x11 27 ([(.int .i64 (F)), (.int .i64 (1))] : List Value), Z5 c34 112 ([(.int .i64 (F)), (.int .i64 (1)), (.int .i64 (0)), (.pointer (some ⟨b25, 0, none⟩)), (.slice (some ⟨g, 0, none⟩) 1 lc)] : List Value), Ze 119 79 (.slice (some ⟨g, 0, none⟩) 1 lc) 1 (([q2]).flatMap Zg), Zh q2.mr (Value.int .i64) rcV R2, Ze 5 1 (.slice q2.pa q2.P.length q2.pc) q2.P.length (q2.P.flatMap Zl), Zy (.slice oa P.length oc) P, Z5 x18 40 (hc q2.x.h), Zh b100 (Value.int .i64) syV S2] w310 := by rw [hq2.1, hq2.2.1, hq2.2.2.1, hq2.2.2.2.1, hq2.2.2.2.2]; exact H318
                refine ZF ?_ _ ⟨(i + 1), S2, R2, q2, (show ((.int .i64 ((i : Int) + 1)) : Value) = _ by first | rfl | go_num), (show ((.bool (q2.op)) : Value) = _ by first | rfl | go_num), (by omega), (by rw [hS2e]; exact Nat.le_trans Z0E (by omega)), (by rw [hq2.1]; exact hSil2b), (by rw [hq2.2.1]; exact hqiP), (by rw [hR2e]; exact Nat.le_trans Z0E (by omega)), H319, rfl⟩ (by omega)
                exact (Z1 rfl (Z1 rfl (Z1 rfl (Z1 rfl (Z1 rfl (Z1 rfl (Z1 rfl (Z1 rfl (Z1 rfl (Z1 rfl (Z1 rfl (Z1 rfl (Z1 rfl (Z1 rfl (Z1 rfl (Z1 rfl (Z1 rfl (Z1 rfl (Z1 rfl (Z1 rfl (Z1 rfl (Z1 rfl (Z1 rfl (Z1 rfl (Z1 rfl (Z1 rfl (Z1 rfl (Z1 rfl (Z1 rfl (Z1 rfl (Z1 rfl (Z1 rfl (Z1 rfl (Z1 rfl (Z1 rfl (Z1 rfl (Z1 rfl (ZA rfl (Z1 rfl (Z1 rfl (Z1 rfl (Z1 rfl (Z1 rfl (Z1 rfl (Z1 rfl (Z1 rfl (Z1 rfl (Z1 rfl (Z1 rfl (Z1 rfl (Z1 rfl (Z1 rfl (Z1 rfl (Z1 rfl (Z1 rfl (Z1 rfl (Z1 rfl (Z1 rfl (Z1 rfl (Z1 rfl (Z1 rfl (Z1 rfl (Z1 rfl (Z1 rfl (Z1 rfl (ZA rfl (Z1 rfl (ZA rfl (Z1 rfl (ZA rfl (ZA rfl (Z1 rfl (ZA rfl (Z1 rfl (ZA rfl (Z1 rfl (Z1 rfl (ZA rfl (Z1 rfl (Z1 rfl (Z0s)))))))))))))))))))))))))))))))))))))))))))))))))))))))))))))))))))))))))))))))))
             ·refine ZZ 160 (.bool false) (congrArg Value.bool b291) ?_
              refine Z4 (Zo 2 160 false rfl (by kernel_rfl) rfl (by kernel_rfl)) (d := 161) (v := (.slice da D.length dc)) rfl (by kernel_rfl) ?_
              refine Z4 (Zo 2 160 false rfl (by kernel_rfl) rfl (by kernel_rfl)) (d := 162) (v := (.int .i64 ((D.length : Int)))) rfl (by kernel_rfl) ?_
              refine Z4 (Zo 2 160 false rfl (by kernel_rfl) rfl (by kernel_rfl)) (d := 163) (v := (.bool (decide ((D.length : Int) > 0)))) rfl (by kernel_rfl) ?_
              refine Z4 (Z3 rfl) (d := 164) (v := (.bool (decide ((D.length : Int) > 0)))) rfl (by kernel_rfl) ?_
              refine Z4 (Z3 rfl) (d := 165) (v := (.bool (!((decide (mo ≥ (F + 1))) == (decide ((D.length : Int) > 0)))))) rfl (by kernel_rfl) ?_
              refine Z4 (Z3 rfl) (d := 166) (v := (.bool (!((decide (mo ≥ (F + 1))) == (decide ((D.length : Int) > 0)))))) rfl (by kernel_rfl) ?_
              have b320 : (!((decide (mo ≥ (F + 1))) == (decide ((D.length : Int) > 0)))) = false := by rw [hms]; exact (if h_ : (D.length : Int) > 0 then (by rw [(hDp h_).2.1, decide_eq_true h_]; rfl) else (by rw [hDn0 h_, b291, decide_eq_false h_]; rfl))
              refine ZZ 166 (.bool false) (congrArg Value.bool b320) ?_
              have g321 := ZO b320
              refine Z4 (Zo 8 166 false rfl (by kernel_rfl) rfl (by kernel_rfl)) (d := 167) (v := (.bool (qi.op))) rfl (by kernel_rfl) ?_
              refine Z4 (Zo 8 166 false rfl (by kernel_rfl) rfl (by kernel_rfl)) (d := 168) (v := (.bool (qi.op))) rfl (by kernel_rfl) ?_
              refine ZZ 168 (.bool false) (congrArg Value.bool b291) ?_
              refine ZB (ZN 10 168 true rfl (by kernel_rfl) rfl (by kernel_rfl)) rfl ?_
              refine ZB (ZN 10 168 true rfl (by kernel_rfl) rfl (by kernel_rfl)) rfl ?_
              refine ZB (ZN 10 168 true rfl (by kernel_rfl) rfl (by kernel_rfl)) rfl ?_
              refine Z4 (Zo 8 166 false rfl (by kernel_rfl) rfl (by kernel_rfl)) (d := 172) (v := (.bool false)) rfl (by kernel_rfl) ?_
              refine Z4 (Z3 rfl) (d := 173) (v := (.bool false)) rfl (by kernel_rfl) ?_
              refine Zn ?_
              refine Z7 ?_
              refine Z00 rfl ?_
              refine ZR ?_
              refine Z7 ?_
              refine Z0n [10, 20, 174, 175, 176, 177, 178, 179, 180, 181, 182, 183, 184, 185, 186, 187, 188, 189, 190, 191, 192, 193, 194, 195, 196, 197, 198, 199, 200, 201, 202, 203, 204, 205, 206, 207] (fun G_ W_ => G_ 20 = (.bool (q2.op)) ∧ Sat w [Za w (fun _ => False), Z5 x11 27 ([(.int .i64 (F)), (.int .i64 (1))] : List Value), Z5 c34 112 ([(.int .i64 (F)), (.int .i64 (1)), (.int .i64 (0)), (.pointer (some ⟨b25, 0, none⟩)), (.slice (some ⟨g, 0, none⟩) 1 lc)] : List Value), Ze 119 79 (.slice (some ⟨g, 0, none⟩) 1 lc) 1 (([q2]).flatMap Zg), Zh qi.mr (Value.int .i64) rcV R2, Ze 5 1 (.slice qi.pa qi.P.length qi.pc) qi.P.length (qi.P.flatMap Zl), Zy (.slice oa P.length oc) P, Z5 x18 40 (hc qi.x.h), Zh b100 (Value.int .i64) syV S2, Z5 x23 94 ([(.int .i64 (ix)), (.int .u64 (tm))] : List Value), Ze 82 295 (.slice da D.length dc) D.length (D.flatMap Z01), Z0G B] W_) ?_ ?_
              ·refine Zf ?_
               refine Zr ?_
               refine Z4 (Z3 rfl) (d := 174) (v := (.slice da D.length dc)) rfl (by kernel_rfl) ?_
               refine Z4 (Z3 rfl) (d := 175) (v := (.int .i64 ((D.length : Int)))) rfl (by kernel_rfl) ?_
               refine Z4 (Z3 rfl) (d := 176) (v := (.bool (decide ((D.length : Int) > 0)))) rfl (by kernel_rfl) ?_
               refine Zn ?_
               refine Z7 ?_
               refine (Z02 (decide ((D.length : Int) > 0))).elim (fun b323 => ?_) (fun b323 => ?_)
               ·have g324 := of_decide_eq_true b323
                refine Zq 176 (.bool true) (congrArg Value.bool b323) ?_
                have g325 := of_decide_eq_true b323
                refine Z0y rfl ?_
                refine Zf ?_
                refine Zf ?_
                refine Z1v H289 (by kernel_rfl) (by kernel_rfl) ?_
                refine ZL (Z3 rfl) (d := 177) (v := (.slice da D.length dc)) rfl (fun _ H' => (by kernel_rfl)) ?_
                refine ZL (Z3 rfl) (d := 178) (v := (.int .i64 ((D.length : Int)))) rfl (fun _ H' => (by kernel_rfl)) ?_
                refine ZL (Z3 rfl) (d := 179) (v := (.int .i64 (3 * F + 1))) rfl (fun _ H' => (by kernel_rfl)) ?_
                refine ZL (Z3 rfl) (d := 180) (v := (.bool (!(decide ((D.length : Int) = (3 * F + 1)))))) rfl (fun _ H' => (by kernel_rfl)) ?_
                refine ZL (Z3 rfl) (d := 181) (v := (.bool (!(decide ((D.length : Int) = (3 * F + 1)))))) rfl (fun _ H' => (by kernel_rfl)) ?_
                have b326 : (!(decide ((D.length : Int) = (3 * F + 1)))) = false := by rw [decide_eq_true (hDp (by omega)).2.2.1]; rfl
                refine Z3J 181 (.bool false) (congrArg Value.bool b326) ?_
                have g327 := ZO b326
                have g328 := of_decide_eq_true g327
                refine ZL (Zo 4 181 false rfl (by kernel_rfl) rfl (by kernel_rfl)) (d := 182) (v := (.slice da D.length dc)) rfl (fun _ H' => (by kernel_rfl)) ?_
                obtain ⟨g329, c330, e331⟩ := Z1b (H289.at 10 rfl) (by omega)
                obtain ⟨x332, h333⟩ := Z51 (show 0 < D.length by omega)
                refine ZL (Zo 4 181 false rfl (by kernel_rfl) rfl (by kernel_rfl)) (d := 183) (v := (.pointer (some ⟨g329, 0 + ((0 : Int)).toNat * 295, none⟩))) rfl (fun _ H' => (Z11 (E := 82) (by kernel_rfl) (by kernel_rfl) (Nat.le_of_ble_eq_true rfl) rfl e331 rfl (by omega) (by omega))) ?_
                refine ZL (Zo 4 181 false rfl (by kernel_rfl) rfl (by kernel_rfl)) (d := 184) (v := (.pointer (some ⟨g329, 0 + ((0 : Int)).toNat * 295, none⟩))) rfl (fun _ H' => (by kernel_rfl)) ?_
                refine ZL (Zo 4 181 false rfl (by kernel_rfl) rfl (by kernel_rfl)) (d := 185) (v := (.int .i64 (x332.k))) rfl (fun _ H' => (Zi rfl (by kernel_rfl) (Z0f (H'.at 10 rfl) e331 Z1S h333 0 rfl (show 0 + ((0 : Int)).toNat * 295 = 0 * 295 + 0 by omega) (by kernel_rfl)))) ?_
                refine ZL (Zo 4 181 false rfl (by kernel_rfl) rfl (by kernel_rfl)) (d := 186) (v := (.bool (!(decide (x332.k = 10))))) rfl (fun _ H' => (by kernel_rfl)) ?_
                refine ZL (Z3 rfl) (d := 187) (v := (.bool (!(decide (x332.k = 10))))) rfl (fun _ H' => (by kernel_rfl)) ?_
                refine ZL (Z3 rfl) (d := 188) (v := (.bool (!(decide (x332.k = 10))))) rfl (fun _ H' => (by kernel_rfl)) ?_
                have b334 : (!(decide (x332.k = 10))) = false := by rw [show x332.k = 10 from (Z2W (hDp (by omega)).2.2.2.2 h333).k]; rfl
                refine Z3J 188 (.bool false) (congrArg Value.bool b334) ?_
                have g335 := ZO b334
                have g336 := of_decide_eq_true g335
                refine ZL (Zo 11 188 false rfl (by kernel_rfl) rfl (by kernel_rfl)) (d := 189) (v := (.slice da D.length dc)) rfl (fun _ H' => (by kernel_rfl)) ?_
                refine ZL (Zo 11 188 false rfl (by kernel_rfl) rfl (by kernel_rfl)) (d := 190) (v := (.pointer (some ⟨g329, 0 + ((0 : Int)).toNat * 295, none⟩))) rfl (fun _ H' => (Z11 (E := 82) (by kernel_rfl) (by kernel_rfl) (Nat.le_of_ble_eq_true rfl) rfl e331 rfl (by omega) (by omega))) ?_
                refine ZL (Zo 11 188 false rfl (by kernel_rfl) rfl (by kernel_rfl)) (d := 191) (v := (.pointer (some ⟨g329, 0 + ((0 : Int)).toNat * 295 + 248, none⟩))) rfl (fun _ H' => (by kernel_rfl)) ?_
                refine ZL (Zo 11 188 false rfl (by kernel_rfl) rfl (by kernel_rfl)) (d := 192) (v := (.pointer (some ⟨g329, 0 + ((0 : Int)).toNat * 295 + 248 + 1, none⟩))) rfl (fun _ H' => (by kernel_rfl)) ?_
                refine ZL (Zo 11 188 false rfl (by kernel_rfl) rfl (by kernel_rfl)) (d := 193) (v := ((.slice x332.oa x332.P.length x332.oc))) rfl (fun _ H' => (Zi rfl (by kernel_rfl) (Z0f (H'.at 10 rfl) e331 Z1S h333 249 rfl (show 0 + ((0 : Int)).toNat * 295 + 248 + 1 = 0 * 295 + 249 by omega) (by kernel_rfl)))) ?_
                refine ZL (Zo 11 188 false rfl (by kernel_rfl) rfl (by kernel_rfl)) (d := 194) (v := (.slice oa P.length oc)) rfl (fun _ H' => (by kernel_rfl)) ?_
                refine Z2h (Zo 11 188 false rfl (by kernel_rfl) rfl (by kernel_rfl)) (d := 195) (v := (.bool (decide (x332.P = P)))) rfl (fun _ _ => by kernel_rfl) (fun w' H' => (Z5p w' x332.oa x332.oc x332.P (ListAt.row (enc := Zl) (sz := 1) ZS (by decide) (H'.at 11 rfl _ (Z2W (hDp (by omega)).2.2.2.2 h333).ob)) (by rw [(Z2W (hDp (by omega)).2.2.2.2 h333).P]; show qi.P.length ≤ _; rw [hqiP]; omega) oa oc P (ListAt.ofTxt (H'.at 6 rfl))).mono fun _ _ h => ⟨h.1, H'.keepU h.2⟩) ?_
                refine ZL (Zo 11 188 false rfl (by kernel_rfl) rfl (by kernel_rfl)) (d := 196) (v := (.bool (!(decide (x332.P = P))))) rfl (fun _ H' => (by kernel_rfl)) ?_
                refine ZL (Z3 rfl) (d := 197) (v := (.bool (!(decide (x332.P = P))))) rfl (fun _ H' => (by kernel_rfl)) ?_
                refine ZL (Z3 rfl) (d := 198) (v := (.bool (!(decide (x332.P = P))))) rfl (fun _ H' => (by kernel_rfl)) ?_
                have b337 : (!(decide (x332.P = P))) = false := by rw [decide_eq_true (show x332.P = P from (Z2W (hDp (by omega)).2.2.2.2 h333).P.trans hqiP)]; rfl
                refine Z3J 198 (.bool false) (congrArg Value.bool b337) ?_
                have g338 := ZO b337
                refine ZL (Zo 21 198 false rfl (by kernel_rfl) rfl (by kernel_rfl)) (d := 199) (v := (.slice da D.length dc)) rfl (fun _ H' => (by kernel_rfl)) ?_
                refine ZL (Zo 21 198 false rfl (by kernel_rfl) rfl (by kernel_rfl)) (d := 200) (v := (.pointer (some ⟨g329, 0 + ((0 : Int)).toNat * 295, none⟩))) rfl (fun _ H' => (Z11 (E := 82) (by kernel_rfl) (by kernel_rfl) (Nat.le_of_ble_eq_true rfl) rfl e331 rfl (by omega) (by omega))) ?_
                refine ZL (Zo 21 198 false rfl (by kernel_rfl) rfl (by kernel_rfl)) (d := 201) (v := (.pointer (some ⟨g329, 0 + ((0 : Int)).toNat * 295 + 248, none⟩))) rfl (fun _ H' => (by kernel_rfl)) ?_
                refine ZL (Zo 21 198 false rfl (by kernel_rfl) rfl (by kernel_rfl)) (d := 202) (v := (.pointer (some ⟨g329, 0 + ((0 : Int)).toNat * 295 + 248, none⟩))) rfl (fun _ H' => (by kernel_rfl)) ?_
                refine ZL (Zo 21 198 false rfl (by kernel_rfl) rfl (by kernel_rfl)) (d := 203) (v := (.int .i64 (x332.oi))) rfl (fun _ H' => (Zi rfl (by kernel_rfl) (Z0f (H'.at 10 rfl) e331 Z1S h333 248 rfl (show 0 + ((0 : Int)).toNat * 295 + 248 = 0 * 295 + 248 by omega) (by kernel_rfl)))) ?_
                refine ZL (Zo 21 198 false rfl (by kernel_rfl) rfl (by kernel_rfl)) (d := 204) (v := (.pointer (some ⟨x23, 0, none⟩))) rfl (fun _ H' => (by kernel_rfl)) ?_
                refine ZL (Zo 21 198 false rfl (by kernel_rfl) rfl (by kernel_rfl)) (d := 205) (v := (.int .i64 (ix))) rfl (fun _ H' => (Zi rfl (by kernel_rfl) (H'.cell 9 rfl rfl))) ?_
                refine ZL (Zo 21 198 false rfl (by kernel_rfl) rfl (by kernel_rfl)) (d := 206) (v := (.bool (!(decide (x332.oi = ix))))) rfl (fun _ H' => (by kernel_rfl)) ?_
                refine ZL (Z3 rfl) (d := 207) (v := (.bool (!(decide (x332.oi = ix))))) rfl (fun _ H' => (by kernel_rfl)) ?_
                refine Z1O ?_
                intro w339 H340
                refine Z7 ?_
                have b341 : (!(decide (x332.oi = ix))) = false := by rw [decide_eq_true (show x332.oi = ix from (Z2W (hDp (by omega)).2.2.2.2 h333).oi)]; rfl
                refine Zq 207 (.bool false) (congrArg Value.bool b341) ?_
                have g342 := ZO b341
                have g343 := of_decide_eq_true g342
                refine Z00 rfl ?_
                refine ZR ?_
                refine Z7 ?_
                refine Zr ?_
                refine Z4 (Z3 rfl) (d := 20) (v := (.bool true)) rfl (by kernel_rfl) ?_
                refine Zn ?_
                have H344 : Sat w [Za w (fun _ => False), Z5 x11 27 ([(.int .i64 (F)), (.int .i64 (1))] : List Value), Z5 c34 112 ([(.int .i64 (F)), (.int .i64 (1)), (.int .i64 (0)), (.pointer (some ⟨b25, 0, none⟩)), (.slice (some ⟨g, 0, none⟩) 1 lc)] : List Value), Ze 119 79 (.slice (some ⟨g, 0, none⟩) 1 lc) 1 (([q2]).flatMap Zg), Zh qi.mr (Value.int .i64) rcV R2, Ze 5 1 (.slice qi.pa qi.P.length qi.pc) qi.P.length (qi.P.flatMap Zl), Zy (.slice oa P.length oc) P, Z5 x18 40 (hc qi.x.h), Zh b100 (Value.int .i64) syV S2, Z5 x23 94 ([(.int .i64 (ix)), (.int .u64 (tm))] : List Value), Ze 82 295 (.slice da D.length dc) D.length (D.flatMap Z01), Z0G B] w339 := H340.pick [0, 1, 2, 3, 4, 5, 6, 7, 8, 9, 10, 11] (by decide)
                refine ZT ?_ ⟨(congrArg Value.bool (show true = q2.op by rw [(hDp (by omega)).2.1])), H344⟩
                exact (Z1 rfl (Z1 rfl (Z1 rfl (Z1 rfl (Z1 rfl (Z1 rfl (Z1 rfl (Z1 rfl (Z1 rfl (Z1 rfl (Z1 rfl (Z1 rfl (Z1 rfl (Z1 rfl (Z1 rfl (Z1 rfl (Z1 rfl (Z1 rfl (Z1 rfl (Z1 rfl (Z1 rfl (Z1 rfl (Z1 rfl (Z1 rfl (Z1 rfl (Z1 rfl (Z1 rfl (Z1 rfl (Z1 rfl (Z1 rfl (Z1 rfl (Z1 rfl (Z1 rfl (Z1 rfl (Z1 rfl (Z1 rfl (Z1 rfl (Z1 rfl (Z1 rfl (Z1 rfl (ZQ)))))))))))))))))))))))))))))))))))))))))
               ·have g345 := of_decide_eq_false b323
                refine Zq 176 (.bool false) (congrArg Value.bool b323) ?_
                have g346 := of_decide_eq_false b323
                refine Z00 rfl ?_
                refine ZR ?_
                have H347 : Sat w [Za w (fun _ => False), Z5 x11 27 ([(.int .i64 (F)), (.int .i64 (1))] : List Value), Z5 c34 112 ([(.int .i64 (F)), (.int .i64 (1)), (.int .i64 (0)), (.pointer (some ⟨b25, 0, none⟩)), (.slice (some ⟨g, 0, none⟩) 1 lc)] : List Value), Ze 119 79 (.slice (some ⟨g, 0, none⟩) 1 lc) 1 (([q2]).flatMap Zg), Zh qi.mr (Value.int .i64) rcV R2, Ze 5 1 (.slice qi.pa qi.P.length qi.pc) qi.P.length (qi.P.flatMap Zl), Zy (.slice oa P.length oc) P, Z5 x18 40 (hc qi.x.h), Zh b100 (Value.int .i64) syV S2, Z5 x23 94 ([(.int .i64 (ix)), (.int .u64 (tm))] : List Value), Ze 82 295 (.slice da D.length dc) D.length (D.flatMap Z01), Z0G B] w288 := H289.pick [0, 1, 2, 3, 4, 5, 6, 7, 8, 9, 10, 11] (by decide)
                refine ZT ?_ ⟨(congrArg Value.bool (show (qi.op) = q2.op by rw [hDn0 (by omega)])), H347⟩
                exact (Z1 rfl (Z1 rfl (Z1 rfl (Z1 rfl (ZQ)))))
              ·rintro f348 w349 ⟨v351, H350⟩
               refine Zq 20 _ v351 ?_
               refine Zf ?_
               refine Zr ?_
               refine Z4 (Z3 rfl) (d := 209) (v := (.pointer (some ⟨c34, 0, none⟩))) rfl (by kernel_rfl) ?_
               refine ZG (Z3 rfl) (fun K352 hK352 => ?_)
               refine ZI (d := 210) rfl (by kernel_rfl) (Z2w w349 c34 b25 g lc F 1 0 [q2] (H350.at 2 rfl) (H350.at 3 rfl) (Nat.le_of_ble_eq_true rfl) 0 q2 rfl 1 rfl) ?_
               rintro _ w353 ⟨rfl, u355⟩
               have H354 := H350.keepU u355
               refine ⟨_, rfl, ?_⟩
               refine hK352 _ _ ?_
               clear hK352 K352
               refine Z4 (Z3 rfl) (d := 208) (v := (.tuple #[(.int .i64 (q2.pl)), (.bool (q2.op))])) rfl (by kernel_rfl) ?_
               refine Z4 (Z3 rfl) (d := 211) (v := (.int .i64 (q2.pl))) rfl (by kernel_rfl) ?_
               refine Z4 (Z3 rfl) (d := 212) (v := (.bool (q2.op))) rfl (by kernel_rfl) ?_
               refine Z4 (Z3 rfl) (d := 34) (v := (.int .i64 (q2.pl))) rfl (by kernel_rfl) ?_
               refine Z4 (Z3 rfl) (d := 35) (v := (.bool (q2.op))) rfl (by kernel_rfl) ?_
               refine Zn ?_
               refine Z7 ?_
               refine Zf ?_
               refine Zr ?_
               refine Z4 (Z3 rfl) (d := 213) (v := (.bool (q2.op))) rfl (by kernel_rfl) ?_
               refine Z4 (Z3 rfl) (d := 214) (v := (.bool (q2.op))) rfl (by kernel_rfl) ?_
               refine Z4 (Z3 rfl) (d := 215) (v := (.bool (!((q2.op) == (q2.op))))) rfl (by kernel_rfl) ?_
               refine Z4 (Z3 rfl) (d := 216) (v := (.bool (!((q2.op) == (q2.op))))) rfl (by kernel_rfl) ?_
               have b356 : (!((q2.op) == (q2.op))) = false := by rw [beq_self_eq_true]; rfl
               refine ZZ 216 (.bool false) (congrArg Value.bool b356) ?_
               have g357 := ZO b356
               refine Z4 (Zo 3 216 false rfl (by kernel_rfl) rfl (by kernel_rfl)) (d := 217) (v := (.pointer (some ⟨c34, 0, none⟩))) rfl (by kernel_rfl) ?_
               refine ZG (Zo 3 216 false rfl (by kernel_rfl) rfl (by kernel_rfl)) (fun K358 hK358 => ?_)
               refine ZI (d := 218) rfl (by kernel_rfl) (Z2b w353 c34 b25 g lc F 1 0 [q2] (H354.at 2 rfl) (H354.at 3 rfl) (Nat.le_of_ble_eq_true rfl) 0 q2 rfl 1 rfl) ?_
               rintro _ w359 ⟨rfl, u361⟩
               have H360 := H354.keepU u361
               refine ⟨_, rfl, ?_⟩
               refine hK358 _ _ ?_
               clear hK358 K358
               refine Z4 (Zo 3 216 false rfl (by kernel_rfl) rfl (by kernel_rfl)) (d := 219) (v := (.bool (q2.op))) rfl (by kernel_rfl) ?_
               refine Z4 (Zo 3 216 false rfl (by kernel_rfl) rfl (by kernel_rfl)) (d := 220) (v := (.bool (!((q2.op) == (q2.op))))) rfl (by kernel_rfl) ?_
               refine Z4 (Z3 rfl) (d := 221) (v := (.bool (!((q2.op) == (q2.op))))) rfl (by kernel_rfl) ?_
               refine Z4 (Z3 rfl) (d := 222) (v := (.bool (!((q2.op) == (q2.op))))) rfl (by kernel_rfl) ?_
               refine ZZ 222 (.bool false) (congrArg Value.bool b356) ?_
               have g362 := ZO b356
               refine Z4 (Zo 9 222 false rfl (by kernel_rfl) rfl (by kernel_rfl)) (d := 223) (v := (.bool (q2.op))) rfl (by kernel_rfl) ?_
               refine Z4 (Zo 9 222 false rfl (by kernel_rfl) rfl (by kernel_rfl)) (d := 224) (v := (.bool (q2.op))) rfl (by kernel_rfl) ?_
               refine (Z02 (q2.op)).elim (fun b363 => ?_) (fun b363 => ?_)
               ·refine ZZ 224 (.bool true) (congrArg Value.bool b363) ?_
                refine Z4 (Zo 11 224 true rfl (by kernel_rfl) rfl (by kernel_rfl)) (d := 225) (v := (.slice da D.length dc)) rfl (by kernel_rfl) ?_
                refine Z4 (Zo 11 224 true rfl (by kernel_rfl) rfl (by kernel_rfl)) (d := 226) (v := (.int .i64 ((D.length : Int)))) rfl (by kernel_rfl) ?_
                refine Z4 (Zo 11 224 true rfl (by kernel_rfl) rfl (by kernel_rfl)) (d := 227) (v := (.bool (decide ((D.length : Int) > 0)))) rfl (by kernel_rfl) ?_
                refine Z4 (Zo 9 222 false rfl (by kernel_rfl) rfl (by kernel_rfl)) (d := 228) (v := (.bool (decide ((D.length : Int) > 0)))) rfl (by kernel_rfl) ?_
                refine Z4 (Zo 9 222 false rfl (by kernel_rfl) rfl (by kernel_rfl)) (d := 229) (v := (.bool (decide ((D.length : Int) > 0)))) rfl (by kernel_rfl) ?_
                refine (Z02 (decide ((D.length : Int) > 0))).elim (fun b364 => ?_) (fun b364 => ?_)
                ·have g365 := of_decide_eq_true b364
                 refine ZZ 229 (.bool true) (congrArg Value.bool b364) ?_
                 have g366 := of_decide_eq_true b364
                 refine Z4 (Zo 16 229 true rfl (by kernel_rfl) rfl (by kernel_rfl)) (d := 230) (v := (.int .i64 (q2.pl))) rfl (by kernel_rfl) ?_
                 refine Z4 (Zo 16 229 true rfl (by kernel_rfl) rfl (by kernel_rfl)) (d := 231) (v := (.pointer (some ⟨x23, 0, none⟩))) rfl (by kernel_rfl) ?_
                 refine Z4 (Zo 16 229 true rfl (by kernel_rfl) rfl (by kernel_rfl)) (d := 232) (v := (.int .i64 (ix))) rfl (Zi rfl (by kernel_rfl) (H360.cell 9 rfl rfl)) ?_
                 refine Z4 (Zo 16 229 true rfl (by kernel_rfl) rfl (by kernel_rfl)) (d := 233) (v := (.bool (!(decide (q2.pl = ix))))) rfl (by kernel_rfl) ?_
                 refine Z4 (Zo 9 222 false rfl (by kernel_rfl) rfl (by kernel_rfl)) (d := 234) (v := (.bool (!(decide (q2.pl = ix))))) rfl (by kernel_rfl) ?_
                 refine Z4 (Z3 rfl) (d := 235) (v := (.bool (!(decide (q2.pl = ix))))) rfl (by kernel_rfl) ?_
                 refine Zn ?_
                 refine Z7 ?_
                 have b367 : (!(decide (q2.pl = ix))) = false := by rw [decide_eq_true (hDp (by omega)).2.2.2.1]; rfl
                 refine Zq 235 (.bool false) (congrArg Value.bool b367) ?_
                 have g368 := ZO b367
                 have g369 := of_decide_eq_true g368
                 refine Z00 rfl ?_
                 refine ZR ?_
                 refine ZE ?_
                 refine Z7 ?_
                 refine Zr ?_
                 refine Z4 (Z3 rfl) (d := 87) (v := (.int .i64 ((i : Int)))) rfl (by kernel_rfl) ?_
                 refine Z4 (Z3 rfl) (d := 88) (v := (.int .i64 ((i : Int) + 1))) rfl (Z08 (z := (i : Int) + 1) (by kernel_rfl) (IntWalk.i64_in _ (by omega))) ?_
                 refine Z4 (Z3 rfl) (d := 21) (v := (.int .i64 ((i : Int) + 1))) rfl (by kernel_rfl) ?_
                 refine Zn ?_
                 have H370 : Sat w [Za w (fun _ => False), Z5 x11 27 ([(.int .i64 (F)), (.int .i64 (1))] : List Value), Z5 c34 112 ([(.int .i64 (F)), (.int .i64 (1)), (.int .i64 (0)), (.pointer (some ⟨b25, 0, none⟩)), (.slice (some ⟨g, 0, none⟩) 1 lc)] : List Value), Ze 119 79 (.slice (some ⟨g, 0, none⟩) 1 lc) 1 (([q2]).flatMap Zg), Zh qi.mr (Value.int .i64) rcV R2, Ze 5 1 (.slice qi.pa qi.P.length qi.pc) qi.P.length (qi.P.flatMap Zl), Zy (.slice oa P.length oc) P, Z5 x18 40 (hc qi.x.h), Zh b100 (Value.int .i64) syV S2] w359 := H360.pick [0, 1, 2, 3, 4, 5, 6, 7, 8] (by decide)
                 have H371 : Sat w [Za w (fun _ => False), Z5 x11 27 ([(.int .i64 (F)), (.int .i64 (1))] : List Value), Z5 c34 112 ([(.int .i64 (F)), (.int .i64 (1)), (.int .i64 (0)), (.pointer (some ⟨b25, 0, none⟩)), (.slice (some ⟨g, 0, none⟩) 1 lc)] : List Value), Ze 119 79 (.slice (some ⟨g, 0, none⟩) 1 lc) 1 (([q2]).flatMap Zg), Zh q2.mr (Value.int .i64) rcV R2, Ze 5 1 (.slice q2.pa q2.P.length q2.pc) q2.P.length (q2.P.flatMap Zl), Zy (.slice oa P.length oc) P, Z5 x18 40 (hc q2.x.h), Zh b100 (Value.int .i64) syV S2] w359 := by rw [hq2.1, hq2.2.1, hq2.2.2.1, hq2.2.2.2.1, hq2.2.2.2.2]; exact H370
                 refine ZF ?_ _ ⟨(i + 1), S2, R2, q2, (show ((.int .i64 ((i : Int) + 1)) : Value) = _ by first | rfl | go_num), (show ((.bool (q2.op)) : Value) = _ by first | rfl | go_num), (by omega), (by rw [hS2e]; exact Nat.le_trans Z0E (by omega)), (by rw [hq2.1]; exact hSil2b), (by rw [hq2.2.1]; exact hqiP), (by rw [hR2e]; exact Nat.le_trans Z0E (by omega)), H371, rfl⟩ (by omega)
                 exact (Z1 rfl (Z1 rfl (Z1 rfl (Z1 rfl (Z1 rfl (Z1 rfl (Z1 rfl (Z1 rfl (Z1 rfl (Z1 rfl (Z1 rfl (Z1 rfl (Z1 rfl (Z1 rfl (Z1 rfl (Z1 rfl (Z1 rfl (Z1 rfl (Z1 rfl (Z1 rfl (Z1 rfl (Z1 rfl (Z1 rfl (Z1 rfl (Z1 rfl (Z1 rfl (Z1 rfl (Z1 rfl (Z1 rfl (Z1 rfl (Z1 rfl (Z1 rfl (Z1 rfl (Z1 rfl (Z1 rfl (Z1 rfl (Z1 rfl (Z1 rfl (Z1 rfl (ZA rfl (Z1 rfl (Z1 rfl (Z1 rfl (Z1 rfl (Z1 rfl (Z1 rfl (Z1 rfl (Z1 rfl (Z1 rfl (Z1 rfl (Z1 rfl (Z1 rfl (Z1 rfl (Z1 rfl (Z1 rfl (Z1 rfl (Z1 rfl (Z1 rfl (Z1 rfl (Z1 rfl (Z1 rfl (Z1 rfl (Z1 rfl (Z1 rfl (Z1 rfl (Z1 rfl (ZA rfl (Z1 rfl (ZA rfl (Z1 rfl (ZA rfl (ZA rfl (Z1 rfl (ZA rfl (Z1 rfl (ZA rfl (Z1 rfl (Z1 rfl (ZA rfl (Z1 rfl (Z1 rfl (Z0s))))))))))))))))))))))))))))))))))))))))))))))))))))))))))))))))))))))))))))))))))
                ·have g372 := of_decide_eq_false b364
                 refine ZZ 229 (.bool false) (congrArg Value.bool b364) ?_
                 have g373 := of_decide_eq_false b364
                 refine ZB (ZN 16 229 true rfl (by kernel_rfl) rfl (by kernel_rfl)) rfl ?_
                 refine ZB (ZN 16 229 true rfl (by kernel_rfl) rfl (by kernel_rfl)) rfl ?_
                 refine ZB (ZN 16 229 true rfl (by kernel_rfl) rfl (by kernel_rfl)) rfl ?_
                 refine ZB (ZN 16 229 true rfl (by kernel_rfl) rfl (by kernel_rfl)) rfl ?_
                 refine Z4 (Zo 9 222 false rfl (by kernel_rfl) rfl (by kernel_rfl)) (d := 234) (v := (.bool false)) rfl (by kernel_rfl) ?_
                 refine Z4 (Z3 rfl) (d := 235) (v := (.bool false)) rfl (by kernel_rfl) ?_
                 refine Zn ?_
                 refine Z7 ?_
                 refine Z00 rfl ?_
                 refine ZR ?_
                 refine ZE ?_
                 refine Z7 ?_
                 refine Zr ?_
                 refine Z4 (Z3 rfl) (d := 87) (v := (.int .i64 ((i : Int)))) rfl (by kernel_rfl) ?_
                 refine Z4 (Z3 rfl) (d := 88) (v := (.int .i64 ((i : Int) + 1))) rfl (Z08 (z := (i : Int) + 1) (by kernel_rfl) (IntWalk.i64_in _ (by omega))) ?_
                 refine Z4 (Z3 rfl) (d := 21) (v := (.int .i64 ((i : Int) + 1))) rfl (by kernel_rfl) ?_
                 refine Zn ?_
                 have H374 : Sat w [Za w (fun _ => False), Z5 x11 27 ([(.int .i64 (F)), (.int .i64 (1))] : List Value), Z5 c34 112 ([(.int .i64 (F)), (.int .i64 (1)), (.int .i64 (0)), (.pointer (some ⟨b25, 0, none⟩)), (.slice (some ⟨g, 0, none⟩) 1 lc)] : List Value), Ze 119 79 (.slice (some ⟨g, 0, none⟩) 1 lc) 1 (([q2]).flatMap Zg), Zh qi.mr (Value.int .i64) rcV R2, Ze 5 1 (.slice qi.pa qi.P.length qi.pc) qi.P.length (qi.P.flatMap Zl), Zy (.slice oa P.length oc) P, Z5 x18 40 (hc qi.x.h), Zh b100 (Value.int .i64) syV S2] w359 := H360.pick [0, 1, 2, 3, 4, 5, 6, 7, 8] (by decide)
                 have H375 : Sat w [Za w (fun _ => False), Z5 x11 27 ([(.int .i64 (F)), (.int .i64 (1))] : List Value), Z5 c34 112 ([(.int .i64 (F)), (.int .i64 (1)), (.int .i64 (0)), (.pointer (some ⟨b25, 0, none⟩)), (.slice (some ⟨g, 0, none⟩) 1 lc)] : List Value), Ze 119 79 (.slice (some ⟨g, 0, none⟩) 1 lc) 1 (([q2]).flatMap Zg), Zh q2.mr (Value.int .i64) rcV R2, Ze 5 1 (.slice q2.pa q2.P.length q2.pc) q2.P.length (q2.P.flatMap Zl), Zy (.slice oa P.length oc) P, Z5 x18 40 (hc q2.x.h), Zh b100 (Value.int .i64) syV S2] w359 := by rw [hq2.1, hq2.2.1, hq2.2.2.1, hq2.2.2.2.1, hq2.2.2.2.2]; exact H374
                 refine ZF ?_ _ ⟨(i + 1), S2, R2, q2, (show ((.int .i64 ((i : Int) + 1)) : Value) = _ by first | rfl | go_num), (show ((.bool (q2.op)) : Value) = _ by first | rfl | go_num), (by omega), (by rw [hS2e]; exact Nat.le_trans Z0E (by omega)), (by rw [hq2.1]; exact hSil2b), (by rw [hq2.2.1]; exact hqiP), (by rw [hR2e]; exact Nat.le_trans Z0E (by omega)), H375, rfl⟩ (by omega)
                 exact (Z1 rfl (Z1 rfl (Z1 rfl (Z1 rfl (Z1 rfl (Z1 rfl (Z1 rfl (Z1 rfl (Z1 rfl (Z1 rfl (Z1 rfl (Z1 rfl (Z1 rfl (Z1 rfl (Z1 rfl (Z1 rfl (Z1 rfl (Z1 rfl (Z1 rfl (Z1 rfl (Z1 rfl (Z1 rfl (Z1 rfl (Z1 rfl (Z1 rfl (Z1 rfl (Z1 rfl (Z1 rfl (Z1 rfl (Z1 rfl (Z1 rfl (Z1 rfl (Z1 rfl (Z1 rfl (Z1 rfl (Z1 rfl (Z1 rfl (Z1 rfl (ZA rfl (Z1 rfl (Z1 rfl (Z1 rfl (Z1 rfl (Z1 rfl (Z1 rfl (Z1 rfl (Z1 rfl (Z1 rfl (Z1 rfl (Z1 rfl (Z1 rfl (Z1 rfl (Z1 rfl (Z1 rfl (Z1 rfl (Z1 rfl (Z1 rfl (Z1 rfl (Z1 rfl (Z1 rfl (Z1 rfl (Z1 rfl (Z1 rfl (Z1 rfl (Z1 rfl (ZA rfl (Z1 rfl (ZA rfl (Z1 rfl (ZA rfl (ZA rfl (Z1 rfl (ZA rfl (Z1 rfl (ZA rfl (Z1 rfl (Z1 rfl (ZA rfl (Z1 rfl (Z1 rfl (Z0s)))))))))))))))))))))))))))))))))))))))))))))))))))))))))))))))))))))))))))))))))
               ·refine ZZ 224 (.bool false) (congrArg Value.bool b363) ?_
                refine ZB (ZN 11 224 true rfl (by kernel_rfl) rfl (by kernel_rfl)) rfl ?_
                refine ZB (ZN 11 224 true rfl (by kernel_rfl) rfl (by kernel_rfl)) rfl ?_
                refine ZB (ZN 11 224 true rfl (by kernel_rfl) rfl (by kernel_rfl)) rfl ?_
                refine Z4 (Zo 9 222 false rfl (by kernel_rfl) rfl (by kernel_rfl)) (d := 228) (v := (.bool false)) rfl (by kernel_rfl) ?_
                refine Z4 (Zo 9 222 false rfl (by kernel_rfl) rfl (by kernel_rfl)) (d := 229) (v := (.bool false)) rfl (by kernel_rfl) ?_
                refine ZB (ZN 16 229 true rfl (by kernel_rfl) rfl (by kernel_rfl)) rfl ?_
                refine ZB (ZN 16 229 true rfl (by kernel_rfl) rfl (by kernel_rfl)) rfl ?_
                refine ZB (ZN 16 229 true rfl (by kernel_rfl) rfl (by kernel_rfl)) rfl ?_
                refine ZB (ZN 16 229 true rfl (by kernel_rfl) rfl (by kernel_rfl)) rfl ?_
                refine Z4 (Zo 9 222 false rfl (by kernel_rfl) rfl (by kernel_rfl)) (d := 234) (v := (.bool false)) rfl (by kernel_rfl) ?_
                refine Z4 (Z3 rfl) (d := 235) (v := (.bool false)) rfl (by kernel_rfl) ?_
                refine Zn ?_
                refine Z7 ?_
                refine Z00 rfl ?_
                refine ZR ?_
                refine ZE ?_
                refine Z7 ?_
                refine Zr ?_
                refine Z4 (Z3 rfl) (d := 87) (v := (.int .i64 ((i : Int)))) rfl (by kernel_rfl) ?_
                refine Z4 (Z3 rfl) (d := 88) (v := (.int .i64 ((i : Int) + 1))) rfl (Z08 (z := (i : Int) + 1) (by kernel_rfl) (IntWalk.i64_in _ (by omega))) ?_
                refine Z4 (Z3 rfl) (d := 21) (v := (.int .i64 ((i : Int) + 1))) rfl (by kernel_rfl) ?_
                refine Zn ?_
                have H376 : Sat w [Za w (fun _ => False), Z5 x11 27 ([(.int .i64 (F)), (.int .i64 (1))] : List Value), Z5 c34 112 ([(.int .i64 (F)), (.int .i64 (1)), (.int .i64 (0)), (.pointer (some ⟨b25, 0, none⟩)), (.slice (some ⟨g, 0, none⟩) 1 lc)] : List Value), Ze 119 79 (.slice (some ⟨g, 0, none⟩) 1 lc) 1 (([q2]).flatMap Zg), Zh qi.mr (Value.int .i64) rcV R2, Ze 5 1 (.slice qi.pa qi.P.length qi.pc) qi.P.length (qi.P.flatMap Zl), Zy (.slice oa P.length oc) P, Z5 x18 40 (hc qi.x.h), Zh b100 (Value.int .i64) syV S2] w359 := H360.pick [0, 1, 2, 3, 4, 5, 6, 7, 8] (by decide)
                have H377 : Sat w [Za w (fun _ => False), Z5 x11 27 ([(.int .i64 (F)), (.int .i64 (1))] : List Value), Z5 c34 112 ([(.int .i64 (F)), (.int .i64 (1)), (.int .i64 (0)), (.pointer (some ⟨b25, 0, none⟩)), (.slice (some ⟨g, 0, none⟩) 1 lc)] : List Value), Ze 119 79 (.slice (some ⟨g, 0, none⟩) 1 lc) 1 (([q2]).flatMap Zg), Zh q2.mr (Value.int .i64) rcV R2, Ze 5 1 (.slice q2.pa q2.P.length q2.pc) q2.P.length (q2.P.flatMap Zl), Zy (.slice oa P.length oc) P, Z5 x18 40 (hc q2.x.h), Zh b100 (Value.int .i64) syV S2] w359 := by rw [hq2.1, hq2.2.1, hq2.2.2.1, hq2.2.2.2.1, hq2.2.2.2.2]; exact H376
                refine ZF ?_ _ ⟨(i + 1), S2, R2, q2, (show ((.int .i64 ((i : Int) + 1)) : Value) = _ by first | rfl | go_num), (show ((.bool (q2.op)) : Value) = _ by first | rfl | go_num), (by omega), (by rw [hS2e]; exact Nat.le_trans Z0E (by omega)), (by rw [hq2.1]; exact hSil2b), (by rw [hq2.2.1]; exact hqiP), (by rw [hR2e]; exact Nat.le_trans Z0E (by omega)), H377, rfl⟩ (by omega)
                exact (Z1 rfl (Z1 rfl (Z1 rfl (Z1 rfl (Z1 rfl (Z1 rfl (Z1 rfl (Z1 rfl (Z1 rfl (Z1 rfl (Z1 rfl (Z1 rfl (Z1 rfl (Z1 rfl (Z1 rfl (Z1 rfl (Z1 rfl (Z1 rfl (Z1 rfl (Z1 rfl (Z1 rfl (Z1 rfl (Z1 rfl (Z1 rfl (Z1 rfl (Z1 rfl (Z1 rfl (Z1 rfl (Z1 rfl (Z1 rfl (Z1 rfl (Z1 rfl (Z1 rfl (Z1 rfl (Z1 rfl (Z1 rfl (Z1 rfl (ZA rfl (Z1 rfl (Z1 rfl (Z1 rfl (Z1 rfl (Z1 rfl (Z1 rfl (Z1 rfl (Z1 rfl (Z1 rfl (Z1 rfl (Z1 rfl (Z1 rfl (Z1 rfl (Z1 rfl (Z1 rfl (Z1 rfl (Z1 rfl (Z1 rfl (Z1 rfl (Z1 rfl (Z1 rfl (Z1 rfl (Z1 rfl (Z1 rfl (Z1 rfl (Z1 rfl (ZA rfl (Z1 rfl (ZA rfl (Z1 rfl (ZA rfl (ZA rfl (Z1 rfl (ZA rfl (Z1 rfl (ZA rfl (Z1 rfl (Z1 rfl (ZA rfl (Z1 rfl (Z1 rfl (Z0s))))))))))))))))))))))))))))))))))))))))))))))))))))))))))))))))))))))))))))))))
      ·refine Zq 86 (.bool false) (congrArg Value.bool b124) ?_
       refine Z00 rfl ?_
       refine Z1K ?_
       refine Z0D ?_
       refine Z0B ?_
       refine Z1f ?_
       refine Z7 ?_
       refine Zf ?_
       refine Zr ?_
       refine ZG (Z3 rfl) (fun K378 hK378 => ?_)
       refine ZI (d := 236) rfl (by kernel_rfl) (Z4d w121) ?_
       rintro _ w379 ⟨rfl, u381⟩
       have H380 := H122.keepU u381
       refine ⟨_, rfl, ?_⟩
       refine hK378 _ _ ?_
       clear hK378 K378
       refine Z4 (Z3 rfl) (d := 10) (v := (.bool true)) rfl (by kernel_rfl) ?_
       refine Zn ?_
       refine Z7 ?_
       refine ZY ?_
       refine Z0Q rfl (ZM (v := (.bool true)) rfl) ?_
       exact ⟨rfl, H380.upd 0 rfl [] (fun _ h => h.elim)⟩
end Go.Proofs.YtgigjkjdmalmaaaGreat
