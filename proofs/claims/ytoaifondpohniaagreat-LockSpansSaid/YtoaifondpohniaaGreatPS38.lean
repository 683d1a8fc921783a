/- WHAT IS PROVED: contracts and plain laws of Spans11. Conditions: stated with each. -/
import Derived.Test.YtoaifondpohniaaGreatPS17
import Derived.Test.YtoaifondpohniaaGreatPS36
import Derived.Test.YtoaifondpohniaaGreatPS37
set_option maxHeartbeats 4000000
set_option maxRecDepth 100000
namespace Go.Proofs.YtoaifondpohniaaGreat
open Go.RowKit
theorem Z6o (w : World) (x y : CeR) (h : Z52 (nmX x) (nmX y)) : Calls Tryz.prog 28 #[.agg ⟨[.int .i64 x.x.cl, .int .i64 x.x.seq]⟩, .agg ⟨[.int .i64 y.x.cl, .int .i64 y.x.seq]⟩] w fun e w' => e = .returned (.bool true) ∧ Upd [] w w' :=
 (Z6O w x.x.cl x.x.seq y.x.cl y.x.seq).mono fun _ _ q => ⟨by
  rw [q.1]
  unfold Z52 nmX at h
  simp only [Ending.returned.injEq, Value.bool.injEq, Bool.or_eq_true, Bool.and_eq_true, decide_eq_true_eq]
  exact h, q.2⟩
theorem Z38 {D : List Zd} {i : Nat} (h : i < D.length) : D.getD i Z8 ∈ D := by
 rw [List.getD_eq_getElem?_getD, List.getElem?_eq_getElem h]; exact List.getElem_mem h
theorem Z1a {AL : List Z8r} {i : Nat} (h : i < AL.length) : AL.getD i ac0 ∈ AL := by
 rw [List.getD_eq_getElem?_getD, List.getElem?_eq_getElem h]; exact List.getElem_mem h
theorem Z5n (w : World) (aa : Option Addr) (ac : Nat) (AL : List Z8r) (hA : ListAt Z7u 45 w (.slice aa AL.length ac) AL) (hAc : ∀ a ∈ AL, AcOk w a) (ua ub uc : Int) (hua : 0 ≤ ua ∧ ua ≤ 18446744073709551615) (hub : 0 ≤ ub ∧ ub ≤ 18446744073709551615) (huc : 0 ≤ uc ∧ uc ≤ 18446744073709551615) :
  Calls Tryz.prog 4 #[(.slice aa AL.length ac), (.int .u64 (ua)), (.int .u64 (ub)), (.int .u64 (uc))] w fun e w' => e = .returned (.bool true) ∧ Upd [] w w' := by
 have hlA := SliceOf.le hA
 unfold maxLen at hlA
 have H := Sat.start0 w
 refine ZE Tryz.func4 rfl 259 rfl (Nat.le_of_ble_eq_true rfl) ?_
 refine Zc ?_
 refine Zp ?_
 refine Z2 (Z1 rfl) (d := 8) (v := (.bool false)) rfl (by kernel_rfl) ?_
 refine Zm ?_
 refine Z4 ?_
 refine Zc ?_
 refine Zp ?_
 refine Z2 (Z1 rfl) (d := 30) (v := (.agg ⟨([(.int .i64 (1)), (.int .i64 (3))] : List Value)⟩)) rfl (by kernel_rfl) ?_
 refine ZA (Z1 rfl) (fun K1 hK1 => ?_)
 refine Z0e (zs := ([(.int .i64 (0)), (.int .i64 (0))] : List Value)) (z := (.agg ⟨([(.int .i64 (0)), (.int .i64 (0))] : List Value)⟩)) rfl H (by kernel_rfl) (by kernel_rfl) ?_
 intro b2 w3 (H4 : Sat w [Z6 w (fun _ => False), Z3 b2 36 ([(.int .i64 (0)), (.int .i64 (0))] : List Value)] w3)
 refine hK1 _ _ ?_
 clear hK1 K1
 refine ZA (Z1 rfl) (fun K5 hK5 => ?_)
 refine ZU (vs := ([(.int .i64 (1)), (.int .i64 (3))] : List Value)) (cs' := ([(.int .i64 (1)), (.int .i64 (3))] : List Value)) rfl H4 1 rfl rfl rfl rfl (by kernel_rfl) (Nat.le_of_ble_eq_true (by kernel_rfl)) (Nat.le_of_ble_eq_true (by kernel_rfl)) (by kernel_rfl) (by kernel_rfl) ?_
 intro w6 (H7 : Sat w [Z6 w (fun _ => False), Z3 b2 36 ([(.int .i64 (1)), (.int .i64 (3))] : List Value)] w6)
 refine hK5 _ _ ?_
 clear hK5 K5
 refine Zm ?_
 refine Z4 ?_
 refine Zc ?_
 refine Zp ?_
 refine ZA (Z1 rfl) (fun K9 hK9 => ?_)
 refine Zv (d := 32) rfl (by kernel_rfl) (Z6S w6) ?_
 rintro _ w10 ⟨b11, m12, r13, rfl, k14, p15, q16⟩
 have H17 : Sat w [Z6 w (fun _ => False), Z3 b2 36 ([(.int .i64 (1)), (.int .i64 (3))] : List Value), ZH [Z3 b11 110 [.map (some m12)], ZC m12 Za (Value.int .i64) (Zq []), Z3 r13 98 [.slice none 0 0]]] w10 := H7.addU p15 k14 q16
 have H18 : Sat w [Z6 w (fun _ => False), Z3 b2 36 ([(.int .i64 (1)), (.int .i64 (3))] : List Value), Z3 b11 110 ([(.map (some m12))] : List Value), ZC m12 Za (Value.int .i64) (Zq []), Z3 r13 98 ([(.slice none (([] : List Signed).length) 0)] : List Value)] w10 := H17.open 2 rfl
 have H19 : Sat w [Z6 w (fun _ => False), Z3 b2 36 ([(.int .i64 (1)), (.int .i64 (3))] : List Value), Z3 b11 110 ([(.map (some m12))] : List Value), ZC m12 Za (Value.int .i64) (Zq []), Z3 r13 98 ([(.slice none (([] : List Signed).length) 0)] : List Value), Zb 114 2 (.slice none (([] : List Signed).length) 0) (([] : List Signed).length) (([] : List Signed).flatMap Z0q)] w10 := H18.addNil 114 2
 refine ⟨_, rfl, ?_⟩
 refine hK9 _ _ ?_
 clear hK9 K9
 refine Z2 (Z1 rfl) (d := 31) (v := (.tuple #[(.agg ⟨([(.pointer (some ⟨b11, 0, none⟩)), (.pointer (some ⟨r13, 0, none⟩))] : List Value)⟩), (.bool true)])) rfl (by kernel_rfl) ?_
 refine Z2 (Z1 rfl) (d := 33) (v := (.agg ⟨([(.pointer (some ⟨b11, 0, none⟩)), (.pointer (some ⟨r13, 0, none⟩))] : List Value)⟩)) rfl (by kernel_rfl) ?_
 refine Z2 (Z1 rfl) (d := 34) (v := (.bool true)) rfl (by kernel_rfl) ?_
 refine ZA (Z1 rfl) (fun K20 hK20 => ?_)
 refine Z0e (zs := ([(.pointer none), (.pointer none)] : List Value)) (z := (.agg ⟨([(.pointer none), (.pointer none)] : List Value)⟩)) rfl H19 (by kernel_rfl) (by kernel_rfl) ?_
 intro b21 w22 (H23 : Sat w [Z6 w (fun _ => False), Z3 b2 36 ([(.int .i64 (1)), (.int .i64 (3))] : List Value), Z3 b11 110 ([(.map (some m12))] : List Value), ZC m12 Za (Value.int .i64) (Zq []), Z3 r13 98 ([(.slice none (([] : List Signed).length) 0)] : List Value), Zb 114 2 (.slice none (([] : List Signed).length) 0) (([] : List Signed).length) (([] : List Signed).flatMap Z0q), Z3 b21 40 ([(.pointer none), (.pointer none)] : List Value)] w22)
 refine hK20 _ _ ?_
 clear hK20 K20
 refine ZA (Z1 rfl) (fun K24 hK24 => ?_)
 refine ZU (vs := ([(.pointer (some ⟨b11, 0, none⟩)), (.pointer (some ⟨r13, 0, none⟩))] : List Value)) (cs' := ([(.pointer (some ⟨b11, 0, none⟩)), (.pointer (some ⟨r13, 0, none⟩))] : List Value)) rfl H23 6 rfl rfl rfl rfl (by kernel_rfl) (Nat.le_of_ble_eq_true (by kernel_rfl)) (Nat.le_of_ble_eq_true (by kernel_rfl)) (by kernel_rfl) (by kernel_rfl) ?_
 intro w25 (H26 : Sat w [Z6 w (fun _ => False), Z3 b2 36 ([(.int .i64 (1)), (.int .i64 (3))] : List Value), Z3 b11 110 ([(.map (some m12))] : List Value), ZC m12 Za (Value.int .i64) (Zq []), Z3 r13 98 ([(.slice none (([] : List Signed).length) 0)] : List Value), Zb 114 2 (.slice none (([] : List Signed).length) 0) (([] : List Signed).length) (([] : List Signed).flatMap Z0q), Z3 b21 40 ([(.pointer (some ⟨b11, 0, none⟩)), (.pointer (some ⟨r13, 0, none⟩))] : List Value)] w25)
 refine hK24 _ _ ?_
 clear hK24 K24
 refine Z2 (Z1 rfl) (d := 11) (v := (.bool true)) rfl (by kernel_rfl) ?_
 refine Zm ?_
 refine Z4 ?_
 refine Zc ?_
 refine Zp ?_
 refine Z2 (Z1 rfl) (d := 36) (v := (.agg ⟨([(.int .i64 (1)), (.int .i64 (3))] : List Value)⟩)) rfl (ZB (vs := ([(.int .i64 (1)), (.int .i64 (3))] : List Value)) rfl (by kernel_rfl) (by kernel_rfl) (by exact Nat.le_of_ble_eq_true (by kernel_rfl)) (H26.at 1 rfl) (by kernel_rfl)) ?_
 refine ZA (Z1 rfl) (fun K28 hK28 => ?_)
 refine Zv (d := 37) rfl (by kernel_rfl) (Z3N w25 1 3 0 (by omega) (by decide)) ?_
 rintro _ w29 ⟨t30, m31, rfl, k32, u33, q34⟩
 have H35 : Sat w [Z6 w (fun _ => False), Z3 b2 36 ([(.int .i64 (1)), (.int .i64 (3))] : List Value), Z3 b11 110 ([(.map (some m12))] : List Value), ZC m12 Za (Value.int .i64) (Zq []), Z3 r13 98 ([(.slice none (([] : List Signed).length) 0)] : List Value), Zb 114 2 (.slice none (([] : List Signed).length) 0) (([] : List Signed).length) (([] : List Signed).flatMap Z0q), Z3 b21 40 ([(.pointer (some ⟨b11, 0, none⟩)), (.pointer (some ⟨r13, 0, none⟩))] : List Value), ZH [Z3 t30 121 [.int .i64 1, .int .i64 3, .int .i64 0, .map (some m31)], ZC m31 nmV ceV []]] w29 := H26.addU u33 k32 q34
 have H36 : Sat w [Z6 w (fun _ => False), Z3 b2 36 ([(.int .i64 (1)), (.int .i64 (3))] : List Value), Z3 b11 110 ([(.map (some m12))] : List Value), ZC m12 Za (Value.int .i64) (Zq []), Z3 r13 98 ([(.slice none (([] : List Signed).length) 0)] : List Value), Zb 114 2 (.slice none (([] : List Signed).length) 0) (([] : List Signed).length) (([] : List Signed).flatMap Z0q), Z3 b21 40 ([(.pointer (some ⟨b11, 0, none⟩)), (.pointer (some ⟨r13, 0, none⟩))] : List Value), Z3 t30 121 ([(.int .i64 (1)), (.int .i64 (3)), (.int .i64 (0)), (.map (some m31))] : List Value), ZC m31 nmV ceV []] w29 := H35.open 7 rfl
 refine ⟨_, rfl, ?_⟩
 refine hK28 _ _ ?_
 clear hK28 K28
 refine Z2 (Z1 rfl) (d := 35) (v := (.tuple #[(.pointer (some ⟨t30, 0, none⟩)), (.int .i64 (0))])) rfl (by kernel_rfl) ?_
 refine Z2 (Z1 rfl) (d := 38) (v := (.pointer (some ⟨t30, 0, none⟩))) rfl (by kernel_rfl) ?_
 refine Z2 (Z1 rfl) (d := 39) (v := (.int .i64 (0))) rfl (by kernel_rfl) ?_
 refine Z2 (Z1 rfl) (d := 12) (v := (.pointer (some ⟨t30, 0, none⟩))) rfl (by kernel_rfl) ?_
 refine Z2 (Z1 rfl) (d := 13) (v := (.int .i64 (0))) rfl (by kernel_rfl) ?_
 refine Zm ?_
 refine Z4 ?_
 refine Zc ?_
 refine Zc ?_
 refine Zp ?_
 refine Z2 (Z1 rfl) (d := 40) (v := (.bool true)) rfl (by kernel_rfl) ?_
 refine Z2 (Z1 rfl) (d := 41) (v := (.bool false)) rfl (by kernel_rfl) ?_
 refine Z2 (Z1 rfl) (d := 42) (v := (.bool false)) rfl (by kernel_rfl) ?_
 refine Z2 (Zj 2 42 false rfl (by kernel_rfl) rfl (by kernel_rfl)) (d := 43) (v := (.int .i64 (0))) rfl (by kernel_rfl) ?_
 refine Z2 (Zj 2 42 false rfl (by kernel_rfl) rfl (by kernel_rfl)) (d := 44) (v := (.bool false)) rfl (by kernel_rfl) ?_
 refine Z2 (Z1 rfl) (d := 45) (v := (.bool false)) rfl (by kernel_rfl) ?_
 refine Z2 (Z1 rfl) (d := 46) (v := (.bool false)) rfl (by kernel_rfl) ?_
 refine Z2 (Zj 6 46 false rfl (by kernel_rfl) rfl (by kernel_rfl)) (d := 47) (v := (.pointer (some ⟨t30, 0, none⟩))) rfl (by kernel_rfl) ?_
 refine Z2 (Zj 6 46 false rfl (by kernel_rfl) rfl (by kernel_rfl)) (d := 48) (v := (.bool false)) rfl (by kernel_rfl) ?_
 refine Z2 (Z1 rfl) (d := 49) (v := (.bool false)) rfl (by kernel_rfl) ?_
 refine Zm ?_
 refine Z4 ?_
 refine Z09 rfl ?_
 refine Z0b ?_
 refine Z4 ?_
 refine Zc ?_
 refine Zc ?_
 refine Zp ?_
 refine Z2 (Z1 rfl) (d := 14) (v := (.int .i64 (0))) rfl (by kernel_rfl) ?_
 refine Zm ?_
 refine Z4 ?_
 refine ZR ?_
 have H37 := H36.bag0
 refine Z0m [14, 15, 50, 51, 52, 53, 54, 55, 56, 57, 58, 59, 60, 61, 62, 63, 64, 65, 66, 67, 68, 69, 70, 71, 72, 73, 74, 75, 76, 77, 78, 79, 80, 81, 82, 83, 84, 85, 86, 87, 88, 89, 90, 91, 92, 93, 94, 95] (fun F_ W_ m_ => ∃ (i : Nat) (M : List (NmD × CeR)) (B : List Ck) (Lb Lr : List Signed) (ra : Option Addr) (rc : Nat), F_ 14 = (.int .i64 ((i : Int))) ∧ (i ≤ AL.length) ∧ (i ≤ 15) ∧ (TabOk B M) ∧ (M.length ≤ i) ∧ (Lb.Nodup) ∧ (Lr.Nodup) ∧ (Lb.length ≤ 13 * i) ∧ (Lr.length ≤ i) ∧ Sat w [Z6 w (fun _ => False), Z3 b2 36 ([(.int .i64 (1)), (.int .i64 (3))] : List Value), Z3 b11 110 ([(.map (some m12))] : List Value), ZC m12 Za (Value.int .i64) (Zq Lb), Z3 r13 98 ([(.slice ra Lr.length rc)] : List Value), Zb 114 2 (.slice ra Lr.length rc) Lr.length (Lr.flatMap Z0q), Z3 b21 40 ([(.pointer (some ⟨b11, 0, none⟩)), (.pointer (some ⟨r13, 0, none⟩))] : List Value), Z3 t30 121 ([(.int .i64 (1)), (.int .i64 (3)), (.int .i64 (0)), (.map (some m31))] : List Value), ZC m31 nmV ceV M, ZI B] W_ ∧ m_ = AL.length + 1 - i) _ ⟨0, [], [], [], [], none, 0, (show ((.int .i64 (0)) : Value) = _ by first | rfl | go_num), (Nat.zero_le _), (Nat.zero_le _), TabOk.nil, (Nat.zero_le _), List.nodup_nil, List.nodup_nil, (Nat.zero_le _), (Nat.zero_le _), H37, rfl⟩ ?_
 rintro g38 w39 _ ⟨i, M, B, Lb, Lr, ra, rc, v41, hiA, hi15, hM, hlM, hnb, hnr, hlb, hlr, H40, rfl⟩
 refine Zs 14 _ v41 ?_
 refine Zc ?_
 refine Z3t [50, 51, 52, 53, 54, 55, 56, 57] (fun G_ W_ => G_ 57 = (.bool (decide ((i : Int) < (AL.length : Int)) && decide ((i : Int) < 15))) ∧ Sat w [Z6 w (fun _ => False), Z3 b2 36 ([(.int .i64 (1)), (.int .i64 (3))] : List Value), Z3 b11 110 ([(.map (some m12))] : List Value), ZC m12 Za (Value.int .i64) (Zq Lb), Z3 r13 98 ([(.slice ra Lr.length rc)] : List Value), Zb 114 2 (.slice ra Lr.length rc) Lr.length (Lr.flatMap Z0q), Z3 b21 40 ([(.pointer (some ⟨b11, 0, none⟩)), (.pointer (some ⟨r13, 0, none⟩))] : List Value), Z3 t30 121 ([(.int .i64 (1)), (.int .i64 (3)), (.int .i64 (0)), (.map (some m31))] : List Value), ZC m31 nmV ceV M, ZI B] W_) ?_ ?_
 ·refine Zp ?_
  refine Z2 (Z1 rfl) (d := 50) (v := (.int .i64 ((i : Int)))) rfl (by kernel_rfl) ?_
  refine Z2 (Z1 rfl) (d := 51) (v := (.slice aa AL.length ac)) rfl (by kernel_rfl) ?_
  refine Z2 (Z1 rfl) (d := 52) (v := (.int .i64 ((AL.length : Int)))) rfl (by kernel_rfl) ?_
  refine Z2 (Z1 rfl) (d := 53) (v := (.bool (decide ((i : Int) < (AL.length : Int))))) rfl (by kernel_rfl) ?_
  refine Z2 (Z1 rfl) (d := 54) (v := (.bool (decide ((i : Int) < (AL.length : Int))))) rfl (by kernel_rfl) ?_
  refine (ZS (decide ((i : Int) < (AL.length : Int)))).elim (fun b44 => ?_) (fun b44 => ?_)
  ·have g45 := of_decide_eq_true b44
   refine Z02 54 (.bool true) (congrArg Value.bool b44) ?_
   have g46 := of_decide_eq_true b44
   refine Z2 (Zj 4 54 true rfl (by kernel_rfl) rfl (by kernel_rfl)) (d := 55) (v := (.int .i64 ((i : Int)))) rfl (by kernel_rfl) ?_
   refine Z2 (Zj 4 54 true rfl (by kernel_rfl) rfl (by kernel_rfl)) (d := 56) (v := (.bool (decide ((i : Int) < 15)))) rfl (by kernel_rfl) ?_
   refine Z2 (Z1 rfl) (d := 57) (v := (.bool (decide ((i : Int) < 15)))) rfl (by kernel_rfl) ?_
   refine Zm ?_
   refine Z0T ?_ ⟨(congrArg Value.bool (show (decide ((i : Int) < 15)) = (decide ((i : Int) < (AL.length : Int)) && decide ((i : Int) < 15)) by rw [b44]; rfl)), H40⟩
   exact (Z0 rfl (Z0 rfl (Z0 rfl (Z0 rfl (Z0 rfl (Z0 rfl (Z0 rfl (Z0 rfl (Z0 rfl (Z0R))))))))))
  ·have g47 := of_decide_eq_false b44
   refine Z02 54 (.bool false) (congrArg Value.bool b44) ?_
   have g48 := of_decide_eq_false b44
   refine Zx (Zh 4 54 true rfl (by kernel_rfl) rfl (by kernel_rfl)) rfl ?_
   refine Zx (Zh 4 54 true rfl (by kernel_rfl) rfl (by kernel_rfl)) rfl ?_
   refine Z2 (Z1 rfl) (d := 57) (v := (.bool false)) rfl (by kernel_rfl) ?_
   refine Zm ?_
   refine Z0T ?_ ⟨(congrArg Value.bool (show false = (decide ((i : Int) < (AL.length : Int)) && decide ((i : Int) < 15)) by rw [b44]; rfl)), H40⟩
   exact (Z0 rfl (Z0 rfl (Z0 rfl (Z0 rfl (Z0 rfl (Z0 rfl (Z0 rfl (Z0 rfl (Z0 rfl (Z0R))))))))))
 ·rintro f49 w50 ⟨v52, H51⟩
  refine Zs 57 _ v52 ?_
  refine (ZS (decide ((i : Int) < (AL.length : Int)) && decide ((i : Int) < 15))).elim (fun b53 => ?_) (fun b53 => ?_)
  ·refine Zs 57 (.bool true) (congrArg Value.bool b53) ?_
   refine Z0h rfl ?_
   refine Z0b ?_
   refine Z4 ?_
   refine Zc ?_
   refine ZR ?_
   refine Zc ?_
   have hii : i < AL.length ∧ i < 15 := by have q := b53; simp only [Bool.and_eq_true, decide_eq_true_eq] at q; omega
   obtain ⟨hii1, hii2⟩ := hii
   have hw3 := Z35 (AL.getD i ac0).n.cl 3 (by omega)
   have hw6 := Z35 (AL.getD i ac0).n.sq 6 (by omega)
   obtain ⟨g54, o55, c56, e57, R58⟩ := SliceOf.atD hA ac0 (show i < AL.length by omega)
   obtain ⟨g59, o60, c61, e62, R63⟩ := SliceOf.atD hA ac0 (show i < AL.length by omega)
   obtain ⟨g64, o65, c66, e67, R68⟩ := SliceOf.atD hA ac0 (show i < AL.length by omega)
   refine Z0k H51 [Z6 w (fun _ => False), Z3 b2 36 ([(.int .i64 (1)), (.int .i64 (3))] : List Value), Z3 b11 110 ([(.map (some m12))] : List Value), ZC m12 Za (Value.int .i64) (Zq Lb), Z3 r13 98 ([(.slice ra Lr.length rc)] : List Value), Zb 114 2 (.slice ra Lr.length rc) Lr.length (Lr.flatMap Z0q), Z3 b21 40 ([(.pointer (some ⟨b11, 0, none⟩)), (.pointer (some ⟨r13, 0, none⟩))] : List Value), Z3 t30 121 ([(.int .i64 (1)), (.int .i64 (3)), (.int .i64 (0)), (.map (some m31))] : List Value), ZC m31 nmV ceV M, ZI B] 18 rfl (by kernel_rfl) (fun Hx => (Hx.pick [0, 1, 2, 3, 4, 5, 6, 7, 8, 9] (by decide))) ?_
   intro w69 H70 S71
   refine Ze 0 rfl (by kernel_rfl) (by kernel_rfl) (by kernel_rfl) (fun _ _ _ h => h) S71 (Z1 rfl) (d := 60) (v := (.slice aa AL.length ac)) rfl (fun _ H' => (by kernel_rfl)) ?_
   refine Ze 1 rfl (by kernel_rfl) (by kernel_rfl) (by kernel_rfl) (fun _ _ _ h => h) S71 (Z1 rfl) (d := 61) (v := (.int .i64 ((i : Int)))) rfl (fun _ H' => (by kernel_rfl)) ?_
   obtain ⟨g72, o73, c74, e75, R76⟩ := SliceOf.atD hA ac0 (show i < AL.length by omega)
   refine Ze 2 rfl (by kernel_rfl) (by kernel_rfl) (by kernel_rfl) (fun _ _ _ h => h) S71 (Z1 rfl) (d := 62) (v := (.pointer (some ⟨g72, o73 + ((i : Int)).toNat * 45, none⟩))) rfl (fun _ H' => (ZZ (E := 55) (by kernel_rfl) (by kernel_rfl) (Nat.le_of_ble_eq_true rfl) rfl e75 rfl (by omega) (by omega))) ?_
   refine Ze 3 rfl (by kernel_rfl) (by kernel_rfl) (by kernel_rfl) (fun _ _ _ h => h) S71 (Z1 rfl) (d := 63) (v := (.pointer (some ⟨g72, o73 + ((i : Int)).toNat * 45 + 4, none⟩))) rfl (fun _ H' => (by kernel_rfl)) ?_
   refine Ze 4 rfl (by kernel_rfl) (by kernel_rfl) (by kernel_rfl) (fun _ _ _ h => h) S71 (Z1 rfl) (d := 64) (v := (.pointer (some ⟨g72, o73 + ((i : Int)).toNat * 45 + 4, none⟩))) rfl (fun _ H' => (by kernel_rfl)) ?_
   refine Ze 5 rfl (by kernel_rfl) (by kernel_rfl) (by kernel_rfl) (fun _ _ _ h => h) S71 (Z1 rfl) (d := 65) (v := (.int .i64 ((AL.getD i ac0).n.cl))) rfl (fun _ H' => (Zi rfl (by kernel_rfl) (H'.cellR 0 rfl (Z18 R76 4 (by kernel_rfl) (show o73 + ((i : Int)).toNat * 45 + 4 = o73 + i * 45 + 4 by omega)) (fun h => h)))) ?_
   refine Ze 7 rfl (by kernel_rfl) (by kernel_rfl) (by kernel_rfl) (fun _ _ _ h => h) S71 (Z1 rfl) (d := 67) (v := (.slice aa AL.length ac)) rfl (fun _ H' => (by kernel_rfl)) ?_
   refine Ze 8 rfl (by kernel_rfl) (by kernel_rfl) (by kernel_rfl) (fun _ _ _ h => h) S71 (Z1 rfl) (d := 68) (v := (.int .i64 ((i : Int)))) rfl (fun _ H' => (by kernel_rfl)) ?_
   refine Ze 9 rfl (by kernel_rfl) (by kernel_rfl) (by kernel_rfl) (fun _ _ _ h => h) S71 (Z1 rfl) (d := 69) (v := (.pointer (some ⟨g72, o73 + ((i : Int)).toNat * 45, none⟩))) rfl (fun _ H' => (ZZ (E := 55) (by kernel_rfl) (by kernel_rfl) (Nat.le_of_ble_eq_true rfl) rfl e75 rfl (by omega) (by omega))) ?_
   refine Ze 10 rfl (by kernel_rfl) (by kernel_rfl) (by kernel_rfl) (fun _ _ _ h => h) S71 (Z1 rfl) (d := 70) (v := (.pointer (some ⟨g72, o73 + ((i : Int)).toNat * 45 + 4, none⟩))) rfl (fun _ H' => (by kernel_rfl)) ?_
   refine Ze 11 rfl (by kernel_rfl) (by kernel_rfl) (by kernel_rfl) (fun _ _ _ h => h) S71 (Z1 rfl) (d := 71) (v := (.pointer (some ⟨g72, o73 + ((i : Int)).toNat * 45 + 4 + 1, none⟩))) rfl (fun _ H' => (by kernel_rfl)) ?_
   refine Ze 12 rfl (by kernel_rfl) (by kernel_rfl) (by kernel_rfl) (fun _ _ _ h => h) S71 (Z1 rfl) (d := 72) (v := (.int .i64 ((AL.getD i ac0).n.sq))) rfl (fun _ H' => (Zi rfl (by kernel_rfl) (H'.cellR 0 rfl (Z18 R76 5 (by kernel_rfl) (show o73 + ((i : Int)).toNat * 45 + 4 + 1 = o73 + i * 45 + 5 by omega)) (fun h => h)))) ?_
   refine Z6z 6 16 rfl rfl (by kernel_rfl) (Z1 rfl) (Z1 rfl) (fun K77 hK77 => ?_) (fun K77 hK77 => ?_)
   ·refine Zv (d := 66) rfl (by kernel_rfl) (Z1s w69 ((AL.getD i ac0).n.cl) 3 (by omega)) ?_
    rintro _ w78 ⟨rfl, u80⟩
    have H79 := H70.keepU u80
    refine ⟨_, rfl, ?_⟩
    have S81 := H79.pick [0, 1, 2, 3, 4, 5, 6, 7, 8, 9] (by decide)
    refine hK77 _ _ S81 ?_
    clear hK77 K77
    refine Z6z 13 16 rfl rfl (by kernel_rfl) (Z1 rfl) (Z1 rfl) (fun K82 hK82 => ?_) (fun K82 hK82 => ?_)
    ·refine Zv (d := 73) rfl (by kernel_rfl) (Z1s w78 ((AL.getD i ac0).n.sq) 6 (by omega)) ?_
     rintro _ w83 ⟨rfl, u85⟩
     have H84 := H79.keepU u85
     refine ⟨_, rfl, ?_⟩
     have S86 := H84.pick [0, 1, 2, 3, 4, 5, 6, 7, 8, 9] (by decide)
     refine hK82 _ _ S86 ?_
     clear hK82 K82
     refine Ze 14 rfl (by kernel_rfl) (by kernel_rfl) (by kernel_rfl) (fun _ _ _ h => h) S86 (Z1 rfl) (d := 74) (v := (.int .i64 (1 + (Z5 ((AL.getD i ac0).n.sq) 6)))) rfl (fun _ H' => (Z04 (z := 1 + (Z5 ((AL.getD i ac0).n.sq) 6)) (by kernel_rfl) (IntWalk.i64_in _ (by omega)))) ?_
     refine Ze 15 rfl (by kernel_rfl) (by kernel_rfl) (by kernel_rfl) (fun _ _ _ h => h) S86 (Z1 rfl) (d := 75) (v := (.agg ⟨([(.int .i64 (Z5 ((AL.getD i ac0).n.cl) 3)), (.int .i64 (1 + (Z5 ((AL.getD i ac0).n.sq) 6)))] : List Value)⟩)) rfl (fun _ H' => (by kernel_rfl)) ?_
     refine Z0r 16 rfl (by kernel_rfl) (Z1 rfl) (fun K87 hK87 => ?_)
     refine Z0e (zs := ([(.int .i64 (0)), (.int .i64 (0))] : List Value)) (z := (.agg ⟨([(.int .i64 (0)), (.int .i64 (0))] : List Value)⟩)) rfl H84 (by kernel_rfl) (by kernel_rfl) ?_
     intro b88 w89 (H90 : Sat w [Z6 w (fun _ => False), Z3 b2 36 ([(.int .i64 (1)), (.int .i64 (3))] : List Value), Z3 b11 110 ([(.map (some m12))] : List Value), ZC m12 Za (Value.int .i64) (Zq Lb), Z3 r13 98 ([(.slice ra Lr.length rc)] : List Value), Zb 114 2 (.slice ra Lr.length rc) Lr.length (Lr.flatMap Z0q), Z3 b21 40 ([(.pointer (some ⟨b11, 0, none⟩)), (.pointer (some ⟨r13, 0, none⟩))] : List Value), Z3 t30 121 ([(.int .i64 (1)), (.int .i64 (3)), (.int .i64 (0)), (.map (some m31))] : List Value), ZC m31 nmV ceV M, ZI B, Z3 b88 24 ([(.int .i64 (0)), (.int .i64 (0))] : List Value)] w89)
     have S91 := H90.pick [0, 1, 2, 3, 4, 5, 6, 7, 8, 9] (by decide)
     refine hK87 _ _ S91 ?_
     clear hK87 K87
     refine Z0r 17 rfl (by kernel_rfl) (Z1 rfl) (fun K92 hK92 => ?_)
     refine ZU (vs := ([(.int .i64 (Z5 ((AL.getD i ac0).n.cl) 3)), (.int .i64 (1 + (Z5 ((AL.getD i ac0).n.sq) 6)))] : List Value)) (cs' := ([(.int .i64 (Z5 ((AL.getD i ac0).n.cl) 3)), (.int .i64 (1 + (Z5 ((AL.getD i ac0).n.sq) 6)))] : List Value)) rfl H90 10 rfl rfl rfl rfl (by kernel_rfl) (Nat.le_of_ble_eq_true (by kernel_rfl)) (Nat.le_of_ble_eq_true (by kernel_rfl)) (by kernel_rfl) (by kernel_rfl) ?_
     intro w93 (H94 : Sat w [Z6 w (fun _ => False), Z3 b2 36 ([(.int .i64 (1)), (.int .i64 (3))] : List Value), Z3 b11 110 ([(.map (some m12))] : List Value), ZC m12 Za (Value.int .i64) (Zq Lb), Z3 r13 98 ([(.slice ra Lr.length rc)] : List Value), Zb 114 2 (.slice ra Lr.length rc) Lr.length (Lr.flatMap Z0q), Z3 b21 40 ([(.pointer (some ⟨b11, 0, none⟩)), (.pointer (some ⟨r13, 0, none⟩))] : List Value), Z3 t30 121 ([(.int .i64 (1)), (.int .i64 (3)), (.int .i64 (0)), (.map (some m31))] : List Value), ZC m31 nmV ceV M, ZI B, Z3 b88 24 ([(.int .i64 (Z5 ((AL.getD i ac0).n.cl) 3)), (.int .i64 (1 + (Z5 ((AL.getD i ac0).n.sq) 6)))] : List Value)] w93)
     have S96 := H94.pick [0, 1, 2, 3, 4, 5, 6, 7, 8, 9] (by decide)
     refine hK92 _ _ S96 ?_
     clear hK92 K92
     refine Z0C (by kernel_rfl) ?_
     refine Z4 ?_
     refine Z0k H94 [Z6 w (fun _ => False), Z3 b2 36 ([(.int .i64 (1)), (.int .i64 (3))] : List Value), Z3 b21 40 ([(.pointer (some ⟨b11, 0, none⟩)), (.pointer (some ⟨r13, 0, none⟩))] : List Value), Z3 b88 24 ([(.int .i64 (Z5 ((AL.getD i ac0).n.cl) 3)), (.int .i64 (1 + (Z5 ((AL.getD i ac0).n.sq) 6)))] : List Value)] 20 rfl (by kernel_rfl) (fun Hx => (Hx.pick [0, 1, 6, 10] (by decide))) ?_
     intro w97 H98 S99
     refine Ze 0 rfl (by kernel_rfl) (by kernel_rfl) (by kernel_rfl) (fun _ _ _ h => h) S99 (Z1 rfl) (d := 76) (v := (.pointer (some ⟨t30, 0, none⟩))) rfl (fun _ H' => (by kernel_rfl)) ?_
     refine Ze 1 rfl (by kernel_rfl) (by kernel_rfl) (by kernel_rfl) (fun _ _ _ h => h) S99 (Z1 rfl) (d := 77) (v := (.pointer (some ⟨b21, 0, none⟩))) rfl (fun _ H' => (by kernel_rfl)) ?_
     refine Ze 2 rfl (by kernel_rfl) (by kernel_rfl) (by kernel_rfl) (fun _ _ _ h => h) S99 (Z1 rfl) (d := 78) (v := (.pointer (some ⟨b11, 0, none⟩))) rfl (fun _ H' => (Zi rfl (by kernel_rfl) (H'.cell 2 rfl rfl))) ?_
     refine Ze 3 rfl (by kernel_rfl) (by kernel_rfl) (by kernel_rfl) (fun _ _ _ h => h) S99 (Z1 rfl) (d := 79) (v := (.agg ⟨([(.pointer (some ⟨b11, 0, none⟩)), (.pointer (some ⟨r13, 0, none⟩))] : List Value)⟩)) rfl (fun _ H' => (ZB (vs := ([(.pointer (some ⟨b11, 0, none⟩)), (.pointer (some ⟨r13, 0, none⟩))] : List Value)) rfl (by kernel_rfl) (by kernel_rfl) (by exact Nat.le_of_ble_eq_true (by kernel_rfl)) (H'.at 2 rfl) (by kernel_rfl))) ?_
     refine Ze 4 rfl (by kernel_rfl) (by kernel_rfl) (by kernel_rfl) (fun _ _ _ h => h) S99 (Z1 rfl) (d := 80) (v := (.agg ⟨([(.int .i64 (1)), (.int .i64 (3))] : List Value)⟩)) rfl (fun _ H' => (ZB (vs := ([(.int .i64 (1)), (.int .i64 (3))] : List Value)) rfl (by kernel_rfl) (by kernel_rfl) (by exact Nat.le_of_ble_eq_true (by kernel_rfl)) (H'.at 1 rfl) (by kernel_rfl))) ?_
     refine Ze 5 rfl (by kernel_rfl) (by kernel_rfl) (by kernel_rfl) (fun _ _ _ h => h) S99 (Z1 rfl) (d := 81) (v := (.agg ⟨([(.pointer (some ⟨b11, 0, none⟩)), (.pointer (some ⟨r13, 0, none⟩))] : List Value)⟩)) rfl (fun _ H' => (ZB (vs := ([(.pointer (some ⟨b11, 0, none⟩)), (.pointer (some ⟨r13, 0, none⟩))] : List Value)) rfl (by kernel_rfl) (by kernel_rfl) (by exact Nat.le_of_ble_eq_true (by kernel_rfl)) (H'.at 2 rfl) (by kernel_rfl))) ?_
     refine Ze 6 rfl (by kernel_rfl) (by kernel_rfl) (by kernel_rfl) (fun _ _ _ h => h) S99 (Z1 rfl) (d := 82) (v := (.agg ⟨([(.int .i64 (Z5 ((AL.getD i ac0).n.cl) 3)), (.int .i64 (1 + (Z5 ((AL.getD i ac0).n.sq) 6)))] : List Value)⟩)) rfl (fun _ H' => (ZB (vs := ([(.int .i64 (Z5 ((AL.getD i ac0).n.cl) 3)), (.int .i64 (1 + (Z5 ((AL.getD i ac0).n.sq) 6)))] : List Value)) rfl (by kernel_rfl) (by kernel_rfl) (by exact Nat.le_of_ble_eq_true (by kernel_rfl)) (H'.at 3 rfl) (by kernel_rfl))) ?_
     refine Ze 8 rfl (by kernel_rfl) (by kernel_rfl) (by kernel_rfl) (fun _ _ _ h => h) S99 (Z1 rfl) (d := 84) (v := (.slice aa AL.length ac)) rfl (fun _ H' => (by kernel_rfl)) ?_
     refine Ze 9 rfl (by kernel_rfl) (by kernel_rfl) (by kernel_rfl) (fun _ _ _ h => h) S99 (Z1 rfl) (d := 85) (v := (.int .i64 ((i : Int)))) rfl (fun _ H' => (by kernel_rfl)) ?_
     refine Ze 10 rfl (by kernel_rfl) (by kernel_rfl) (by kernel_rfl) (fun _ _ _ h => h) S99 (Z1 rfl) (d := 86) (v := (.pointer (some ⟨g72, o73 + ((i : Int)).toNat * 45, none⟩))) rfl (fun _ H' => (ZZ (E := 55) (by kernel_rfl) (by kernel_rfl) (Nat.le_of_ble_eq_true rfl) rfl e75 rfl (by omega) (by omega))) ?_
     refine Ze 11 rfl (by kernel_rfl) (by kernel_rfl) (by kernel_rfl) (fun _ _ _ h => h) S99 (Z1 rfl) (d := 87) (v := (.pointer (some ⟨g72, o73 + ((i : Int)).toNat * 45 + 1, none⟩))) rfl (fun _ H' => (by kernel_rfl)) ?_
     refine Ze 12 rfl (by kernel_rfl) (by kernel_rfl) (by kernel_rfl) (fun _ _ _ h => h) S99 (Z1 rfl) (d := 88) (v := (.int .i64 ((AL.getD i ac0).f))) rfl (fun _ H' => (Zi rfl (by kernel_rfl) (H'.cellR 0 rfl (Z18 R76 1 (by kernel_rfl) (show o73 + ((i : Int)).toNat * 45 + 1 = o73 + i * 45 + 1 by omega)) (fun h => h)))) ?_
     refine Ze 13 rfl (by kernel_rfl) (by kernel_rfl) (by kernel_rfl) (fun _ _ _ h => h) S99 (Z1 rfl) (d := 89) (v := (.slice aa AL.length ac)) rfl (fun _ H' => (by kernel_rfl)) ?_
     refine Ze 14 rfl (by kernel_rfl) (by kernel_rfl) (by kernel_rfl) (fun _ _ _ h => h) S99 (Z1 rfl) (d := 90) (v := (.int .i64 ((i : Int)))) rfl (fun _ H' => (by kernel_rfl)) ?_
     refine Ze 15 rfl (by kernel_rfl) (by kernel_rfl) (by kernel_rfl) (fun _ _ _ h => h) S99 (Z1 rfl) (d := 91) (v := (.pointer (some ⟨g72, o73 + ((i : Int)).toNat * 45, none⟩))) rfl (fun _ H' => (ZZ (E := 55) (by kernel_rfl) (by kernel_rfl) (Nat.le_of_ble_eq_true rfl) rfl e75 rfl (by omega) (by omega))) ?_
     refine Ze 16 rfl (by kernel_rfl) (by kernel_rfl) (by kernel_rfl) (fun _ _ _ h => h) S99 (Z1 rfl) (d := 92) (v := (.pointer (some ⟨g72, o73 + ((i : Int)).toNat * 45 + 6, none⟩))) rfl (fun _ H' => (by kernel_rfl)) ?_
     refine Ze 17 rfl (by kernel_rfl) (by kernel_rfl) (by kernel_rfl) (fun _ _ _ h => h) S99 (Z1 rfl) (d := 93) (v := (.slice (AL.getD i ac0).ta ((AL.getD i ac0).xs).length (AL.getD i ac0).tc)) rfl (fun _ H' => (Zi rfl (by kernel_rfl) (H'.cellR 0 rfl (Z18 R76 6 (by kernel_rfl) (show o73 + ((i : Int)).toNat * 45 + 6 = o73 + i * 45 + 6 by omega)) (fun h => h)))) ?_
     refine Z0r 7 rfl (by kernel_rfl) (Z1 rfl) (fun K100 hK100 => ?_)
     refine Zv (d := 83) rfl (by kernel_rfl) (Z1Z w97 b11 m12 r13 ra rc Lb Lr (H98.fin [2, 3, 4, 5] (by decide) rfl) (Z5 ((AL.getD i ac0).n.cl) 3) (1 + (Z5 ((AL.getD i ac0).n.sq) 6)) (by omega) (by omega) (by omega) (by omega) hnb hnr) ?_
     rintro _ w101 ⟨a102, c103, rfl, T104⟩
     obtain ⟨L106, hL106⟩ : ∃ L106 : List Signed, L106 = Zg Lb (yC (Z5 ((AL.getD i ac0).n.cl) 3) (1 + (Z5 ((AL.getD i ac0).n.sq) 6)) Zo []) := ⟨_, rfl⟩
     obtain ⟨L107, hL107⟩ : ∃ L107 : List Signed, L107 = Zg Lr (yC (Z5 ((AL.getD i ac0).n.cl) 3) (1 + (Z5 ((AL.getD i ac0).n.sq) 6)) Zo []) := ⟨_, rfl⟩
     rw [← hL106, ← hL107] at T104
     have H108 : Sat w [Z6 w (fun _ => False), Z3 b2 36 ([(.int .i64 (1)), (.int .i64 (3))] : List Value), Z3 b11 110 ([(.map (some m12))] : List Value), ZC m12 Za (Value.int .i64) (Zq L106), Z3 r13 98 ([(.slice a102 L107.length c103)] : List Value), Zb 114 2 (.slice a102 L107.length c103) L107.length (L107.flatMap Z0q), Z3 b21 40 ([(.pointer (some ⟨b11, 0, none⟩)), (.pointer (some ⟨r13, 0, none⟩))] : List Value), Z3 t30 121 ([(.int .i64 (1)), (.int .i64 (3)), (.int .i64 (0)), (.map (some m31))] : List Value), ZC m31 nmV ceV M, ZI B, Z3 b88 24 ([(.int .i64 (Z5 ((AL.getD i ac0).n.cl) 3)), (.int .i64 (1 + (Z5 ((AL.getD i ac0).n.sq) 6)))] : List Value)] w101 := (Sat.turnL (L' := [Z3 b11 110 ([(.map (some m12))] : List Value), ZC m12 Za (Value.int .i64) (Zq L106), Z3 r13 98 ([(.slice a102 L107.length c103)] : List Value), Zb 114 2 (.slice a102 L107.length c103) L107.length (L107.flatMap Z0q)]) (R := [Z6 w (fun _ => False), Z3 b2 36 ([(.int .i64 (1)), (.int .i64 (3))] : List Value), Z3 b21 40 ([(.pointer (some ⟨b11, 0, none⟩)), (.pointer (some ⟨r13, 0, none⟩))] : List Value), Z3 t30 121 ([(.int .i64 (1)), (.int .i64 (3)), (.int .i64 (0)), (.map (some m31))] : List Value), ZC m31 nmV ceV M, ZI B, Z3 b88 24 ([(.int .i64 (Z5 ((AL.getD i ac0).n.cl) 3)), (.int .i64 (1 + (Z5 ((AL.getD i ac0).n.sq) 6)))] : List Value)]) H98 [2, 3, 4, 5] [0, 1, 6, 7, 8, 9, 10] (by decide) (by kernel_rfl) rfl T104).pick [4, 5, 0, 1, 2, 3, 6, 7, 8, 9, 10] (by decide)
     have ndL106 : L106.Nodup := by rw [hL106]; exact Z0v hnb _
     have llL106 : L106.length ≤ Lb.length + 1 := by rw [hL106]; exact Z0w _ _
     have ndL107 : L107.Nodup := by rw [hL107]; exact Z0v hnr _
     have llL107 : L107.length ≤ Lr.length + 1 := by rw [hL107]; exact Z0w _ _
     refine ⟨_, rfl, ?_⟩
     obtain ⟨Y105, hY105⟩ : ∃ Y105 : Zn, Y105 = mkC Lb (Z5 ((AL.getD i ac0).n.cl) 3) (1 + (Z5 ((AL.getD i ac0).n.sq) 6)) Zo [] := ⟨_, rfl⟩
     rw [← hY105]
     have coY105 : CoB Y105 := by
      have q1 := (Z1u (Z1L Lb (yC (Z5 ((AL.getD i ac0).n.cl) 3) (1 + (Z5 ((AL.getD i ac0).n.sq) 6)) Zo []))).2
      have q2 := Z0w Lb (yC (Z5 ((AL.getD i ac0).n.cl) 3) (1 + (Z5 ((AL.getD i ac0).n.sq) 6)) Zo [])
      rw [hY105]
      exact ⟨⟨by show (Z5 ((AL.getD i ac0).n.cl) 3) ≤ _; omega, by show (1 + (Z5 ((AL.getD i ac0).n.sq) 6)) ≤ _; omega, by show ((0 : Nat) : Int) ≤ _; omega⟩, by show 1000 + (Z5 ((AL.getD i ac0).n.cl) 3) ≤ _; omega, by show Zt _ _ ≤ _; omega⟩
     have S109 := H108.pick [0, 1, 6, 10] (by decide)
     refine hK100 _ _ S109 ?_
     clear hK100 K100
     refine Z0r 18 rfl (by kernel_rfl) (Z1 rfl) (fun K110 hK110 => ?_)
     refine Zv (d := 94) rfl (by kernel_rfl) (Z3G w101 b11 m12 r13 L106 (H108.fin [2, 3] (by decide) rfl) 1 3 (by omega) Y105 coY105.1 ((AL.getD i ac0).f) (by omega) ndL106 (AL.getD i ac0).ta (AL.getD i ac0).tc ((AL.getD i ac0).xs) (ListAt.now H108 0 rfl (hAc _ (Z1a (by omega))).xs) (hAc _ (Z1a (by omega))).b (Z3w Z1p (by decide) H108 [2, 3] 0 rfl rfl (by decide) (hAc _ (Z1a (by omega))).xs)) ?_
     rintro _ w111 ⟨L112, a113, c114, D115, rfl, l116, k117, n118, l119, T120⟩
     have H121 : Sat w [Z6 w (fun _ => False), Z3 b2 36 ([(.int .i64 (1)), (.int .i64 (3))] : List Value), Z3 b11 110 ([(.map (some m12))] : List Value), ZC m12 Za (Value.int .i64) (Zq L112), Z3 r13 98 ([(.slice a102 L107.length c103)] : List Value), Zb 114 2 (.slice a102 L107.length c103) L107.length (L107.flatMap Z0q), Z3 b21 40 ([(.pointer (some ⟨b11, 0, none⟩)), (.pointer (some ⟨r13, 0, none⟩))] : List Value), Z3 t30 121 ([(.int .i64 (1)), (.int .i64 (3)), (.int .i64 (0)), (.map (some m31))] : List Value), ZC m31 nmV ceV M, ZI B, Z3 b88 24 ([(.int .i64 (Z5 ((AL.getD i ac0).n.cl) 3)), (.int .i64 (1 + (Z5 ((AL.getD i ac0).n.sq) 6)))] : List Value), Zb 101 38 (.slice a113 D115.length c114) D115.length (D115.flatMap Z0l)] w111 := (Sat.turnL (L' := [Z3 b11 110 ([(.map (some m12))] : List Value), ZC m12 Za (Value.int .i64) (Zq L112), Zb 101 38 (.slice a113 D115.length c114) D115.length (D115.flatMap Z0l)]) (R := [Z6 w (fun _ => False), Z3 b2 36 ([(.int .i64 (1)), (.int .i64 (3))] : List Value), Z3 r13 98 ([(.slice a102 L107.length c103)] : List Value), Zb 114 2 (.slice a102 L107.length c103) L107.length (L107.flatMap Z0q), Z3 b21 40 ([(.pointer (some ⟨b11, 0, none⟩)), (.pointer (some ⟨r13, 0, none⟩))] : List Value), Z3 t30 121 ([(.int .i64 (1)), (.int .i64 (3)), (.int .i64 (0)), (.map (some m31))] : List Value), ZC m31 nmV ceV M, ZI B, Z3 b88 24 ([(.int .i64 (Z5 ((AL.getD i ac0).n.cl) 3)), (.int .i64 (1 + (Z5 ((AL.getD i ac0).n.sq) 6)))] : List Value)]) H108 [2, 3] [0, 1, 4, 5, 6, 7, 8, 9, 10] (by decide) (by kernel_rfl) rfl T120).pick [3, 4, 0, 1, 5, 6, 7, 8, 9, 10, 11, 2] (by decide)
     have H122 : Sat w [ZI (stC (⟨Y105, a113, c114, D115⟩ : CeR) :: B), Z6 w (fun _ => False), Z3 b2 36 ([(.int .i64 (1)), (.int .i64 (3))] : List Value), Z3 b11 110 ([(.map (some m12))] : List Value), ZC m12 Za (Value.int .i64) (Zq L112), Z3 r13 98 ([(.slice a102 L107.length c103)] : List Value), Zb 114 2 (.slice a102 L107.length c103) L107.length (L107.flatMap Z0q), Z3 b21 40 ([(.pointer (some ⟨b11, 0, none⟩)), (.pointer (some ⟨r13, 0, none⟩))] : List Value), Z3 t30 121 ([(.int .i64 (1)), (.int .i64 (3)), (.int .i64 (0)), (.map (some m31))] : List Value), ZC m31 nmV ceV M, Z3 b88 24 ([(.int .i64 (Z5 ((AL.getD i ac0).n.cl) 3)), (.int .i64 (1 + (Z5 ((AL.getD i ac0).n.sq) 6)))] : List Value)] w111 := (H121.pick [9, 11, 0, 1, 2, 3, 4, 5, 6, 7, 8, 10] (by decide)).bag
     have H123 : Sat w [Z6 w (fun _ => False), Z3 b2 36 ([(.int .i64 (1)), (.int .i64 (3))] : List Value), Z3 b11 110 ([(.map (some m12))] : List Value), ZC m12 Za (Value.int .i64) (Zq L112), Z3 r13 98 ([(.slice a102 L107.length c103)] : List Value), Zb 114 2 (.slice a102 L107.length c103) L107.length (L107.flatMap Z0q), Z3 b21 40 ([(.pointer (some ⟨b11, 0, none⟩)), (.pointer (some ⟨r13, 0, none⟩))] : List Value), Z3 t30 121 ([(.int .i64 (1)), (.int .i64 (3)), (.int .i64 (0)), (.map (some m31))] : List Value), ZC m31 nmV ceV M, ZI (stC (⟨Y105, a113, c114, D115⟩ : CeR) :: B), Z3 b88 24 ([(.int .i64 (Z5 ((AL.getD i ac0).n.cl) 3)), (.int .i64 (1 + (Z5 ((AL.getD i ac0).n.sq) 6)))] : List Value)] w111 := H122.pick [1, 2, 3, 4, 5, 6, 7, 8, 9, 0, 10] (by decide)
     refine ⟨_, rfl, ?_⟩
     have x124 : CeT (stC (⟨Y105, a113, c114, D115⟩ : CeR) :: B) (⟨Y105, a113, c114, D115⟩ : CeR) := ⟨coY105, (fun i hi => k117 _ (Z38 hi)), (by show D115.length ≤ 12; omega), List.mem_cons_self⟩
     have S125 := H123.pick [0, 1, 6, 10] (by decide)
     refine hK110 _ _ S125 ?_
     clear hK110 K110
     refine Z0r 19 rfl (by kernel_rfl) (Z1 rfl) (fun K126 hK126 => ?_)
     refine Zv (d := 95) rfl (by kernel_rfl) (Z39 w111 t30 m31 1 3 0 M (stC (⟨Y105, a113, c114, D115⟩ : CeR) :: B) b11 m12 L112 (H123.fin [7, 8, 9, 2, 3] (by decide) rfl) (hM.more _).T (by omega) (by omega) n118 (by omega) (by omega) 0 (⟨Y105, a113, c114, D115⟩ : CeR) x124) ?_
     rintro _ w127 ⟨s128, r129, M130, B131, L132, rfl, e133, z134, z135, d136, T137⟩
     have H139 : Sat w [Z6 w (fun _ => False), Z3 b2 36 ([(.int .i64 (1)), (.int .i64 (3))] : List Value), Z3 b11 110 ([(.map (some m12))] : List Value), ZC m12 Za (Value.int .i64) (Zq L132), Z3 r13 98 ([(.slice a102 L107.length c103)] : List Value), Zb 114 2 (.slice a102 L107.length c103) L107.length (L107.flatMap Z0q), Z3 b21 40 ([(.pointer (some ⟨b11, 0, none⟩)), (.pointer (some ⟨r13, 0, none⟩))] : List Value), Z3 t30 121 ([(.int .i64 (1)), (.int .i64 (3)), (.int .i64 (0)), (.map (some m31))] : List Value), ZC m31 nmV ceV M130, ZI B131, Z3 b88 24 ([(.int .i64 (Z5 ((AL.getD i ac0).n.cl) 3)), (.int .i64 (1 + (Z5 ((AL.getD i ac0).n.sq) 6)))] : List Value)] w127 := (Sat.turnL (L' := [Z3 t30 121 ([(.int .i64 (1)), (.int .i64 (3)), (.int .i64 (0)), (.map (some m31))] : List Value), ZC m31 nmV ceV M130, ZI B131, Z3 b11 110 ([(.map (some m12))] : List Value), ZC m12 Za (Value.int .i64) (Zq L132)]) (R := [Z6 w (fun _ => False), Z3 b2 36 ([(.int .i64 (1)), (.int .i64 (3))] : List Value), Z3 r13 98 ([(.slice a102 L107.length c103)] : List Value), Zb 114 2 (.slice a102 L107.length c103) L107.length (L107.flatMap Z0q), Z3 b21 40 ([(.pointer (some ⟨b11, 0, none⟩)), (.pointer (some ⟨r13, 0, none⟩))] : List Value), Z3 b88 24 ([(.int .i64 (Z5 ((AL.getD i ac0).n.cl) 3)), (.int .i64 (1 + (Z5 ((AL.getD i ac0).n.sq) 6)))] : List Value)]) H123 [7, 8, 9, 2, 3] [0, 1, 4, 5, 6, 10] (by decide) (by kernel_rfl) rfl T137).pick [5, 6, 3, 4, 7, 8, 9, 0, 1, 2, 10] (by decide)
     refine ⟨_, rfl, ?_⟩
     have k138 := (hM.more (stC (⟨Y105, a113, c114, D115⟩ : CeR))).took x124 d136
     have ndL132 : L132.Nodup ∧ L132.length ≤ L112.length + 1 := by
      by_cases q : r129 = 0
      ·rw [(z134 q).2]; exact ⟨Z0v n118 _, Z0w _ _⟩
      ·rw [z135 q]; exact ⟨n118, Nat.le_succ _⟩
     have S140 := H139.pick [0, 1, 6, 10] (by decide)
     refine hK126 _ _ S140 ?_
     clear hK126 K126
     refine Z0C (by kernel_rfl) ?_
     refine ZL ?_
     refine Z4 ?_
     refine Zp ?_
     refine Z2 (Z1 rfl) (d := 58) (v := (.int .i64 ((i : Int)))) rfl (by kernel_rfl) ?_
     refine Z2 (Z1 rfl) (d := 59) (v := (.int .i64 ((i : Int) + 1))) rfl (Z04 (z := (i : Int) + 1) (by kernel_rfl) (IntWalk.i64_in _ (by omega))) ?_
     refine Z2 (Z1 rfl) (d := 14) (v := (.int .i64 ((i : Int) + 1))) rfl (by kernel_rfl) ?_
     refine Zm ?_
     have H141 : Sat w [Z6 w (fun _ => False), Z3 b2 36 ([(.int .i64 (1)), (.int .i64 (3))] : List Value), Z3 b11 110 ([(.map (some m12))] : List Value), ZC m12 Za (Value.int .i64) (Zq L132), Z3 r13 98 ([(.slice a102 L107.length c103)] : List Value), Zb 114 2 (.slice a102 L107.length c103) L107.length (L107.flatMap Z0q), Z3 b21 40 ([(.pointer (some ⟨b11, 0, none⟩)), (.pointer (some ⟨r13, 0, none⟩))] : List Value), Z3 t30 121 ([(.int .i64 (1)), (.int .i64 (3)), (.int .i64 (0)), (.map (some m31))] : List Value), ZC m31 nmV ceV M130, ZI B131] w127 := H139.pick [0, 1, 2, 3, 4, 5, 6, 7, 8, 9] (by decide)
     refine ZM ?_ _ ⟨(i + 1), M130, B131, L132, L107, a102, c103, (show ((.int .i64 ((i : Int) + 1)) : Value) = _ by first | rfl | go_num), (by omega), (by omega), k138.1, (by have q := k138.2; omega), ndL132.1, ndL107, (by have q := ndL132.2; omega), (by omega), H141, rfl⟩ (by omega)
     exact (Z0 rfl (Z0 rfl (Z0 rfl (Z0 rfl (Z0 rfl (Z0 rfl (Z0 rfl (Z0 rfl (Z0 rfl (Z0 rfl (Z0 rfl (Z0 rfl (Z0 rfl (Z0 rfl (Z0 rfl (Z0 rfl (Z0 rfl (Z0 rfl (Z0 rfl (Z0 rfl (Z0 rfl (Z0 rfl (Z0 rfl (Z0 rfl (Z0 rfl (Z0 rfl (Z0 rfl (Z0 rfl (Z0 rfl (Z0 rfl (Z0 rfl (Z0 rfl (Z0 rfl (Z0 rfl (Z0 rfl (Z0 rfl (Z0 rfl (Z0 rfl (Z0 rfl (Z0 rfl (Z0 rfl (Z0 rfl (Z17 rfl (Z0 rfl (Z06)))))))))))))))))))))))))))))))))))))))))))))
    ·refine Z0e (zs := ([(.int .i64 (0)), (.int .i64 (0))] : List Value)) (z := (.agg ⟨([(.int .i64 (0)), (.int .i64 (0))] : List Value)⟩)) rfl H79 (by kernel_rfl) (by kernel_rfl) ?_
     intro b142 w143 (H144 : Sat w [Z6 w (fun _ => False), Z3 b2 36 ([(.int .i64 (1)), (.int .i64 (3))] : List Value), Z3 b11 110 ([(.map (some m12))] : List Value), ZC m12 Za (Value.int .i64) (Zq Lb), Z3 r13 98 ([(.slice ra Lr.length rc)] : List Value), Zb 114 2 (.slice ra Lr.length rc) Lr.length (Lr.flatMap Z0q), Z3 b21 40 ([(.pointer (some ⟨b11, 0, none⟩)), (.pointer (some ⟨r13, 0, none⟩))] : List Value), Z3 t30 121 ([(.int .i64 (1)), (.int .i64 (3)), (.int .i64 (0)), (.map (some m31))] : List Value), ZC m31 nmV ceV M, ZI B, Z3 b142 24 ([(.int .i64 (0)), (.int .i64 (0))] : List Value)] w143)
     have S145 := H144.pick [0, 1, 2, 3, 4, 5, 6, 7, 8, 9] (by decide)
     refine hK82 _ _ S145 ?_
     clear hK82 K82
     refine Z0r 13 rfl (by kernel_rfl) (Z1 rfl) (fun K146 hK146 => ?_)
     refine Zv (d := 73) rfl (by kernel_rfl) (Z1s w143 ((AL.getD i ac0).n.sq) 6 (by omega)) ?_
     rintro _ w147 ⟨rfl, u149⟩
     have H148 := H144.keepU u149
     refine ⟨_, rfl, ?_⟩
     have S150 := H148.pick [0, 1, 2, 3, 4, 5, 6, 7, 8, 9] (by decide)
     refine hK146 _ _ S150 ?_
     clear hK146 K146
     refine Ze 14 rfl (by kernel_rfl) (by kernel_rfl) (by kernel_rfl) (fun _ _ _ h => h) S150 (Z1 rfl) (d := 74) (v := (.int .i64 (1 + (Z5 ((AL.getD i ac0).n.sq) 6)))) rfl (fun _ H' => (Z04 (z := 1 + (Z5 ((AL.getD i ac0).n.sq) 6)) (by kernel_rfl) (IntWalk.i64_in _ (by omega)))) ?_
     refine Ze 15 rfl (by kernel_rfl) (by kernel_rfl) (by kernel_rfl) (fun _ _ _ h => h) S150 (Z1 rfl) (d := 75) (v := (.agg ⟨([(.int .i64 (Z5 ((AL.getD i ac0).n.cl) 3)), (.int .i64 (1 + (Z5 ((AL.getD i ac0).n.sq) 6)))] : List Value)⟩)) rfl (fun _ H' => (by kernel_rfl)) ?_
     refine Z0r 17 rfl (by kernel_rfl) (Z1 rfl) (fun K151 hK151 => ?_)
     refine ZU (vs := ([(.int .i64 (Z5 ((AL.getD i ac0).n.cl) 3)), (.int .i64 (1 + (Z5 ((AL.getD i ac0).n.sq) 6)))] : List Value)) (cs' := ([(.int .i64 (Z5 ((AL.getD i ac0).n.cl) 3)), (.int .i64 (1 + (Z5 ((AL.getD i ac0).n.sq) 6)))] : List Value)) rfl H148 10 rfl rfl rfl rfl (by kernel_rfl) (Nat.le_of_ble_eq_true (by kernel_rfl)) (Nat.le_of_ble_eq_true (by kernel_rfl)) (by kernel_rfl) (by kernel_rfl) ?_
     intro w152 (H153 : Sat w [Z6 w (fun _ => False), Z3 b2 36 ([(.int .i64 (1)), (.int .i64 (3))] : List Value), Z3 b11 110 ([(.map (some m12))] : List Value), ZC m12 Za (Value.int .i64) (Zq Lb), Z3 r13 98 ([(.slice ra Lr.length rc)] : List Value), Zb 114 2 (.slice ra Lr.length rc) Lr.length (Lr.flatMap Z0q), Z3 b21 40 ([(.pointer (some ⟨b11, 0, none⟩)), (.pointer (some ⟨r13, 0, none⟩))] : List Value), Z3 t30 121 ([(.int .i64 (1)), (.int .i64 (3)), (.int .i64 (0)), (.map (some m31))] : List Value), ZC m31 nmV ceV M, ZI B, Z3 b142 24 ([(.int .i64 (Z5 ((AL.getD i ac0).n.cl) 3)), (.int .i64 (1 + (Z5 ((AL.getD i ac0).n.sq) 6)))] : List Value)] w152)
     have S155 := H153.pick [0, 1, 2, 3, 4, 5, 6, 7, 8, 9] (by decide)
     refine hK151 _ _ S155 ?_
     clear hK151 K151
     refine Z0C (by kernel_rfl) ?_
     refine Z4 ?_
     refine Z0k H153 [Z6 w (fun _ => False), Z3 b2 36 ([(.int .i64 (1)), (.int .i64 (3))] : List Value), Z3 b21 40 ([(.pointer (some ⟨b11, 0, none⟩)), (.pointer (some ⟨r13, 0, none⟩))] : List Value), Z3 b142 24 ([(.int .i64 (Z5 ((AL.getD i ac0).n.cl) 3)), (.int .i64 (1 + (Z5 ((AL.getD i ac0).n.sq) 6)))] : List Value)] 20 rfl (by kernel_rfl) (fun Hx => (Hx.pick [0, 1, 6, 10] (by decide))) ?_
     intro w156 H157 S158
     refine Ze 0 rfl (by kernel_rfl) (by kernel_rfl) (by kernel_rfl) (fun _ _ _ h => h) S158 (Z1 rfl) (d := 76) (v := (.pointer (some ⟨t30, 0, none⟩))) rfl (fun _ H' => (by kernel_rfl)) ?_
     refine Ze 1 rfl (by kernel_rfl) (by kernel_rfl) (by kernel_rfl) (fun _ _ _ h => h) S158 (Z1 rfl) (d := 77) (v := (.pointer (some ⟨b21, 0, none⟩))) rfl (fun _ H' => (by kernel_rfl)) ?_
     refine Ze 2 rfl (by kernel_rfl) (by kernel_rfl) (by kernel_rfl) (fun _ _ _ h => h) S158 (Z1 rfl) (d := 78) (v := (.pointer (some ⟨b11, 0, none⟩))) rfl (fun _ H' => (Zi rfl (by kernel_rfl) (H'.cell 2 rfl rfl))) ?_
     refine Ze 3 rfl (by kernel_rfl) (by kernel_rfl) (by kernel_rfl) (fun _ _ _ h => h) S158 (Z1 rfl) (d := 79) (v := (.agg ⟨([(.pointer (some ⟨b11, 0, none⟩)), (.pointer (some ⟨r13, 0, none⟩))] : List Value)⟩)) rfl (fun _ H' => (ZB (vs := ([(.pointer (some ⟨b11, 0, none⟩)), (.pointer (some ⟨r13, 0, none⟩))] : List Value)) rfl (by kernel_rfl) (by kernel_rfl) (by exact Nat.le_of_ble_eq_true (by kernel_rfl)) (H'.at 2 rfl) (by kernel_rfl))) ?_
     refine Ze 4 rfl (by kernel_rfl) (by kernel_rfl) (by kernel_rfl) (fun _ _ _ h => h) S158 (Z1 rfl) (d := 80) (v := (.agg ⟨([(.int .i64 (1)), (.int .i64 (3))] : List Value)⟩)) rfl (fun _ H' => (ZB (vs := ([(.int .i64 (1)), (.int .i64 (3))] : List Value)) rfl (by kernel_rfl) (by kernel_rfl) (by exact Nat.le_of_ble_eq_true (by kernel_rfl)) (H'.at 1 rfl) (by kernel_rfl))) ?_
     refine Ze 5 rfl (by kernel_rfl) (by kernel_rfl) (by kernel_rfl) (fun _ _ _ h => h) S158 (Z1 rfl) (d := 81) (v := (.agg ⟨([(.pointer (some ⟨b11, 0, none⟩)), (.pointer (some ⟨r13, 0, none⟩))] : List Value)⟩)) rfl (fun _ H' => (ZB (vs := ([(.pointer (some ⟨b11, 0, none⟩)), (.pointer (some ⟨r13, 0, none⟩))] : List Value)) rfl (by kernel_rfl) (by kernel_rfl) (by exact Nat.le_of_ble_eq_true (by kernel_rfl)) (H'.at 2 rfl) (by kernel_rfl))) ?_
     refine Ze 6 rfl (by kernel_rfl) (by kernel_rfl) (by kernel_rfl) (fun _ _ _ h => h) S158 (Z1 rfl) (d := 82) (v := (.agg ⟨([(.int .i64 (Z5 ((AL.getD i ac0).n.cl) 3)), (.int .i64 (1 + (Z5 ((AL.getD i ac0).n.sq) 6)))] : List Value)⟩)) rfl (fun _ H' => (ZB (vs := ([(.int .i64 (Z5 ((AL.getD i ac0).n.cl) 3)), (.int .i64 (1 + (Z5 ((AL.getD i ac0).n.sq) 6)))] : List Value)) rfl (by kernel_rfl) (by kernel_rfl) (by exact Nat.le_of_ble_eq_true (by kernel_rfl)) (H'.at 3 rfl) (by kernel_rfl))) ?_
     refine Ze 8 rfl (by kernel_rfl) (by kernel_rfl) (by kernel_rfl) (fun _ _ _ h => h) S158 (Z1 rfl) (d := 84) (v := (.slice aa AL.length ac)) rfl (fun _ H' => (by kernel_rfl)) ?_
     refine Ze 9 rfl (by kernel_rfl) (by kernel_rfl) (by kernel_rfl) (fun _ _ _ h => h) S158 (Z1 rfl) (d := 85) (v := (.int .i64 ((i : Int)))) rfl (fun _ H' => (by kernel_rfl)) ?_
     refine Ze 10 rfl (by kernel_rfl) (by kernel_rfl) (by kernel_rfl) (fun _ _ _ h => h) S158 (Z1 rfl) (d := 86) (v := (.pointer (some ⟨g72, o73 + ((i : Int)).toNat * 45, none⟩))) rfl (fun _ H' => (ZZ (E := 55) (by kernel_rfl) (by kernel_rfl) (Nat.le_of_ble_eq_true rfl) rfl e75 rfl (by omega) (by omega))) ?_
     refine Ze 11 rfl (by kernel_rfl) (by kernel_rfl) (by kernel_rfl) (fun _ _ _ h => h) S158 (Z1 rfl) (d := 87) (v := (.pointer (some ⟨g72, o73 + ((i : Int)).toNat * 45 + 1, none⟩))) rfl (fun _ H' => (by kernel_rfl)) ?_
     refine Ze 12 rfl (by kernel_rfl) (by kernel_rfl) (by kernel_rfl) (fun _ _ _ h => h) S158 (Z1 rfl) (d := 88) (v := (.int .i64 ((AL.getD i ac0).f))) rfl (fun _ H' => (Zi rfl (by kernel_rfl) (H'.cellR 0 rfl (Z18 R76 1 (by kernel_rfl) (show o73 + ((i : Int)).toNat * 45 + 1 = o73 + i * 45 + 1 by omega)) (fun h => h)))) ?_
     refine Ze 13 rfl (by kernel_rfl) (by kernel_rfl) (by kernel_rfl) (fun _ _ _ h => h) S158 (Z1 rfl) (d := 89) (v := (.slice aa AL.length ac)) rfl (fun _ H' => (by kernel_rfl)) ?_
     refine Ze 14 rfl (by kernel_rfl) (by kernel_rfl) (by kernel_rfl) (fun _ _ _ h => h) S158 (Z1 rfl) (d := 90) (v := (.int .i64 ((i : Int)))) rfl (fun _ H' => (by kernel_rfl)) ?_
     refine Ze 15 rfl (by kernel_rfl) (by kernel_rfl) (by kernel_rfl) (fun _ _ _ h => h) S158 (Z1 rfl) (d := 91) (v := (.pointer (some ⟨g72, o73 + ((i : Int)).toNat * 45, none⟩))) rfl (fun _ H' => (ZZ (E := 55) (by kernel_rfl) (by kernel_rfl) (Nat.le_of_ble_eq_true rfl) rfl e75 rfl (by omega) (by omega))) ?_
     refine Ze 16 rfl (by kernel_rfl) (by kernel_rfl) (by kernel_rfl) (fun _ _ _ h => h) S158 (Z1 rfl) (d := 92) (v := (.pointer (some ⟨g72, o73 + ((i : Int)).toNat * 45 + 6, none⟩))) rfl (fun _ H' => (by kernel_rfl)) ?_
     refine Ze 17 rfl (by kernel_rfl) (by kernel_rfl) (by kernel_rfl) (fun _ _ _ h => h) S158 (Z1 rfl) (d := 93) (v := (.slice (AL.getD i ac0).ta ((AL.getD i ac0).xs).length (AL.getD i ac0).tc)) rfl (fun _ H' => (Zi rfl (by kernel_rfl) (H'.cellR 0 rfl (Z18 R76 6 (by kernel_rfl) (show o73 + ((i : Int)).toNat * 45 + 6 = o73 + i * 45 + 6 by omega)) (fun h => h)))) ?_
     refine Z0r 7 rfl (by kernel_rfl) (Z1 rfl) (fun K159 hK159 => ?_)
     refine Zv (d := 83) rfl (by kernel_rfl) (Z1Z w156 b11 m12 r13 ra rc Lb Lr (H157.fin [2, 3, 4, 5] (by decide) rfl) (Z5 ((AL.getD i ac0).n.cl) 3) (1 + (Z5 ((AL.getD i ac0).n.sq) 6)) (by omega) (by omega) (by omega) (by omega) hnb hnr) ?_
     rintro _ w160 ⟨a161, c162, rfl, T163⟩
     obtain ⟨L165, hL165⟩ : ∃ L165 : List Signed, L165 = Zg Lb (yC (Z5 ((AL.getD i ac0).n.cl) 3) (1 + (Z5 ((AL.getD i ac0).n.sq) 6)) Zo []) := ⟨_, rfl⟩
     obtain ⟨L166, hL166⟩ : ∃ L166 : List Signed, L166 = Zg Lr (yC (Z5 ((AL.getD i ac0).n.cl) 3) (1 + (Z5 ((AL.getD i ac0).n.sq) 6)) Zo []) := ⟨_, rfl⟩
     rw [← hL165, ← hL166] at T163
     have H167 : Sat w [Z6 w (fun _ => False), Z3 b2 36 ([(.int .i64 (1)), (.int .i64 (3))] : List Value), Z3 b11 110 ([(.map (some m12))] : List Value), ZC m12 Za (Value.int .i64) (Zq L165), Z3 r13 98 ([(.slice a161 L166.length c162)] : List Value), Zb 114 2 (.slice a161 L166.length c162) L166.length (L166.flatMap Z0q), Z3 b21 40 ([(.pointer (some ⟨b11, 0, none⟩)), (.pointer (some ⟨r13, 0, none⟩))] : List Value), Z3 t30 121 ([(.int .i64 (1)), (.int .i64 (3)), (.int .i64 (0)), (.map (some m31))] : List Value), ZC m31 nmV ceV M, ZI B, Z3 b142 24 ([(.int .i64 (Z5 ((AL.getD i ac0).n.cl) 3)), (.int .i64 (1 + (Z5 ((AL.getD i ac0).n.sq) 6)))] : List Value)] w160 := (Sat.turnL (L' := [Z3 b11 110 ([(.map (some m12))] : List Value), ZC m12 Za (Value.int .i64) (Zq L165), Z3 r13 98 ([(.slice a161 L166.length c162)] : List Value), Zb 114 2 (.slice a161 L166.length c162) L166.length (L166.flatMap Z0q)]) (R := [Z6 w (fun _ => False), Z3 b2 36 ([(.int .i64 (1)), (.int .i64 (3))] : List Value), Z3 b21 40 ([(.pointer (some ⟨b11, 0, none⟩)), (.pointer (some ⟨r13, 0, none⟩))] : List Value), Z3 t30 121 ([(.int .i64 (1)), (.int .i64 (3)), (.int .i64 (0)), (.map (some m31))] : List Value), ZC m31 nmV ceV M, ZI B, Z3 b142 24 ([(.int .i64 (Z5 ((AL.getD i ac0).n.cl) 3)), (.int .i64 (1 + (Z5 ((AL.getD i ac0).n.sq) 6)))] : List Value)]) H157 [2, 3, 4, 5] [0, 1, 6, 7, 8, 9, 10] (by decide) (by kernel_rfl) rfl T163).pick [4, 5, 0, 1, 2, 3, 6, 7, 8, 9, 10] (by decide)
     have ndL165 : L165.Nodup := by rw [hL165]; exact Z0v hnb _
     have llL165 : L165.length ≤ Lb.length + 1 := by rw [hL165]; exact Z0w _ _
     have ndL166 : L166.Nodup := by rw [hL166]; exact Z0v hnr _
     have llL166 : L166.length ≤ Lr.length + 1 := by rw [hL166]; exact Z0w _ _
     refine ⟨_, rfl, ?_⟩
     obtain ⟨Y164, hY164⟩ : ∃ Y164 : Zn, Y164 = mkC Lb (Z5 ((AL.getD i ac0).n.cl) 3) (1 + (Z5 ((AL.getD i ac0).n.sq) 6)) Zo [] := ⟨_, rfl⟩
     rw [← hY164]
     have coY164 : CoB Y164 := by
      have q1 := (Z1u (Z1L Lb (yC (Z5 ((AL.getD i ac0).n.cl) 3) (1 + (Z5 ((AL.getD i ac0).n.sq) 6)) Zo []))).2
      have q2 := Z0w Lb (yC (Z5 ((AL.getD i ac0).n.cl) 3) (1 + (Z5 ((AL.getD i ac0).n.sq) 6)) Zo [])
      rw [hY164]
      exact ⟨⟨by show (Z5 ((AL.getD i ac0).n.cl) 3) ≤ _; omega, by show (1 + (Z5 ((AL.getD i ac0).n.sq) 6)) ≤ _; omega, by show ((0 : Nat) : Int) ≤ _; omega⟩, by show 1000 + (Z5 ((AL.getD i ac0).n.cl) 3) ≤ _; omega, by show Zt _ _ ≤ _; omega⟩
     have S168 := H167.pick [0, 1, 6, 10] (by decide)
     refine hK159 _ _ S168 ?_
     clear hK159 K159
     refine Z0r 18 rfl (by kernel_rfl) (Z1 rfl) (fun K169 hK169 => ?_)
     refine Zv (d := 94) rfl (by kernel_rfl) (Z3G w160 b11 m12 r13 L165 (H167.fin [2, 3] (by decide) rfl) 1 3 (by omega) Y164 coY164.1 ((AL.getD i ac0).f) (by omega) ndL165 (AL.getD i ac0).ta (AL.getD i ac0).tc ((AL.getD i ac0).xs) (ListAt.now H167 0 rfl (hAc _ (Z1a (by omega))).xs) (hAc _ (Z1a (by omega))).b (Z3w Z1p (by decide) H167 [2, 3] 0 rfl rfl (by decide) (hAc _ (Z1a (by omega))).xs)) ?_
     rintro _ w170 ⟨L171, a172, c173, D174, rfl, l175, k176, n177, l178, T179⟩
     have H180 : Sat w [Z6 w (fun _ => False), Z3 b2 36 ([(.int .i64 (1)), (.int .i64 (3))] : List Value), Z3 b11 110 ([(.map (some m12))] : List Value), ZC m12 Za (Value.int .i64) (Zq L171), Z3 r13 98 ([(.slice a161 L166.length c162)] : List Value), Zb 114 2 (.slice a161 L166.length c162) L166.length (L166.flatMap Z0q), Z3 b21 40 ([(.pointer (some ⟨b11, 0, none⟩)), (.pointer (some ⟨r13, 0, none⟩))] : List Value), Z3 t30 121 ([(.int .i64 (1)), (.int .i64 (3)), (.int .i64 (0)), (.map (some m31))] : List Value), ZC m31 nmV ceV M, ZI B, Z3 b142 24 ([(.int .i64 (Z5 ((AL.getD i ac0).n.cl) 3)), (.int .i64 (1 + (Z5 ((AL.getD i ac0).n.sq) 6)))] : List Value), Zb 101 38 (.slice a172 D174.length c173) D174.length (D174.flatMap Z0l)] w170 := (Sat.turnL (L' := [Z3 b11 110 ([(.map (some m12))] : List Value), ZC m12 Za (Value.int .i64) (Zq L171), Zb 101 38 (.slice a172 D174.length c173) D174.length (D174.flatMap Z0l)]) (R := [Z6 w (fun _ => False), Z3 b2 36 ([(.int .i64 (1)), (.int .i64 (3))] : List Value), Z3 r13 98 ([(.slice a161 L166.length c162)] : List Value), Zb 114 2 (.slice a161 L166.length c162) L166.length (L166.flatMap Z0q), Z3 b21 40 ([(.pointer (some ⟨b11, 0, none⟩)), (.pointer (some ⟨r13, 0, none⟩))] : List Value), Z3 t30 121 ([(.int .i64 (1)), (.int .i64 (3)), (.int .i64 (0)), (.map (some m31))] : List Value), ZC m31 nmV ceV M, ZI B, Z3 b142 24 ([(.int .i64 (Z5 ((AL.getD i ac0).n.cl) 3)), (.int .i64 (1 + (Z5 ((AL.getD i ac0).n.sq) 6)))] : List Value)]) H167 [2, 3] [0, 1, 4, 5, 6, 7, 8, 9, 10] (by decide) (by kernel_rfl) rfl T179).pick [3, 4, 0, 1, 5, 6, 7, 8, 9, 10, 11, 2] (by decide)
     have H181 : Sat w [ZI (stC (⟨Y164, a172, c173, D174⟩ : CeR) :: B), Z6 w (fun _ => False), Z3 b2 36 ([(.int .i64 (1)), (.int .i64 (3))] : List Value), Z3 b11 110 ([(.map (some m12))] : List Value), ZC m12 Za (Value.int .i64) (Zq L171), Z3 r13 98 ([(.slice a161 L166.length c162)] : List Value), Zb 114 2 (.slice a161 L166.length c162) L166.length (L166.flatMap Z0q), Z3 b21 40 ([(.pointer (some ⟨b11, 0, none⟩)), (.pointer (some ⟨r13, 0, none⟩))] : List Value), Z3 t30 121 ([(.int .i64 (1)), (.int .i64 (3)), (.int .i64 (0)), (.map (some m31))] : List Value), ZC m31 nmV ceV M, Z3 b142 24 ([(.int .i64 (Z5 ((AL.getD i ac0).n.cl) 3)), (.int .i64 (1 + (Z5 ((AL.getD i ac0).n.sq) 6)))] : List Value)] w170 := (H180.pick [9, 11, 0, 1, 2, 3, 4, 5, 6, 7, 8, 10] (by decide)).bag
     have H182 : Sat w [Z6 w (fun _ => False), Z3 b2 36 ([(.int .i64 (1)), (.int .i64 (3))] : List Value), Z3 b11 110 ([(.map (some m12))] : List Value), ZC m12 Za (Value.int .i64) (Zq L171), Z3 r13 98 ([(.slice a161 L166.length c162)] : List Value), Zb 114 2 (.slice a161 L166.length c162) L166.length (L166.flatMap Z0q), Z3 b21 40 ([(.pointer (some ⟨b11, 0, none⟩)), (.pointer (some ⟨r13, 0, none⟩))] : List Value), Z3 t30 121 ([(.int .i64 (1)), (.int .i64 (3)), (.int .i64 (0)), (.map (some m31))] : List Value), ZC m31 nmV ceV M, ZI (stC (⟨Y164, a172, c173, D174⟩ : CeR) :: B), Z3 b142 24 ([(.int .i64 (Z5 ((AL.getD i ac0).n.cl) 3)), (.int .i64 (1 + (Z5 ((AL.getD i ac0).n.sq) 6)))] : List Value)] w170 := H181.pick [1, 2, 3, 4, 5, 6, 7, 8, 9, 0, 10] (by decide)
     refine ⟨_, rfl, ?_⟩
     have x183 : CeT (stC (⟨Y164, a172, c173, D174⟩ : CeR) :: B) (⟨Y164, a172, c173, D174⟩ : CeR) := ⟨coY164, (fun i hi => k176 _ (Z38 hi)), (by show D174.length ≤ 12; omega), List.mem_cons_self⟩
     have S184 := H182.pick [0, 1, 6, 10] (by decide)
     refine hK169 _ _ S184 ?_
     clear hK169 K169
     refine Z0r 19 rfl (by kernel_rfl) (Z1 rfl) (fun K185 hK185 => ?_)
     refine Zv (d := 95) rfl (by kernel_rfl) (Z39 w170 t30 m31 1 3 0 M (stC (⟨Y164, a172, c173, D174⟩ : CeR) :: B) b11 m12 L171 (H182.fin [7, 8, 9, 2, 3] (by decide) rfl) (hM.more _).T (by omega) (by omega) n177 (by omega) (by omega) 0 (⟨Y164, a172, c173, D174⟩ : CeR) x183) ?_
     rintro _ w186 ⟨s187, r188, M189, B190, L191, rfl, e192, z193, z194, d195, T196⟩
     have H198 : Sat w [Z6 w (fun _ => False), Z3 b2 36 ([(.int .i64 (1)), (.int .i64 (3))] : List Value), Z3 b11 110 ([(.map (some m12))] : List Value), ZC m12 Za (Value.int .i64) (Zq L191), Z3 r13 98 ([(.slice a161 L166.length c162)] : List Value), Zb 114 2 (.slice a161 L166.length c162) L166.length (L166.flatMap Z0q), Z3 b21 40 ([(.pointer (some ⟨b11, 0, none⟩)), (.pointer (some ⟨r13, 0, none⟩))] : List Value), Z3 t30 121 ([(.int .i64 (1)), (.int .i64 (3)), (.int .i64 (0)), (.map (some m31))] : List Value), ZC m31 nmV ceV M189, ZI B190, Z3 b142 24 ([(.int .i64 (Z5 ((AL.getD i ac0).n.cl) 3)), (.int .i64 (1 + (Z5 ((AL.getD i ac0).n.sq) 6)))] : List Value)] w186 := (Sat.turnL (L' := [Z3 t30 121 ([(.int .i64 (1)), (.int .i64 (3)), (.int .i64 (0)), (.map (some m31))] : List Value), ZC m31 nmV ceV M189, ZI B190, Z3 b11 110 ([(.map (some m12))] : List Value), ZC m12 Za (Value.int .i64) (Zq L191)]) (R := [Z6 w (fun _ => False), Z3 b2 36 ([(.int .i64 (1)), (.int .i64 (3))] : List Value), Z3 r13 98 ([(.slice a161 L166.length c162)] : List Value), Zb 114 2 (.slice a161 L166.length c162) L166.length (L166.flatMap Z0q), Z3 b21 40 ([(.pointer (some ⟨b11, 0, none⟩)), (.pointer (some ⟨r13, 0, none⟩))] : List Value), Z3 b142 24 ([(.int .i64 (Z5 ((AL.getD i ac0).n.cl) 3)), (.int .i64 (1 + (Z5 ((AL.getD i ac0).n.sq) 6)))] : List Value)]) H182 [7, 8, 9, 2, 3] [0, 1, 4, 5, 6, 10] (by decide) (by kernel_rfl) rfl T196).pick [5, 6, 3, 4, 7, 8, 9, 0, 1, 2, 10] (by decide)
     refine ⟨_, rfl, ?_⟩
     have k197 := (hM.more (stC (⟨Y164, a172, c173, D174⟩ : CeR))).took x183 d195
     have ndL191 : L191.Nodup ∧ L191.length ≤ L171.length + 1 := by
      by_cases q : r188 = 0
      ·rw [(z193 q).2]; exact ⟨Z0v n177 _, Z0w _ _⟩
      ·rw [z194 q]; exact ⟨n177, Nat.le_succ _⟩
     have S199 := H198.pick [0, 1, 6, 10] (by decide)
     refine hK185 _ _ S199 ?_
     clear hK185 K185
     refine Z0C (by kernel_rfl) ?_
     refine ZL ?_
     refine Z4 ?_
     refine Zp ?_
     refine Z2 (Z1 rfl) (d := 58) (v := (.int .i64 ((i : Int)))) rfl (by kernel_rfl) ?_
     refine Z2 (Z1 rfl) (d := 59) (v := (.int .i64 ((i : Int) + 1))) rfl (Z04 (z := (i : Int) + 1) (by kernel_rfl) (IntWalk.i64_in _ (by omega))) ?_
     refine Z2 (Z1 rfl) (d := 14) (v := (.int .i64 ((i : Int) + 1))) rfl (by kernel_rfl) ?_
     refine Zm ?_
     have H200 : Sat w [Z6 w (fun _ => False), Z3 b2 36 ([(.int .i64 (1)), (.int .i64 (3))] : List Value), Z3 b11 110 ([(.map (some m12))] : List Value), ZC m12 Za (Value.int .i64) (Zq L191), Z3 r13 98 ([(.slice a161 L166.length c162)] : List Value), Zb 114 2 (.slice a161 L166.length c162) L166.length (L166.flatMap Z0q), Z3 b21 40 ([(.pointer (some ⟨b11, 0, none⟩)), (.pointer (some ⟨r13, 0, none⟩))] : List Value), Z3 t30 121 ([(.int .i64 (1)), (.int .i64 (3)), (.int .i64 (0)), (.map (some m31))] : List Value), ZC m31 nmV ceV M189, ZI B190] w186 := H198.pick [0, 1, 2, 3, 4, 5, 6, 7, 8, 9] (by decide)
     refine ZM ?_ _ ⟨(i + 1), M189, B190, L191, L166, a161, c162, (show ((.int .i64 ((i : Int) + 1)) : Value) = _ by first | rfl | go_num), (by omega), (by omega), k197.1, (by have q := k197.2; omega), ndL191.1, ndL166, (by have q := ndL191.2; omega), (by omega), H200, rfl⟩ (by omega)
     exact (Z0 rfl (Z0 rfl (Z0 rfl (Z0 rfl (Z0 rfl (Z0 rfl (Z0 rfl (Z0 rfl (Z0 rfl (Z0 rfl (Z0 rfl (Z0 rfl (Z0 rfl (Z0 rfl (Z0 rfl (Z0 rfl (Z0 rfl (Z0 rfl (Z0 rfl (Z0 rfl (Z0 rfl (Z0 rfl (Z0 rfl (Z0 rfl (Z0 rfl (Z0 rfl (Z0 rfl (Z0 rfl (Z0 rfl (Z0 rfl (Z0 rfl (Z0 rfl (Z0 rfl (Z0 rfl (Z0 rfl (Z0 rfl (Z0 rfl (Z0 rfl (Z0 rfl (Z0 rfl (Z0 rfl (Z0 rfl (Z17 rfl (Z0 rfl (Z06)))))))))))))))))))))))))))))))))))))))))))))
   ·refine Z0e (zs := ([(.int .i64 (0)), (.int .i64 (0))] : List Value)) (z := (.agg ⟨([(.int .i64 (0)), (.int .i64 (0))] : List Value)⟩)) rfl H70 (by kernel_rfl) (by kernel_rfl) ?_
    intro b201 w202 (H203 : Sat w [Z6 w (fun _ => False), Z3 b2 36 ([(.int .i64 (1)), (.int .i64 (3))] : List Value), Z3 b11 110 ([(.map (some m12))] : List Value), ZC m12 Za (Value.int .i64) (Zq Lb), Z3 r13 98 ([(.slice ra Lr.length rc)] : List Value), Zb 114 2 (.slice ra Lr.length rc) Lr.length (Lr.flatMap Z0q), Z3 b21 40 ([(.pointer (some ⟨b11, 0, none⟩)), (.pointer (some ⟨r13, 0, none⟩))] : List Value), Z3 t30 121 ([(.int .i64 (1)), (.int .i64 (3)), (.int .i64 (0)), (.map (some m31))] : List Value), ZC m31 nmV ceV M, ZI B, Z3 b201 24 ([(.int .i64 (0)), (.int .i64 (0))] : List Value)] w202)
    have S204 := H203.pick [0, 1, 2, 3, 4, 5, 6, 7, 8, 9] (by decide)
    refine hK77 _ _ S204 ?_
    clear hK77 K77
    refine Z0r 6 rfl (by kernel_rfl) (Z1 rfl) (fun K205 hK205 => ?_)
    refine Zv (d := 66) rfl (by kernel_rfl) (Z1s w202 ((AL.getD i ac0).n.cl) 3 (by omega)) ?_
    rintro _ w206 ⟨rfl, u208⟩
    have H207 := H203.keepU u208
    refine ⟨_, rfl, ?_⟩
    have S209 := H207.pick [0, 1, 2, 3, 4, 5, 6, 7, 8, 9] (by decide)
    refine hK205 _ _ S209 ?_
    clear hK205 K205
    refine Z0r 13 rfl (by kernel_rfl) (Z1 rfl) (fun K210 hK210 => ?_)
    refine Zv (d := 73) rfl (by kernel_rfl) (Z1s w206 ((AL.getD i ac0).n.sq) 6 (by omega)) ?_
    rintro _ w211 ⟨rfl, u213⟩
    have H212 := H207.keepU u213
    refine ⟨_, rfl, ?_⟩
    have S214 := H212.pick [0, 1, 2, 3, 4, 5, 6, 7, 8, 9] (by decide)
    refine hK210 _ _ S214 ?_
    clear hK210 K210
    refine Ze 14 rfl (by kernel_rfl) (by kernel_rfl) (by kernel_rfl) (fun _ _ _ h => h) S214 (Z1 rfl) (d := 74) (v := (.int .i64 (1 + (Z5 ((AL.getD i ac0).n.sq) 6)))) rfl (fun _ H' => (Z04 (z := 1 + (Z5 ((AL.getD i ac0).n.sq) 6)) (by kernel_rfl) (IntWalk.i64_in _ (by omega)))) ?_
    refine Ze 15 rfl (by kernel_rfl) (by kernel_rfl) (by kernel_rfl) (fun _ _ _ h => h) S214 (Z1 rfl) (d := 75) (v := (.agg ⟨([(.int .i64 (Z5 ((AL.getD i ac0).n.cl) 3)), (.int .i64 (1 + (Z5 ((AL.getD i ac0).n.sq) 6)))] : List Value)⟩)) rfl (fun _ H' => (by kernel_rfl)) ?_
    refine Z0r 17 rfl (by kernel_rfl) (Z1 rfl) (fun K215 hK215 => ?_)
    refine ZU (vs := ([(.int .i64 (Z5 ((AL.getD i ac0).n.cl) 3)), (.int .i64 (1 + (Z5 ((AL.getD i ac0).n.sq) 6)))] : List Value)) (cs' := ([(.int .i64 (Z5 ((AL.getD i ac0).n.cl) 3)), (.int .i64 (1 + (Z5 ((AL.getD i ac0).n.sq) 6)))] : List Value)) rfl H212 10 rfl rfl rfl rfl (by kernel_rfl) (Nat.le_of_ble_eq_true (by kernel_rfl)) (Nat.le_of_ble_eq_true (by kernel_rfl)) (by kernel_rfl) (by kernel_rfl) ?_
    intro w216 (H217 : Sat w [Z6 w (fun _ => False), Z3 b2 36 ([(.int .i64 (1)), (.int .i64 (3))] : List Value), Z3 b11 110 ([(.map (some m12))] : List Value), ZC m12 Za (Value.int .i64) (Zq Lb), Z3 r13 98 ([(.slice ra Lr.length rc)] : List Value), Zb 114 2 (.slice ra Lr.length rc) Lr.length (Lr.flatMap Z0q), Z3 b21 40 ([(.pointer (some ⟨b11, 0, none⟩)), (.pointer (some ⟨r13, 0, none⟩))] : List Value), Z3 t30 121 ([(.int .i64 (1)), (.int .i64 (3)), (.int .i64 (0)), (.map (some m31))] : List Value), ZC m31 nmV ceV M, ZI B, Z3 b201 24 ([(.int .i64 (Z5 ((AL.getD i ac0).n.cl) 3)), (.int .i64 (1 + (Z5 ((AL.getD i ac0).n.sq) 6)))] : List Value)] w216)
    have S219 := H217.pick [0, 1, 2, 3, 4, 5, 6, 7, 8, 9] (by decide)
    refine hK215 _ _ S219 ?_
    clear hK215 K215
    refine Z0C (by kernel_rfl) ?_
    refine Z4 ?_
    refine Z0k H217 [Z6 w (fun _ => False), Z3 b2 36 ([(.int .i64 (1)), (.int .i64 (3))] : List Value), Z3 b21 40 ([(.pointer (some ⟨b11, 0, none⟩)), (.pointer (some ⟨r13, 0, none⟩))] : List Value), Z3 b201 24 ([(.int .i64 (Z5 ((AL.getD i ac0).n.cl) 3)), (.int .i64 (1 + (Z5 ((AL.getD i ac0).n.sq) 6)))] : List Value)] 20 rfl (by kernel_rfl) (fun Hx => (Hx.pick [0, 1, 6, 10] (by decide))) ?_
    intro w220 H221 S222
    refine Ze 0 rfl (by kernel_rfl) (by kernel_rfl) (by kernel_rfl) (fun _ _ _ h => h) S222 (Z1 rfl) (d := 76) (v := (.pointer (some ⟨t30, 0, none⟩))) rfl (fun _ H' => (by kernel_rfl)) ?_
    refine Ze 1 rfl (by kernel_rfl) (by kernel_rfl) (by kernel_rfl) (fun _ _ _ h => h) S222 (Z1 rfl) (d := 77) (v := (.pointer (some ⟨b21, 0, none⟩))) rfl (fun _ H' => (by kernel_rfl)) ?_
    refine Ze 2 rfl (by kernel_rfl) (by kernel_rfl) (by kernel_rfl) (fun _ _ _ h => h) S222 (Z1 rfl) (d := 78) (v := (.pointer (some ⟨b11, 0, none⟩))) rfl (fun _ H' => (Zi rfl (by kernel_rfl) (H'.cell 2 rfl rfl))) ?_
    refine Ze 3 rfl (by kernel_rfl) (by kernel_rfl) (by kernel_rfl) (fun _ _ _ h => h) S222 (Z1 rfl) (d := 79) (v := (.agg ⟨([(.pointer (some ⟨b11, 0, none⟩)), (.pointer (some ⟨r13, 0, none⟩))] : List Value)⟩)) rfl (fun _ H' => (ZB (vs := ([(.pointer (some ⟨b11, 0, none⟩)), (.pointer (some ⟨r13, 0, none⟩))] : List Value)) rfl (by kernel_rfl) (by kernel_rfl) (by exact Nat.le_of_ble_eq_true (by kernel_rfl)) (H'.at 2 rfl) (by kernel_rfl))) ?_
    refine Ze 4 rfl (by kernel_rfl) (by kernel_rfl) (by kernel_rfl) (fun _ _ _ h => h) S222 (Z1 rfl) (d := 80) (v := (.agg ⟨([(.int .i64 (1)), (.int .i64 (3))] : List Value)⟩)) rfl (fun _ H' => (ZB (vs := ([(.int .i64 (1)), (.int .i64 (3))] : List Value)) rfl (by kernel_rfl) (by kernel_rfl) (by exact Nat.le_of_ble_eq_true (by kernel_rfl)) (H'.at 1 rfl) (by kernel_rfl))) ?_
    refine Ze 5 rfl (by kernel_rfl) (by kernel_rfl) (by kernel_rfl) (fun _ _ _ h => h) S222 (Z1 rfl) (d := 81) (v := (.agg ⟨([(.pointer (some ⟨b11, 0, none⟩)), (.pointer (some ⟨r13, 0, none⟩))] : List Value)⟩)) rfl (fun _ H' => (ZB (vs := ([(.pointer (some ⟨b11, 0, none⟩)), (.pointer (some ⟨r13, 0, none⟩))] : List Value)) rfl (by kernel_rfl) (by kernel_rfl) (by exact Nat.le_of_ble_eq_true (by kernel_rfl)) (H'.at 2 rfl) (by kernel_rfl))) ?_
    refine Ze 6 rfl (by kernel_rfl) (by kernel_rfl) (by kernel_rfl) (fun _ _ _ h => h) S222 (Z1 rfl) (d := 82) (v := (.agg ⟨([(.int .i64 (Z5 ((AL.getD i ac0).n.cl) 3)), (.int .i64 (1 + (Z5 ((AL.getD i ac0).n.sq) 6)))] : List Value)⟩)) rfl (fun _ H' => (ZB (vs := ([(.int .i64 (Z5 ((AL.getD i ac0).n.cl) 3)), (.int .i64 (1 + (Z5 ((AL.getD i ac0).n.sq) 6)))] : List Value)) rfl (by kernel_rfl) (by kernel_rfl) (by exact Nat.le_of_ble_eq_true (by kernel_rfl)) (H'.at 3 rfl) (by kernel_rfl))) ?_
    refine Ze 8 rfl (by kernel_rfl) (by kernel_rfl) (by kernel_rfl) (fun _ _ _ h => h) S222 (Z1 rfl) (d := 84) (v := (.slice aa AL.length ac)) rfl (fun _ H' => (by kernel_rfl)) ?_
    refine Ze 9 rfl (by kernel_rfl) (by kernel_rfl) (by kernel_rfl) (fun _ _ _ h => h) S222 (Z1 rfl) (d := 85) (v := (.int .i64 ((i : Int)))) rfl (fun _ H' => (by kernel_rfl)) ?_
    refine Ze 10 rfl (by kernel_rfl) (by kernel_rfl) (by kernel_rfl) (fun _ _ _ h => h) S222 (Z1 rfl) (d := 86) (v := (.pointer (some ⟨g72, o73 + ((i : Int)).toNat * 45, none⟩))) rfl (fun _ H' => (ZZ (E := 55) (by kernel_rfl) (by kernel_rfl) (Nat.le_of_ble_eq_true rfl) rfl e75 rfl (by omega) (by omega))) ?_
    refine Ze 11 rfl (by kernel_rfl) (by kernel_rfl) (by kernel_rfl) (fun _ _ _ h => h) S222 (Z1 rfl) (d := 87) (v := (.pointer (some ⟨g72, o73 + ((i : Int)).toNat * 45 + 1, none⟩))) rfl (fun _ H' => (by kernel_rfl)) ?_
    refine Ze 12 rfl (by kernel_rfl) (by kernel_rfl) (by kernel_rfl) (fun _ _ _ h => h) S222 (Z1 rfl) (d := 88) (v := (.int .i64 ((AL.getD i ac0).f))) rfl (fun _ H' => (Zi rfl (by kernel_rfl) (H'.cellR 0 rfl (Z18 R76 1 (by kernel_rfl) (show o73 + ((i : Int)).toNat * 45 + 1 = o73 + i * 45 + 1 by omega)) (fun h => h)))) ?_
    refine Ze 13 rfl (by kernel_rfl) (by kernel_rfl) (by kernel_rfl) (fun _ _ _ h => h) S222 (Z1 rfl) (d := 89) (v := (.slice aa AL.length ac)) rfl (fun _ H' => (by kernel_rfl)) ?_
    refine Ze 14 rfl (by kernel_rfl) (by kernel_rfl) (by kernel_rfl) (fun _ _ _ h => h) S222 (Z1 rfl) (d := 90) (v := (.int .i64 ((i : Int)))) rfl (fun _ H' => (by kernel_rfl)) ?_
    refine Ze 15 rfl (by kernel_rfl) (by kernel_rfl) (by kernel_rfl) (fun _ _ _ h => h) S222 (Z1 rfl) (d := 91) (v := (.pointer (some ⟨g72, o73 + ((i : Int)).toNat * 45, none⟩))) rfl (fun _ H' => (ZZ (E := 55) (by kernel_rfl) (by kernel_rfl) (Nat.le_of_ble_eq_true rfl) rfl e75 rfl (by omega) (by omega))) ?_
    refine Ze 16 rfl (by kernel_rfl) (by kernel_rfl) (by kernel_rfl) (fun _ _ _ h => h) S222 (Z1 rfl) (d := 92) (v := (.pointer (some ⟨g72, o73 + ((i : Int)).toNat * 45 + 6, none⟩))) rfl (fun _ H' => (by kernel_rfl)) ?_
    refine Ze 17 rfl (by kernel_rfl) (by kernel_rfl) (by kernel_rfl) (fun _ _ _ h => h) S222 (Z1 rfl) (d := 93) (v := (.slice (AL.getD i ac0).ta ((AL.getD i ac0).xs).length (AL.getD i ac0).tc)) rfl (fun _ H' => (Zi rfl (by kernel_rfl) (H'.cellR 0 rfl (Z18 R76 6 (by kernel_rfl) (show o73 + ((i : Int)).toNat * 45 + 6 = o73 + i * 45 + 6 by omega)) (fun h => h)))) ?_
    refine Z0r 7 rfl (by kernel_rfl) (Z1 rfl) (fun K223 hK223 => ?_)
    refine Zv (d := 83) rfl (by kernel_rfl) (Z1Z w220 b11 m12 r13 ra rc Lb Lr (H221.fin [2, 3, 4, 5] (by decide) rfl) (Z5 ((AL.getD i ac0).n.cl) 3) (1 + (Z5 ((AL.getD i ac0).n.sq) 6)) (by omega) (by omega) (by omega) (by omega) hnb hnr) ?_
    rintro _ w224 ⟨a225, c226, rfl, T227⟩
    obtain ⟨L229, hL229⟩ : ∃ L229 : List Signed, L229 = Zg Lb (yC (Z5 ((AL.getD i ac0).n.cl) 3) (1 + (Z5 ((AL.getD i ac0).n.sq) 6)) Zo []) := ⟨_, rfl⟩
    obtain ⟨L230, hL230⟩ : ∃ L230 : List Signed, L230 = Zg Lr (yC (Z5 ((AL.getD i ac0).n.cl) 3) (1 + (Z5 ((AL.getD i ac0).n.sq) 6)) Zo []) := ⟨_, rfl⟩
    rw [← hL229, ← hL230] at T227
    have H231 : Sat w [Z6 w (fun _ => False), Z3 b2 36 ([(.int .i64 (1)), (.int .i64 (3))] : List Value), Z3 b11 110 ([(.map (some m12))] : List Value), ZC m12 Za (Value.int .i64) (Zq L229), Z3 r13 98 ([(.slice a225 L230.length c226)] : List Value), Zb 114 2 (.slice a225 L230.length c226) L230.length (L230.flatMap Z0q), Z3 b21 40 ([(.pointer (some ⟨b11, 0, none⟩)), (.pointer (some ⟨r13, 0, none⟩))] : List Value), Z3 t30 121 ([(.int .i64 (1)), (.int .i64 (3)), (.int .i64 (0)), (.map (some m31))] : List Value), ZC m31 nmV ceV M, ZI B, Z3 b201 24 ([(.int .i64 (Z5 ((AL.getD i ac0).n.cl) 3)), (.int .i64 (1 + (Z5 ((AL.getD i ac0).n.sq) 6)))] : List Value)] w224 := (Sat.turnL (L' := [Z3 b11 110 ([(.map (some m12))] : List Value), ZC m12 Za (Value.int .i64) (Zq L229), Z3 r13 98 ([(.slice a225 L230.length c226)] : List Value), Zb 114 2 (.slice a225 L230.length c226) L230.length (L230.flatMap Z0q)]) (R := [Z6 w (fun _ => False), Z3 b2 36 ([(.int .i64 (1)), (.int .i64 (3))] : List Value), Z3 b21 40 ([(.pointer (some ⟨b11, 0, none⟩)), (.pointer (some ⟨r13, 0, none⟩))] : List Value), Z3 t30 121 ([(.int .i64 (1)), (.int .i64 (3)), (.int .i64 (0)), (.map (some m31))] : List Value), ZC m31 nmV ceV M, ZI B, Z3 b201 24 ([(.int .i64 (Z5 ((AL.getD i ac0).n.cl) 3)), (.int .i64 (1 + (Z5 ((AL.getD i ac0).n.sq) 6)))] : List Value)]) H221 [2, 3, 4, 5] [0, 1, 6, 7, 8, 9, 10] (by decide) (by kernel_rfl) rfl T227).pick [4, 5, 0, 1, 2, 3, 6, 7, 8, 9, 10] (by decide)
    have ndL229 : L229.Nodup := by rw [hL229]; exact Z0v hnb _
    have llL229 : L229.length ≤ Lb.length + 1 := by rw [hL229]; exact Z0w _ _
    have ndL230 : L230.Nodup := by rw [hL230]; exact Z0v hnr _
    have llL230 : L230.length ≤ Lr.length + 1 := by rw [hL230]; exact Z0w _ _
    refine ⟨_, rfl, ?_⟩
    obtain ⟨Y228, hY228⟩ : ∃ Y228 : Zn, Y228 = mkC Lb (Z5 ((AL.getD i ac0).n.cl) 3) (1 + (Z5 ((AL.getD i ac0).n.sq) 6)) Zo [] := ⟨_, rfl⟩
    rw [← hY228]
    have coY228 : CoB Y228 := by
     have q1 := (Z1u (Z1L Lb (yC (Z5 ((AL.getD i ac0).n.cl) 3) (1 + (Z5 ((AL.getD i ac0).n.sq) 6)) Zo []))).2
     have q2 := Z0w Lb (yC (Z5 ((AL.getD i ac0).n.cl) 3) (1 + (Z5 ((AL.getD i ac0).n.sq) 6)) Zo [])
     rw [hY228]
     exact ⟨⟨by show (Z5 ((AL.getD i ac0).n.cl) 3) ≤ _; omega, by show (1 + (Z5 ((AL.getD i ac0).n.sq) 6)) ≤ _; omega, by show ((0 : Nat) : Int) ≤ _; omega⟩, by show 1000 + (Z5 ((AL.getD i ac0).n.cl) 3) ≤ _; omega, by show Zt _ _ ≤ _; omega⟩
    have S232 := H231.pick [0, 1, 6, 10] (by decide)
    refine hK223 _ _ S232 ?_
    clear hK223 K223
    refine Z0r 18 rfl (by kernel_rfl) (Z1 rfl) (fun K233 hK233 => ?_)
    refine Zv (d := 94) rfl (by kernel_rfl) (Z3G w224 b11 m12 r13 L229 (H231.fin [2, 3] (by decide) rfl) 1 3 (by omega) Y228 coY228.1 ((AL.getD i ac0).f) (by omega) ndL229 (AL.getD i ac0).ta (AL.getD i ac0).tc ((AL.getD i ac0).xs) (ListAt.now H231 0 rfl (hAc _ (Z1a (by omega))).xs) (hAc _ (Z1a (by omega))).b (Z3w Z1p (by decide) H231 [2, 3] 0 rfl rfl (by decide) (hAc _ (Z1a (by omega))).xs)) ?_
    rintro _ w234 ⟨L235, a236, c237, D238, rfl, l239, k240, n241, l242, T243⟩
    have H244 : Sat w [Z6 w (fun _ => False), Z3 b2 36 ([(.int .i64 (1)), (.int .i64 (3))] : List Value), Z3 b11 110 ([(.map (some m12))] : List Value), ZC m12 Za (Value.int .i64) (Zq L235), Z3 r13 98 ([(.slice a225 L230.length c226)] : List Value), Zb 114 2 (.slice a225 L230.length c226) L230.length (L230.flatMap Z0q), Z3 b21 40 ([(.pointer (some ⟨b11, 0, none⟩)), (.pointer (some ⟨r13, 0, none⟩))] : List Value), Z3 t30 121 ([(.int .i64 (1)), (.int .i64 (3)), (.int .i64 (0)), (.map (some m31))] : List Value), ZC m31 nmV ceV M, ZI B, Z3 b201 24 ([(.int .i64 (Z5 ((AL.getD i ac0).n.cl) 3)), (.int .i64 (1 + (Z5 ((AL.getD i ac0).n.sq) 6)))] : List Value), Zb 101 38 (.slice a236 D238.length c237) D238.length (D238.flatMap Z0l)] w234 := (Sat.turnL (L' := [Z3 b11 110 ([(.map (some m12))] : List Value), ZC m12 Za (Value.int .i64) (Zq L235), Zb 101 38 (.slice a236 D238.length c237) D238.length (D238.flatMap Z0l)]) (R := [Z6 w (fun _ => False), Z3 b2 36 ([(.int .i64 (1)), (.int .i64 (3))] : List Value), Z3 r13 98 ([(.slice a225 L230.length c226)] : List Value), Zb 114 2 (.slice a225 L230.length c226) L230.length (L230.flatMap Z0q), Z3 b21 40 ([(.pointer (some ⟨b11, 0, none⟩)), (.pointer (some ⟨r13, 0, none⟩))] : List Value), Z3 t30 121 ([(.int .i64 (1)), (.int .i64 (3)), (.int .i64 (0)), (.map (some m31))] : List Value), ZC m31 nmV ceV M, ZI B, Z3 b201 24 ([(.int .i64 (Z5 ((AL.getD i ac0).n.cl) 3)), (.int .i64 (1 + (Z5 ((AL.getD i ac0).n.sq) 6)))] : List Value)]) H231 [2, 3] [0, 1, 4, 5, 6, 7, 8, 9, 10] (by decide) (by kernel_rfl) rfl T243).pick [3, 4, 0, 1, 5, 6, 7, 8, 9, 10, 11, 2] (by decide)
    have H245 : Sat w [ZI (stC (⟨Y228, a236, c237, D238⟩ : CeR) :: B), Z6 w (fun _ => False), Z3 b2 36 ([(.int .i64 (1)), (.int .i64 (3))] : List Value), Z3 b11 110 ([(.map (some m12))] : List Value), ZC m12 Za (Value.int .i64) (Zq L235), Z3 r13 98 ([(.slice a225 L230.length c226)] : List Value), Zb 114 2 (.slice a225 L230.length c226) L230.length (L230.flatMap Z0q), Z3 b21 40 ([(.pointer (some ⟨b11, 0, none⟩)), (.pointer (some ⟨r13, 0, none⟩))] : List Value), Z3 t30 121 ([(.int .i64 (1)), (.int .i64 (3)), (.int .i64 (0)), (.map (some m31))] : List Value), ZC m31 nmV ceV M, Z3 b201 24 ([(.int .i64 (Z5 ((AL.getD i ac0).n.cl) 3)), (.int .i64 (1 + (Z5 ((AL.getD i ac0).n.sq) 6)))] : List Value)] w234 := (H244.pick [9, 11, 0, 1, 2, 3, 4, 5, 6, 7, 8, 10] (by decide)).bag
    have H246 : Sat w [Z6 w (fun _ => False), Z3 b2 36 ([(.int .i64 (1)), (.int .i64 (3))] : List Value), Z3 b11 110 ([(.map (some m12))] : List Value), ZC m12 Za (Value.int .i64) (Zq L235), Z3 r13 98 ([(.slice a225 L230.length c226)] : List Value), Zb 114 2 (.slice a225 L230.length c226) L230.length (L230.flatMap Z0q), Z3 b21 40 ([(.pointer (some ⟨b11, 0, none⟩)), (.pointer (some ⟨r13, 0, none⟩))] : List Value), Z3 t30 121 ([(.int .i64 (1)), (.int .i64 (3)), (.int .i64 (0)), (.map (some m31))] : List Value), ZC m31 nmV ceV M, ZI (stC (⟨Y228, a236, c237, D238⟩ : CeR) :: B), Z3 b201 24 ([(.int .i64 (Z5 ((AL.getD i ac0).n.cl) 3)), (.int .i64 (1 + (Z5 ((AL.getD i ac0).n.sq) 6)))] : List Value)] w234 := H245.pick [1, 2, 3, 4, 5, 6, 7, 8, 9, 0, 10] (by decide)
    refine ⟨_, rfl, ?_⟩
    have x247 : CeT (stC (⟨Y228, a236, c237, D238⟩ : CeR) :: B) (⟨Y228, a236, c237, D238⟩ : CeR) := ⟨coY228, (fun i hi => k240 _ (Z38 hi)), (by show D238.length ≤ 12; omega), List.mem_cons_self⟩
    have S248 := H246.pick [0, 1, 6, 10] (by decide)
    refine hK233 _ _ S248 ?_
    clear hK233 K233
    refine Z0r 19 rfl (by kernel_rfl) (Z1 rfl) (fun K249 hK249 => ?_)
    refine Zv (d := 95) rfl (by kernel_rfl) (Z39 w234 t30 m31 1 3 0 M (stC (⟨Y228, a236, c237, D238⟩ : CeR) :: B) b11 m12 L235 (H246.fin [7, 8, 9, 2, 3] (by decide) rfl) (hM.more _).T (by omega) (by omega) n241 (by omega) (by omega) 0 (⟨Y228, a236, c237, D238⟩ : CeR) x247) ?_
    rintro _ w250 ⟨s251, r252, M253, B254, L255, rfl, e256, z257, z258, d259, T260⟩
    have H262 : Sat w [Z6 w (fun _ => False), Z3 b2 36 ([(.int .i64 (1)), (.int .i64 (3))] : List Value), Z3 b11 110 ([(.map (some m12))] : List Value), ZC m12 Za (Value.int .i64) (Zq L255), Z3 r13 98 ([(.slice a225 L230.length c226)] : List Value), Zb 114 2 (.slice a225 L230.length c226) L230.length (L230.flatMap Z0q), Z3 b21 40 ([(.pointer (some ⟨b11, 0, none⟩)), (.pointer (some ⟨r13, 0, none⟩))] : List Value), Z3 t30 121 ([(.int .i64 (1)), (.int .i64 (3)), (.int .i64 (0)), (.map (some m31))] : List Value), ZC m31 nmV ceV M253, ZI B254, Z3 b201 24 ([(.int .i64 (Z5 ((AL.getD i ac0).n.cl) 3)), (.int .i64 (1 + (Z5 ((AL.getD i ac0).n.sq) 6)))] : List Value)] w250 := (Sat.turnL (L' := [Z3 t30 121 ([(.int .i64 (1)), (.int .i64 (3)), (.int .i64 (0)), (.map (some m31))] : List Value), ZC m31 nmV ceV M253, ZI B254, Z3 b11 110 ([(.map (some m12))] : List Value), ZC m12 Za (Value.int .i64) (Zq L255)]) (R := [Z6 w (fun _ => False), Z3 b2 36 ([(.int .i64 (1)), (.int .i64 (3))] : List Value), Z3 r13 98 ([(.slice a225 L230.length c226)] : List Value), Zb 114 2 (.slice a225 L230.length c226) L230.length (L230.flatMap Z0q), Z3 b21 40 ([(.pointer (some ⟨b11, 0, none⟩)), (.pointer (some ⟨r13, 0, none⟩))] : List Value), Z3 b201 24 ([(.int .i64 (Z5 ((AL.getD i ac0).n.cl) 3)), (.int .i64 (1 + (Z5 ((AL.getD i ac0).n.sq) 6)))] : List Value)]) H246 [7, 8, 9, 2, 3] [0, 1, 4, 5, 6, 10] (by decide) (by kernel_rfl) rfl T260).pick [5, 6, 3, 4, 7, 8, 9, 0, 1, 2, 10] (by decide)
    refine ⟨_, rfl, ?_⟩
    have k261 := (hM.more (stC (⟨Y228, a236, c237, D238⟩ : CeR))).took x247 d259
    have ndL255 : L255.Nodup ∧ L255.length ≤ L235.length + 1 := by
     by_cases q : r252 = 0
     ·rw [(z257 q).2]; exact ⟨Z0v n241 _, Z0w _ _⟩
     ·rw [z258 q]; exact ⟨n241, Nat.le_succ _⟩
    have S263 := H262.pick [0, 1, 6, 10] (by decide)
    refine hK249 _ _ S263 ?_
    clear hK249 K249
    refine Z0C (by kernel_rfl) ?_
    refine ZL ?_
    refine Z4 ?_
    refine Zp ?_
    refine Z2 (Z1 rfl) (d := 58) (v := (.int .i64 ((i : Int)))) rfl (by kernel_rfl) ?_
    refine Z2 (Z1 rfl) (d := 59) (v := (.int .i64 ((i : Int) + 1))) rfl (Z04 (z := (i : Int) + 1) (by kernel_rfl) (IntWalk.i64_in _ (by omega))) ?_
    refine Z2 (Z1 rfl) (d := 14) (v := (.int .i64 ((i : Int) + 1))) rfl (by kernel_rfl) ?_
    refine Zm ?_
    have H264 : Sat w [Z6 w (fun _ => False), Z3 b2 36 ([(.int .i64 (1)), (.int .i64 (3))] : List Value), Z3 b11 110 ([(.map (some m12))] : List Value), ZC m12 Za (Value.int .i64) (Zq L255), Z3 r13 98 ([(.slice a225 L230.length c226)] : List Value), Zb 114 2 (.slice a225 L230.length c226) L230.length (L230.flatMap Z0q), Z3 b21 40 ([(.pointer (some ⟨b11, 0, none⟩)), (.pointer (some ⟨r13, 0, none⟩))] : List Value), Z3 t30 121 ([(.int .i64 (1)), (.int .i64 (3)), (.int .i64 (0)), (.map (some m31))] : List Value), ZC m31 nmV ceV M253, ZI B254] w250 := H262.pick [0, 1, 2, 3, 4, 5, 6, 7, 8, 9] (by decide)
    refine ZM ?_ _ ⟨(i + 1), M253, B254, L255, L230, a225, c226, (show ((.int .i64 ((i : Int) + 1)) : Value) = _ by first | rfl | go_num), (by omega), (by omega), k261.1, (by have q := k261.2; omega), ndL255.1, ndL230, (by have q := ndL255.2; omega), (by omega), H264, rfl⟩ (by omega)
    exact (Z0 rfl (Z0 rfl (Z0 rfl (Z0 rfl (Z0 rfl (Z0 rfl (Z0 rfl (Z0 rfl (Z0 rfl (Z0 rfl (Z0 rfl (Z0 rfl (Z0 rfl (Z0 rfl (Z0 rfl (Z0 rfl (Z0 rfl (Z0 rfl (Z0 rfl (Z0 rfl (Z0 rfl (Z0 rfl (Z0 rfl (Z0 rfl (Z0 rfl (Z0 rfl (Z0 rfl (Z0 rfl (Z0 rfl (Z0 rfl (Z0 rfl (Z0 rfl (Z0 rfl (Z0 rfl (Z0 rfl (Z0 rfl (Z0 rfl (Z0 rfl (Z0 rfl (Z0 rfl (Z0 rfl (Z0 rfl (Z17 rfl (Z0 rfl (Z06)))))))))))))))))))))))))))))))))))))))))))))
  ·refine Zs 57 (.bool false) (congrArg Value.bool b53) ?_
   refine Z09 rfl ?_
   refine Z0M ?_
   refine Z0a ?_
   refine Z0c ?_
   refine Z0B ?_
   refine Z4 ?_
   refine Zc ?_
   refine Zp ?_
   refine Z2 (Z1 rfl) (d := 96) (v := (.pointer (some ⟨t30, 0, none⟩))) rfl (by kernel_rfl) ?_
   refine ZA (Z1 rfl) (fun K265 hK265 => ?_)
   refine Zv (d := 97) rfl (by kernel_rfl) (Z4j w50 t30 m31 1 3 0 M (H51.at 7 rfl) (H51.at 8 rfl) (fun q hq => ⟨(H51.at 9 rfl : (ZI B).ok _) _ (hM.T q hq).bag, (hM.T q hq).len⟩) (by omega)) ?_
   rintro _ w266 ⟨la, lc, HL, Bh, ss, rfl, hs, hsp, hco, hin, k267, u268, q269⟩
   have H270 : Sat w [Z6 w (fun _ => False), Z3 b2 36 ([(.int .i64 (1)), (.int .i64 (3))] : List Value), Z3 b11 110 ([(.map (some m12))] : List Value), ZC m12 Za (Value.int .i64) (Zq Lb), Z3 r13 98 ([(.slice ra Lr.length rc)] : List Value), Zb 114 2 (.slice ra Lr.length rc) Lr.length (Lr.flatMap Z0q), Z3 b21 40 ([(.pointer (some ⟨b11, 0, none⟩)), (.pointer (some ⟨r13, 0, none⟩))] : List Value), Z3 t30 121 ([(.int .i64 (1)), (.int .i64 (3)), (.int .i64 (0)), (.map (some m31))] : List Value), ZC m31 nmV ceV M, ZI B, ZH [Zb 53 38 (.slice la HL.length lc) HL.length (HL.flatMap ZK), ZI Bh]] w266 := H51.addU u268 k267 q269
   have H271 : Sat w [Z6 w (fun _ => False), Z3 b2 36 ([(.int .i64 (1)), (.int .i64 (3))] : List Value), Z3 b11 110 ([(.map (some m12))] : List Value), ZC m12 Za (Value.int .i64) (Zq Lb), Z3 r13 98 ([(.slice ra Lr.length rc)] : List Value), Zb 114 2 (.slice ra Lr.length rc) Lr.length (Lr.flatMap Z0q), Z3 b21 40 ([(.pointer (some ⟨b11, 0, none⟩)), (.pointer (some ⟨r13, 0, none⟩))] : List Value), Z3 t30 121 ([(.int .i64 (1)), (.int .i64 (3)), (.int .i64 (0)), (.map (some m31))] : List Value), ZC m31 nmV ceV M, ZI B, Zb 53 38 (.slice la HL.length lc) HL.length (HL.flatMap ZK), ZI Bh] w266 := H270.open 10 rfl
   refine ⟨_, rfl, ?_⟩
   have hcD := Z6G hco hs hM.T hin
   have hHL : HL.length = M.length := by have q1 := Z2A hco; have q2 := hs.length_eq; rw [List.length_map] at q2; omega
   refine hK265 _ _ ?_
   clear hK265 K265
   refine Z2 (Z1 rfl) (d := 16) (v := (.slice la HL.length lc)) rfl (by kernel_rfl) ?_
   refine Zm ?_
   refine Z4 ?_
   refine Zc ?_
   refine Zc ?_
   refine Zp ?_
   refine Z2 (Z1 rfl) (d := 98) (v := (.slice la HL.length lc)) rfl (by kernel_rfl) ?_
   refine Z2 (Z1 rfl) (d := 99) (v := (.int .i64 ((HL.length : Int)))) rfl (by kernel_rfl) ?_
   refine Z2 (Z1 rfl) (d := 100) (v := (.int .i64 (0))) rfl (by kernel_rfl) ?_
   refine Zm ?_
   refine Z4 ?_
   refine ZR ?_
   refine Z0m [8, 17, 18, 19, 100, 101, 102, 103, 104, 105, 106, 107, 108, 109, 110, 111, 112, 113, 114, 115, 116, 117, 118, 119, 120, 121, 122, 123, 124, 125, 126, 127, 128, 129, 130, 131, 132, 133, 134, 135, 136, 137, 138, 139, 140, 141, 142, 143, 144, 145, 146] (fun F_ W_ m_ => ∃ (j : Nat), F_ 100 = (.int .i64 ((j : Int))) ∧ (j ≤ HL.length) ∧ Sat w [Z6 w (fun _ => False), Z3 b2 36 ([(.int .i64 (1)), (.int .i64 (3))] : List Value), Z3 b11 110 ([(.map (some m12))] : List Value), ZC m12 Za (Value.int .i64) (Zq Lb), Z3 r13 98 ([(.slice ra Lr.length rc)] : List Value), Zb 114 2 (.slice ra Lr.length rc) Lr.length (Lr.flatMap Z0q), Z3 b21 40 ([(.pointer (some ⟨b11, 0, none⟩)), (.pointer (some ⟨r13, 0, none⟩))] : List Value), Z3 t30 121 ([(.int .i64 (1)), (.int .i64 (3)), (.int .i64 (0)), (.map (some m31))] : List Value), ZC m31 nmV ceV M, ZI B, Zb 53 38 (.slice la HL.length lc) HL.length (HL.flatMap ZK), ZI Bh] W_ ∧ m_ = HL.length - j) _ ⟨0, (show ((.int .i64 (0)) : Value) = _ by first | rfl | go_num), (Nat.zero_le _), H271, rfl⟩ ?_
   rintro g272 w273 _ ⟨j, v275, hj, H274, rfl⟩
   refine Zs 100 _ v275 ?_
   refine Zc ?_
   refine Zp ?_
   refine Z2 (Z1 rfl) (d := 101) (v := (.bool (decide ((j : Int) < (HL.length : Int))))) rfl (by kernel_rfl) ?_
   refine Zm ?_
   refine Z4 ?_
   refine Zc ?_
   refine (ZS (decide ((j : Int) < (HL.length : Int)))).elim (fun b277 => ?_) (fun b277 => ?_)
   ·have g278 := of_decide_eq_true b277
    refine Zs 101 (.bool true) (congrArg Value.bool b277) ?_
    have g279 := of_decide_eq_true b277
    refine Z0h rfl ?_
    refine Z0b ?_
    refine Z4 ?_
    refine Zc ?_
    refine ZR ?_
    refine Zc ?_
    refine Zp ?_
    refine Z2 (Z1 rfl) (d := 102) (v := (.int .i64 ((j : Int)))) rfl (by kernel_rfl) ?_
    refine Z2 (Z1 rfl) (d := 17) (v := (.int .i64 ((j : Int)))) rfl (by kernel_rfl) ?_
    refine Zm ?_
    refine Z4 ?_
    refine Zc ?_
    refine Zp ?_
    refine Z2 (Z1 rfl) (d := 104) (v := (.pointer (some ⟨t30, 0, none⟩))) rfl (by kernel_rfl) ?_
    refine Z2 (Z1 rfl) (d := 105) (v := (.slice la HL.length lc)) rfl (by kernel_rfl) ?_
    refine Z2 (Z1 rfl) (d := 106) (v := (.int .i64 ((j : Int)))) rfl (by kernel_rfl) ?_
    obtain ⟨g280, c281, e282⟩ := Z16 (H274.at 10 rfl) (by omega)
    obtain ⟨x283, h284⟩ := Z2r (show j < HL.length by omega)
    refine Z2 (Z1 rfl) (d := 107) (v := (.pointer (some ⟨g280, 0 + ((j : Int)).toNat * 38, none⟩))) rfl (Z0D (E := 53) (by kernel_rfl) (by kernel_rfl) (Nat.le_of_ble_eq_true rfl) rfl e282 rfl (by omega) (by omega)) ?_
    refine Z2 (Z1 rfl) (d := 108) (v := (.pointer (some ⟨g280, 0 + ((j : Int)).toNat * 38, none⟩))) rfl (by kernel_rfl) ?_
    refine Z2 (Z1 rfl) (d := 109) (v := (.pointer (some ⟨g280, 0 + ((j : Int)).toNat * 38, none⟩))) rfl (by kernel_rfl) ?_
    refine Z2 (Z1 rfl) (d := 110) (v := (.agg ⟨([(.int .i64 (x283.x.cl)), (.int .i64 (x283.x.seq))] : List Value)⟩)) rfl (Z0F (vs := ([(.int .i64 (x283.x.cl)), (.int .i64 (x283.x.seq))] : List Value)) rfl (by kernel_rfl) (by kernel_rfl) (Nat.le_of_ble_eq_true (by kernel_rfl)) (Z1J (H274.at 10 rfl) e282 Z14 h284 0 (show 0 + ((j : Int)).toNat * 38 = j * 38 + 0 by omega) (by kernel_rfl) (by kernel_rfl))) ?_
    refine ZA (Z1 rfl) (fun K285 hK285 => ?_)
    refine Zv (d := 111) rfl (by kernel_rfl) (Z7f w273 t30 m31 1 3 0 M (H274.at 7 rfl) (H274.at 8 rfl) (fun q hq => ⟨(H274.at 9 rfl : (ZI B).ok _) _ (hM.T q hq).bag, (hM.T q hq).len⟩) x283.x.cl x283.x.seq) ?_
    rintro _ w286 ⟨u287, rfl, k288, p289, q290⟩
    have H291 : Sat w [Z6 w (fun _ => False), Z3 b2 36 ([(.int .i64 (1)), (.int .i64 (3))] : List Value), Z3 b11 110 ([(.map (some m12))] : List Value), ZC m12 Za (Value.int .i64) (Zq Lb), Z3 r13 98 ([(.slice ra Lr.length rc)] : List Value), Zb 114 2 (.slice ra Lr.length rc) Lr.length (Lr.flatMap Z0q), Z3 b21 40 ([(.pointer (some ⟨b11, 0, none⟩)), (.pointer (some ⟨r13, 0, none⟩))] : List Value), Z3 t30 121 ([(.int .i64 (1)), (.int .i64 (3)), (.int .i64 (0)), (.map (some m31))] : List Value), ZC m31 nmV ceV M, ZI B, Zb 53 38 (.slice la HL.length lc) HL.length (HL.flatMap ZK), ZI Bh, Zb 101 38 u287 ((((Z7 M (⟨x283.x.cl, x283.x.seq⟩ : NmD)).getD ce0).S).length) ((((Z7 M (⟨x283.x.cl, x283.x.seq⟩ : NmD)).getD ce0).S).flatMap Z0l)] w286 := H274.addU p289 k288 q290
    obtain ⟨a292, c293, rfl⟩ := Zl (H291.at 12 rfl)
    refine ⟨_, rfl, ?_⟩
    refine hK285 _ _ ?_
    clear hK285 K285
    refine Z2 (Z1 rfl) (d := 103) (v := (.tuple #[(.agg ⟨(([(.int .i64 (((Z7 M (⟨x283.x.cl, x283.x.seq⟩ : NmD)).getD ce0).x.cl)), (.int .i64 (((Z7 M (⟨x283.x.cl, x283.x.seq⟩ : NmD)).getD ce0).x.seq))] : List Value) ++ hc ((Z7 M (⟨x283.x.cl, x283.x.seq⟩ : NmD)).getD ce0).x.h ++ ([(.int .i64 (((Z7 M (⟨x283.x.cl, x283.x.seq⟩ : NmD)).getD ce0).x.len)), (.int .i64 (((Z7 M (⟨x283.x.cl, x283.x.seq⟩ : NmD)).getD ce0).x.sb)), (.int .i64 (((Z7 M (⟨x283.x.cl, x283.x.seq⟩ : NmD)).getD ce0).x.sm)), (.slice a292 ((((Z7 M (⟨x283.x.cl, x283.x.seq⟩ : NmD)).getD ce0).S).length) c293)] : List Value))⟩), (.bool ((Z7 M (⟨x283.x.cl, x283.x.seq⟩ : NmD)).isSome))])) rfl (by kernel_rfl) ?_
    refine Z2 (Z1 rfl) (d := 112) (v := (.agg ⟨(([(.int .i64 (((Z7 M (⟨x283.x.cl, x283.x.seq⟩ : NmD)).getD ce0).x.cl)), (.int .i64 (((Z7 M (⟨x283.x.cl, x283.x.seq⟩ : NmD)).getD ce0).x.seq))] : List Value) ++ hc ((Z7 M (⟨x283.x.cl, x283.x.seq⟩ : NmD)).getD ce0).x.h ++ ([(.int .i64 (((Z7 M (⟨x283.x.cl, x283.x.seq⟩ : NmD)).getD ce0).x.len)), (.int .i64 (((Z7 M (⟨x283.x.cl, x283.x.seq⟩ : NmD)).getD ce0).x.sb)), (.int .i64 (((Z7 M (⟨x283.x.cl, x283.x.seq⟩ : NmD)).getD ce0).x.sm)), (.slice a292 ((((Z7 M (⟨x283.x.cl, x283.x.seq⟩ : NmD)).getD ce0).S).length) c293)] : List Value))⟩)) rfl (by kernel_rfl) ?_
    refine Z2 (Z1 rfl) (d := 113) (v := (.bool ((Z7 M (⟨x283.x.cl, x283.x.seq⟩ : NmD)).isSome))) rfl (by kernel_rfl) ?_
    refine ZA (Z1 rfl) (fun K294 hK294 => ?_)
    refine Z0e (zs := (([(.int .i64 (0)), (.int .i64 (0))] : List Value) ++ hc Zo ++ ([(.int .i64 (0)), (.int .i64 (0)), (.int .i64 (0)), (.slice none 0 0)] : List Value))) (z := (.agg ⟨(([(.int .i64 (0)), (.int .i64 (0))] : List Value) ++ hc Zo ++ ([(.int .i64 (0)), (.int .i64 (0)), (.int .i64 (0)), (.slice none 0 0)] : List Value))⟩)) rfl H291 (by kernel_rfl) (by kernel_rfl) ?_
    intro b295 w296 (H297 : Sat w [Z6 w (fun _ => False), Z3 b2 36 ([(.int .i64 (1)), (.int .i64 (3))] : List Value), Z3 b11 110 ([(.map (some m12))] : List Value), ZC m12 Za (Value.int .i64) (Zq Lb), Z3 r13 98 ([(.slice ra Lr.length rc)] : List Value), Zb 114 2 (.slice ra Lr.length rc) Lr.length (Lr.flatMap Z0q), Z3 b21 40 ([(.pointer (some ⟨b11, 0, none⟩)), (.pointer (some ⟨r13, 0, none⟩))] : List Value), Z3 t30 121 ([(.int .i64 (1)), (.int .i64 (3)), (.int .i64 (0)), (.map (some m31))] : List Value), ZC m31 nmV ceV M, ZI B, Zb 53 38 (.slice la HL.length lc) HL.length (HL.flatMap ZK), ZI Bh, Zb 101 38 (.slice a292 ((((Z7 M (⟨x283.x.cl, x283.x.seq⟩ : NmD)).getD ce0).S).length) c293) ((((Z7 M (⟨x283.x.cl, x283.x.seq⟩ : NmD)).getD ce0).S).length) ((((Z7 M (⟨x283.x.cl, x283.x.seq⟩ : NmD)).getD ce0).S).flatMap Z0l), Z3 b295 53 (([(.int .i64 (0)), (.int .i64 (0))] : List Value) ++ hc Zo ++ ([(.int .i64 (0)), (.int .i64 (0)), (.int .i64 (0)), (.slice none 0 0)] : List Value))] w296)
    refine hK294 _ _ ?_
    clear hK294 K294
    refine ZA (Z1 rfl) (fun K298 hK298 => ?_)
    refine ZU (vs := (([(.int .i64 (((Z7 M (⟨x283.x.cl, x283.x.seq⟩ : NmD)).getD ce0).x.cl)), (.int .i64 (((Z7 M (⟨x283.x.cl, x283.x.seq⟩ : NmD)).getD ce0).x.seq))] : List Value) ++ hc ((Z7 M (⟨x283.x.cl, x283.x.seq⟩ : NmD)).getD ce0).x.h ++ ([(.int .i64 (((Z7 M (⟨x283.x.cl, x283.x.seq⟩ : NmD)).getD ce0).x.len)), (.int .i64 (((Z7 M (⟨x283.x.cl, x283.x.seq⟩ : NmD)).getD ce0).x.sb)), (.int .i64 (((Z7 M (⟨x283.x.cl, x283.x.seq⟩ : NmD)).getD ce0).x.sm)), (.slice a292 ((((Z7 M (⟨x283.x.cl, x283.x.seq⟩ : NmD)).getD ce0).S).length) c293)] : List Value))) (cs' := (([(.int .i64 (((Z7 M (⟨x283.x.cl, x283.x.seq⟩ : NmD)).getD ce0).x.cl)), (.int .i64 (((Z7 M (⟨x283.x.cl, x283.x.seq⟩ : NmD)).getD ce0).x.seq))] : List Value) ++ hc ((Z7 M (⟨x283.x.cl, x283.x.seq⟩ : NmD)).getD ce0).x.h ++ ([(.int .i64 (((Z7 M (⟨x283.x.cl, x283.x.seq⟩ : NmD)).getD ce0).x.len)), (.int .i64 (((Z7 M (⟨x283.x.cl, x283.x.seq⟩ : NmD)).getD ce0).x.sb)), (.int .i64 (((Z7 M (⟨x283.x.cl, x283.x.seq⟩ : NmD)).getD ce0).x.sm)), (.slice a292 ((((Z7 M (⟨x283.x.cl, x283.x.seq⟩ : NmD)).getD ce0).S).length) c293)] : List Value))) rfl H297 13 rfl rfl rfl rfl (by kernel_rfl) (Nat.le_of_ble_eq_true (by kernel_rfl)) (Nat.le_of_ble_eq_true (by kernel_rfl)) (by kernel_rfl) (by kernel_rfl) ?_
    intro w299 (H300 : Sat w [Z6 w (fun _ => False), Z3 b2 36 ([(.int .i64 (1)), (.int .i64 (3))] : List Value), Z3 b11 110 ([(.map (some m12))] : List Value), ZC m12 Za (Value.int .i64) (Zq Lb), Z3 r13 98 ([(.slice ra Lr.length rc)] : List Value), Zb 114 2 (.slice ra Lr.length rc) Lr.length (Lr.flatMap Z0q), Z3 b21 40 ([(.pointer (some ⟨b11, 0, none⟩)), (.pointer (some ⟨r13, 0, none⟩))] : List Value), Z3 t30 121 ([(.int .i64 (1)), (.int .i64 (3)), (.int .i64 (0)), (.map (some m31))] : List Value), ZC m31 nmV ceV M, ZI B, Zb 53 38 (.slice la HL.length lc) HL.length (HL.flatMap ZK), ZI Bh, Zb 101 38 (.slice a292 ((((Z7 M (⟨x283.x.cl, x283.x.seq⟩ : NmD)).getD ce0).S).length) c293) ((((Z7 M (⟨x283.x.cl, x283.x.seq⟩ : NmD)).getD ce0).S).length) ((((Z7 M (⟨x283.x.cl, x283.x.seq⟩ : NmD)).getD ce0).S).flatMap Z0l), Z3 b295 53 (([(.int .i64 (((Z7 M (⟨x283.x.cl, x283.x.seq⟩ : NmD)).getD ce0).x.cl)), (.int .i64 (((Z7 M (⟨x283.x.cl, x283.x.seq⟩ : NmD)).getD ce0).x.seq))] : List Value) ++ hc ((Z7 M (⟨x283.x.cl, x283.x.seq⟩ : NmD)).getD ce0).x.h ++ ([(.int .i64 (((Z7 M (⟨x283.x.cl, x283.x.seq⟩ : NmD)).getD ce0).x.len)), (.int .i64 (((Z7 M (⟨x283.x.cl, x283.x.seq⟩ : NmD)).getD ce0).x.sb)), (.int .i64 (((Z7 M (⟨x283.x.cl, x283.x.seq⟩ : NmD)).getD ce0).x.sm)), (.slice a292 ((((Z7 M (⟨x283.x.cl, x283.x.seq⟩ : NmD)).getD ce0).S).length) c293)] : List Value))] w299)
    refine hK298 _ _ ?_
    clear hK298 K298
    refine Z2 (Z1 rfl) (d := 19) (v := (.bool ((Z7 M (⟨x283.x.cl, x283.x.seq⟩ : NmD)).isSome))) rfl (by kernel_rfl) ?_
    refine Zm ?_
    refine Z4 ?_
    refine Zc ?_
    refine Z1d H300 (by kernel_rfl) (by kernel_rfl) ?_
    refine Zz (Z1 rfl) (d := 114) (v := (.bool ((Z7 M (⟨x283.x.cl, x283.x.seq⟩ : NmD)).isSome))) rfl (fun _ H' => (by kernel_rfl)) ?_
    refine Zz (Z1 rfl) (d := 115) (v := (.bool (!((Z7 M (⟨x283.x.cl, x283.x.seq⟩ : NmD)).isSome)))) rfl (fun _ H' => (by kernel_rfl)) ?_
    refine Zz (Z1 rfl) (d := 116) (v := (.bool (!((Z7 M (⟨x283.x.cl, x283.x.seq⟩ : NmD)).isSome)))) rfl (fun _ H' => (by kernel_rfl)) ?_
    have b302 : (!((Z7 M (⟨x283.x.cl, x283.x.seq⟩ : NmD)).isSome)) = false := by rw [show (Z7 M (⟨x283.x.cl, x283.x.seq⟩ : NmD)).isSome = true from (Z5j hM hs hco h284).2.1]; rfl
    refine Z1O 116 (.bool false) (congrArg Value.bool b302) ?_
    have g303 := ZG b302
    refine Zz (Zj 2 116 false rfl (by kernel_rfl) rfl (by kernel_rfl)) (d := 117) (v := (.agg ⟨(([(.int .i64 (((Z7 M (⟨x283.x.cl, x283.x.seq⟩ : NmD)).getD ce0).x.cl)), (.int .i64 (((Z7 M (⟨x283.x.cl, x283.x.seq⟩ : NmD)).getD ce0).x.seq))] : List Value) ++ hc ((Z7 M (⟨x283.x.cl, x283.x.seq⟩ : NmD)).getD ce0).x.h ++ ([(.int .i64 (((Z7 M (⟨x283.x.cl, x283.x.seq⟩ : NmD)).getD ce0).x.len)), (.int .i64 (((Z7 M (⟨x283.x.cl, x283.x.seq⟩ : NmD)).getD ce0).x.sb)), (.int .i64 (((Z7 M (⟨x283.x.cl, x283.x.seq⟩ : NmD)).getD ce0).x.sm)), (.slice a292 ((((Z7 M (⟨x283.x.cl, x283.x.seq⟩ : NmD)).getD ce0).S).length) c293)] : List Value))⟩)) rfl (fun _ H' => (ZB (vs := (([(.int .i64 (((Z7 M (⟨x283.x.cl, x283.x.seq⟩ : NmD)).getD ce0).x.cl)), (.int .i64 (((Z7 M (⟨x283.x.cl, x283.x.seq⟩ : NmD)).getD ce0).x.seq))] : List Value) ++ hc ((Z7 M (⟨x283.x.cl, x283.x.seq⟩ : NmD)).getD ce0).x.h ++ ([(.int .i64 (((Z7 M (⟨x283.x.cl, x283.x.seq⟩ : NmD)).getD ce0).x.len)), (.int .i64 (((Z7 M (⟨x283.x.cl, x283.x.seq⟩ : NmD)).getD ce0).x.sb)), (.int .i64 (((Z7 M (⟨x283.x.cl, x283.x.seq⟩ : NmD)).getD ce0).x.sm)), (.slice a292 ((((Z7 M (⟨x283.x.cl, x283.x.seq⟩ : NmD)).getD ce0).S).length) c293)] : List Value))) rfl (by kernel_rfl) (by kernel_rfl) (by exact Nat.le_of_ble_eq_true (by kernel_rfl)) (H'.at 13 rfl) (by kernel_rfl))) ?_
    refine Zz (Zj 2 116 false rfl (by kernel_rfl) rfl (by kernel_rfl)) (d := 118) (v := (.slice la HL.length lc)) rfl (fun _ H' => (by kernel_rfl)) ?_
    refine Zz (Zj 2 116 false rfl (by kernel_rfl) rfl (by kernel_rfl)) (d := 119) (v := (.int .i64 ((j : Int)))) rfl (fun _ H' => (by kernel_rfl)) ?_
    refine Zz (Zj 2 116 false rfl (by kernel_rfl) rfl (by kernel_rfl)) (d := 120) (v := (.pointer (some ⟨g280, 0 + ((j : Int)).toNat * 38, none⟩))) rfl (fun _ H' => (Z0D (E := 53) (by kernel_rfl) (by kernel_rfl) (Nat.le_of_ble_eq_true rfl) rfl e282 rfl (by omega) (by omega))) ?_
    refine Zz (Zj 2 116 false rfl (by kernel_rfl) rfl (by kernel_rfl)) (d := 121) (v := (.agg ⟨(([(.int .i64 (x283.x.cl)), (.int .i64 (x283.x.seq))] : List Value) ++ hc x283.x.h ++ ([(.int .i64 (x283.x.len)), (.int .i64 (x283.x.sb)), (.int .i64 (x283.x.sm)), (.slice x283.sa x283.S.length x283.sc)] : List Value))⟩)) rfl (fun _ H' => (Z0F (vs := (([(.int .i64 (x283.x.cl)), (.int .i64 (x283.x.seq))] : List Value) ++ hc x283.x.h ++ ([(.int .i64 (x283.x.len)), (.int .i64 (x283.x.sb)), (.int .i64 (x283.x.sm)), (.slice x283.sa x283.S.length x283.sc)] : List Value))) rfl (by kernel_rfl) (by kernel_rfl) (Nat.le_of_ble_eq_true (by kernel_rfl)) (Z1J (H'.at 10 rfl) e282 Z14 h284 0 (show 0 + ((j : Int)).toNat * 38 = j * 38 + 0 by omega) (by kernel_rfl) (by kernel_rfl)))) ?_
    refine Z1H (Zj 2 116 false rfl (by kernel_rfl) rfl (by kernel_rfl)) (d := 122) (v := (.bool true)) rfl (fun _ _ => by kernel_rfl) (fun w' H' => (Z75 w' (⟨((Z7 M (⟨x283.x.cl, x283.x.seq⟩ : NmD)).getD ce0).x, a292, c293, ((Z7 M (⟨x283.x.cl, x283.x.seq⟩ : NmD)).getD ce0).S⟩ : CeR) x283 (ListAt.row Z1x (by decide) (H'.at 12 rfl)) (Z2h (c := x283) (H'.at 11 rfl) (hcD _ (List.mem_of_getElem? h284)).bag) (Prod.mk.inj (Z5j hM hs hco h284).2.2).1.symm (Prod.mk.inj (Z5j hM hs hco h284).2.2).2.symm).mono fun _ _ h => ⟨h.1, H'.keepU h.2⟩) ?_
    refine Zz (Zj 2 116 false rfl (by kernel_rfl) rfl (by kernel_rfl)) (d := 123) (v := (.bool false)) rfl (fun _ H' => (by kernel_rfl)) ?_
    refine Zz (Z1 rfl) (d := 124) (v := (.bool false)) rfl (fun _ H' => (by kernel_rfl)) ?_
    refine Zz (Z1 rfl) (d := 125) (v := (.bool false)) rfl (fun _ H' => (by kernel_rfl)) ?_
    refine Zz (Zj 11 125 false rfl (by kernel_rfl) rfl (by kernel_rfl)) (d := 126) (v := (.int .i64 ((j : Int)))) rfl (fun _ H' => (by kernel_rfl)) ?_
    refine Zz (Zj 11 125 false rfl (by kernel_rfl) rfl (by kernel_rfl)) (d := 127) (v := (.bool (decide ((j : Int) > 0)))) rfl (fun _ H' => (by kernel_rfl)) ?_
    refine Zz (Zj 11 125 false rfl (by kernel_rfl) rfl (by kernel_rfl)) (d := 128) (v := (.bool (decide ((j : Int) > 0)))) rfl (fun _ H' => (by kernel_rfl)) ?_
    refine (ZS (decide ((j : Int) > 0))).elim (fun b304 => ?_) (fun b304 => ?_)
    ·have g305 := of_decide_eq_true b304
     refine Z1O 128 (.bool true) (congrArg Value.bool b304) ?_
     have g306 := of_decide_eq_true b304
     refine Zz (Zj 14 128 true rfl (by kernel_rfl) rfl (by kernel_rfl)) (d := 129) (v := (.slice la HL.length lc)) rfl (fun _ H' => (by kernel_rfl)) ?_
     refine Zz (Zj 14 128 true rfl (by kernel_rfl) rfl (by kernel_rfl)) (d := 130) (v := (.int .i64 ((j : Int)))) rfl (fun _ H' => (by kernel_rfl)) ?_
     refine Zz (Zj 14 128 true rfl (by kernel_rfl) rfl (by kernel_rfl)) (d := 131) (v := (.int .i64 ((j : Int) - 1))) rfl (fun _ H' => (Z04 (z := (j : Int) - 1) (by kernel_rfl) (IntWalk.i64_in _ (by omega)))) ?_
     obtain ⟨g307, c308, e309⟩ := Z16 (H300.at 10 rfl) (by omega)
     obtain ⟨x310, h311⟩ := Z2r (show ((j : Int) - 1).toNat < HL.length by omega)
     refine Zz (Zj 14 128 true rfl (by kernel_rfl) rfl (by kernel_rfl)) (d := 132) (v := (.pointer (some ⟨g307, 0 + ((j : Int) - 1).toNat * 38, none⟩))) rfl (fun _ H' => (Z0D (E := 53) (by kernel_rfl) (by kernel_rfl) (Nat.le_of_ble_eq_true rfl) rfl e309 rfl (by omega) (by omega))) ?_
     refine Zz (Zj 14 128 true rfl (by kernel_rfl) rfl (by kernel_rfl)) (d := 133) (v := (.pointer (some ⟨g307, 0 + ((j : Int) - 1).toNat * 38, none⟩))) rfl (fun _ H' => (by kernel_rfl)) ?_
     refine Zz (Zj 14 128 true rfl (by kernel_rfl) rfl (by kernel_rfl)) (d := 134) (v := (.pointer (some ⟨g307, 0 + ((j : Int) - 1).toNat * 38, none⟩))) rfl (fun _ H' => (by kernel_rfl)) ?_
     refine Zz (Zj 14 128 true rfl (by kernel_rfl) rfl (by kernel_rfl)) (d := 135) (v := (.agg ⟨([(.int .i64 (x310.x.cl)), (.int .i64 (x310.x.seq))] : List Value)⟩)) rfl (fun _ H' => (Z0F (vs := ([(.int .i64 (x310.x.cl)), (.int .i64 (x310.x.seq))] : List Value)) rfl (by kernel_rfl) (by kernel_rfl) (Nat.le_of_ble_eq_true (by kernel_rfl)) (Z1J (H'.at 10 rfl) e309 Z14 h311 0 (show 0 + ((j : Int) - 1).toNat * 38 = ((j : Int) - 1).toNat * 38 + 0 by omega) (by kernel_rfl) (by kernel_rfl)))) ?_
     refine Zz (Zj 14 128 true rfl (by kernel_rfl) rfl (by kernel_rfl)) (d := 136) (v := (.slice la HL.length lc)) rfl (fun _ H' => (by kernel_rfl)) ?_
     refine Zz (Zj 14 128 true rfl (by kernel_rfl) rfl (by kernel_rfl)) (d := 137) (v := (.int .i64 ((j : Int)))) rfl (fun _ H' => (by kernel_rfl)) ?_
     refine Zz (Zj 14 128 true rfl (by kernel_rfl) rfl (by kernel_rfl)) (d := 138) (v := (.pointer (some ⟨g280, 0 + ((j : Int)).toNat * 38, none⟩))) rfl (fun _ H' => (Z0D (E := 53) (by kernel_rfl) (by kernel_rfl) (Nat.le_of_ble_eq_true rfl) rfl e282 rfl (by omega) (by omega))) ?_
     refine Zz (Zj 14 128 true rfl (by kernel_rfl) rfl (by kernel_rfl)) (d := 139) (v := (.pointer (some ⟨g280, 0 + ((j : Int)).toNat * 38, none⟩))) rfl (fun _ H' => (by kernel_rfl)) ?_
     refine Zz (Zj 14 128 true rfl (by kernel_rfl) rfl (by kernel_rfl)) (d := 140) (v := (.pointer (some ⟨g280, 0 + ((j : Int)).toNat * 38, none⟩))) rfl (fun _ H' => (by kernel_rfl)) ?_
     refine Zz (Zj 14 128 true rfl (by kernel_rfl) rfl (by kernel_rfl)) (d := 141) (v := (.agg ⟨([(.int .i64 (x283.x.cl)), (.int .i64 (x283.x.seq))] : List Value)⟩)) rfl (fun _ H' => (Z0F (vs := ([(.int .i64 (x283.x.cl)), (.int .i64 (x283.x.seq))] : List Value)) rfl (by kernel_rfl) (by kernel_rfl) (Nat.le_of_ble_eq_true (by kernel_rfl)) (Z1J (H'.at 10 rfl) e282 Z14 h284 0 (show 0 + ((j : Int)).toNat * 38 = j * 38 + 0 by omega) (by kernel_rfl) (by kernel_rfl)))) ?_
     refine Z1H (Zj 14 128 true rfl (by kernel_rfl) rfl (by kernel_rfl)) (d := 142) (v := (.bool true)) rfl (fun _ _ => by kernel_rfl) (fun w' H' => (Z6o w' x310 x283 (rising (hs.nodup_iff.2 hM.N) hsp (Z5j hM hs hco h311).1 (Z5j hM hs hco h284).1 (by omega))).mono fun _ _ h => ⟨h.1, H'.keepU h.2⟩) ?_
     refine Zz (Zj 14 128 true rfl (by kernel_rfl) rfl (by kernel_rfl)) (d := 143) (v := (.bool false)) rfl (fun _ H' => (by kernel_rfl)) ?_
     refine Zz (Zj 11 125 false rfl (by kernel_rfl) rfl (by kernel_rfl)) (d := 144) (v := (.bool false)) rfl (fun _ H' => (by kernel_rfl)) ?_
     refine Zz (Z1 rfl) (d := 145) (v := (.bool false)) rfl (fun _ H' => (by kernel_rfl)) ?_
     refine Z1U ?_
     intro w312 H313
     refine Z4 ?_
     refine Z09 rfl ?_
     refine Z0b ?_
     refine ZL ?_
     refine Z4 ?_
     refine Zp ?_
     refine Z2 (Z1 rfl) (d := 146) (v := (.int .i64 ((j : Int) + 1))) rfl (Z04 (z := (j : Int) + 1) (by kernel_rfl) (IntWalk.i64_in _ (by omega))) ?_
     refine Z2 (Z1 rfl) (d := 100) (v := (.int .i64 ((j : Int) + 1))) rfl (by kernel_rfl) ?_
     refine Zm ?_
     have H314 : Sat w [Z6 w (fun _ => False), Z3 b2 36 ([(.int .i64 (1)), (.int .i64 (3))] : List Value), Z3 b11 110 ([(.map (some m12))] : List Value), ZC m12 Za (Value.int .i64) (Zq Lb), Z3 r13 98 ([(.slice ra Lr.length rc)] : List Value), Zb 114 2 (.slice ra Lr.length rc) Lr.length (Lr.flatMap Z0q), Z3 b21 40 ([(.pointer (some ⟨b11, 0, none⟩)), (.pointer (some ⟨r13, 0, none⟩))] : List Value), Z3 t30 121 ([(.int .i64 (1)), (.int .i64 (3)), (.int .i64 (0)), (.map (some m31))] : List Value), ZC m31 nmV ceV M, ZI B, Zb 53 38 (.slice la HL.length lc) HL.length (HL.flatMap ZK), ZI Bh] w312 := H313.pick [0, 1, 2, 3, 4, 5, 6, 7, 8, 9, 10, 11] (by decide)
     refine ZM ?_ _ ⟨(j + 1), (show ((.int .i64 ((j : Int) + 1)) : Value) = _ by first | rfl | go_num), (by omega), H314, rfl⟩ (by omega)
     exact (Z0 rfl (Z0 rfl (Z0 rfl (Z0 rfl (Z0 rfl (Z0 rfl (Z0 rfl (Z0 rfl (Z0 rfl (Z0 rfl (Z0 rfl (Z0 rfl (Z0 rfl (Z0 rfl (Z0 rfl (Z0 rfl (Z0 rfl (Z0 rfl (Z0 rfl (Z0 rfl (Z0 rfl (Z0 rfl (Z0 rfl (Z0 rfl (Z0 rfl (Z0 rfl (Z0 rfl (Z0 rfl (Z0 rfl (Z0 rfl (Z0 rfl (Z0 rfl (Z0 rfl (Z0 rfl (Z0 rfl (Z0 rfl (Z0 rfl (Z0 rfl (Z0 rfl (Z0 rfl (Z0 rfl (Z0 rfl (Z0 rfl (Z0 rfl (Z0 rfl (Z0 rfl (Z0 rfl (Z0 rfl (Z0 rfl (Z0 rfl (Z0 rfl (Z0 rfl (Z0 rfl (Z0 rfl (Z06)))))))))))))))))))))))))))))))))))))))))))))))))))))))
    ·have g315 := of_decide_eq_false b304
     refine Z1O 128 (.bool false) (congrArg Value.bool b304) ?_
     have g316 := of_decide_eq_false b304
     refine Z07 (Zh 14 128 true rfl (by kernel_rfl) rfl (by kernel_rfl)) rfl ?_
     refine Z07 (Zh 14 128 true rfl (by kernel_rfl) rfl (by kernel_rfl)) rfl ?_
     refine Z07 (Zh 14 128 true rfl (by kernel_rfl) rfl (by kernel_rfl)) rfl ?_
     refine Z07 (Zh 14 128 true rfl (by kernel_rfl) rfl (by kernel_rfl)) rfl ?_
     refine Z07 (Zh 14 128 true rfl (by kernel_rfl) rfl (by kernel_rfl)) rfl ?_
     refine Z07 (Zh 14 128 true rfl (by kernel_rfl) rfl (by kernel_rfl)) rfl ?_
     refine Z07 (Zh 14 128 true rfl (by kernel_rfl) rfl (by kernel_rfl)) rfl ?_
     refine Z07 (Zh 14 128 true rfl (by kernel_rfl) rfl (by kernel_rfl)) rfl ?_
     refine Z07 (Zh 14 128 true rfl (by kernel_rfl) rfl (by kernel_rfl)) rfl ?_
     refine Z07 (Zh 14 128 true rfl (by kernel_rfl) rfl (by kernel_rfl)) rfl ?_
     refine Z07 (Zh 14 128 true rfl (by kernel_rfl) rfl (by kernel_rfl)) rfl ?_
     refine Z07 (Zh 14 128 true rfl (by kernel_rfl) rfl (by kernel_rfl)) rfl ?_
     refine Z07 (Zh 14 128 true rfl (by kernel_rfl) rfl (by kernel_rfl)) rfl ?_
     refine Z07 (Zh 14 128 true rfl (by kernel_rfl) rfl (by kernel_rfl)) rfl ?_
     refine Z07 (Zh 14 128 true rfl (by kernel_rfl) rfl (by kernel_rfl)) rfl ?_
     refine Zz (Zj 11 125 false rfl (by kernel_rfl) rfl (by kernel_rfl)) (d := 144) (v := (.bool false)) rfl (fun _ H' => (by kernel_rfl)) ?_
     refine Zz (Z1 rfl) (d := 145) (v := (.bool false)) rfl (fun _ H' => (by kernel_rfl)) ?_
     refine Z1U ?_
     intro w317 H318
     refine Z4 ?_
     refine Z09 rfl ?_
     refine Z0b ?_
     refine ZL ?_
     refine Z4 ?_
     refine Zp ?_
     refine Z2 (Z1 rfl) (d := 146) (v := (.int .i64 ((j : Int) + 1))) rfl (Z04 (z := (j : Int) + 1) (by kernel_rfl) (IntWalk.i64_in _ (by omega))) ?_
     refine Z2 (Z1 rfl) (d := 100) (v := (.int .i64 ((j : Int) + 1))) rfl (by kernel_rfl) ?_
     refine Zm ?_
     have H319 : Sat w [Z6 w (fun _ => False), Z3 b2 36 ([(.int .i64 (1)), (.int .i64 (3))] : List Value), Z3 b11 110 ([(.map (some m12))] : List Value), ZC m12 Za (Value.int .i64) (Zq Lb), Z3 r13 98 ([(.slice ra Lr.length rc)] : List Value), Zb 114 2 (.slice ra Lr.length rc) Lr.length (Lr.flatMap Z0q), Z3 b21 40 ([(.pointer (some ⟨b11, 0, none⟩)), (.pointer (some ⟨r13, 0, none⟩))] : List Value), Z3 t30 121 ([(.int .i64 (1)), (.int .i64 (3)), (.int .i64 (0)), (.map (some m31))] : List Value), ZC m31 nmV ceV M, ZI B, Zb 53 38 (.slice la HL.length lc) HL.length (HL.flatMap ZK), ZI Bh] w317 := H318.pick [0, 1, 2, 3, 4, 5, 6, 7, 8, 9, 10, 11] (by decide)
     refine ZM ?_ _ ⟨(j + 1), (show ((.int .i64 ((j : Int) + 1)) : Value) = _ by first | rfl | go_num), (by omega), H319, rfl⟩ (by omega)
     exact (Z0 rfl (Z0 rfl (Z0 rfl (Z0 rfl (Z0 rfl (Z0 rfl (Z0 rfl (Z0 rfl (Z0 rfl (Z0 rfl (Z0 rfl (Z0 rfl (Z0 rfl (Z0 rfl (Z0 rfl (Z0 rfl (Z0 rfl (Z0 rfl (Z0 rfl (Z0 rfl (Z0 rfl (Z0 rfl (Z0 rfl (Z0 rfl (Z0 rfl (Z0 rfl (Z0 rfl (Z0 rfl (Z0 rfl (Z0 rfl (Z0 rfl (Z0 rfl (Z0 rfl (Z0 rfl (Z0 rfl (Z0 rfl (Z0 rfl (Z0 rfl (Z0 rfl (Z0 rfl (Z0 rfl (Z0 rfl (Z0 rfl (Z0 rfl (Z0 rfl (Z0 rfl (Z0 rfl (Z0 rfl (Z0 rfl (Z0 rfl (Z0 rfl (Z0 rfl (Z0 rfl (Z0 rfl (Z06)))))))))))))))))))))))))))))))))))))))))))))))))))))))
   ·have g320 := of_decide_eq_false b277
    refine Zs 101 (.bool false) (congrArg Value.bool b277) ?_
    have g321 := of_decide_eq_false b277
    refine Z09 rfl ?_
    refine Z0M ?_
    refine Z0a ?_
    refine Z0c ?_
    refine Z0B ?_
    refine Z4 ?_
    refine Zc ?_
    refine Zp ?_
    refine Z2 (Z1 rfl) (d := 147) (v := (.int .u64 (ua))) rfl (by kernel_rfl) ?_
    refine Z2 (Z1 rfl) (d := 148) (v := (.int .u64 (ua % 20))) rfl (Z5B (by kernel_rfl) (by omega) (by omega)) ?_
    refine Z2 (Z1 rfl) (d := 1) (v := (.int .u64 (ua % 20))) rfl (by kernel_rfl) ?_
    refine Zm ?_
    refine Z4 ?_
    refine Zc ?_
    refine Zp ?_
    refine Z2 (Z1 rfl) (d := 149) (v := (.int .u64 (ua % 20))) rfl (by kernel_rfl) ?_
    refine Z2 (Z1 rfl) (d := 150) (v := (.int .u64 ((ua % 20) + 1))) rfl (Z04 (z := (ua % 20) + 1) (by kernel_rfl) (Z11 (by omega))) ?_
    refine Z2 (Z1 rfl) (d := 151) (v := (.int .u64 (ub))) rfl (by kernel_rfl) ?_
    refine Z2 (Z1 rfl) (d := 152) (v := (.int .u64 (ub % 20))) rfl (Z5B (by kernel_rfl) (by omega) (by omega)) ?_
    refine Z2 (Z1 rfl) (d := 153) (v := (.int .u64 (((ua % 20) + 1) + (ub % 20)))) rfl (Z04 (z := ((ua % 20) + 1) + (ub % 20)) (by kernel_rfl) (Z11 (by omega))) ?_
    refine Z2 (Z1 rfl) (d := 2) (v := (.int .u64 (((ua % 20) + 1) + (ub % 20)))) rfl (by kernel_rfl) ?_
    refine Zm ?_
    refine Z4 ?_
    refine Zc ?_
    refine Zp ?_
    refine Z2 (Z1 rfl) (d := 154) (v := (.int .u64 (((ua % 20) + 1) + (ub % 20)))) rfl (by kernel_rfl) ?_
    refine Z2 (Z1 rfl) (d := 155) (v := (.int .u64 ((((ua % 20) + 1) + (ub % 20)) + 1))) rfl (Z04 (z := (((ua % 20) + 1) + (ub % 20)) + 1) (by kernel_rfl) (Z11 (by omega))) ?_
    refine Z2 (Z1 rfl) (d := 156) (v := (.int .u64 (uc))) rfl (by kernel_rfl) ?_
    refine Z2 (Z1 rfl) (d := 157) (v := (.int .u64 (uc % 1000))) rfl (Z5B (by kernel_rfl) (by omega) (by omega)) ?_
    refine Z2 (Z1 rfl) (d := 158) (v := (.int .u64 (((((ua % 20) + 1) + (ub % 20)) + 1) + (uc % 1000)))) rfl (Z04 (z := ((((ua % 20) + 1) + (ub % 20)) + 1) + (uc % 1000)) (by kernel_rfl) (Z11 (by omega))) ?_
    refine Z2 (Z1 rfl) (d := 3) (v := (.int .u64 (((((ua % 20) + 1) + (ub % 20)) + 1) + (uc % 1000)))) rfl (by kernel_rfl) ?_
    refine Zm ?_
    refine Z4 ?_
    refine Zc ?_
    refine Zp ?_
    refine Z2 (Z1 rfl) (d := 160) (v := (.pointer (some ⟨t30, 0, none⟩))) rfl (by kernel_rfl) ?_
    refine Z2 (Z1 rfl) (d := 161) (v := (.pointer (some ⟨b21, 0, none⟩))) rfl (by kernel_rfl) ?_
    refine Z2 (Z1 rfl) (d := 162) (v := (.pointer (some ⟨b11, 0, none⟩))) rfl (Zi rfl (by kernel_rfl) (H274.cell 6 rfl rfl)) ?_
    refine Z2 (Z1 rfl) (d := 163) (v := (.int .u64 (ua % 20))) rfl (by kernel_rfl) ?_
    refine Z2 (Z1 rfl) (d := 164) (v := (.int .u64 (((ua % 20) + 1) + (ub % 20)))) rfl (by kernel_rfl) ?_
    refine ZA (Z1 rfl) (fun K322 hK322 => ?_)
    refine Zv (d := 165) rfl (by kernel_rfl) (Z1o w273 t30 m31 1 3 0 M B b11 m12 Lb (H274.fin [7, 8, 9, 2, 3] (by decide) rfl) hM.T (by omega) (by omega) hnb (by omega) 0 (ua % 20) (((ua % 20) + 1) + (ub % 20)) (by omega) (by omega)) ?_
    rintro _ wp323 ⟨ca323, cc323, HL323, Bh323, ss323, rfl, hs323, hsp323, hco323, hcD323, hT323⟩
    have H324 : Sat w [Z6 w (fun _ => False), Z3 b2 36 ([(.int .i64 (1)), (.int .i64 (3))] : List Value), Z3 b11 110 ([(.map (some m12))] : List Value), ZC m12 Za (Value.int .i64) (Zq (Zg Lb (⟨0, Zy (⟨0, 0, (((ua % 20) + 1) + (ub % 20)), ca323, cc323, 0, 0, (Zf HL323 (ua % 20) (((ua % 20) + 1) + (ub % 20)))⟩ : PrR)⟩ : Signed))), Z3 r13 98 ([(.slice ra Lr.length rc)] : List Value), Zb 114 2 (.slice ra Lr.length rc) Lr.length (Lr.flatMap Z0q), Z3 b21 40 ([(.pointer (some ⟨b11, 0, none⟩)), (.pointer (some ⟨r13, 0, none⟩))] : List Value), Z3 t30 121 ([(.int .i64 (1)), (.int .i64 (3)), (.int .i64 (0)), (.map (some m31))] : List Value), ZC m31 nmV ceV M, ZI B, Zb 53 38 (.slice la HL.length lc) HL.length (HL.flatMap ZK), ZI Bh, Zb 53 38 (.slice ca323 ((Zf HL323 (ua % 20) (((ua % 20) + 1) + (ub % 20))).length) cc323) ((Zf HL323 (ua % 20) (((ua % 20) + 1) + (ub % 20))).length) ((Zf HL323 (ua % 20) (((ua % 20) + 1) + (ub % 20))).flatMap ZK), ZI Bh323] wp323 := (Sat.turnL (L' := [Z3 t30 121 ([(.int .i64 (1)), (.int .i64 (3)), (.int .i64 (0)), (.map (some m31))] : List Value), ZC m31 nmV ceV M, ZI B, Z3 b11 110 ([(.map (some m12))] : List Value), ZC m12 Za (Value.int .i64) (Zq (Zg Lb (⟨0, Zy (⟨0, 0, (((ua % 20) + 1) + (ub % 20)), ca323, cc323, 0, 0, (Zf HL323 (ua % 20) (((ua % 20) + 1) + (ub % 20)))⟩ : PrR)⟩ : Signed))), Zb 53 38 (.slice ca323 ((Zf HL323 (ua % 20) (((ua % 20) + 1) + (ub % 20))).length) cc323) ((Zf HL323 (ua % 20) (((ua % 20) + 1) + (ub % 20))).length) ((Zf HL323 (ua % 20) (((ua % 20) + 1) + (ub % 20))).flatMap ZK), ZI Bh323]) (R := [Z6 w (fun _ => False), Z3 b2 36 ([(.int .i64 (1)), (.int .i64 (3))] : List Value), Z3 r13 98 ([(.slice ra Lr.length rc)] : List Value), Zb 114 2 (.slice ra Lr.length rc) Lr.length (Lr.flatMap Z0q), Z3 b21 40 ([(.pointer (some ⟨b11, 0, none⟩)), (.pointer (some ⟨r13, 0, none⟩))] : List Value), Zb 53 38 (.slice la HL.length lc) HL.length (HL.flatMap ZK), ZI Bh]) H274 [7, 8, 9, 2, 3] [0, 1, 4, 5, 6, 10, 11] (by decide) (by kernel_rfl) rfl hT323).pick [7, 8, 3, 4, 9, 10, 11, 0, 1, 2, 12, 13, 5, 6] (by decide)
    refine ⟨_, rfl, ?_⟩
    have hsl323 := Z2S (L := HL323) (last := (ua % 20)) (tm := (((ua % 20) + 1) + (ub % 20)))
    have hLL323 : HL323.length = M.length := by have q1 := Z2A hco323; have q2 := hs323.length_eq; rw [List.length_map] at q2; omega
    have nd323 : (Zg Lb (⟨0, Zy (⟨0, 0, (((ua % 20) + 1) + (ub % 20)), ca323, cc323, 0, 0, (Zf HL323 (ua % 20) (((ua % 20) + 1) + (ub % 20)))⟩ : PrR)⟩ : Signed)).Nodup := Z0v hnb _
    have ll323 := Z0w Lb (⟨0, Zy (⟨0, 0, (((ua % 20) + 1) + (ub % 20)), ca323, cc323, 0, 0, (Zf HL323 (ua % 20) (((ua % 20) + 1) + (ub % 20)))⟩ : PrR)⟩ : Signed)
    refine hK322 _ _ ?_
    clear hK322 K322
    refine Z2 (Z1 rfl) (d := 159) (v := (.tuple #[(.agg ⟨([(.int .i64 (0)), (.int .i64 (0)), (.int .u64 (((ua % 20) + 1) + (ub % 20))), (.slice ca323 ((Zf HL323 (ua % 20) (((ua % 20) + 1) + (ub % 20))).length) cc323), (.int .i64 (0)), (.int .i64 (Zt (Zg Lb (⟨0, Zy (⟨0, 0, (((ua % 20) + 1) + (ub % 20)), ca323, cc323, 0, 0, (Zf HL323 (ua % 20) (((ua % 20) + 1) + (ub % 20)))⟩ : PrR)⟩ : Signed)) (⟨0, Zy (⟨0, 0, (((ua % 20) + 1) + (ub % 20)), ca323, cc323, 0, 0, (Zf HL323 (ua % 20) (((ua % 20) + 1) + (ub % 20)))⟩ : PrR)⟩ : Signed)))] : List Value)⟩), (.int .i64 (0))])) rfl (by kernel_rfl) ?_
    refine Z2 (Z1 rfl) (d := 166) (v := (.agg ⟨([(.int .i64 (0)), (.int .i64 (0)), (.int .u64 (((ua % 20) + 1) + (ub % 20))), (.slice ca323 ((Zf HL323 (ua % 20) (((ua % 20) + 1) + (ub % 20))).length) cc323), (.int .i64 (0)), (.int .i64 (Zt (Zg Lb (⟨0, Zy (⟨0, 0, (((ua % 20) + 1) + (ub % 20)), ca323, cc323, 0, 0, (Zf HL323 (ua % 20) (((ua % 20) + 1) + (ub % 20)))⟩ : PrR)⟩ : Signed)) (⟨0, Zy (⟨0, 0, (((ua % 20) + 1) + (ub % 20)), ca323, cc323, 0, 0, (Zf HL323 (ua % 20) (((ua % 20) + 1) + (ub % 20)))⟩ : PrR)⟩ : Signed)))] : List Value)⟩)) rfl (by kernel_rfl) ?_
    refine Z2 (Z1 rfl) (d := 167) (v := (.int .i64 (0))) rfl (by kernel_rfl) ?_
    refine ZA (Z1 rfl) (fun K325 hK325 => ?_)
    refine Z0e (zs := ([(.int .i64 (0)), (.int .i64 (0)), (.int .u64 (0)), (.slice none 0 0), (.int .i64 (0)), (.int .i64 (0))] : List Value)) (z := (.agg ⟨([(.int .i64 (0)), (.int .i64 (0)), (.int .u64 (0)), (.slice none 0 0), (.int .i64 (0)), (.int .i64 (0))] : List Value)⟩)) rfl H324 (by kernel_rfl) (by kernel_rfl) ?_
    intro b326 w327 (H328 : Sat w [Z6 w (fun _ => False), Z3 b2 36 ([(.int .i64 (1)), (.int .i64 (3))] : List Value), Z3 b11 110 ([(.map (some m12))] : List Value), ZC m12 Za (Value.int .i64) (Zq (Zg Lb (⟨0, Zy (⟨0, 0, (((ua % 20) + 1) + (ub % 20)), ca323, cc323, 0, 0, (Zf HL323 (ua % 20) (((ua % 20) + 1) + (ub % 20)))⟩ : PrR)⟩ : Signed))), Z3 r13 98 ([(.slice ra Lr.length rc)] : List Value), Zb 114 2 (.slice ra Lr.length rc) Lr.length (Lr.flatMap Z0q), Z3 b21 40 ([(.pointer (some ⟨b11, 0, none⟩)), (.pointer (some ⟨r13, 0, none⟩))] : List Value), Z3 t30 121 ([(.int .i64 (1)), (.int .i64 (3)), (.int .i64 (0)), (.map (some m31))] : List Value), ZC m31 nmV ceV M, ZI B, Zb 53 38 (.slice la HL.length lc) HL.length (HL.flatMap ZK), ZI Bh, Zb 53 38 (.slice ca323 ((Zf HL323 (ua % 20) (((ua % 20) + 1) + (ub % 20))).length) cc323) ((Zf HL323 (ua % 20) (((ua % 20) + 1) + (ub % 20))).length) ((Zf HL323 (ua % 20) (((ua % 20) + 1) + (ub % 20))).flatMap ZK), ZI Bh323, Z3 b326 34 ([(.int .i64 (0)), (.int .i64 (0)), (.int .u64 (0)), (.slice none 0 0), (.int .i64 (0)), (.int .i64 (0))] : List Value)] w327)
    refine hK325 _ _ ?_
    clear hK325 K325
    refine ZA (Z1 rfl) (fun K329 hK329 => ?_)
    refine ZU (vs := ([(.int .i64 (0)), (.int .i64 (0)), (.int .u64 (((ua % 20) + 1) + (ub % 20))), (.slice ca323 ((Zf HL323 (ua % 20) (((ua % 20) + 1) + (ub % 20))).length) cc323), (.int .i64 (0)), (.int .i64 (Zt (Zg Lb (⟨0, Zy (⟨0, 0, (((ua % 20) + 1) + (ub % 20)), ca323, cc323, 0, 0, (Zf HL323 (ua % 20) (((ua % 20) + 1) + (ub % 20)))⟩ : PrR)⟩ : Signed)) (⟨0, Zy (⟨0, 0, (((ua % 20) + 1) + (ub % 20)), ca323, cc323, 0, 0, (Zf HL323 (ua % 20) (((ua % 20) + 1) + (ub % 20)))⟩ : PrR)⟩ : Signed)))] : List Value)) (cs' := ([(.int .i64 (0)), (.int .i64 (0)), (.int .u64 (((ua % 20) + 1) + (ub % 20))), (.slice ca323 ((Zf HL323 (ua % 20) (((ua % 20) + 1) + (ub % 20))).length) cc323), (.int .i64 (0)), (.int .i64 (Zt (Zg Lb (⟨0, Zy (⟨0, 0, (((ua % 20) + 1) + (ub % 20)), ca323, cc323, 0, 0, (Zf HL323 (ua % 20) (((ua % 20) + 1) + (ub % 20)))⟩ : PrR)⟩ : Signed)) (⟨0, Zy (⟨0, 0, (((ua % 20) + 1) + (ub % 20)), ca323, cc323, 0, 0, (Zf HL323 (ua % 20) (((ua % 20) + 1) + (ub % 20)))⟩ : PrR)⟩ : Signed)))] : List Value)) rfl H328 14 rfl rfl rfl rfl (by kernel_rfl) (Nat.le_of_ble_eq_true (by kernel_rfl)) (Nat.le_of_ble_eq_true (by kernel_rfl)) (by kernel_rfl) (by kernel_rfl) ?_
    intro w330 (H331 : Sat w [Z6 w (fun _ => False), Z3 b2 36 ([(.int .i64 (1)), (.int .i64 (3))] : List Value), Z3 b11 110 ([(.map (some m12))] : List Value), ZC m12 Za (Value.int .i64) (Zq (Zg Lb (⟨0, Zy (⟨0, 0, (((ua % 20) + 1) + (ub % 20)), ca323, cc323, 0, 0, (Zf HL323 (ua % 20) (((ua % 20) + 1) + (ub % 20)))⟩ : PrR)⟩ : Signed))), Z3 r13 98 ([(.slice ra Lr.length rc)] : List Value), Zb 114 2 (.slice ra Lr.length rc) Lr.length (Lr.flatMap Z0q), Z3 b21 40 ([(.pointer (some ⟨b11, 0, none⟩)), (.pointer (some ⟨r13, 0, none⟩))] : List Value), Z3 t30 121 ([(.int .i64 (1)), (.int .i64 (3)), (.int .i64 (0)), (.map (some m31))] : List Value), ZC m31 nmV ceV M, ZI B, Zb 53 38 (.slice la HL.length lc) HL.length (HL.flatMap ZK), ZI Bh, Zb 53 38 (.slice ca323 ((Zf HL323 (ua % 20) (((ua % 20) + 1) + (ub % 20))).length) cc323) ((Zf HL323 (ua % 20) (((ua % 20) + 1) + (ub % 20))).length) ((Zf HL323 (ua % 20) (((ua % 20) + 1) + (ub % 20))).flatMap ZK), ZI Bh323, Z3 b326 34 ([(.int .i64 (0)), (.int .i64 (0)), (.int .u64 (((ua % 20) + 1) + (ub % 20))), (.slice ca323 ((Zf HL323 (ua % 20) (((ua % 20) + 1) + (ub % 20))).length) cc323), (.int .i64 (0)), (.int .i64 (Zt (Zg Lb (⟨0, Zy (⟨0, 0, (((ua % 20) + 1) + (ub % 20)), ca323, cc323, 0, 0, (Zf HL323 (ua % 20) (((ua % 20) + 1) + (ub % 20)))⟩ : PrR)⟩ : Signed)) (⟨0, Zy (⟨0, 0, (((ua % 20) + 1) + (ub % 20)), ca323, cc323, 0, 0, (Zf HL323 (ua % 20) (((ua % 20) + 1) + (ub % 20)))⟩ : PrR)⟩ : Signed)))] : List Value)] w330)
    refine hK329 _ _ ?_
    clear hK329 K329
    refine Z2 (Z1 rfl) (d := 21) (v := (.int .i64 (0))) rfl (by kernel_rfl) ?_
    refine Zm ?_
    refine Z4 ?_
    refine Zc ?_
    refine Zp ?_
    refine Z2 (Z1 rfl) (d := 169) (v := (.pointer (some ⟨t30, 0, none⟩))) rfl (by kernel_rfl) ?_
    refine Z2 (Z1 rfl) (d := 170) (v := (.pointer (some ⟨b21, 0, none⟩))) rfl (by kernel_rfl) ?_
    refine Z2 (Z1 rfl) (d := 171) (v := (.pointer (some ⟨b11, 0, none⟩))) rfl (Zi rfl (by kernel_rfl) (H331.cell 6 rfl rfl)) ?_
    refine Z2 (Z1 rfl) (d := 172) (v := (.int .u64 (((ua % 20) + 1) + (ub % 20)))) rfl (by kernel_rfl) ?_
    refine Z2 (Z1 rfl) (d := 173) (v := (.int .u64 (((((ua % 20) + 1) + (ub % 20)) + 1) + (uc % 1000)))) rfl (by kernel_rfl) ?_
    refine ZA (Z1 rfl) (fun K333 hK333 => ?_)
    refine Zv (d := 174) rfl (by kernel_rfl) (Z1o w330 t30 m31 1 3 0 M B b11 m12 (Zg Lb (⟨0, Zy (⟨0, 0, (((ua % 20) + 1) + (ub % 20)), ca323, cc323, 0, 0, (Zf HL323 (ua % 20) (((ua % 20) + 1) + (ub % 20)))⟩ : PrR)⟩ : Signed)) (H331.fin [7, 8, 9, 2, 3] (by decide) rfl) hM.T (by omega) (by omega) nd323 (by omega) 1 (((ua % 20) + 1) + (ub % 20)) (((((ua % 20) + 1) + (ub % 20)) + 1) + (uc % 1000)) (by omega) (by omega)) ?_
    rintro _ wp334 ⟨ca334, cc334, HL334, Bh334, ss334, rfl, hs334, hsp334, hco334, hcD334, hT334⟩
    have H335 : Sat w [Z6 w (fun _ => False), Z3 b2 36 ([(.int .i64 (1)), (.int .i64 (3))] : List Value), Z3 b11 110 ([(.map (some m12))] : List Value), ZC m12 Za (Value.int .i64) (Zq (Zg (Zg Lb (⟨0, Zy (⟨0, 0, (((ua % 20) + 1) + (ub % 20)), ca323, cc323, 0, 0, (Zf HL323 (ua % 20) (((ua % 20) + 1) + (ub % 20)))⟩ : PrR)⟩ : Signed)) (⟨0, Zy (⟨0, 1, (((((ua % 20) + 1) + (ub % 20)) + 1) + (uc % 1000)), ca334, cc334, 0, 0, (Zf HL334 (((ua % 20) + 1) + (ub % 20)) (((((ua % 20) + 1) + (ub % 20)) + 1) + (uc % 1000)))⟩ : PrR)⟩ : Signed))), Z3 r13 98 ([(.slice ra Lr.length rc)] : List Value), Zb 114 2 (.slice ra Lr.length rc) Lr.length (Lr.flatMap Z0q), Z3 b21 40 ([(.pointer (some ⟨b11, 0, none⟩)), (.pointer (some ⟨r13, 0, none⟩))] : List Value), Z3 t30 121 ([(.int .i64 (1)), (.int .i64 (3)), (.int .i64 (0)), (.map (some m31))] : List Value), ZC m31 nmV ceV M, ZI B, Zb 53 38 (.slice la HL.length lc) HL.length (HL.flatMap ZK), ZI Bh, Zb 53 38 (.slice ca323 ((Zf HL323 (ua % 20) (((ua % 20) + 1) + (ub % 20))).length) cc323) ((Zf HL323 (ua % 20) (((ua % 20) + 1) + (ub % 20))).length) ((Zf HL323 (ua % 20) (((ua % 20) + 1) + (ub % 20))).flatMap ZK), ZI Bh323, Z3 b326 34 ([(.int .i64 (0)), (.int .i64 (0)), (.int .u64 (((ua % 20) + 1) + (ub % 20))), (.slice ca323 ((Zf HL323 (ua % 20) (((ua % 20) + 1) + (ub % 20))).length) cc323), (.int .i64 (0)), (.int .i64 (Zt (Zg Lb (⟨0, Zy (⟨0, 0, (((ua % 20) + 1) + (ub % 20)), ca323, cc323, 0, 0, (Zf HL323 (ua % 20) (((ua % 20) + 1) + (ub % 20)))⟩ : PrR)⟩ : Signed)) (⟨0, Zy (⟨0, 0, (((ua % 20) + 1) + (ub % 20)), ca323, cc323, 0, 0, (Zf HL323 (ua % 20) (((ua % 20) + 1) + (ub % 20)))⟩ : PrR)⟩ : Signed)))] : List Value), Zb 53 38 (.slice ca334 ((Zf HL334 (((ua % 20) + 1) + (ub % 20)) (((((ua % 20) + 1) + (ub % 20)) + 1) + (uc % 1000))).length) cc334) ((Zf HL334 (((ua % 20) + 1) + (ub % 20)) (((((ua % 20) + 1) + (ub % 20)) + 1) + (uc % 1000))).length) ((Zf HL334 (((ua % 20) + 1) + (ub % 20)) (((((ua % 20) + 1) + (ub % 20)) + 1) + (uc % 1000))).flatMap ZK), ZI Bh334] wp334 := (Sat.turnL (L' := [Z3 t30 121 ([(.int .i64 (1)), (.int .i64 (3)), (.int .i64 (0)), (.map (some m31))] : List Value), ZC m31 nmV ceV M, ZI B, Z3 b11 110 ([(.map (some m12))] : List Value), ZC m12 Za (Value.int .i64) (Zq (Zg (Zg Lb (⟨0, Zy (⟨0, 0, (((ua % 20) + 1) + (ub % 20)), ca323, cc323, 0, 0, (Zf HL323 (ua % 20) (((ua % 20) + 1) + (ub % 20)))⟩ : PrR)⟩ : Signed)) (⟨0, Zy (⟨0, 1, (((((ua % 20) + 1) + (ub % 20)) + 1) + (uc % 1000)), ca334, cc334, 0, 0, (Zf HL334 (((ua % 20) + 1) + (ub % 20)) (((((ua % 20) + 1) + (ub % 20)) + 1) + (uc % 1000)))⟩ : PrR)⟩ : Signed))), Zb 53 38 (.slice ca334 ((Zf HL334 (((ua % 20) + 1) + (ub % 20)) (((((ua % 20) + 1) + (ub % 20)) + 1) + (uc % 1000))).length) cc334) ((Zf HL334 (((ua % 20) + 1) + (ub % 20)) (((((ua % 20) + 1) + (ub % 20)) + 1) + (uc % 1000))).length) ((Zf HL334 (((ua % 20) + 1) + (ub % 20)) (((((ua % 20) + 1) + (ub % 20)) + 1) + (uc % 1000))).flatMap ZK), ZI Bh334]) (R := [Z6 w (fun _ => False), Z3 b2 36 ([(.int .i64 (1)), (.int .i64 (3))] : List Value), Z3 r13 98 ([(.slice ra Lr.length rc)] : List Value), Zb 114 2 (.slice ra Lr.length rc) Lr.length (Lr.flatMap Z0q), Z3 b21 40 ([(.pointer (some ⟨b11, 0, none⟩)), (.pointer (some ⟨r13, 0, none⟩))] : List Value), Zb 53 38 (.slice la HL.length lc) HL.length (HL.flatMap ZK), ZI Bh, Zb 53 38 (.slice ca323 ((Zf HL323 (ua % 20) (((ua % 20) + 1) + (ub % 20))).length) cc323) ((Zf HL323 (ua % 20) (((ua % 20) + 1) + (ub % 20))).length) ((Zf HL323 (ua % 20) (((ua % 20) + 1) + (ub % 20))).flatMap ZK), ZI Bh323, Z3 b326 34 ([(.int .i64 (0)), (.int .i64 (0)), (.int .u64 (((ua % 20) + 1) + (ub % 20))), (.slice ca323 ((Zf HL323 (ua % 20) (((ua % 20) + 1) + (ub % 20))).length) cc323), (.int .i64 (0)), (.int .i64 (Zt (Zg Lb (⟨0, Zy (⟨0, 0, (((ua % 20) + 1) + (ub % 20)), ca323, cc323, 0, 0, (Zf HL323 (ua % 20) (((ua % 20) + 1) + (ub % 20)))⟩ : PrR)⟩ : Signed)) (⟨0, Zy (⟨0, 0, (((ua % 20) + 1) + (ub % 20)), ca323, cc323, 0, 0, (Zf HL323 (ua % 20) (((ua % 20) + 1) + (ub % 20)))⟩ : PrR)⟩ : Signed)))] : List Value)]) H331 [7, 8, 9, 2, 3] [0, 1, 4, 5, 6, 10, 11, 12, 13, 14] (by decide) (by kernel_rfl) rfl hT334).pick [7, 8, 3, 4, 9, 10, 11, 0, 1, 2, 12, 13, 14, 15, 16, 5, 6] (by decide)
    refine ⟨_, rfl, ?_⟩
    have hsl334 := Z2S (L := HL334) (last := (((ua % 20) + 1) + (ub % 20))) (tm := (((((ua % 20) + 1) + (ub % 20)) + 1) + (uc % 1000)))
    have hLL334 : HL334.length = M.length := by have q1 := Z2A hco334; have q2 := hs334.length_eq; rw [List.length_map] at q2; omega
    have nd334 : (Zg (Zg Lb (⟨0, Zy (⟨0, 0, (((ua % 20) + 1) + (ub % 20)), ca323, cc323, 0, 0, (Zf HL323 (ua % 20) (((ua % 20) + 1) + (ub % 20)))⟩ : PrR)⟩ : Signed)) (⟨0, Zy (⟨0, 1, (((((ua % 20) + 1) + (ub % 20)) + 1) + (uc % 1000)), ca334, cc334, 0, 0, (Zf HL334 (((ua % 20) + 1) + (ub % 20)) (((((ua % 20) + 1) + (ub % 20)) + 1) + (uc % 1000)))⟩ : PrR)⟩ : Signed)).Nodup := Z0v nd323 _
    have ll334 := Z0w (Zg Lb (⟨0, Zy (⟨0, 0, (((ua % 20) + 1) + (ub % 20)), ca323, cc323, 0, 0, (Zf HL323 (ua % 20) (((ua % 20) + 1) + (ub % 20)))⟩ : PrR)⟩ : Signed)) (⟨0, Zy (⟨0, 1, (((((ua % 20) + 1) + (ub % 20)) + 1) + (uc % 1000)), ca334, cc334, 0, 0, (Zf HL334 (((ua % 20) + 1) + (ub % 20)) (((((ua % 20) + 1) + (ub % 20)) + 1) + (uc % 1000)))⟩ : PrR)⟩ : Signed)
    refine hK333 _ _ ?_
    clear hK333 K333
    refine Z2 (Z1 rfl) (d := 168) (v := (.tuple #[(.agg ⟨([(.int .i64 (0)), (.int .i64 (1)), (.int .u64 (((((ua % 20) + 1) + (ub % 20)) + 1) + (uc % 1000))), (.slice ca334 ((Zf HL334 (((ua % 20) + 1) + (ub % 20)) (((((ua % 20) + 1) + (ub % 20)) + 1) + (uc % 1000))).length) cc334), (.int .i64 (0)), (.int .i64 (Zt (Zg (Zg Lb (⟨0, Zy (⟨0, 0, (((ua % 20) + 1) + (ub % 20)), ca323, cc323, 0, 0, (Zf HL323 (ua % 20) (((ua % 20) + 1) + (ub % 20)))⟩ : PrR)⟩ : Signed)) (⟨0, Zy (⟨0, 1, (((((ua % 20) + 1) + (ub % 20)) + 1) + (uc % 1000)), ca334, cc334, 0, 0, (Zf HL334 (((ua % 20) + 1) + (ub % 20)) (((((ua % 20) + 1) + (ub % 20)) + 1) + (uc % 1000)))⟩ : PrR)⟩ : Signed)) (⟨0, Zy (⟨0, 1, (((((ua % 20) + 1) + (ub % 20)) + 1) + (uc % 1000)), ca334, cc334, 0, 0, (Zf HL334 (((ua % 20) + 1) + (ub % 20)) (((((ua % 20) + 1) + (ub % 20)) + 1) + (uc % 1000)))⟩ : PrR)⟩ : Signed)))] : List Value)⟩), (.int .i64 (0))])) rfl (by kernel_rfl) ?_
    refine Z2 (Z1 rfl) (d := 175) (v := (.agg ⟨([(.int .i64 (0)), (.int .i64 (1)), (.int .u64 (((((ua % 20) + 1) + (ub % 20)) + 1) + (uc % 1000))), (.slice ca334 ((Zf HL334 (((ua % 20) + 1) + (ub % 20)) (((((ua % 20) + 1) + (ub % 20)) + 1) + (uc % 1000))).length) cc334), (.int .i64 (0)), (.int .i64 (Zt (Zg (Zg Lb (⟨0, Zy (⟨0, 0, (((ua % 20) + 1) + (ub % 20)), ca323, cc323, 0, 0, (Zf HL323 (ua % 20) (((ua % 20) + 1) + (ub % 20)))⟩ : PrR)⟩ : Signed)) (⟨0, Zy (⟨0, 1, (((((ua % 20) + 1) + (ub % 20)) + 1) + (uc % 1000)), ca334, cc334, 0, 0, (Zf HL334 (((ua % 20) + 1) + (ub % 20)) (((((ua % 20) + 1) + (ub % 20)) + 1) + (uc % 1000)))⟩ : PrR)⟩ : Signed)) (⟨0, Zy (⟨0, 1, (((((ua % 20) + 1) + (ub % 20)) + 1) + (uc % 1000)), ca334, cc334, 0, 0, (Zf HL334 (((ua % 20) + 1) + (ub % 20)) (((((ua % 20) + 1) + (ub % 20)) + 1) + (uc % 1000)))⟩ : PrR)⟩ : Signed)))] : List Value)⟩)) rfl (by kernel_rfl) ?_
    refine Z2 (Z1 rfl) (d := 176) (v := (.int .i64 (0))) rfl (by kernel_rfl) ?_
    refine ZA (Z1 rfl) (fun K336 hK336 => ?_)
    refine Z0e (zs := ([(.int .i64 (0)), (.int .i64 (0)), (.int .u64 (0)), (.slice none 0 0), (.int .i64 (0)), (.int .i64 (0))] : List Value)) (z := (.agg ⟨([(.int .i64 (0)), (.int .i64 (0)), (.int .u64 (0)), (.slice none 0 0), (.int .i64 (0)), (.int .i64 (0))] : List Value)⟩)) rfl H335 (by kernel_rfl) (by kernel_rfl) ?_
    intro b337 w338 (H339 : Sat w [Z6 w (fun _ => False), Z3 b2 36 ([(.int .i64 (1)), (.int .i64 (3))] : List Value), Z3 b11 110 ([(.map (some m12))] : List Value), ZC m12 Za (Value.int .i64) (Zq (Zg (Zg Lb (⟨0, Zy (⟨0, 0, (((ua % 20) + 1) + (ub % 20)), ca323, cc323, 0, 0, (Zf HL323 (ua % 20) (((ua % 20) + 1) + (ub % 20)))⟩ : PrR)⟩ : Signed)) (⟨0, Zy (⟨0, 1, (((((ua % 20) + 1) + (ub % 20)) + 1) + (uc % 1000)), ca334, cc334, 0, 0, (Zf HL334 (((ua % 20) + 1) + (ub % 20)) (((((ua % 20) + 1) + (ub % 20)) + 1) + (uc % 1000)))⟩ : PrR)⟩ : Signed))), Z3 r13 98 ([(.slice ra Lr.length rc)] : List Value), Zb 114 2 (.slice ra Lr.length rc) Lr.length (Lr.flatMap Z0q), Z3 b21 40 ([(.pointer (some ⟨b11, 0, none⟩)), (.pointer (some ⟨r13, 0, none⟩))] : List Value), Z3 t30 121 ([(.int .i64 (1)), (.int .i64 (3)), (.int .i64 (0)), (.map (some m31))] : List Value), ZC m31 nmV ceV M, ZI B, Zb 53 38 (.slice la HL.length lc) HL.length (HL.flatMap ZK), ZI Bh, Zb 53 38 (.slice ca323 ((Zf HL323 (ua % 20) (((ua % 20) + 1) + (ub % 20))).length) cc323) ((Zf HL323 (ua % 20) (((ua % 20) + 1) + (ub % 20))).length) ((Zf HL323 (ua % 20) (((ua % 20) + 1) + (ub % 20))).flatMap ZK), ZI Bh323, Z3 b326 34 ([(.int .i64 (0)), (.int .i64 (0)), (.int .u64 (((ua % 20) + 1) + (ub % 20))), (.slice ca323 ((Zf HL323 (ua % 20) (((ua % 20) + 1) + (ub % 20))).length) cc323), (.int .i64 (0)), (.int .i64 (Zt (Zg Lb (⟨0, Zy (⟨0, 0, (((ua % 20) + 1) + (ub % 20)), ca323, cc323, 0, 0, (Zf HL323 (ua % 20) (((ua % 20) + 1) + (ub % 20)))⟩ : PrR)⟩ : Signed)) (⟨0, Zy (⟨0, 0, (((ua % 20) + 1) + (ub % 20)), ca323, cc323, 0, 0, (Zf HL323 (ua % 20) (((ua % 20) + 1) + (ub % 20)))⟩ : PrR)⟩ : Signed)))] : List Value), Zb 53 38 (.slice ca334 ((Zf HL334 (((ua % 20) + 1) + (ub % 20)) (((((ua % 20) + 1) + (ub % 20)) + 1) + (uc % 1000))).length) cc334) ((Zf HL334 (((ua % 20) + 1) + (ub % 20)) (((((ua % 20) + 1) + (ub % 20)) + 1) + (uc % 1000))).length) ((Zf HL334 (((ua % 20) + 1) + (ub % 20)) (((((ua % 20) + 1) + (ub % 20)) + 1) + (uc % 1000))).flatMap ZK), ZI Bh334, Z3 b337 34 ([(.int .i64 (0)), (.int .i64 (0)), (.int .u64 (0)), (.slice none 0 0), (.int .i64 (0)), (.int .i64 (0))] : List Value)] w338)
    refine hK336 _ _ ?_
    clear hK336 K336
    refine ZA (Z1 rfl) (fun K340 hK340 => ?_)
    refine ZU (vs := ([(.int .i64 (0)), (.int .i64 (1)), (.int .u64 (((((ua % 20) + 1) + (ub % 20)) + 1) + (uc % 1000))), (.slice ca334 ((Zf HL334 (((ua % 20) + 1) + (ub % 20)) (((((ua % 20) + 1) + (ub % 20)) + 1) + (uc % 1000))).length) cc334), (.int .i64 (0)), (.int .i64 (Zt (Zg (Zg Lb (⟨0, Zy (⟨0, 0, (((ua % 20) + 1) + (ub % 20)), ca323, cc323, 0, 0, (Zf HL323 (ua % 20) (((ua % 20) + 1) + (ub % 20)))⟩ : PrR)⟩ : Signed)) (⟨0, Zy (⟨0, 1, (((((ua % 20) + 1) + (ub % 20)) + 1) + (uc % 1000)), ca334, cc334, 0, 0, (Zf HL334 (((ua % 20) + 1) + (ub % 20)) (((((ua % 20) + 1) + (ub % 20)) + 1) + (uc % 1000)))⟩ : PrR)⟩ : Signed)) (⟨0, Zy (⟨0, 1, (((((ua % 20) + 1) + (ub % 20)) + 1) + (uc % 1000)), ca334, cc334, 0, 0, (Zf HL334 (((ua % 20) + 1) + (ub % 20)) (((((ua % 20) + 1) + (ub % 20)) + 1) + (uc % 1000)))⟩ : PrR)⟩ : Signed)))] : List Value)) (cs' := ([(.int .i64 (0)), (.int .i64 (1)), (.int .u64 (((((ua % 20) + 1) + (ub % 20)) + 1) + (uc % 1000))), (.slice ca334 ((Zf HL334 (((ua % 20) + 1) + (ub % 20)) (((((ua % 20) + 1) + (ub % 20)) + 1) + (uc % 1000))).length) cc334), (.int .i64 (0)), (.int .i64 (Zt (Zg (Zg Lb (⟨0, Zy (⟨0, 0, (((ua % 20) + 1) + (ub % 20)), ca323, cc323, 0, 0, (Zf HL323 (ua % 20) (((ua % 20) + 1) + (ub % 20)))⟩ : PrR)⟩ : Signed)) (⟨0, Zy (⟨0, 1, (((((ua % 20) + 1) + (ub % 20)) + 1) + (uc % 1000)), ca334, cc334, 0, 0, (Zf HL334 (((ua % 20) + 1) + (ub % 20)) (((((ua % 20) + 1) + (ub % 20)) + 1) + (uc % 1000)))⟩ : PrR)⟩ : Signed)) (⟨0, Zy (⟨0, 1, (((((ua % 20) + 1) + (ub % 20)) + 1) + (uc % 1000)), ca334, cc334, 0, 0, (Zf HL334 (((ua % 20) + 1) + (ub % 20)) (((((ua % 20) + 1) + (ub % 20)) + 1) + (uc % 1000)))⟩ : PrR)⟩ : Signed)))] : List Value)) rfl H339 17 rfl rfl rfl rfl (by kernel_rfl) (Nat.le_of_ble_eq_true (by kernel_rfl)) (Nat.le_of_ble_eq_true (by kernel_rfl)) (by kernel_rfl) (by kernel_rfl) ?_
    intro w341 (H342 : Sat w [Z6 w (fun _ => False), Z3 b2 36 ([(.int .i64 (1)), (.int .i64 (3))] : List Value), Z3 b11 110 ([(.map (some m12))] : List Value), ZC m12 Za (Value.int .i64) (Zq (Zg (Zg Lb (⟨0, Zy (⟨0, 0, (((ua % 20) + 1) + (ub % 20)), ca323, cc323, 0, 0, (Zf HL323 (ua % 20) (((ua % 20) + 1) + (ub % 20)))⟩ : PrR)⟩ : Signed)) (⟨0, Zy (⟨0, 1, (((((ua % 20) + 1) + (ub % 20)) + 1) + (uc % 1000)), ca334, cc334, 0, 0, (Zf HL334 (((ua % 20) + 1) + (ub % 20)) (((((ua % 20) + 1) + (ub % 20)) + 1) + (uc % 1000)))⟩ : PrR)⟩ : Signed))), Z3 r13 98 ([(.slice ra Lr.length rc)] : List Value), Zb 114 2 (.slice ra Lr.length rc) Lr.length (Lr.flatMap Z0q), Z3 b21 40 ([(.pointer (some ⟨b11, 0, none⟩)), (.pointer (some ⟨r13, 0, none⟩))] : List Value), Z3 t30 121 ([(.int .i64 (1)), (.int .i64 (3)), (.int .i64 (0)), (.map (some m31))] : List Value), ZC m31 nmV ceV M, ZI B, Zb 53 38 (.slice la HL.length lc) HL.length (HL.flatMap ZK), ZI Bh, Zb 53 38 (.slice ca323 ((Zf HL323 (ua % 20) (((ua % 20) + 1) + (ub % 20))).length) cc323) ((Zf HL323 (ua % 20) (((ua % 20) + 1) + (ub % 20))).length) ((Zf HL323 (ua % 20) (((ua % 20) + 1) + (ub % 20))).flatMap ZK), ZI Bh323, Z3 b326 34 ([(.int .i64 (0)), (.int .i64 (0)), (.int .u64 (((ua % 20) + 1) + (ub % 20))), (.slice ca323 ((Zf HL323 (ua % 20) (((ua % 20) + 1) + (ub % 20))).length) cc323), (.int .i64 (0)), (.int .i64 (Zt (Zg Lb (⟨0, Zy (⟨0, 0, (((ua % 20) + 1) + (ub % 20)), ca323, cc323, 0, 0, (Zf HL323 (ua % 20) (((ua % 20) + 1) + (ub % 20)))⟩ : PrR)⟩ : Signed)) (⟨0, Zy (⟨0, 0, (((ua % 20) + 1) + (ub % 20)), ca323, cc323, 0, 0, (Zf HL323 (ua % 20) (((ua % 20) + 1) + (ub % 20)))⟩ : PrR)⟩ : Signed)))] : List Value), Zb 53 38 (.slice ca334 ((Zf HL334 (((ua % 20) + 1) + (ub % 20)) (((((ua % 20) + 1) + (ub % 20)) + 1) + (uc % 1000))).length) cc334) ((Zf HL334 (((ua % 20) + 1) + (ub % 20)) (((((ua % 20) + 1) + (ub % 20)) + 1) + (uc % 1000))).length) ((Zf HL334 (((ua % 20) + 1) + (ub % 20)) (((((ua % 20) + 1) + (ub % 20)) + 1) + (uc % 1000))).flatMap ZK), ZI Bh334, Z3 b337 34 ([(.int .i64 (0)), (.int .i64 (1)), (.int .u64 (((((ua % 20) + 1) + (ub % 20)) + 1) + (uc % 1000))), (.slice ca334 ((Zf HL334 (((ua % 20) + 1) + (ub % 20)) (((((ua % 20) + 1) + (ub % 20)) + 1) + (uc % 1000))).length) cc334), (.int .i64 (0)), (.int .i64 (Zt (Zg (Zg Lb (⟨0, Zy (⟨0, 0, (((ua % 20) + 1) + (ub % 20)), ca323, cc323, 0, 0, (Zf HL323 (ua % 20) (((ua % 20) + 1) + (ub % 20)))⟩ : PrR)⟩ : Signed)) (⟨0, Zy (⟨0, 1, (((((ua % 20) + 1) + (ub % 20)) + 1) + (uc % 1000)), ca334, cc334, 0, 0, (Zf HL334 (((ua % 20) + 1) + (ub % 20)) (((((ua % 20) + 1) + (ub % 20)) + 1) + (uc % 1000)))⟩ : PrR)⟩ : Signed)) (⟨0, Zy (⟨0, 1, (((((ua % 20) + 1) + (ub % 20)) + 1) + (uc % 1000)), ca334, cc334, 0, 0, (Zf HL334 (((ua % 20) + 1) + (ub % 20)) (((((ua % 20) + 1) + (ub % 20)) + 1) + (uc % 1000)))⟩ : PrR)⟩ : Signed)))] : List Value)] w341)
    refine hK340 _ _ ?_
    clear hK340 K340
    refine Z2 (Z1 rfl) (d := 23) (v := (.int .i64 (0))) rfl (by kernel_rfl) ?_
    refine Zm ?_
    refine Z4 ?_
    refine Zc ?_
    refine Zp ?_
    refine Z2 (Z1 rfl) (d := 178) (v := (.pointer (some ⟨t30, 0, none⟩))) rfl (by kernel_rfl) ?_
    refine Z2 (Z1 rfl) (d := 179) (v := (.pointer (some ⟨b21, 0, none⟩))) rfl (by kernel_rfl) ?_
    refine Z2 (Z1 rfl) (d := 180) (v := (.pointer (some ⟨b11, 0, none⟩))) rfl (Zi rfl (by kernel_rfl) (H342.cell 6 rfl rfl)) ?_
    refine Z2 (Z1 rfl) (d := 181) (v := (.int .u64 (ua % 20))) rfl (by kernel_rfl) ?_
    refine Z2 (Z1 rfl) (d := 182) (v := (.int .u64 (((((ua % 20) + 1) + (ub % 20)) + 1) + (uc % 1000)))) rfl (by kernel_rfl) ?_
    refine ZA (Z1 rfl) (fun K344 hK344 => ?_)
    refine Zv (d := 183) rfl (by kernel_rfl) (Z1o w341 t30 m31 1 3 0 M B b11 m12 (Zg (Zg Lb (⟨0, Zy (⟨0, 0, (((ua % 20) + 1) + (ub % 20)), ca323, cc323, 0, 0, (Zf HL323 (ua % 20) (((ua % 20) + 1) + (ub % 20)))⟩ : PrR)⟩ : Signed)) (⟨0, Zy (⟨0, 1, (((((ua % 20) + 1) + (ub % 20)) + 1) + (uc % 1000)), ca334, cc334, 0, 0, (Zf HL334 (((ua % 20) + 1) + (ub % 20)) (((((ua % 20) + 1) + (ub % 20)) + 1) + (uc % 1000)))⟩ : PrR)⟩ : Signed)) (H342.fin [7, 8, 9, 2, 3] (by decide) rfl) hM.T (by omega) (by omega) nd334 (by omega) 2 (ua % 20) (((((ua % 20) + 1) + (ub % 20)) + 1) + (uc % 1000)) (by omega) (by omega)) ?_
    rintro _ wp345 ⟨ca345, cc345, HL345, Bh345, ss345, rfl, hs345, hsp345, hco345, hcD345, hT345⟩
    have H346 : Sat w [Z6 w (fun _ => False), Z3 b2 36 ([(.int .i64 (1)), (.int .i64 (3))] : List Value), Z3 b11 110 ([(.map (some m12))] : List Value), ZC m12 Za (Value.int .i64) (Zq (Zg (Zg (Zg Lb (⟨0, Zy (⟨0, 0, (((ua % 20) + 1) + (ub % 20)), ca323, cc323, 0, 0, (Zf HL323 (ua % 20) (((ua % 20) + 1) + (ub % 20)))⟩ : PrR)⟩ : Signed)) (⟨0, Zy (⟨0, 1, (((((ua % 20) + 1) + (ub % 20)) + 1) + (uc % 1000)), ca334, cc334, 0, 0, (Zf HL334 (((ua % 20) + 1) + (ub % 20)) (((((ua % 20) + 1) + (ub % 20)) + 1) + (uc % 1000)))⟩ : PrR)⟩ : Signed)) (⟨0, Zy (⟨0, 2, (((((ua % 20) + 1) + (ub % 20)) + 1) + (uc % 1000)), ca345, cc345, 0, 0, (Zf HL345 (ua % 20) (((((ua % 20) + 1) + (ub % 20)) + 1) + (uc % 1000)))⟩ : PrR)⟩ : Signed))), Z3 r13 98 ([(.slice ra Lr.length rc)] : List Value), Zb 114 2 (.slice ra Lr.length rc) Lr.length (Lr.flatMap Z0q), Z3 b21 40 ([(.pointer (some ⟨b11, 0, none⟩)), (.pointer (some ⟨r13, 0, none⟩))] : List Value), Z3 t30 121 ([(.int .i64 (1)), (.int .i64 (3)), (.int .i64 (0)), (.map (some m31))] : List Value), ZC m31 nmV ceV M, ZI B, Zb 53 38 (.slice la HL.length lc) HL.length (HL.flatMap ZK), ZI Bh, Zb 53 38 (.slice ca323 ((Zf HL323 (ua % 20) (((ua % 20) + 1) + (ub % 20))).length) cc323) ((Zf HL323 (ua % 20) (((ua % 20) + 1) + (ub % 20))).length) ((Zf HL323 (ua % 20) (((ua % 20) + 1) + (ub % 20))).flatMap ZK), ZI Bh323, Z3 b326 34 ([(.int .i64 (0)), (.int .i64 (0)), (.int .u64 (((ua % 20) + 1) + (ub % 20))), (.slice ca323 ((Zf HL323 (ua % 20) (((ua % 20) + 1) + (ub % 20))).length) cc323), (.int .i64 (0)), (.int .i64 (Zt (Zg Lb (⟨0, Zy (⟨0, 0, (((ua % 20) + 1) + (ub % 20)), ca323, cc323, 0, 0, (Zf HL323 (ua % 20) (((ua % 20) + 1) + (ub % 20)))⟩ : PrR)⟩ : Signed)) (⟨0, Zy (⟨0, 0, (((ua % 20) + 1) + (ub % 20)), ca323, cc323, 0, 0, (Zf HL323 (ua % 20) (((ua % 20) + 1) + (ub % 20)))⟩ : PrR)⟩ : Signed)))] : List Value), Zb 53 38 (.slice ca334 ((Zf HL334 (((ua % 20) + 1) + (ub % 20)) (((((ua % 20) + 1) + (ub % 20)) + 1) + (uc % 1000))).length) cc334) ((Zf HL334 (((ua % 20) + 1) + (ub % 20)) (((((ua % 20) + 1) + (ub % 20)) + 1) + (uc % 1000))).length) ((Zf HL334 (((ua % 20) + 1) + (ub % 20)) (((((ua % 20) + 1) + (ub % 20)) + 1) + (uc % 1000))).flatMap ZK), ZI Bh334, Z3 b337 34 ([(.int .i64 (0)), (.int .i64 (1)), (.int .u64 (((((ua % 20) + 1) + (ub % 20)) + 1) + (uc % 1000))), (.slice ca334 ((Zf HL334 (((ua % 20) + 1) + (ub % 20)) (((((ua % 20) + 1) + (ub % 20)) + 1) + (uc % 1000))).length) cc334), (.int .i64 (0)), (.int .i64 (Zt (Zg (Zg Lb (⟨0, Zy (⟨0, 0, (((ua % 20) + 1) + (ub % 20)), ca323, cc323, 0, 0, (Zf HL323 (ua % 20) (((ua % 20) + 1) + (ub % 20)))⟩ : PrR)⟩ : Signed)) (⟨0, Zy (⟨0, 1, (((((ua % 20) + 1) + (ub % 20)) + 1) + (uc % 1000)), ca334, cc334, 0, 0, (Zf HL334 (((ua % 20) + 1) + (ub % 20)) (((((ua % 20) + 1) + (ub % 20)) + 1) + (uc % 1000)))⟩ : PrR)⟩ : Signed)) (⟨0, Zy (⟨0, 1, (((((ua % 20) + 1) + (ub % 20)) + 1) + (uc % 1000)), ca334, cc334, 0, 0, (Zf HL334 (((ua % 20) + 1) + (ub % 20)) (((((ua % 20) + 1) + (ub % 20)) + 1) + (uc % 1000)))⟩ : PrR)⟩ : Signed)))] : List Value), Zb 53 38 (.slice ca345 ((Zf HL345 (ua % 20) (((((ua % 20) + 1) + (ub % 20)) + 1) + (uc % 1000))).length) cc345) ((Zf HL345 (ua % 20) (((((ua % 20) + 1) + (ub % 20)) + 1) + (uc % 1000))).length) ((Zf HL345 (ua % 20) (((((ua % 20) + 1) + (ub % 20)) + 1) + (uc % 1000))).flatMap ZK), ZI Bh345] wp345 := (Sat.turnL (L' := [Z3 t30 121 ([(.int .i64 (1)), (.int .i64 (3)), (.int .i64 (0)), (.map (some m31))] : List Value), ZC m31 nmV ceV M, ZI B, Z3 b11 110 ([(.map (some m12))] : List Value), ZC m12 Za (Value.int .i64) (Zq (Zg (Zg (Zg Lb (⟨0, Zy (⟨0, 0, (((ua % 20) + 1) + (ub % 20)), ca323, cc323, 0, 0, (Zf HL323 (ua % 20) (((ua % 20) + 1) + (ub % 20)))⟩ : PrR)⟩ : Signed)) (⟨0, Zy (⟨0, 1, (((((ua % 20) + 1) + (ub % 20)) + 1) + (uc % 1000)), ca334, cc334, 0, 0, (Zf HL334 (((ua % 20) + 1) + (ub % 20)) (((((ua % 20) + 1) + (ub % 20)) + 1) + (uc % 1000)))⟩ : PrR)⟩ : Signed)) (⟨0, Zy (⟨0, 2, (((((ua % 20) + 1) + (ub % 20)) + 1) + (uc % 1000)), ca345, cc345, 0, 0, (Zf HL345 (ua % 20) (((((ua % 20) + 1) + (ub % 20)) + 1) + (uc % 1000)))⟩ : PrR)⟩ : Signed))), Zb 53 38 (.slice ca345 ((Zf HL345 (ua % 20) (((((ua % 20) + 1) + (ub % 20)) + 1) + (uc % 1000))).length) cc345) ((Zf HL345 (ua % 20) (((((ua % 20) + 1) + (ub % 20)) + 1) + (uc % 1000))).length) ((Zf HL345 (ua % 20) (((((ua % 20) + 1) + (ub % 20)) + 1) + (uc % 1000))).flatMap ZK), ZI Bh345]) (R := [Z6 w (fun _ => False), Z3 b2 36 ([(.int .i64 (1)), (.int .i64 (3))] : List Value), Z3 r13 98 ([(.slice ra Lr.length rc)] : List Value), Zb 114 2 (.slice ra Lr.length rc) Lr.length (Lr.flatMap Z0q), Z3 b21 40 ([(.pointer (some ⟨b11, 0, none⟩)), (.pointer (some ⟨r13, 0, none⟩))] : List Value), Zb 53 38 (.slice la HL.length lc) HL.length (HL.flatMap ZK), ZI Bh, Zb 53 38 (.slice ca323 ((Zf HL323 (ua % 20) (((ua % 20) + 1) + (ub % 20))).length) cc323) ((Zf HL323 (ua % 20) (((ua % 20) + 1) + (ub % 20))).length) ((Zf HL323 (ua % 20) (((ua % 20) + 1) + (ub % 20))).flatMap ZK), ZI Bh323, Z3 b326 34 ([(.int .i64 (0)), (.int .i64 (0)), (.int .u64 (((ua % 20) + 1) + (ub % 20))), (.slice ca323 ((Zf HL323 (ua % 20) (((ua % 20) + 1) + (ub % 20))).length) cc323), (.int .i64 (0)), (.int .i64 (Zt (Zg Lb (⟨0, Zy (⟨0, 0, (((ua % 20) + 1) + (ub % 20)), ca323, cc323, 0, 0, (Zf HL323 (ua % 20) (((ua % 20) + 1) + (ub % 20)))⟩ : PrR)⟩ : Signed)) (⟨0, Zy (⟨0, 0, (((ua % 20) + 1) + (ub % 20)), ca323, cc323, 0, 0, (Zf HL323 (ua % 20) (((ua % 20) + 1) + (ub % 20)))⟩ : PrR)⟩ : Signed)))] : List Value), Zb 53 38 (.slice ca334 ((Zf HL334 (((ua % 20) + 1) + (ub % 20)) (((((ua % 20) + 1) + (ub % 20)) + 1) + (uc % 1000))).length) cc334) ((Zf HL334 (((ua % 20) + 1) + (ub % 20)) (((((ua % 20) + 1) + (ub % 20)) + 1) + (uc % 1000))).length) ((Zf HL334 (((ua % 20) + 1) + (ub % 20)) (((((ua % 20) + 1) + (ub % 20)) + 1) + (uc % 1000))).flatMap ZK), ZI Bh334, Z3 b337 34 ([(.int .i64 (0)), (.int .i64 (1)), (.int .u64 (((((ua % 20) + 1) + (ub % 20)) + 1) + (uc % 1000))), (.slice ca334 ((Zf HL334 (((ua % 20) + 1) + (ub % 20)) (((((ua % 20) + 1) + (ub % 20)) + 1) + (uc % 1000))).length) cc334), (.int .i64 (0)), (.int .i64 (Zt (Zg (Zg Lb (⟨0, Zy (⟨0, 0, (((ua % 20) + 1) + (ub % 20)), ca323, cc323, 0, 0, (Zf HL323 (ua % 20) (((ua % 20) + 1) + (ub % 20)))⟩ : PrR)⟩ : Signed)) (⟨0, Zy (⟨0, 1, (((((ua % 20) + 1) + (ub % 20)) + 1) + (uc % 1000)), ca334, cc334, 0, 0, (Zf HL334 (((ua % 20) + 1) + (ub % 20)) (((((ua % 20) + 1) + (ub % 20)) + 1) + (uc % 1000)))⟩ : PrR)⟩ : Signed)) (⟨0, Zy (⟨0, 1, (((((ua % 20) + 1) + (ub % 20)) + 1) + (uc % 1000)), ca334, cc334, 0, 0, (Zf HL334 (((ua % 20) + 1) + (ub % 20)) (((((ua % 20) + 1) + (ub % 20)) + 1) + (uc % 1000)))⟩ : PrR)⟩ : Signed)))] : List Value)]) H342 [7, 8, 9, 2, 3] [0, 1, 4, 5, 6, 10, 11, 12, 13, 14, 15, 16, 17] (by decide) (by kernel_rfl) rfl hT345).pick [7, 8, 3, 4, 9, 10, 11, 0, 1, 2, 12, 13, 14, 15, 16, 17, 18, 19, 5, 6] (by decide)
    refine ⟨_, rfl, ?_⟩
    have hsl345 := Z2S (L := HL345) (last := (ua % 20)) (tm := (((((ua % 20) + 1) + (ub % 20)) + 1) + (uc % 1000)))
    have hLL345 : HL345.length = M.length := by have q1 := Z2A hco345; have q2 := hs345.length_eq; rw [List.length_map] at q2; omega
    have nd345 : (Zg (Zg (Zg Lb (⟨0, Zy (⟨0, 0, (((ua % 20) + 1) + (ub % 20)), ca323, cc323, 0, 0, (Zf HL323 (ua % 20) (((ua % 20) + 1) + (ub % 20)))⟩ : PrR)⟩ : Signed)) (⟨0, Zy (⟨0, 1, (((((ua % 20) + 1) + (ub % 20)) + 1) + (uc % 1000)), ca334, cc334, 0, 0, (Zf HL334 (((ua % 20) + 1) + (ub % 20)) (((((ua % 20) + 1) + (ub % 20)) + 1) + (uc % 1000)))⟩ : PrR)⟩ : Signed)) (⟨0, Zy (⟨0, 2, (((((ua % 20) + 1) + (ub % 20)) + 1) + (uc % 1000)), ca345, cc345, 0, 0, (Zf HL345 (ua % 20) (((((ua % 20) + 1) + (ub % 20)) + 1) + (uc % 1000)))⟩ : PrR)⟩ : Signed)).Nodup := Z0v nd334 _
    have ll345 := Z0w (Zg (Zg Lb (⟨0, Zy (⟨0, 0, (((ua % 20) + 1) + (ub % 20)), ca323, cc323, 0, 0, (Zf HL323 (ua % 20) (((ua % 20) + 1) + (ub % 20)))⟩ : PrR)⟩ : Signed)) (⟨0, Zy (⟨0, 1, (((((ua % 20) + 1) + (ub % 20)) + 1) + (uc % 1000)), ca334, cc334, 0, 0, (Zf HL334 (((ua % 20) + 1) + (ub % 20)) (((((ua % 20) + 1) + (ub % 20)) + 1) + (uc % 1000)))⟩ : PrR)⟩ : Signed)) (⟨0, Zy (⟨0, 2, (((((ua % 20) + 1) + (ub % 20)) + 1) + (uc % 1000)), ca345, cc345, 0, 0, (Zf HL345 (ua % 20) (((((ua % 20) + 1) + (ub % 20)) + 1) + (uc % 1000)))⟩ : PrR)⟩ : Signed)
    refine hK344 _ _ ?_
    clear hK344 K344
    refine Z2 (Z1 rfl) (d := 177) (v := (.tuple #[(.agg ⟨([(.int .i64 (0)), (.int .i64 (2)), (.int .u64 (((((ua % 20) + 1) + (ub % 20)) + 1) + (uc % 1000))), (.slice ca345 ((Zf HL345 (ua % 20) (((((ua % 20) + 1) + (ub % 20)) + 1) + (uc % 1000))).length) cc345), (.int .i64 (0)), (.int .i64 (Zt (Zg (Zg (Zg Lb (⟨0, Zy (⟨0, 0, (((ua % 20) + 1) + (ub % 20)), ca323, cc323, 0, 0, (Zf HL323 (ua % 20) (((ua % 20) + 1) + (ub % 20)))⟩ : PrR)⟩ : Signed)) (⟨0, Zy (⟨0, 1, (((((ua % 20) + 1) + (ub % 20)) + 1) + (uc % 1000)), ca334, cc334, 0, 0, (Zf HL334 (((ua % 20) + 1) + (ub % 20)) (((((ua % 20) + 1) + (ub % 20)) + 1) + (uc % 1000)))⟩ : PrR)⟩ : Signed)) (⟨0, Zy (⟨0, 2, (((((ua % 20) + 1) + (ub % 20)) + 1) + (uc % 1000)), ca345, cc345, 0, 0, (Zf HL345 (ua % 20) (((((ua % 20) + 1) + (ub % 20)) + 1) + (uc % 1000)))⟩ : PrR)⟩ : Signed)) (⟨0, Zy (⟨0, 2, (((((ua % 20) + 1) + (ub % 20)) + 1) + (uc % 1000)), ca345, cc345, 0, 0, (Zf HL345 (ua % 20) (((((ua % 20) + 1) + (ub % 20)) + 1) + (uc % 1000)))⟩ : PrR)⟩ : Signed)))] : List Value)⟩), (.int .i64 (0))])) rfl (by kernel_rfl) ?_
    refine Z2 (Z1 rfl) (d := 184) (v := (.agg ⟨([(.int .i64 (0)), (.int .i64 (2)), (.int .u64 (((((ua % 20) + 1) + (ub % 20)) + 1) + (uc % 1000))), (.slice ca345 ((Zf HL345 (ua % 20) (((((ua % 20) + 1) + (ub % 20)) + 1) + (uc % 1000))).length) cc345), (.int .i64 (0)), (.int .i64 (Zt (Zg (Zg (Zg Lb (⟨0, Zy (⟨0, 0, (((ua % 20) + 1) + (ub % 20)), ca323, cc323, 0, 0, (Zf HL323 (ua % 20) (((ua % 20) + 1) + (ub % 20)))⟩ : PrR)⟩ : Signed)) (⟨0, Zy (⟨0, 1, (((((ua % 20) + 1) + (ub % 20)) + 1) + (uc % 1000)), ca334, cc334, 0, 0, (Zf HL334 (((ua % 20) + 1) + (ub % 20)) (((((ua % 20) + 1) + (ub % 20)) + 1) + (uc % 1000)))⟩ : PrR)⟩ : Signed)) (⟨0, Zy (⟨0, 2, (((((ua % 20) + 1) + (ub % 20)) + 1) + (uc % 1000)), ca345, cc345, 0, 0, (Zf HL345 (ua % 20) (((((ua % 20) + 1) + (ub % 20)) + 1) + (uc % 1000)))⟩ : PrR)⟩ : Signed)) (⟨0, Zy (⟨0, 2, (((((ua % 20) + 1) + (ub % 20)) + 1) + (uc % 1000)), ca345, cc345, 0, 0, (Zf HL345 (ua % 20) (((((ua % 20) + 1) + (ub % 20)) + 1) + (uc % 1000)))⟩ : PrR)⟩ : Signed)))] : List Value)⟩)) rfl (by kernel_rfl) ?_
    refine Z2 (Z1 rfl) (d := 185) (v := (.int .i64 (0))) rfl (by kernel_rfl) ?_
    refine ZA (Z1 rfl) (fun K347 hK347 => ?_)
    refine Z0e (zs := ([(.int .i64 (0)), (.int .i64 (0)), (.int .u64 (0)), (.slice none 0 0), (.int .i64 (0)), (.int .i64 (0))] : List Value)) (z := (.agg ⟨([(.int .i64 (0)), (.int .i64 (0)), (.int .u64 (0)), (.slice none 0 0), (.int .i64 (0)), (.int .i64 (0))] : List Value)⟩)) rfl H346 (by kernel_rfl) (by kernel_rfl) ?_
    intro b348 w349 (H350 : Sat w [Z6 w (fun _ => False), Z3 b2 36 ([(.int .i64 (1)), (.int .i64 (3))] : List Value), Z3 b11 110 ([(.map (some m12))] : List Value), ZC m12 Za (Value.int .i64) (Zq (Zg (Zg (Zg Lb (⟨0, Zy (⟨0, 0, (((ua % 20) + 1) + (ub % 20)), ca323, cc323, 0, 0, (Zf HL323 (ua % 20) (((ua % 20) + 1) + (ub % 20)))⟩ : PrR)⟩ : Signed)) (⟨0, Zy (⟨0, 1, (((((ua % 20) + 1) + (ub % 20)) + 1) + (uc % 1000)), ca334, cc334, 0, 0, (Zf HL334 (((ua % 20) + 1) + (ub % 20)) (((((ua % 20) + 1) + (ub % 20)) + 1) + (uc % 1000)))⟩ : PrR)⟩ : Signed)) (⟨0, Zy (⟨0, 2, (((((ua % 20) + 1) + (ub % 20)) + 1) + (uc % 1000)), ca345, cc345, 0, 0, (Zf HL345 (ua % 20) (((((ua % 20) + 1) + (ub % 20)) + 1) + (uc % 1000)))⟩ : PrR)⟩ : Signed))), Z3 r13 98 ([(.slice ra Lr.length rc)] : List Value), Zb 114 2 (.slice ra Lr.length rc) Lr.length (Lr.flatMap Z0q), Z3 b21 40 ([(.pointer (some ⟨b11, 0, none⟩)), (.pointer (some ⟨r13, 0, none⟩))] : List Value), Z3 t30 121 ([(.int .i64 (1)), (.int .i64 (3)), (.int .i64 (0)), (.map (some m31))] : List Value), ZC m31 nmV ceV M, ZI B, Zb 53 38 (.slice la HL.length lc) HL.length (HL.flatMap ZK), ZI Bh, Zb 53 38 (.slice ca323 ((Zf HL323 (ua % 20) (((ua % 20) + 1) + (ub % 20))).length) cc323) ((Zf HL323 (ua % 20) (((ua % 20) + 1) + (ub % 20))).length) ((Zf HL323 (ua % 20) (((ua % 20) + 1) + (ub % 20))).flatMap ZK), ZI Bh323, Z3 b326 34 ([(.int .i64 (0)), (.int .i64 (0)), (.int .u64 (((ua % 20) + 1) + (ub % 20))), (.slice ca323 ((Zf HL323 (ua % 20) (((ua % 20) + 1) + (ub % 20))).length) cc323), (.int .i64 (0)), (.int .i64 (Zt (Zg Lb (⟨0, Zy (⟨0, 0, (((ua % 20) + 1) + (ub % 20)), ca323, cc323, 0, 0, (Zf HL323 (ua % 20) (((ua % 20) + 1) + (ub % 20)))⟩ : PrR)⟩ : Signed)) (⟨0, Zy (⟨0, 0, (((ua % 20) + 1) + (ub % 20)), ca323, cc323, 0, 0, (Zf HL323 (ua % 20) (((ua % 20) + 1) + (ub % 20)))⟩ : PrR)⟩ : Signed)))] : List Value), Zb 53 38 (.slice ca334 ((Zf HL334 (((ua % 20) + 1) + (ub % 20)) (((((ua % 20) + 1) + (ub % 20)) + 1) + (uc % 1000))).length) cc334) ((Zf HL334 (((ua % 20) + 1) + (ub % 20)) (((((ua % 20) + 1) + (ub % 20)) + 1) + (uc % 1000))).length) ((Zf HL334 (((ua % 20) + 1) + (ub % 20)) (((((ua % 20) + 1) + (ub % 20)) + 1) + (uc % 1000))).flatMap ZK), ZI Bh334, Z3 b337 34 ([(.int .i64 (0)), (.int .i64 (1)), (.int .u64 (((((ua % 20) + 1) + (ub % 20)) + 1) + (uc % 1000))), (.slice ca334 ((Zf HL334 (((ua % 20) + 1) + (ub % 20)) (((((ua % 20) + 1) + (ub % 20)) + 1) + (uc % 1000))).length) cc334), (.int .i64 (0)), (.int .i64 (Zt (Zg (Zg Lb (⟨0, Zy (⟨0, 0, (((ua % 20) + 1) + (ub % 20)), ca323, cc323, 0, 0, (Zf HL323 (ua % 20) (((ua % 20) + 1) + (ub % 20)))⟩ : PrR)⟩ : Signed)) (⟨0, Zy (⟨0, 1, (((((ua % 20) + 1) + (ub % 20)) + 1) + (uc % 1000)), ca334, cc334, 0, 0, (Zf HL334 (((ua % 20) + 1) + (ub % 20)) (((((ua % 20) + 1) + (ub % 20)) + 1) + (uc % 1000)))⟩ : PrR)⟩ : Signed)) (⟨0, Zy (⟨0, 1, (((((ua % 20) + 1) + (ub % 20)) + 1) + (uc % 1000)), ca334, cc334, 0, 0, (Zf HL334 (((ua % 20) + 1) + (ub % 20)) (((((ua % 20) + 1) + (ub % 20)) + 1) + (uc % 1000)))⟩ : PrR)⟩ : Signed)))] : List Value), Zb 53 38 (.slice ca345 ((Zf HL345 (ua % 20) (((((ua % 20) + 1) + (ub % 20)) + 1) + (uc % 1000))).length) cc345) ((Zf HL345 (ua % 20) (((((ua % 20) + 1) + (ub % 20)) + 1) + (uc % 1000))).length) ((Zf HL345 (ua % 20) (((((ua % 20) + 1) + (ub % 20)) + 1) + (uc % 1000))).flatMap ZK), ZI Bh345, Z3 b348 34 ([(.int .i64 (0)), (.int .i64 (0)), (.int .u64 (0)), (.slice none 0 0), (.int .i64 (0)), (.int .i64 (0))] : List Value)] w349)
    refine hK347 _ _ ?_
    clear hK347 K347
    refine ZA (Z1 rfl) (fun K351 hK351 => ?_)
    refine ZU (vs := ([(.int .i64 (0)), (.int .i64 (2)), (.int .u64 (((((ua % 20) + 1) + (ub % 20)) + 1) + (uc % 1000))), (.slice ca345 ((Zf HL345 (ua % 20) (((((ua % 20) + 1) + (ub % 20)) + 1) + (uc % 1000))).length) cc345), (.int .i64 (0)), (.int .i64 (Zt (Zg (Zg (Zg Lb (⟨0, Zy (⟨0, 0, (((ua % 20) + 1) + (ub % 20)), ca323, cc323, 0, 0, (Zf HL323 (ua % 20) (((ua % 20) + 1) + (ub % 20)))⟩ : PrR)⟩ : Signed)) (⟨0, Zy (⟨0, 1, (((((ua % 20) + 1) + (ub % 20)) + 1) + (uc % 1000)), ca334, cc334, 0, 0, (Zf HL334 (((ua % 20) + 1) + (ub % 20)) (((((ua % 20) + 1) + (ub % 20)) + 1) + (uc % 1000)))⟩ : PrR)⟩ : Signed)) (⟨0, Zy (⟨0, 2, (((((ua % 20) + 1) + (ub % 20)) + 1) + (uc % 1000)), ca345, cc345, 0, 0, (Zf HL345 (ua % 20) (((((ua % 20) + 1) + (ub % 20)) + 1) + (uc % 1000)))⟩ : PrR)⟩ : Signed)) (⟨0, Zy (⟨0, 2, (((((ua % 20) + 1) + (ub % 20)) + 1) + (uc % 1000)), ca345, cc345, 0, 0, (Zf HL345 (ua % 20) (((((ua % 20) + 1) + (ub % 20)) + 1) + (uc % 1000)))⟩ : PrR)⟩ : Signed)))] : List Value)) (cs' := ([(.int .i64 (0)), (.int .i64 (2)), (.int .u64 (((((ua % 20) + 1) + (ub % 20)) + 1) + (uc % 1000))), (.slice ca345 ((Zf HL345 (ua % 20) (((((ua % 20) + 1) + (ub % 20)) + 1) + (uc % 1000))).length) cc345), (.int .i64 (0)), (.int .i64 (Zt (Zg (Zg (Zg Lb (⟨0, Zy (⟨0, 0, (((ua % 20) + 1) + (ub % 20)), ca323, cc323, 0, 0, (Zf HL323 (ua % 20) (((ua % 20) + 1) + (ub % 20)))⟩ : PrR)⟩ : Signed)) (⟨0, Zy (⟨0, 1, (((((ua % 20) + 1) + (ub % 20)) + 1) + (uc % 1000)), ca334, cc334, 0, 0, (Zf HL334 (((ua % 20) + 1) + (ub % 20)) (((((ua % 20) + 1) + (ub % 20)) + 1) + (uc % 1000)))⟩ : PrR)⟩ : Signed)) (⟨0, Zy (⟨0, 2, (((((ua % 20) + 1) + (ub % 20)) + 1) + (uc % 1000)), ca345, cc345, 0, 0, (Zf HL345 (ua % 20) (((((ua % 20) + 1) + (ub % 20)) + 1) + (uc % 1000)))⟩ : PrR)⟩ : Signed)) (⟨0, Zy (⟨0, 2, (((((ua % 20) + 1) + (ub % 20)) + 1) + (uc % 1000)), ca345, cc345, 0, 0, (Zf HL345 (ua % 20) (((((ua % 20) + 1) + (ub % 20)) + 1) + (uc % 1000)))⟩ : PrR)⟩ : Signed)))] : List Value)) rfl H350 20 rfl rfl rfl rfl (by kernel_rfl) (Nat.le_of_ble_eq_true (by kernel_rfl)) (Nat.le_of_ble_eq_true (by kernel_rfl)) (by kernel_rfl) (by kernel_rfl) ?_
    intro w352 (H353 : Sat w [Z6 w (fun _ => False), Z3 b2 36 ([(.int .i64 (1)), (.int .i64 (3))] : List Value), Z3 b11 110 ([(.map (some m12))] : List Value), ZC m12 Za (Value.int .i64) (Zq (Zg (Zg (Zg Lb (⟨0, Zy (⟨0, 0, (((ua % 20) + 1) + (ub % 20)), ca323, cc323, 0, 0, (Zf HL323 (ua % 20) (((ua % 20) + 1) + (ub % 20)))⟩ : PrR)⟩ : Signed)) (⟨0, Zy (⟨0, 1, (((((ua % 20) + 1) + (ub % 20)) + 1) + (uc % 1000)), ca334, cc334, 0, 0, (Zf HL334 (((ua % 20) + 1) + (ub % 20)) (((((ua % 20) + 1) + (ub % 20)) + 1) + (uc % 1000)))⟩ : PrR)⟩ : Signed)) (⟨0, Zy (⟨0, 2, (((((ua % 20) + 1) + (ub % 20)) + 1) + (uc % 1000)), ca345, cc345, 0, 0, (Zf HL345 (ua % 20) (((((ua % 20) + 1) + (ub % 20)) + 1) + (uc % 1000)))⟩ : PrR)⟩ : Signed))), Z3 r13 98 ([(.slice ra Lr.length rc)] : List Value), Zb 114 2 (.slice ra Lr.length rc) Lr.length (Lr.flatMap Z0q), Z3 b21 40 ([(.pointer (some ⟨b11, 0, none⟩)), (.pointer (some ⟨r13, 0, none⟩))] : List Value), Z3 t30 121 ([(.int .i64 (1)), (.int .i64 (3)), (.int .i64 (0)), (.map (some m31))] : List Value), ZC m31 nmV ceV M, ZI B, Zb 53 38 (.slice la HL.length lc) HL.length (HL.flatMap ZK), ZI Bh, Zb 53 38 (.slice ca323 ((Zf HL323 (ua % 20) (((ua % 20) + 1) + (ub % 20))).length) cc323) ((Zf HL323 (ua % 20) (((ua % 20) + 1) + (ub % 20))).length) ((Zf HL323 (ua % 20) (((ua % 20) + 1) + (ub % 20))).flatMap ZK), ZI Bh323, Z3 b326 34 ([(.int .i64 (0)), (.int .i64 (0)), (.int .u64 (((ua % 20) + 1) + (ub % 20))), (.slice ca323 ((Zf HL323 (ua % 20) (((ua % 20) + 1) + (ub % 20))).length) cc323), (.int .i64 (0)), (.int .i64 (Zt (Zg Lb (⟨0, Zy (⟨0, 0, (((ua % 20) + 1) + (ub % 20)), ca323, cc323, 0, 0, (Zf HL323 (ua % 20) (((ua % 20) + 1) + (ub % 20)))⟩ : PrR)⟩ : Signed)) (⟨0, Zy (⟨0, 0, (((ua % 20) + 1) + (ub % 20)), ca323, cc323, 0, 0, (Zf HL323 (ua % 20) (((ua % 20) + 1) + (ub % 20)))⟩ : PrR)⟩ : Signed)))] : List Value), Zb 53 38 (.slice ca334 ((Zf HL334 (((ua % 20) + 1) + (ub % 20)) (((((ua % 20) + 1) + (ub % 20)) + 1) + (uc % 1000))).length) cc334) ((Zf HL334 (((ua % 20) + 1) + (ub % 20)) (((((ua % 20) + 1) + (ub % 20)) + 1) + (uc % 1000))).length) ((Zf HL334 (((ua % 20) + 1) + (ub % 20)) (((((ua % 20) + 1) + (ub % 20)) + 1) + (uc % 1000))).flatMap ZK), ZI Bh334, Z3 b337 34 ([(.int .i64 (0)), (.int .i64 (1)), (.int .u64 (((((ua % 20) + 1) + (ub % 20)) + 1) + (uc % 1000))), (.slice ca334 ((Zf HL334 (((ua % 20) + 1) + (ub % 20)) (((((ua % 20) + 1) + (ub % 20)) + 1) + (uc % 1000))).length) cc334), (.int .i64 (0)), (.int .i64 (Zt (Zg (Zg Lb (⟨0, Zy (⟨0, 0, (((ua % 20) + 1) + (ub % 20)), ca323, cc323, 0, 0, (Zf HL323 (ua % 20) (((ua % 20) + 1) + (ub % 20)))⟩ : PrR)⟩ : Signed)) (⟨0, Zy (⟨0, 1, (((((ua % 20) + 1) + (ub % 20)) + 1) + (uc % 1000)), ca334, cc334, 0, 0, (Zf HL334 (((ua % 20) + 1) + (ub % 20)) (((((ua % 20) + 1) + (ub % 20)) + 1) + (uc % 1000)))⟩ : PrR)⟩ : Signed)) (⟨0, Zy (⟨0, 1, (((((ua % 20) + 1) + (ub % 20)) + 1) + (uc % 1000)), ca334, cc334, 0, 0, (Zf HL334 (((ua % 20) + 1) + (ub % 20)) (((((ua % 20) + 1) + (ub % 20)) + 1) + (uc % 1000)))⟩ : PrR)⟩ : Signed)))] : List Value), Zb 53 38 (.slice ca345 ((Zf HL345 (ua % 20) (((((ua % 20) + 1) + (ub % 20)) + 1) + (uc % 1000))).length) cc345) ((Zf HL345 (ua % 20) (((((ua % 20) + 1) + (ub % 20)) + 1) + (uc % 1000))).length) ((Zf HL345 (ua % 20) (((((ua % 20) + 1) + (ub % 20)) + 1) + (uc % 1000))).flatMap ZK), ZI Bh345, Z3 b348 34 ([(.int .i64 (0)), (.int .i64 (2)), (.int .u64 (((((ua % 20) + 1) + (ub % 20)) + 1) + (uc % 1000))), (.slice ca345 ((Zf HL345 (ua % 20) (((((ua % 20) + 1) + (ub % 20)) + 1) + (uc % 1000))).length) cc345), (.int .i64 (0)), (.int .i64 (Zt (Zg (Zg (Zg Lb (⟨0, Zy (⟨0, 0, (((ua % 20) + 1) + (ub % 20)), ca323, cc323, 0, 0, (Zf HL323 (ua % 20) (((ua % 20) + 1) + (ub % 20)))⟩ : PrR)⟩ : Signed)) (⟨0, Zy (⟨0, 1, (((((ua % 20) + 1) + (ub % 20)) + 1) + (uc % 1000)), ca334, cc334, 0, 0, (Zf HL334 (((ua % 20) + 1) + (ub % 20)) (((((ua % 20) + 1) + (ub % 20)) + 1) + (uc % 1000)))⟩ : PrR)⟩ : Signed)) (⟨0, Zy (⟨0, 2, (((((ua % 20) + 1) + (ub % 20)) + 1) + (uc % 1000)), ca345, cc345, 0, 0, (Zf HL345 (ua % 20) (((((ua % 20) + 1) + (ub % 20)) + 1) + (uc % 1000)))⟩ : PrR)⟩ : Signed)) (⟨0, Zy (⟨0, 2, (((((ua % 20) + 1) + (ub % 20)) + 1) + (uc % 1000)), ca345, cc345, 0, 0, (Zf HL345 (ua % 20) (((((ua % 20) + 1) + (ub % 20)) + 1) + (uc % 1000)))⟩ : PrR)⟩ : Signed)))] : List Value)] w352)
    refine hK351 _ _ ?_
    clear hK351 K351
    refine Z2 (Z1 rfl) (d := 25) (v := (.int .i64 (0))) rfl (by kernel_rfl) ?_
    refine Zm ?_
    refine Z4 ?_
    refine Zc ?_
    refine Zc ?_
    have hsum := Z8c (a := (ua % 20)) (b := (ua % 20 + 1 + ub % 20)) (c := (ua % 20 + 1 + ub % 20 + 1 + uc % 1000)) (Z5Q hco323 hco345 (hs323.trans hs345.symm)) (Z5Q hco334 hco345 (hs334.trans hs345.symm)) (by omega) (by omega)
    refine Zp ?_
    refine Z2 (Z1 rfl) (d := 186) (v := (.int .i64 (0))) rfl (by kernel_rfl) ?_
    refine Z2 (Z1 rfl) (d := 187) (v := (.bool false)) rfl (by kernel_rfl) ?_
    refine Z2 (Z1 rfl) (d := 188) (v := (.bool false)) rfl (by kernel_rfl) ?_
    refine Z2 (Zj 2 188 false rfl (by kernel_rfl) rfl (by kernel_rfl)) (d := 189) (v := (.int .i64 (0))) rfl (by kernel_rfl) ?_
    refine Z2 (Zj 2 188 false rfl (by kernel_rfl) rfl (by kernel_rfl)) (d := 190) (v := (.bool false)) rfl (by kernel_rfl) ?_
    refine Z2 (Z1 rfl) (d := 191) (v := (.bool false)) rfl (by kernel_rfl) ?_
    refine Z2 (Z1 rfl) (d := 192) (v := (.bool false)) rfl (by kernel_rfl) ?_
    refine Z2 (Zj 6 192 false rfl (by kernel_rfl) rfl (by kernel_rfl)) (d := 193) (v := (.int .i64 (0))) rfl (by kernel_rfl) ?_
    refine Z2 (Zj 6 192 false rfl (by kernel_rfl) rfl (by kernel_rfl)) (d := 194) (v := (.bool false)) rfl (by kernel_rfl) ?_
    refine Z2 (Z1 rfl) (d := 195) (v := (.bool false)) rfl (by kernel_rfl) ?_
    refine Z2 (Z1 rfl) (d := 196) (v := (.bool false)) rfl (by kernel_rfl) ?_
    refine Z2 (Zj 10 196 false rfl (by kernel_rfl) rfl (by kernel_rfl)) (d := 197) (v := (.pointer (some ⟨b348, 3, none⟩))) rfl (by kernel_rfl) ?_
    refine Z2 (Zj 10 196 false rfl (by kernel_rfl) rfl (by kernel_rfl)) (d := 198) (v := (.slice ca345 ((Zf HL345 (ua % 20) (((((ua % 20) + 1) + (ub % 20)) + 1) + (uc % 1000))).length) cc345)) rfl (Zi rfl (by kernel_rfl) (H353.cell 20 rfl rfl)) ?_
    refine Z2 (Zj 10 196 false rfl (by kernel_rfl) rfl (by kernel_rfl)) (d := 199) (v := (.int .i64 (((Zf HL345 (ua % 20) (((((ua % 20) + 1) + (ub % 20)) + 1) + (uc % 1000))).length : Int)))) rfl (by kernel_rfl) ?_
    refine Z2 (Zj 10 196 false rfl (by kernel_rfl) rfl (by kernel_rfl)) (d := 200) (v := (.pointer (some ⟨b326, 3, none⟩))) rfl (by kernel_rfl) ?_
    refine Z2 (Zj 10 196 false rfl (by kernel_rfl) rfl (by kernel_rfl)) (d := 201) (v := (.slice ca323 ((Zf HL323 (ua % 20) (((ua % 20) + 1) + (ub % 20))).length) cc323)) rfl (Zi rfl (by kernel_rfl) (H353.cell 14 rfl rfl)) ?_
    refine Z2 (Zj 10 196 false rfl (by kernel_rfl) rfl (by kernel_rfl)) (d := 202) (v := (.int .i64 (((Zf HL323 (ua % 20) (((ua % 20) + 1) + (ub % 20))).length : Int)))) rfl (by kernel_rfl) ?_
    refine Z2 (Zj 10 196 false rfl (by kernel_rfl) rfl (by kernel_rfl)) (d := 203) (v := (.pointer (some ⟨b337, 3, none⟩))) rfl (by kernel_rfl) ?_
    refine Z2 (Zj 10 196 false rfl (by kernel_rfl) rfl (by kernel_rfl)) (d := 204) (v := (.slice ca334 ((Zf HL334 (((ua % 20) + 1) + (ub % 20)) (((((ua % 20) + 1) + (ub % 20)) + 1) + (uc % 1000))).length) cc334)) rfl (Zi rfl (by kernel_rfl) (H353.cell 17 rfl rfl)) ?_
    refine Z2 (Zj 10 196 false rfl (by kernel_rfl) rfl (by kernel_rfl)) (d := 205) (v := (.int .i64 (((Zf HL334 (((ua % 20) + 1) + (ub % 20)) (((((ua % 20) + 1) + (ub % 20)) + 1) + (uc % 1000))).length : Int)))) rfl (by kernel_rfl) ?_
    refine Z2 (Zj 10 196 false rfl (by kernel_rfl) rfl (by kernel_rfl)) (d := 206) (v := (.int .i64 (((Zf HL323 (ua % 20) (((ua % 20) + 1) + (ub % 20))).length : Int) + ((Zf HL334 (((ua % 20) + 1) + (ub % 20)) (((((ua % 20) + 1) + (ub % 20)) + 1) + (uc % 1000))).length : Int)))) rfl (Z04 (z := ((Zf HL323 (ua % 20) (((ua % 20) + 1) + (ub % 20))).length : Int) + ((Zf HL334 (((ua % 20) + 1) + (ub % 20)) (((((ua % 20) + 1) + (ub % 20)) + 1) + (uc % 1000))).length : Int)) (by kernel_rfl) (IntWalk.i64_in _ (by omega))) ?_
    refine Z2 (Zj 10 196 false rfl (by kernel_rfl) rfl (by kernel_rfl)) (d := 207) (v := (.bool (!(decide (((Zf HL345 (ua % 20) (((((ua % 20) + 1) + (ub % 20)) + 1) + (uc % 1000))).length : Int) = (((Zf HL323 (ua % 20) (((ua % 20) + 1) + (ub % 20))).length : Int) + ((Zf HL334 (((ua % 20) + 1) + (ub % 20)) (((((ua % 20) + 1) + (ub % 20)) + 1) + (uc % 1000))).length : Int))))))) rfl (by kernel_rfl) ?_
    refine Z2 (Z1 rfl) (d := 208) (v := (.bool (!(decide (((Zf HL345 (ua % 20) (((((ua % 20) + 1) + (ub % 20)) + 1) + (uc % 1000))).length : Int) = (((Zf HL323 (ua % 20) (((ua % 20) + 1) + (ub % 20))).length : Int) + ((Zf HL334 (((ua % 20) + 1) + (ub % 20)) (((((ua % 20) + 1) + (ub % 20)) + 1) + (uc % 1000))).length : Int))))))) rfl (by kernel_rfl) ?_
    refine Z2 (Z1 rfl) (d := 209) (v := (.bool (!(decide (((Zf HL345 (ua % 20) (((((ua % 20) + 1) + (ub % 20)) + 1) + (uc % 1000))).length : Int) = (((Zf HL323 (ua % 20) (((ua % 20) + 1) + (ub % 20))).length : Int) + ((Zf HL334 (((ua % 20) + 1) + (ub % 20)) (((((ua % 20) + 1) + (ub % 20)) + 1) + (uc % 1000))).length : Int))))))) rfl (by kernel_rfl) ?_
    have b355 : (!(decide (((Zf HL345 (ua % 20) (((((ua % 20) + 1) + (ub % 20)) + 1) + (uc % 1000))).length : Int) = (((Zf HL323 (ua % 20) (((ua % 20) + 1) + (ub % 20))).length : Int) + ((Zf HL334 (((ua % 20) + 1) + (ub % 20)) (((((ua % 20) + 1) + (ub % 20)) + 1) + (uc % 1000))).length : Int))))) = false := by rw [decide_eq_true (by omega)]; rfl
    refine Z02 209 (.bool false) (congrArg Value.bool b355) ?_
    have g356 := ZG b355
    have g357 := of_decide_eq_true g356
    refine Z2 (Zj 23 209 false rfl (by kernel_rfl) rfl (by kernel_rfl)) (d := 210) (v := (.slice la HL.length lc)) rfl (by kernel_rfl) ?_
    refine Z2 (Zj 23 209 false rfl (by kernel_rfl) rfl (by kernel_rfl)) (d := 211) (v := (.int .i64 ((HL.length : Int)))) rfl (by kernel_rfl) ?_
    refine Z2 (Zj 23 209 false rfl (by kernel_rfl) rfl (by kernel_rfl)) (d := 212) (v := (.pointer (some ⟨t30, 0, none⟩))) rfl (by kernel_rfl) ?_
    refine ZA (Zj 23 209 false rfl (by kernel_rfl) rfl (by kernel_rfl)) (fun K358 hK358 => ?_)
    refine Zv (d := 213) rfl (by kernel_rfl) (Z79 w352 t30 m31 1 3 0 M (H353.at 7 rfl) (H353.at 8 rfl)) ?_
    rintro _ w359 ⟨rfl, u361⟩
    have H360 := H353.keepU u361
    refine ⟨_, rfl, ?_⟩
    refine hK358 _ _ ?_
    clear hK358 K358
    refine Z2 (Zj 23 209 false rfl (by kernel_rfl) rfl (by kernel_rfl)) (d := 214) (v := (.bool (!(decide ((HL.length : Int) = ((M).length : Int)))))) rfl (by kernel_rfl) ?_
    refine Z2 (Z1 rfl) (d := 215) (v := (.bool (!(decide ((HL.length : Int) = ((M).length : Int)))))) rfl (by kernel_rfl) ?_
    refine Zm ?_
    refine Z4 ?_
    have b362 : (!(decide ((HL.length : Int) = ((M).length : Int)))) = false := by rw [decide_eq_true (by omega)]; rfl
    refine Zs 215 (.bool false) (congrArg Value.bool b362) ?_
    have g363 := ZG b362
    have g364 := of_decide_eq_true g363
    refine Z09 rfl ?_
    refine Z0b ?_
    refine Z4 ?_
    refine Zc ?_
    refine Zc ?_
    refine Zp ?_
    refine Z2 (Z1 rfl) (d := 216) (v := (.pointer (some ⟨b326, 3, none⟩))) rfl (by kernel_rfl) ?_
    refine Z2 (Z1 rfl) (d := 217) (v := (.slice ca323 ((Zf HL323 (ua % 20) (((ua % 20) + 1) + (ub % 20))).length) cc323)) rfl (Zi rfl (by kernel_rfl) (H360.cell 14 rfl rfl)) ?_
    refine Z2 (Z1 rfl) (d := 218) (v := (.int .i64 (((Zf HL323 (ua % 20) (((ua % 20) + 1) + (ub % 20))).length : Int)))) rfl (by kernel_rfl) ?_
    refine Z2 (Z1 rfl) (d := 219) (v := (.int .i64 (0))) rfl (by kernel_rfl) ?_
    refine Zm ?_
    refine Z4 ?_
    refine ZR ?_
    refine Z0m [8, 26, 27, 219, 220, 221, 222, 223, 224, 225, 226, 227, 228, 229, 230, 231, 232, 233, 234, 235, 236] (fun F_ W_ m_ => ∃ (j : Nat), F_ 219 = (.int .i64 ((j : Int))) ∧ (j ≤ (Zf HL323 (ua % 20) (((ua % 20) + 1) + (ub % 20))).length) ∧ Sat w [Z6 w (fun _ => False), Z3 b2 36 ([(.int .i64 (1)), (.int .i64 (3))] : List Value), Z3 b11 110 ([(.map (some m12))] : List Value), ZC m12 Za (Value.int .i64) (Zq (Zg (Zg (Zg Lb (⟨0, Zy (⟨0, 0, (((ua % 20) + 1) + (ub % 20)), ca323, cc323, 0, 0, (Zf HL323 (ua % 20) (((ua % 20) + 1) + (ub % 20)))⟩ : PrR)⟩ : Signed)) (⟨0, Zy (⟨0, 1, (((((ua % 20) + 1) + (ub % 20)) + 1) + (uc % 1000)), ca334, cc334, 0, 0, (Zf HL334 (((ua % 20) + 1) + (ub % 20)) (((((ua % 20) + 1) + (ub % 20)) + 1) + (uc % 1000)))⟩ : PrR)⟩ : Signed)) (⟨0, Zy (⟨0, 2, (((((ua % 20) + 1) + (ub % 20)) + 1) + (uc % 1000)), ca345, cc345, 0, 0, (Zf HL345 (ua % 20) (((((ua % 20) + 1) + (ub % 20)) + 1) + (uc % 1000)))⟩ : PrR)⟩ : Signed))), Z3 r13 98 ([(.slice ra Lr.length rc)] : List Value), Zb 114 2 (.slice ra Lr.length rc) Lr.length (Lr.flatMap Z0q), Z3 b21 40 ([(.pointer (some ⟨b11, 0, none⟩)), (.pointer (some ⟨r13, 0, none⟩))] : List Value), Z3 t30 121 ([(.int .i64 (1)), (.int .i64 (3)), (.int .i64 (0)), (.map (some m31))] : List Value), ZC m31 nmV ceV M, ZI B, Zb 53 38 (.slice la HL.length lc) HL.length (HL.flatMap ZK), ZI Bh, Zb 53 38 (.slice ca323 ((Zf HL323 (ua % 20) (((ua % 20) + 1) + (ub % 20))).length) cc323) ((Zf HL323 (ua % 20) (((ua % 20) + 1) + (ub % 20))).length) ((Zf HL323 (ua % 20) (((ua % 20) + 1) + (ub % 20))).flatMap ZK), ZI Bh323, Z3 b326 34 ([(.int .i64 (0)), (.int .i64 (0)), (.int .u64 (((ua % 20) + 1) + (ub % 20))), (.slice ca323 ((Zf HL323 (ua % 20) (((ua % 20) + 1) + (ub % 20))).length) cc323), (.int .i64 (0)), (.int .i64 (Zt (Zg Lb (⟨0, Zy (⟨0, 0, (((ua % 20) + 1) + (ub % 20)), ca323, cc323, 0, 0, (Zf HL323 (ua % 20) (((ua % 20) + 1) + (ub % 20)))⟩ : PrR)⟩ : Signed)) (⟨0, Zy (⟨0, 0, (((ua % 20) + 1) + (ub % 20)), ca323, cc323, 0, 0, (Zf HL323 (ua % 20) (((ua % 20) + 1) + (ub % 20)))⟩ : PrR)⟩ : Signed)))] : List Value), Zb 53 38 (.slice ca334 ((Zf HL334 (((ua % 20) + 1) + (ub % 20)) (((((ua % 20) + 1) + (ub % 20)) + 1) + (uc % 1000))).length) cc334) ((Zf HL334 (((ua % 20) + 1) + (ub % 20)) (((((ua % 20) + 1) + (ub % 20)) + 1) + (uc % 1000))).length) ((Zf HL334 (((ua % 20) + 1) + (ub % 20)) (((((ua % 20) + 1) + (ub % 20)) + 1) + (uc % 1000))).flatMap ZK), ZI Bh334, Z3 b337 34 ([(.int .i64 (0)), (.int .i64 (1)), (.int .u64 (((((ua % 20) + 1) + (ub % 20)) + 1) + (uc % 1000))), (.slice ca334 ((Zf HL334 (((ua % 20) + 1) + (ub % 20)) (((((ua % 20) + 1) + (ub % 20)) + 1) + (uc % 1000))).length) cc334), (.int .i64 (0)), (.int .i64 (Zt (Zg (Zg Lb (⟨0, Zy (⟨0, 0, (((ua % 20) + 1) + (ub % 20)), ca323, cc323, 0, 0, (Zf HL323 (ua % 20) (((ua % 20) + 1) + (ub % 20)))⟩ : PrR)⟩ : Signed)) (⟨0, Zy (⟨0, 1, (((((ua % 20) + 1) + (ub % 20)) + 1) + (uc % 1000)), ca334, cc334, 0, 0, (Zf HL334 (((ua % 20) + 1) + (ub % 20)) (((((ua % 20) + 1) + (ub % 20)) + 1) + (uc % 1000)))⟩ : PrR)⟩ : Signed)) (⟨0, Zy (⟨0, 1, (((((ua % 20) + 1) + (ub % 20)) + 1) + (uc % 1000)), ca334, cc334, 0, 0, (Zf HL334 (((ua % 20) + 1) + (ub % 20)) (((((ua % 20) + 1) + (ub % 20)) + 1) + (uc % 1000)))⟩ : PrR)⟩ : Signed)))] : List Value), Zb 53 38 (.slice ca345 ((Zf HL345 (ua % 20) (((((ua % 20) + 1) + (ub % 20)) + 1) + (uc % 1000))).length) cc345) ((Zf HL345 (ua % 20) (((((ua % 20) + 1) + (ub % 20)) + 1) + (uc % 1000))).length) ((Zf HL345 (ua % 20) (((((ua % 20) + 1) + (ub % 20)) + 1) + (uc % 1000))).flatMap ZK), ZI Bh345, Z3 b348 34 ([(.int .i64 (0)), (.int .i64 (2)), (.int .u64 (((((ua % 20) + 1) + (ub % 20)) + 1) + (uc % 1000))), (.slice ca345 ((Zf HL345 (ua % 20) (((((ua % 20) + 1) + (ub % 20)) + 1) + (uc % 1000))).length) cc345), (.int .i64 (0)), (.int .i64 (Zt (Zg (Zg (Zg Lb (⟨0, Zy (⟨0, 0, (((ua % 20) + 1) + (ub % 20)), ca323, cc323, 0, 0, (Zf HL323 (ua % 20) (((ua % 20) + 1) + (ub % 20)))⟩ : PrR)⟩ : Signed)) (⟨0, Zy (⟨0, 1, (((((ua % 20) + 1) + (ub % 20)) + 1) + (uc % 1000)), ca334, cc334, 0, 0, (Zf HL334 (((ua % 20) + 1) + (ub % 20)) (((((ua % 20) + 1) + (ub % 20)) + 1) + (uc % 1000)))⟩ : PrR)⟩ : Signed)) (⟨0, Zy (⟨0, 2, (((((ua % 20) + 1) + (ub % 20)) + 1) + (uc % 1000)), ca345, cc345, 0, 0, (Zf HL345 (ua % 20) (((((ua % 20) + 1) + (ub % 20)) + 1) + (uc % 1000)))⟩ : PrR)⟩ : Signed)) (⟨0, Zy (⟨0, 2, (((((ua % 20) + 1) + (ub % 20)) + 1) + (uc % 1000)), ca345, cc345, 0, 0, (Zf HL345 (ua % 20) (((((ua % 20) + 1) + (ub % 20)) + 1) + (uc % 1000)))⟩ : PrR)⟩ : Signed)))] : List Value)] W_ ∧ m_ = (Zf HL323 (ua % 20) (((ua % 20) + 1) + (ub % 20))).length - j) _ ⟨0, (show ((.int .i64 (0)) : Value) = _ by first | rfl | go_num), (Nat.zero_le _), H360, rfl⟩ ?_
    rintro g365 w366 _ ⟨j, v368, hj, H367, rfl⟩
    refine Zs 219 _ v368 ?_
    refine Zc ?_
    refine Zp ?_
    refine Z2 (Z1 rfl) (d := 220) (v := (.bool (decide ((j : Int) < ((Zf HL323 (ua % 20) (((ua % 20) + 1) + (ub % 20))).length : Int))))) rfl (by kernel_rfl) ?_
    refine Zm ?_
    refine Z4 ?_
    refine Zc ?_
    refine (ZS (decide ((j : Int) < ((Zf HL323 (ua % 20) (((ua % 20) + 1) + (ub % 20))).length : Int)))).elim (fun b370 => ?_) (fun b370 => ?_)
    ·have g371 := of_decide_eq_true b370
     refine Zs 220 (.bool true) (congrArg Value.bool b370) ?_
     have g372 := of_decide_eq_true b370
     refine Z0h rfl ?_
     refine Z0b ?_
     refine Z4 ?_
     refine Zc ?_
     refine ZR ?_
     refine Zc ?_
     refine Zp ?_
     refine Z2 (Z1 rfl) (d := 221) (v := (.int .i64 ((j : Int)))) rfl (by kernel_rfl) ?_
     refine Z2 (Z1 rfl) (d := 26) (v := (.int .i64 ((j : Int)))) rfl (by kernel_rfl) ?_
     refine Zm ?_
     refine Z4 ?_
     refine Zc ?_
     refine Zp ?_
     refine Z2 (Z1 rfl) (d := 222) (v := (.pointer (some ⟨b326, 3, none⟩))) rfl (by kernel_rfl) ?_
     refine Z2 (Z1 rfl) (d := 223) (v := (.slice ca323 ((Zf HL323 (ua % 20) (((ua % 20) + 1) + (ub % 20))).length) cc323)) rfl (Zi rfl (by kernel_rfl) (H367.cell 14 rfl rfl)) ?_
     refine Z2 (Z1 rfl) (d := 224) (v := (.int .i64 ((j : Int)))) rfl (by kernel_rfl) ?_
     obtain ⟨g373, c374, e375⟩ := Z16 (H367.at 12 rfl) (by omega)
     obtain ⟨x376, h377⟩ := Z2r (show j < (Zf HL323 (ua % 20) (((ua % 20) + 1) + (ub % 20))).length by omega)
     refine Z2 (Z1 rfl) (d := 225) (v := (.pointer (some ⟨g373, 0 + ((j : Int)).toNat * 38, none⟩))) rfl (Z0D (E := 53) (by kernel_rfl) (by kernel_rfl) (Nat.le_of_ble_eq_true rfl) rfl e375 rfl (by omega) (by omega)) ?_
     refine Z2 (Z1 rfl) (d := 226) (v := (.agg ⟨(([(.int .i64 (x376.x.cl)), (.int .i64 (x376.x.seq))] : List Value) ++ hc x376.x.h ++ ([(.int .i64 (x376.x.len)), (.int .i64 (x376.x.sb)), (.int .i64 (x376.x.sm)), (.slice x376.sa x376.S.length x376.sc)] : List Value))⟩)) rfl (Z0F (vs := (([(.int .i64 (x376.x.cl)), (.int .i64 (x376.x.seq))] : List Value) ++ hc x376.x.h ++ ([(.int .i64 (x376.x.len)), (.int .i64 (x376.x.sb)), (.int .i64 (x376.x.sm)), (.slice x376.sa x376.S.length x376.sc)] : List Value))) rfl (by kernel_rfl) (by kernel_rfl) (Nat.le_of_ble_eq_true (by kernel_rfl)) (Z1J (H367.at 12 rfl) e375 Z14 h377 0 (show 0 + ((j : Int)).toNat * 38 = j * 38 + 0 by omega) (by kernel_rfl) (by kernel_rfl))) ?_
     refine ZA (Z1 rfl) (fun K378 hK378 => ?_)
     refine Zv (d := 227) rfl (by kernel_rfl) (Z1k w366 x376.x x376.sa x376.sc x376.S (Z2h (c := x376) (H367.at 13 rfl) (hcD323 _ (Z2o (List.mem_of_getElem? h377))).bag) (hcD323 _ (Z2o (List.mem_of_getElem? h377))).len) ?_
     rintro _ w379 ⟨rfl, u381⟩
     have H380 := H367.keepU u381
     refine ⟨_, rfl, ?_⟩
     refine hK378 _ _ ?_
     clear hK378 K378
     refine Z2 (Z1 rfl) (d := 27) (v := (.int .u64 (ZO x376.S))) rfl (by kernel_rfl) ?_
     refine Zm ?_
     refine Z4 ?_
     refine Zc ?_
     refine Zp ?_
     refine Z2 (Z1 rfl) (d := 228) (v := (.int .u64 (ZO x376.S))) rfl (by kernel_rfl) ?_
     refine Z2 (Z1 rfl) (d := 229) (v := (.int .u64 (ua % 20))) rfl (by kernel_rfl) ?_
     refine Z2 (Z1 rfl) (d := 230) (v := (.bool (decide ((ZO x376.S) ≤ (ua % 20))))) rfl (by kernel_rfl) ?_
     refine Z2 (Z1 rfl) (d := 231) (v := (.bool (decide ((ZO x376.S) ≤ (ua % 20))))) rfl (by kernel_rfl) ?_
     have b382 : (decide ((ZO x376.S) ≤ (ua % 20))) = false := by exact decide_eq_false (by have q := Z4s (List.mem_of_getElem? h377); omega)
     refine Z02 231 (.bool false) (congrArg Value.bool b382) ?_
     have g383 := of_decide_eq_false b382
     refine Z2 (Zj 3 231 false rfl (by kernel_rfl) rfl (by kernel_rfl)) (d := 232) (v := (.int .u64 (ZO x376.S))) rfl (by kernel_rfl) ?_
     refine Z2 (Zj 3 231 false rfl (by kernel_rfl) rfl (by kernel_rfl)) (d := 233) (v := (.int .u64 (((ua % 20) + 1) + (ub % 20)))) rfl (by kernel_rfl) ?_
     refine Z2 (Zj 3 231 false rfl (by kernel_rfl) rfl (by kernel_rfl)) (d := 234) (v := (.bool (decide ((ZO x376.S) > (((ua % 20) + 1) + (ub % 20)))))) rfl (by kernel_rfl) ?_
     refine Z2 (Z1 rfl) (d := 235) (v := (.bool (decide ((ZO x376.S) > (((ua % 20) + 1) + (ub % 20)))))) rfl (by kernel_rfl) ?_
     refine Zm ?_
     refine Z4 ?_
     have b384 : (decide ((ZO x376.S) > (((ua % 20) + 1) + (ub % 20)))) = false := by exact decide_eq_false (by have q := Z4s (List.mem_of_getElem? h377); omega)
     refine Zs 235 (.bool false) (congrArg Value.bool b384) ?_
     have g385 := of_decide_eq_false b384
     refine Z09 rfl ?_
     refine Z0b ?_
     refine ZL ?_
     refine Z4 ?_
     refine Zp ?_
     refine Z2 (Z1 rfl) (d := 236) (v := (.int .i64 ((j : Int) + 1))) rfl (Z04 (z := (j : Int) + 1) (by kernel_rfl) (IntWalk.i64_in _ (by omega))) ?_
     refine Z2 (Z1 rfl) (d := 219) (v := (.int .i64 ((j : Int) + 1))) rfl (by kernel_rfl) ?_
     refine Zm ?_
     refine ZM ?_ _ ⟨(j + 1), (show ((.int .i64 ((j : Int) + 1)) : Value) = _ by first | rfl | go_num), (by omega), H380, rfl⟩ (by omega)
     exact (Z0 rfl (Z0 rfl (Z0 rfl (Z0 rfl (Z0 rfl (Z0 rfl (Z0 rfl (Z0 rfl (Z0 rfl (Z0 rfl (Z0 rfl (Z0 rfl (Z0 rfl (Z0 rfl (Z0 rfl (Z0 rfl (Z0 rfl (Z0 rfl (Z0 rfl (Z0 rfl (Z0 rfl (Z0 rfl (Z0 rfl (Z0 rfl (Z06)))))))))))))))))))))))))
    ·have g386 := of_decide_eq_false b370
     refine Zs 220 (.bool false) (congrArg Value.bool b370) ?_
     have g387 := of_decide_eq_false b370
     refine Z09 rfl ?_
     refine Z0M ?_
     refine Z0a ?_
     refine Z0c ?_
     refine Z0B ?_
     refine Z4 ?_
     refine Zc ?_
     refine Zc ?_
     refine Zp ?_
     refine Z2 (Z1 rfl) (d := 237) (v := (.pointer (some ⟨b337, 3, none⟩))) rfl (by kernel_rfl) ?_
     refine Z2 (Z1 rfl) (d := 238) (v := (.slice ca334 ((Zf HL334 (((ua % 20) + 1) + (ub % 20)) (((((ua % 20) + 1) + (ub % 20)) + 1) + (uc % 1000))).length) cc334)) rfl (Zi rfl (by kernel_rfl) (H367.cell 17 rfl rfl)) ?_
     refine Z2 (Z1 rfl) (d := 239) (v := (.int .i64 (((Zf HL334 (((ua % 20) + 1) + (ub % 20)) (((((ua % 20) + 1) + (ub % 20)) + 1) + (uc % 1000))).length : Int)))) rfl (by kernel_rfl) ?_
     refine Z2 (Z1 rfl) (d := 240) (v := (.int .i64 (0))) rfl (by kernel_rfl) ?_
     refine Zm ?_
     refine Z4 ?_
     refine ZR ?_
     refine Z0m [8, 28, 29, 240, 241, 242, 243, 244, 245, 246, 247, 248, 249, 250, 251, 252, 253, 254, 255, 256, 257] (fun F_ W_ m_ => ∃ (j : Nat), F_ 240 = (.int .i64 ((j : Int))) ∧ (j ≤ (Zf HL334 (((ua % 20) + 1) + (ub % 20)) (((((ua % 20) + 1) + (ub % 20)) + 1) + (uc % 1000))).length) ∧ Sat w [Z6 w (fun _ => False), Z3 b2 36 ([(.int .i64 (1)), (.int .i64 (3))] : List Value), Z3 b11 110 ([(.map (some m12))] : List Value), ZC m12 Za (Value.int .i64) (Zq (Zg (Zg (Zg Lb (⟨0, Zy (⟨0, 0, (((ua % 20) + 1) + (ub % 20)), ca323, cc323, 0, 0, (Zf HL323 (ua % 20) (((ua % 20) + 1) + (ub % 20)))⟩ : PrR)⟩ : Signed)) (⟨0, Zy (⟨0, 1, (((((ua % 20) + 1) + (ub % 20)) + 1) + (uc % 1000)), ca334, cc334, 0, 0, (Zf HL334 (((ua % 20) + 1) + (ub % 20)) (((((ua % 20) + 1) + (ub % 20)) + 1) + (uc % 1000)))⟩ : PrR)⟩ : Signed)) (⟨0, Zy (⟨0, 2, (((((ua % 20) + 1) + (ub % 20)) + 1) + (uc % 1000)), ca345, cc345, 0, 0, (Zf HL345 (ua % 20) (((((ua % 20) + 1) + (ub % 20)) + 1) + (uc % 1000)))⟩ : PrR)⟩ : Signed))), Z3 r13 98 ([(.slice ra Lr.length rc)] : List Value), Zb 114 2 (.slice ra Lr.length rc) Lr.length (Lr.flatMap Z0q), Z3 b21 40 ([(.pointer (some ⟨b11, 0, none⟩)), (.pointer (some ⟨r13, 0, none⟩))] : List Value), Z3 t30 121 ([(.int .i64 (1)), (.int .i64 (3)), (.int .i64 (0)), (.map (some m31))] : List Value), ZC m31 nmV ceV M, ZI B, Zb 53 38 (.slice la HL.length lc) HL.length (HL.flatMap ZK), ZI Bh, Zb 53 38 (.slice ca323 ((Zf HL323 (ua % 20) (((ua % 20) + 1) + (ub % 20))).length) cc323) ((Zf HL323 (ua % 20) (((ua % 20) + 1) + (ub % 20))).length) ((Zf HL323 (ua % 20) (((ua % 20) + 1) + (ub % 20))).flatMap ZK), ZI Bh323, Z3 b326 34 ([(.int .i64 (0)), (.int .i64 (0)), (.int .u64 (((ua % 20) + 1) + (ub % 20))), (.slice ca323 ((Zf HL323 (ua % 20) (((ua % 20) + 1) + (ub % 20))).length) cc323), (.int .i64 (0)), (.int .i64 (Zt (Zg Lb (⟨0, Zy (⟨0, 0, (((ua % 20) + 1) + (ub % 20)), ca323, cc323, 0, 0, (Zf HL323 (ua % 20) (((ua % 20) + 1) + (ub % 20)))⟩ : PrR)⟩ : Signed)) (⟨0, Zy (⟨0, 0, (((ua % 20) + 1) + (ub % 20)), ca323, cc323, 0, 0, (Zf HL323 (ua % 20) (((ua % 20) + 1) + (ub % 20)))⟩ : PrR)⟩ : Signed)))] : List Value), Zb 53 38 (.slice ca334 ((Zf HL334 (((ua % 20) + 1) + (ub % 20)) (((((ua % 20) + 1) + (ub % 20)) + 1) + (uc % 1000))).length) cc334) ((Zf HL334 (((ua % 20) + 1) + (ub % 20)) (((((ua % 20) + 1) + (ub % 20)) + 1) + (uc % 1000))).length) ((Zf HL334 (((ua % 20) + 1) + (ub % 20)) (((((ua % 20) + 1) + (ub % 20)) + 1) + (uc % 1000))).flatMap ZK), ZI Bh334, Z3 b337 34 ([(.int .i64 (0)), (.int .i64 (1)), (.int .u64 (((((ua % 20) + 1) + (ub % 20)) + 1) + (uc % 1000))), (.slice ca334 ((Zf HL334 (((ua % 20) + 1) + (ub % 20)) (((((ua % 20) + 1) + (ub % 20)) + 1) + (uc % 1000))).length) cc334), (.int .i64 (0)), (.int .i64 (Zt (Zg (Zg Lb (⟨0, Zy (⟨0, 0, (((ua % 20) + 1) + (ub % 20)), ca323, cc323, 0, 0, (Zf HL323 (ua % 20) (((ua % 20) + 1) + (ub % 20)))⟩ : PrR)⟩ : Signed)) (⟨0, Zy (⟨0, 1, (((((ua % 20) + 1) + (ub % 20)) + 1) + (uc % 1000)), ca334, cc334, 0, 0, (Zf HL334 (((ua % 20) + 1) + (ub % 20)) (((((ua % 20) + 1) + (ub % 20)) + 1) + (uc % 1000)))⟩ : PrR)⟩ : Signed)) (⟨0, Zy (⟨0, 1, (((((ua % 20) + 1) + (ub % 20)) + 1) + (uc % 1000)), ca334, cc334, 0, 0, (Zf HL334 (((ua % 20) + 1) + (ub % 20)) (((((ua % 20) + 1) + (ub % 20)) + 1) + (uc % 1000)))⟩ : PrR)⟩ : Signed)))] : List Value), Zb 53 38 (.slice ca345 ((Zf HL345 (ua % 20) (((((ua % 20) + 1) + (ub % 20)) + 1) + (uc % 1000))).length) cc345) ((Zf HL345 (ua % 20) (((((ua % 20) + 1) + (ub % 20)) + 1) + (uc % 1000))).length) ((Zf HL345 (ua % 20) (((((ua % 20) + 1) + (ub % 20)) + 1) + (uc % 1000))).flatMap ZK), ZI Bh345, Z3 b348 34 ([(.int .i64 (0)), (.int .i64 (2)), (.int .u64 (((((ua % 20) + 1) + (ub % 20)) + 1) + (uc % 1000))), (.slice ca345 ((Zf HL345 (ua % 20) (((((ua % 20) + 1) + (ub % 20)) + 1) + (uc % 1000))).length) cc345), (.int .i64 (0)), (.int .i64 (Zt (Zg (Zg (Zg Lb (⟨0, Zy (⟨0, 0, (((ua % 20) + 1) + (ub % 20)), ca323, cc323, 0, 0, (Zf HL323 (ua % 20) (((ua % 20) + 1) + (ub % 20)))⟩ : PrR)⟩ : Signed)) (⟨0, Zy (⟨0, 1, (((((ua % 20) + 1) + (ub % 20)) + 1) + (uc % 1000)), ca334, cc334, 0, 0, (Zf HL334 (((ua % 20) + 1) + (ub % 20)) (((((ua % 20) + 1) + (ub % 20)) + 1) + (uc % 1000)))⟩ : PrR)⟩ : Signed)) (⟨0, Zy (⟨0, 2, (((((ua % 20) + 1) + (ub % 20)) + 1) + (uc % 1000)), ca345, cc345, 0, 0, (Zf HL345 (ua % 20) (((((ua % 20) + 1) + (ub % 20)) + 1) + (uc % 1000)))⟩ : PrR)⟩ : Signed)) (⟨0, Zy (⟨0, 2, (((((ua % 20) + 1) + (ub % 20)) + 1) + (uc % 1000)), ca345, cc345, 0, 0, (Zf HL345 (ua % 20) (((((ua % 20) + 1) + (ub % 20)) + 1) + (uc % 1000)))⟩ : PrR)⟩ : Signed)))] : List Value)] W_ ∧ m_ = (Zf HL334 (((ua % 20) + 1) + (ub % 20)) (((((ua % 20) + 1) + (ub % 20)) + 1) + (uc % 1000))).length - j) _ ⟨0, (show ((.int .i64 (0)) : Value) = _ by first | rfl | go_num), (Nat.zero_le _), H367, rfl⟩ ?_
     rintro g388 w389 _ ⟨j, v391, hj, H390, rfl⟩
     refine Zs 240 _ v391 ?_
     refine Zc ?_
     refine Zp ?_
     refine Z2 (Z1 rfl) (d := 241) (v := (.bool (decide ((j : Int) < ((Zf HL334 (((ua % 20) + 1) + (ub % 20)) (((((ua % 20) + 1) + (ub % 20)) + 1) + (uc % 1000))).length : Int))))) rfl (by kernel_rfl) ?_
     refine Zm ?_
     refine Z4 ?_
     refine Zc ?_
     refine (ZS (decide ((j : Int) < ((Zf HL334 (((ua % 20) + 1) + (ub % 20)) (((((ua % 20) + 1) + (ub % 20)) + 1) + (uc % 1000))).length : Int)))).elim (fun b393 => ?_) (fun b393 => ?_)
     ·have g394 := of_decide_eq_true b393
      refine Zs 241 (.bool true) (congrArg Value.bool b393) ?_
      have g395 := of_decide_eq_true b393
      refine Z0h rfl ?_
      refine Z0b ?_
      refine Z4 ?_
      refine Zc ?_
      refine ZR ?_
      refine Zc ?_
      refine Zp ?_
      refine Z2 (Z1 rfl) (d := 242) (v := (.int .i64 ((j : Int)))) rfl (by kernel_rfl) ?_
      refine Z2 (Z1 rfl) (d := 28) (v := (.int .i64 ((j : Int)))) rfl (by kernel_rfl) ?_
      refine Zm ?_
      refine Z4 ?_
      refine Zc ?_
      refine Zp ?_
      refine Z2 (Z1 rfl) (d := 243) (v := (.pointer (some ⟨b337, 3, none⟩))) rfl (by kernel_rfl) ?_
      refine Z2 (Z1 rfl) (d := 244) (v := (.slice ca334 ((Zf HL334 (((ua % 20) + 1) + (ub % 20)) (((((ua % 20) + 1) + (ub % 20)) + 1) + (uc % 1000))).length) cc334)) rfl (Zi rfl (by kernel_rfl) (H390.cell 17 rfl rfl)) ?_
      refine Z2 (Z1 rfl) (d := 245) (v := (.int .i64 ((j : Int)))) rfl (by kernel_rfl) ?_
      obtain ⟨g396, c397, e398⟩ := Z16 (H390.at 15 rfl) (by omega)
      obtain ⟨x399, h400⟩ := Z2r (show j < (Zf HL334 (((ua % 20) + 1) + (ub % 20)) (((((ua % 20) + 1) + (ub % 20)) + 1) + (uc % 1000))).length by omega)
      refine Z2 (Z1 rfl) (d := 246) (v := (.pointer (some ⟨g396, 0 + ((j : Int)).toNat * 38, none⟩))) rfl (Z0D (E := 53) (by kernel_rfl) (by kernel_rfl) (Nat.le_of_ble_eq_true rfl) rfl e398 rfl (by omega) (by omega)) ?_
      refine Z2 (Z1 rfl) (d := 247) (v := (.agg ⟨(([(.int .i64 (x399.x.cl)), (.int .i64 (x399.x.seq))] : List Value) ++ hc x399.x.h ++ ([(.int .i64 (x399.x.len)), (.int .i64 (x399.x.sb)), (.int .i64 (x399.x.sm)), (.slice x399.sa x399.S.length x399.sc)] : List Value))⟩)) rfl (Z0F (vs := (([(.int .i64 (x399.x.cl)), (.int .i64 (x399.x.seq))] : List Value) ++ hc x399.x.h ++ ([(.int .i64 (x399.x.len)), (.int .i64 (x399.x.sb)), (.int .i64 (x399.x.sm)), (.slice x399.sa x399.S.length x399.sc)] : List Value))) rfl (by kernel_rfl) (by kernel_rfl) (Nat.le_of_ble_eq_true (by kernel_rfl)) (Z1J (H390.at 15 rfl) e398 Z14 h400 0 (show 0 + ((j : Int)).toNat * 38 = j * 38 + 0 by omega) (by kernel_rfl) (by kernel_rfl))) ?_
      refine ZA (Z1 rfl) (fun K401 hK401 => ?_)
      refine Zv (d := 248) rfl (by kernel_rfl) (Z1k w389 x399.x x399.sa x399.sc x399.S (Z2h (c := x399) (H390.at 16 rfl) (hcD334 _ (Z2o (List.mem_of_getElem? h400))).bag) (hcD334 _ (Z2o (List.mem_of_getElem? h400))).len) ?_
      rintro _ w402 ⟨rfl, u404⟩
      have H403 := H390.keepU u404
      refine ⟨_, rfl, ?_⟩
      refine hK401 _ _ ?_
      clear hK401 K401
      refine Z2 (Z1 rfl) (d := 29) (v := (.int .u64 (ZO x399.S))) rfl (by kernel_rfl) ?_
      refine Zm ?_
      refine Z4 ?_
      refine Zc ?_
      refine Zp ?_
      refine Z2 (Z1 rfl) (d := 249) (v := (.int .u64 (ZO x399.S))) rfl (by kernel_rfl) ?_
      refine Z2 (Z1 rfl) (d := 250) (v := (.int .u64 (((ua % 20) + 1) + (ub % 20)))) rfl (by kernel_rfl) ?_
      refine Z2 (Z1 rfl) (d := 251) (v := (.bool (decide ((ZO x399.S) ≤ (((ua % 20) + 1) + (ub % 20)))))) rfl (by kernel_rfl) ?_
      refine Z2 (Z1 rfl) (d := 252) (v := (.bool (decide ((ZO x399.S) ≤ (((ua % 20) + 1) + (ub % 20)))))) rfl (by kernel_rfl) ?_
      have b405 : (decide ((ZO x399.S) ≤ (((ua % 20) + 1) + (ub % 20)))) = false := by exact decide_eq_false (by have q := Z4s (List.mem_of_getElem? h400); omega)
      refine Z02 252 (.bool false) (congrArg Value.bool b405) ?_
      have g406 := of_decide_eq_false b405
      refine Z2 (Zj 3 252 false rfl (by kernel_rfl) rfl (by kernel_rfl)) (d := 253) (v := (.int .u64 (ZO x399.S))) rfl (by kernel_rfl) ?_
      refine Z2 (Zj 3 252 false rfl (by kernel_rfl) rfl (by kernel_rfl)) (d := 254) (v := (.int .u64 (((((ua % 20) + 1) + (ub % 20)) + 1) + (uc % 1000)))) rfl (by kernel_rfl) ?_
      refine Z2 (Zj 3 252 false rfl (by kernel_rfl) rfl (by kernel_rfl)) (d := 255) (v := (.bool (decide ((ZO x399.S) > (((((ua % 20) + 1) + (ub % 20)) + 1) + (uc % 1000)))))) rfl (by kernel_rfl) ?_
      refine Z2 (Z1 rfl) (d := 256) (v := (.bool (decide ((ZO x399.S) > (((((ua % 20) + 1) + (ub % 20)) + 1) + (uc % 1000)))))) rfl (by kernel_rfl) ?_
      refine Zm ?_
      refine Z4 ?_
      have b407 : (decide ((ZO x399.S) > (((((ua % 20) + 1) + (ub % 20)) + 1) + (uc % 1000)))) = false := by exact decide_eq_false (by have q := Z4s (List.mem_of_getElem? h400); omega)
      refine Zs 256 (.bool false) (congrArg Value.bool b407) ?_
      have g408 := of_decide_eq_false b407
      refine Z09 rfl ?_
      refine Z0b ?_
      refine ZL ?_
      refine Z4 ?_
      refine Zp ?_
      refine Z2 (Z1 rfl) (d := 257) (v := (.int .i64 ((j : Int) + 1))) rfl (Z04 (z := (j : Int) + 1) (by kernel_rfl) (IntWalk.i64_in _ (by omega))) ?_
      refine Z2 (Z1 rfl) (d := 240) (v := (.int .i64 ((j : Int) + 1))) rfl (by kernel_rfl) ?_
      refine Zm ?_
      refine ZM ?_ _ ⟨(j + 1), (show ((.int .i64 ((j : Int) + 1)) : Value) = _ by first | rfl | go_num), (by omega), H403, rfl⟩ (by omega)
      exact (Z0 rfl (Z0 rfl (Z0 rfl (Z0 rfl (Z0 rfl (Z0 rfl (Z0 rfl (Z0 rfl (Z0 rfl (Z0 rfl (Z0 rfl (Z0 rfl (Z0 rfl (Z0 rfl (Z0 rfl (Z0 rfl (Z0 rfl (Z0 rfl (Z0 rfl (Z0 rfl (Z0 rfl (Z0 rfl (Z0 rfl (Z0 rfl (Z06)))))))))))))))))))))))))
     ·have g409 := of_decide_eq_false b393
      refine Zs 241 (.bool false) (congrArg Value.bool b393) ?_
      have g410 := of_decide_eq_false b393
      refine Z09 rfl ?_
      refine Z0M ?_
      refine Z0a ?_
      refine Z0c ?_
      refine Z0B ?_
      refine Z4 ?_
      refine Zc ?_
      refine Zp ?_
      refine ZA (Z1 rfl) (fun K411 hK411 => ?_)
      refine Zv (d := 258) rfl (by kernel_rfl) (Z5N w389) ?_
      rintro _ w412 ⟨rfl, u414⟩
      have H413 := H390.keepU u414
      refine ⟨_, rfl, ?_⟩
      refine hK411 _ _ ?_
      clear hK411 K411
      refine Z2 (Z1 rfl) (d := 8) (v := (.bool true)) rfl (by kernel_rfl) ?_
      refine Zm ?_
      refine Z4 ?_
      refine ZY ?_
      refine Z0O rfl (ZF (v := (.bool true)) rfl) ?_
      exact ⟨rfl, H413.upd 0 rfl [] (fun _ h => h.elim)⟩
end Go.Proofs.YtoaifondpohniaaGreat
