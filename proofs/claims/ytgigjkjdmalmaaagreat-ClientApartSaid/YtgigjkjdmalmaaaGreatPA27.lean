/- WHAT IS PROVED: contracts and plain laws of ClP. Conditions: stated with each. -/
import Derived.Test.YtgigjkjdmalmaaaGreatPA25
import Derived.Test.YtgigjkjdmalmaaaGreatPA26
set_option maxHeartbeats 4000000
set_option maxRecDepth 100000
namespace Go.Proofs.YtgigjkjdmalmaaaGreat
open Go.RowKit
def Z6i (w w' : World) (c bb g lc : Nat) (F Cn id : Int) (Q : List Zl) (k : Nat) (q : Zl) (R : List (Int × List UInt8)) (fr : Int) (tx : List UInt8) : Prop :=
 ((q.dn = true ∨ (Z10 (Z0d R fr tx) ((Zq (Z0d R fr tx) fr).getD []) : Int) < F + 1) ∧ Sat w [Z5 c 112 [.int .i64 F, .int .i64 Cn, .int .i64 id, .pointer (some ⟨bb, 0, none⟩), .slice (some ⟨g, 0, none⟩) Q.length lc], Zd 119 79 (.slice (some ⟨g, 0, none⟩) Q.length lc) Q.length (Q.flatMap Zf), Zh q.mp (Value.int .i64) Zu (Z0d R fr tx), Zb w (ZF [Z5 c 112 [.int .i64 F, .int .i64 Cn, .int .i64 id, .pointer (some ⟨bb, 0, none⟩), .slice (some ⟨g, 0, none⟩) Q.length lc], Zd 119 79 (.slice (some ⟨g, 0, none⟩) Q.length lc) Q.length (Q.flatMap Zf), Zh q.mp (Value.int .i64) Zu R]).fp] w') ∨
 ((q.dn = false ∧ F + 1 ≤ (Z10 (Z0d R fr tx) ((Zq (Z0d R fr tx) fr).getD []) : Int)) ∧ Sat w [Z5 c 112 [.int .i64 F, .int .i64 Cn, .int .i64 id, .pointer (some ⟨bb, 0, none⟩), .slice (some ⟨g, 0, none⟩) Q.length lc], Zd 119 79 (.slice (some ⟨g, 0, none⟩) Q.length lc) Q.length ((Q.set k (⟨q.x, q.pa, q.pc, q.P, q.no, q.ms, q.cb, q.ma, q.mr, q.op, q.pl, q.mp, true, ((Zq (Z0d R fr tx) fr).getD [])⟩ : Zl)).flatMap Zf), Zh q.mp (Value.int .i64) Zu (Z0d R fr tx), Zb w (ZF [Z5 c 112 [.int .i64 F, .int .i64 Cn, .int .i64 id, .pointer (some ⟨bb, 0, none⟩), .slice (some ⟨g, 0, none⟩) Q.length lc], Zd 119 79 (.slice (some ⟨g, 0, none⟩) Q.length lc) Q.length (Q.flatMap Zf), Zh q.mp (Value.int .i64) Zu R]).fp] w')
theorem Z2F (w : World) : (zeroValue 9).run Tryz.prog w = .ok (Zu []) w := by kernel_rfl
theorem Z3v (w : World) (c bb g lc : Nat) (F Cn id : Int) (Q : List Zl) (k : Nat) (q : Zl) (hq : Q[k]? = some q) (R : List (Int × List UInt8)) (hA : (ZF [Z5 c 112 [.int .i64 F, .int .i64 Cn, .int .i64 id, .pointer (some ⟨bb, 0, none⟩), .slice (some ⟨g, 0, none⟩) Q.length lc], Zd 119 79 (.slice (some ⟨g, 0, none⟩) Q.length lc) Q.length (Q.flatMap Zf), Zh q.mp (Value.int .i64) Zu R]).ok w) (hlQ : Q.length ≤ 64) (hlR : R.length ≤ 1000) (hF : 1 ≤ F ∧ F ≤ 100) (hid : 0 ≤ id ∧ id ≤ 1000000) (fr ix : Int) (tx : List UInt8) (hk : idxQ Q ix = (k : Int)) :
  Calls Tryz.prog 40 #[(.pointer (some ⟨c, 0, none⟩)), (.int .i64 (fr)), (.int .i64 (ix)), (Zu tx)] w fun e w' => e = .returned (.tuple #[]) ∧ Z6i w w' c bb g lc F Cn id Q k q R fr tx := by
 have hkl : k < Q.length := (List.getElem?_eq_some_iff.1 hq).1
 have H : Sat w [Z5 c 112 ([(.int .i64 (F)), (.int .i64 (Cn)), (.int .i64 (id)), (.pointer (some ⟨bb, 0, none⟩)), (.slice (some ⟨g, 0, none⟩) Q.length lc)] : List Value), Zd 119 79 (.slice (some ⟨g, 0, none⟩) Q.length lc) Q.length (Q.flatMap Zf), Zh q.mp (Value.int .i64) Zu R, Zb w (ZF [Z5 c 112 [.int .i64 F, .int .i64 Cn, .int .i64 id, .pointer (some ⟨bb, 0, none⟩), .slice (some ⟨g, 0, none⟩) Q.length lc], Zd 119 79 (.slice (some ⟨g, 0, none⟩) Q.length lc) Q.length (Q.flatMap Zf), Zh q.mp (Value.int .i64) Zu R]).fp] w := Sat.start _ hA
 refine Zx Tryz.func40 rfl 92 rfl (Nat.le_of_ble_eq_true rfl) ?_
 refine Zg ?_
 refine Zn ?_
 refine ZE (Z1 rfl) (fun K1 hK1 => ?_)
 refine Z0Y (vs := ([(.int .i64 (ix))] : List Value)) rfl H rfl rfl ?_
 intro b2 w3 (H4 : Sat w [Z5 c 112 ([(.int .i64 (F)), (.int .i64 (Cn)), (.int .i64 (id)), (.pointer (some ⟨bb, 0, none⟩)), (.slice (some ⟨g, 0, none⟩) Q.length lc)] : List Value), Zd 119 79 (.slice (some ⟨g, 0, none⟩) Q.length lc) Q.length (Q.flatMap Zf), Zh q.mp (Value.int .i64) Zu R, Zb w (ZF [Z5 c 112 [.int .i64 F, .int .i64 Cn, .int .i64 id, .pointer (some ⟨bb, 0, none⟩), .slice (some ⟨g, 0, none⟩) Q.length lc], Zd 119 79 (.slice (some ⟨g, 0, none⟩) Q.length lc) Q.length (Q.flatMap Zf), Zh q.mp (Value.int .i64) Zu R]).fp, Z5 b2 3 ([(.int .i64 (ix))] : List Value)] w3)
 refine hK1 _ _ ?_
 clear hK1 K1
 refine Zm ?_
 refine Z7 ?_
 refine Zg ?_
 refine Zn ?_
 refine Z3 (Z1 rfl) (d := 15) (v := (.pointer (some ⟨c, 0, none⟩))) rfl (by kernel_rfl) ?_
 refine Z3 (Z1 rfl) (d := 16) (v := (.pointer (some ⟨c, 0, none⟩))) rfl (by kernel_rfl) ?_
 refine Z3 (Z1 rfl) (d := 17) (v := (.pointer (some ⟨c, 4, none⟩))) rfl (by kernel_rfl) ?_
 refine Z3 (Z1 rfl) (d := 18) (v := (.slice (some ⟨g, 0, none⟩) Q.length lc)) rfl (Zj rfl (by kernel_rfl) (H4.cell 0 rfl rfl)) ?_
 refine Z3 (Z1 rfl) (d := 19) (v := (.func (.func 65) #[] #[(.pointer (some ⟨b2, 0, none⟩))])) rfl (by kernel_rfl) ?_
 refine ZE (Z1 rfl) (fun K5 hK5 => ?_)
 refine ZC (d := 20) rfl (by kernel_rfl) ((by have h_ := Z4R w3 b2 ix (H4.at 4 rfl) g lc Q (H4.at 1 rfl) (by omega); rw [hk] at h_; exact h_)) ?_
 rintro _ w6 ⟨rfl, u8⟩
 have H7 := H4.keepU u8
 refine ⟨_, rfl, ?_⟩
 refine hK5 _ _ ?_
 clear hK5 K5
 refine Z3 (Z1 rfl) (d := 8) (v := (.int .i64 ((k : Int)))) rfl (by kernel_rfl) ?_
 refine Zm ?_
 refine Z7 ?_
 refine Zg ?_
 refine Zg ?_
 refine Zn ?_
 refine Z3 (Z1 rfl) (d := 21) (v := (.int .i64 ((k : Int)))) rfl (by kernel_rfl) ?_
 refine Z3 (Z1 rfl) (d := 22) (v := (.bool (decide ((k : Int) < 0)))) rfl (by kernel_rfl) ?_
 refine Zm ?_
 refine Z7 ?_
 have b9 : (decide ((k : Int) < 0)) = false := by exact decide_eq_false (by omega)
 refine Zs 22 (.bool false) (congrArg Value.bool b9) ?_
 have g10 := of_decide_eq_false b9
 refine ZY rfl ?_
 refine ZN ?_
 refine Z7 ?_
 refine Zg ?_
 refine Zn ?_
 refine Z3 (Z1 rfl) (d := 23) (v := (.pointer (some ⟨c, 0, none⟩))) rfl (by kernel_rfl) ?_
 refine Z3 (Z1 rfl) (d := 24) (v := (.pointer (some ⟨c, 0, none⟩))) rfl (by kernel_rfl) ?_
 refine Z3 (Z1 rfl) (d := 25) (v := (.pointer (some ⟨c, 4, none⟩))) rfl (by kernel_rfl) ?_
 refine Z3 (Z1 rfl) (d := 26) (v := (.slice (some ⟨g, 0, none⟩) Q.length lc)) rfl (Zj rfl (by kernel_rfl) (H7.cell 0 rfl rfl)) ?_
 refine Z3 (Z1 rfl) (d := 27) (v := (.int .i64 ((k : Int)))) rfl (by kernel_rfl) ?_
 refine Z3 (Z1 rfl) (d := 28) (v := (.pointer (some ⟨g, 0 + ((k : Int)).toNat * 79, none⟩))) rfl (Z0w (E := 119) (by kernel_rfl) (by kernel_rfl) (Nat.le_of_ble_eq_true rfl) rfl rfl (by omega) (by omega)) ?_
 refine Z3 (Z1 rfl) (d := 9) (v := (.pointer (some ⟨g, 0 + ((k : Int)).toNat * 79, none⟩))) rfl (by kernel_rfl) ?_
 refine Zm ?_
 refine Z7 ?_
 refine Z0x [10, 11, 29, 30, 31, 32, 33, 34, 35, 36, 37, 38, 39, 40, 41, 42, 43, 44, 45] (fun G_ W_ => ∃ (R2 : List (Int × List UInt8)), (R2 = (Z0d R fr tx)) ∧ Sat w [Z5 c 112 ([(.int .i64 (F)), (.int .i64 (Cn)), (.int .i64 (id)), (.pointer (some ⟨bb, 0, none⟩)), (.slice (some ⟨g, 0, none⟩) Q.length lc)] : List Value), Zd 119 79 (.slice (some ⟨g, 0, none⟩) Q.length lc) Q.length (Q.flatMap Zf), Zh q.mp (Value.int .i64) Zu R2, Zb w (ZF [Z5 c 112 [.int .i64 F, .int .i64 Cn, .int .i64 id, .pointer (some ⟨bb, 0, none⟩), .slice (some ⟨g, 0, none⟩) Q.length lc], Zd 119 79 (.slice (some ⟨g, 0, none⟩) Q.length lc) Q.length (Q.flatMap Zf), Zh q.mp (Value.int .i64) Zu R]).fp, Z5 b2 3 ([(.int .i64 (ix))] : List Value)] W_) ?_ ?_
 ·refine Zg ?_
  refine Zn ?_
  refine Z3 (Z1 rfl) (d := 30) (v := (.pointer (some ⟨g, 0 + ((k : Int)).toNat * 79, none⟩))) rfl (by kernel_rfl) ?_
  refine Z3 (Z1 rfl) (d := 31) (v := (.pointer (some ⟨g, 0 + ((k : Int)).toNat * 79, none⟩))) rfl (by kernel_rfl) ?_
  refine Z3 (Z1 rfl) (d := 32) (v := (.pointer (some ⟨g, 0 + ((k : Int)).toNat * 79 + 76, none⟩))) rfl (by kernel_rfl) ?_
  refine Z3 (Z1 rfl) (d := 33) (v := (.map (some q.mp))) rfl (Zj rfl (by kernel_rfl) (Z00 (H7.at 1 rfl) rfl ZK hq 76 rfl (show 0 + ((k : Int)).toNat * 79 + 76 = k * 79 + 76 by omega) (by kernel_rfl))) ?_
  refine Z3 (Z1 rfl) (d := 34) (v := (.int .i64 (fr))) rfl (by kernel_rfl) ?_
  refine Z3 (Z1 rfl) (d := 35) (v := (.tuple #[(Zu ((Zq R fr).getD [])), (.bool ((Zq R fr).isSome))])) rfl (Z3x (kt := 3) (et := 9) (KeyTy.int (by kernel_rfl)) (by kernel_rfl) Z2F rfl fr rfl (H7.at 2 rfl) (Z60 Zu _ _) rfl) ?_
  refine Z3 (Z1 rfl) (d := 29) (v := (.tuple #[(Zu ((Zq R fr).getD [])), (.bool ((Zq R fr).isSome))])) rfl (by kernel_rfl) ?_
  refine Z3 (Z1 rfl) (d := 36) (v := (Zu ((Zq R fr).getD []))) rfl (by kernel_rfl) ?_
  refine Z3 (Z1 rfl) (d := 37) (v := (.bool ((Zq R fr).isSome))) rfl (by kernel_rfl) ?_
  refine Z3 (Z1 rfl) (d := 10) (v := (Zu ((Zq R fr).getD []))) rfl (by kernel_rfl) ?_
  refine Z3 (Z1 rfl) (d := 11) (v := (.bool ((Zq R fr).isSome))) rfl (by kernel_rfl) ?_
  refine Zm ?_
  refine Z7 ?_
  refine Zg ?_
  refine Zn ?_
  refine Z3 (Z1 rfl) (d := 38) (v := (.bool ((Zq R fr).isSome))) rfl (by kernel_rfl) ?_
  refine Z3 (Z1 rfl) (d := 39) (v := (.bool (!((Zq R fr).isSome)))) rfl (by kernel_rfl) ?_
  refine Zm ?_
  refine Z7 ?_
  refine (Z06 (!((Zq R fr).isSome))).elim (fun b12 => ?_) (fun b12 => ?_)
  ·have g13 := Z0y b12
   refine Zs 39 (.bool true) (congrArg Value.bool b12) ?_
   have g14 := Z0y b12
   refine Z0u rfl ?_
   refine Zn ?_
   refine Z3 (Z1 rfl) (d := 40) (v := (.pointer (some ⟨g, 0 + ((k : Int)).toNat * 79, none⟩))) rfl (by kernel_rfl) ?_
   refine Z3 (Z1 rfl) (d := 41) (v := (.pointer (some ⟨g, 0 + ((k : Int)).toNat * 79, none⟩))) rfl (by kernel_rfl) ?_
   refine Z3 (Z1 rfl) (d := 42) (v := (.pointer (some ⟨g, 0 + ((k : Int)).toNat * 79 + 76, none⟩))) rfl (by kernel_rfl) ?_
   refine Z3 (Z1 rfl) (d := 43) (v := (.map (some q.mp))) rfl (Zj rfl (by kernel_rfl) (Z00 (H7.at 1 rfl) rfl ZK hq 76 rfl (show 0 + ((k : Int)).toNat * 79 + 76 = k * 79 + 76 by omega) (by kernel_rfl))) ?_
   refine Z3 (Z1 rfl) (d := 44) (v := (.int .i64 (fr))) rfl (by kernel_rfl) ?_
   refine Z3 (Z1 rfl) (d := 45) (v := (Zu tx)) rfl (by kernel_rfl) ?_
   refine ZE (Z1 rfl) (fun K15 hK15 => ?_)
   refine Z1M (kt := 3) (et := 9) rfl H7 2 rfl (KeyTy.int (by kernel_rfl)) (by kernel_rfl) rfl fr rfl tx rfl ?_
   intro w16 (H17 : Sat w [Z5 c 112 ([(.int .i64 (F)), (.int .i64 (Cn)), (.int .i64 (id)), (.pointer (some ⟨bb, 0, none⟩)), (.slice (some ⟨g, 0, none⟩) Q.length lc)] : List Value), Zd 119 79 (.slice (some ⟨g, 0, none⟩) Q.length lc) Q.length (Q.flatMap Zf), Zh q.mp (Value.int .i64) Zu (Z1P R fr tx), Zb w (ZF [Z5 c 112 [.int .i64 F, .int .i64 Cn, .int .i64 id, .pointer (some ⟨bb, 0, none⟩), .slice (some ⟨g, 0, none⟩) Q.length lc], Zd 119 79 (.slice (some ⟨g, 0, none⟩) Q.length lc) Q.length (Q.flatMap Zf), Zh q.mp (Value.int .i64) Zu R]).fp, Z5 b2 3 ([(.int .i64 (ix))] : List Value)] w16)
   refine hK15 _ _ ?_
   clear hK15 K15
   refine Zm ?_
   have H18 := H17.pick [0, 1, 2, 3, 4] (by decide)
   have hno : fr ∉ R.map (·.1) := Z13.1 (by have q_ := b12; simpa using q_)
   refine ZX ?_ ⟨(Z1P R fr tx), (Z4p hno), H18⟩
   exact (Z6 rfl (Z6 rfl (Z6 rfl (Z6 rfl (Z6 rfl (Z6 rfl (Z6 rfl (Z6 rfl (Z6 rfl (Z6 rfl (Z6 rfl (Z6 rfl (Z6 rfl (Z6 rfl (Z6 rfl (Z6 rfl (Z6 rfl (Z6 rfl (Z6 rfl (Z6 rfl (ZV)))))))))))))))))))))
  ·have g19 := Z09 b12
   refine Zs 39 (.bool false) (congrArg Value.bool b12) ?_
   have g20 := Z09 b12
   refine ZY rfl ?_
   refine ZN ?_
   have H21 := H7.pick [0, 1, 2, 3, 4] (by decide)
   have hin_ : fr ∈ R.map (·.1) := Decidable.byContradiction fun h_ => by have q_ := b12; rw [Z13.2 h_] at q_; simp at q_
   refine ZX ?_ ⟨R, (Z2u hin_).symm, H21⟩
   exact (Z6 rfl (Z6 rfl (Z6 rfl (Z6 rfl (Z6 rfl (Z6 rfl (Z6 rfl (Z6 rfl (Z6 rfl (Z6 rfl (Z6 rfl (Z6 rfl (Z6 rfl (Z6 rfl (ZV)))))))))))))))
 ·rintro f22 w23 ⟨R2, hR2, H24⟩
  refine Zg ?_
  refine Zn ?_
  refine Z3 (Z1 rfl) (d := 12) (v := (.int .i64 (0))) rfl (by kernel_rfl) ?_
  refine Zm ?_
  refine Z7 ?_
  refine Z0x [12, 14, 46, 47, 48, 49, 50, 51, 52, 53, 54, 55, 56, 57, 58, 59, 60, 61, 62, 63, 64] (fun G_ W_ => G_ 12 = (.int .i64 ((Z10 R2 ((Zq R2 fr).getD []) : Int))) ∧ Sat w [Z5 c 112 ([(.int .i64 (F)), (.int .i64 (Cn)), (.int .i64 (id)), (.pointer (some ⟨bb, 0, none⟩)), (.slice (some ⟨g, 0, none⟩) Q.length lc)] : List Value), Zd 119 79 (.slice (some ⟨g, 0, none⟩) Q.length lc) Q.length (Q.flatMap Zf), Zh q.mp (Value.int .i64) Zu R2, Zb w (ZF [Z5 c 112 [.int .i64 F, .int .i64 Cn, .int .i64 id, .pointer (some ⟨bb, 0, none⟩), .slice (some ⟨g, 0, none⟩) Q.length lc], Zd 119 79 (.slice (some ⟨g, 0, none⟩) Q.length lc) Q.length (Q.flatMap Zf), Zh q.mp (Value.int .i64) Zu R]).fp, Z5 b2 3 ([(.int .i64 (ix))] : List Value)] W_) ?_ ?_
  ·refine Zg ?_
   have hM1 : MapAt w23 q.mp (Value.int .i64) Zu R2 := H24.at 2 rfl
   have hrow1 : (Zd 119 79 (.slice (some ⟨g, 0, none⟩) Q.length lc) Q.length (Q.flatMap Zf)).ok w23 := H24.at 1 rfl
   have hlR2 : R2.length ≤ 1001 := by rw [hR2]; exact Nat.le_trans Z4e (by omega)
   have HK := Sat.start0 w23
   refine Zn ?_
   refine Z3 (Z1 rfl) (d := 46) (v := (.pointer (some ⟨g, 0 + ((k : Int)).toNat * 79, none⟩))) rfl (by kernel_rfl) ?_
   refine Z3 (Z1 rfl) (d := 47) (v := (.pointer (some ⟨g, 0 + ((k : Int)).toNat * 79, none⟩))) rfl (by kernel_rfl) ?_
   refine Z3 (Z1 rfl) (d := 48) (v := (.pointer (some ⟨g, 0 + ((k : Int)).toNat * 79 + 76, none⟩))) rfl (by kernel_rfl) ?_
   refine Z3 (Z1 rfl) (d := 49) (v := (.map (some q.mp))) rfl (Zj rfl (by kernel_rfl) (Z00 (HK.roCk 0 rfl hrow1 (fun _ _ h => h)) rfl ZK hq 76 rfl (show 0 + ((k : Int)).toNat * 79 + 76 = k * 79 + 76 by omega) (by kernel_rfl))) ?_
   refine ZE (Z1 rfl) (fun K26 hK26 => ?_)
   refine Z4i (kt := 3) (et := 9) rfl HK 0 rfl hM1 (fun h => h) (by kernel_rfl) rfl ?_
   intro r27 w28 (H29 : Sat w23 [Zb w23 (fun _ => False), Z1Y w23 r27 q.mp (Value.int .i64) Zu R2 []] w28)
   refine hK26 _ _ ?_
   clear hK26 K26
   refine Zm ?_
   refine Z7 ?_
   refine ZB ?_
   refine ZU [12, 14, 51, 52, 53, 54, 55, 56, 57, 58, 59, 60, 61, 62, 63, 64] (fun F_ W_ m_ => ∃ (seen rest : List (Int × List UInt8)), F_ 12 = (.int .i64 ((Z10 seen ((Zq R2 fr).getD []) : Int))) ∧ (R2.Perm (seen ++ rest)) ∧ Sat w23 [Zb w23 (fun _ => False), Z1Y w23 r27 q.mp (Value.int .i64) Zu R2 seen] W_ ∧ m_ = rest.length) _ ⟨[], R2, (show ((.int .i64 (0)) : Value) = _ by first | rfl | go_num), (List.Perm.refl _), H29, rfl⟩ ?_
   rintro g30 w31 _ ⟨seen, rest, v33, hperm, H32, rfl⟩
   refine Zs 12 _ v33 ?_
   refine Zg ?_
   refine Zn ?_
   refine ZE (Z1 rfl) (fun K35 hK35 => ?_)
   refine Z4T rfl H32 1 rfl 0 rfl (fun h => h) rfl ?_ ?_
   ·intro p36
    refine hK35 _ _ ?_
    clear hK35 K35
    refine Z3 (Z1 rfl) (d := 52) (v := (.bool false)) rfl (by kernel_rfl) ?_
    refine Zm ?_
    refine Z7 ?_
    refine Zg ?_
    refine ZY rfl ?_
    refine Z1w ?_
    refine Z0t ?_
    refine Z0H ?_
    refine Z16 ?_
    have H37 : Sat w [Z5 c 112 ([(.int .i64 (F)), (.int .i64 (Cn)), (.int .i64 (id)), (.pointer (some ⟨bb, 0, none⟩)), (.slice (some ⟨g, 0, none⟩) Q.length lc)] : List Value), Zd 119 79 (.slice (some ⟨g, 0, none⟩) Q.length lc) Q.length (Q.flatMap Zf), Zh q.mp (Value.int .i64) Zu R2, Zb w (ZF [Z5 c 112 [.int .i64 F, .int .i64 Cn, .int .i64 id, .pointer (some ⟨bb, 0, none⟩), .slice (some ⟨g, 0, none⟩) Q.length lc], Zd 119 79 (.slice (some ⟨g, 0, none⟩) Q.length lc) Q.length (Q.flatMap Zf), Zh q.mp (Value.int .i64) Zu R]).fp, Z5 b2 3 ([(.int .i64 (ix))] : List Value)] w31 := H24.keepU (H32.upd 0 rfl [] (fun _ h => h.elim))
    refine ZX ?_ ⟨(congrArg (fun z_ : Nat => Value.int .i64 (z_ : Int)) (Z4h (x := ((Zq R2 fr).getD [])) p36).symm), H37⟩
    exact (Z6 rfl (Z6 rfl (Z6 rfl (Z1i rfl (Z6 rfl (Z6 rfl (Z6 rfl (Z6 rfl (Z6 rfl (ZV))))))))))
   ·intro y38 t39 w40 p41 (H42 : Sat w23 [Zb w23 (fun _ => False), Z1Y w23 r27 q.mp (Value.int .i64) Zu R2 (seen ++ [y38])] w40)
    refine hK35 _ _ ?_
    clear hK35 K35
    refine Z3 (Z1 rfl) (d := 52) (v := (.bool true)) rfl (by kernel_rfl) ?_
    refine Zm ?_
    refine Z7 ?_
    refine Zg ?_
    refine Z0u rfl ?_
    refine ZN ?_
    refine Z7 ?_
    refine ZB ?_
    refine Zg ?_
    refine Zn ?_
    refine Z3 (Z1 rfl) (d := 53) (v := (.tuple #[(.int .i64 (y38.1)), (Zu y38.2)])) rfl (H42.entryR 1 rfl 0 rfl (fun h => h) rfl) ?_
    refine Z3 (Z1 rfl) (d := 54) (v := (Zu y38.2)) rfl (by kernel_rfl) ?_
    refine Z3 (Z1 rfl) (d := 14) (v := (Zu y38.2)) rfl (by kernel_rfl) ?_
    refine Zm ?_
    refine Z7 ?_
    refine Zg ?_
    refine Zn ?_
    refine Z3 (Z1 rfl) (d := 55) (v := (Zu y38.2)) rfl (by kernel_rfl) ?_
    refine Z3 (Z1 rfl) (d := 56) (v := (.pointer (some ⟨g, 0 + ((k : Int)).toNat * 79, none⟩))) rfl (by kernel_rfl) ?_
    refine Z3 (Z1 rfl) (d := 57) (v := (.pointer (some ⟨g, 0 + ((k : Int)).toNat * 79, none⟩))) rfl (by kernel_rfl) ?_
    refine Z3 (Z1 rfl) (d := 58) (v := (.pointer (some ⟨g, 0 + ((k : Int)).toNat * 79 + 76, none⟩))) rfl (by kernel_rfl) ?_
    refine Z3 (Z1 rfl) (d := 59) (v := (.map (some q.mp))) rfl (Zj rfl (by kernel_rfl) (Z00 (H42.roCk 0 rfl hrow1 (fun _ _ h => h)) rfl ZK hq 76 rfl (show 0 + ((k : Int)).toNat * 79 + 76 = k * 79 + 76 by omega) (by kernel_rfl))) ?_
    refine Z3 (Z1 rfl) (d := 60) (v := (.int .i64 (fr))) rfl (by kernel_rfl) ?_
    refine Z3 (Z1 rfl) (d := 61) (v := (Zu ((Zq R2 fr).getD []))) rfl (Z1k (kt := 3) (et := 9) (KeyTy.int (by kernel_rfl)) (by kernel_rfl) Z2F rfl fr rfl (H42.roMap 0 rfl hM1 (fun h => h)) (Z60 Zu _ _)) ?_
    refine Z3 (Z1 rfl) (d := 62) (v := (.bool (decide (y38.2 = ((Zq R2 fr).getD []))))) rfl (Z4U y38.2 ((Zq R2 fr).getD []) rfl rfl) ?_
    refine Zm ?_
    refine Z7 ?_
    refine (Z06 (decide (y38.2 = ((Zq R2 fr).getD [])))).elim (fun b43 => ?_) (fun b43 => ?_)
    ·have g44 := of_decide_eq_true b43
     refine Zs 62 (.bool true) (congrArg Value.bool b43) ?_
     have g45 := of_decide_eq_true b43
     refine Z0u rfl ?_
     refine Zn ?_
     refine Z3 (Z1 rfl) (d := 63) (v := (.int .i64 ((Z10 seen ((Zq R2 fr).getD []) : Int)))) rfl (by kernel_rfl) ?_
     refine Z3 (Z1 rfl) (d := 64) (v := (.int .i64 ((Z10 seen ((Zq R2 fr).getD []) : Int) + 1))) rfl (Z05 (z := (Z10 seen ((Zq R2 fr).getD []) : Int) + 1) (by kernel_rfl) (IntWalk.i64_in _ (by have h1 := hperm.length_eq; have h2 := Z6k (l := seen) (x := ((Zq R2 fr).getD [])); simp only [List.length_append] at h1; omega))) ?_
     refine Z3 (Z1 rfl) (d := 12) (v := (.int .i64 ((Z10 seen ((Zq R2 fr).getD []) : Int) + 1))) rfl (by kernel_rfl) ?_
     refine Zm ?_
     refine Zz ?_
     refine ZL ?_ _ ⟨(seen ++ [y38]), t39, (show ((.int .i64 ((Z10 seen ((Zq R2 fr).getD []) : Int) + 1)) : Value) = _ by rw [Z23, Z2z]; have q_ := b43; simp at q_; simp [q_]), p41, H42, rfl⟩ (by have h1 := hperm.length_eq; have h2 := p41.length_eq; simp only [List.length_append, List.length_cons, List.length_nil] at h1 h2; omega)
     exact (Z6 rfl (Z6 rfl (Z6 rfl (Z6 rfl (Z6 rfl (Z6 rfl (Z6 rfl (Z6 rfl (Z6 rfl (Z6 rfl (Z6 rfl (Z6 rfl (Z6 rfl (Z6 rfl (Z6 rfl (Z6 rfl (Z6 rfl (Z6 rfl (Z0N)))))))))))))))))))
    ·have g46 := of_decide_eq_false b43
     refine Zs 62 (.bool false) (congrArg Value.bool b43) ?_
     have g47 := of_decide_eq_false b43
     refine ZY rfl ?_
     refine ZN ?_
     refine Zz ?_
     refine ZL ?_ _ ⟨(seen ++ [y38]), t39, (show ((.int .i64 ((Z10 seen ((Zq R2 fr).getD []) : Int))) : Value) = _ by rw [Z23, Z2z]; have q_ := b43; simp at q_; simp [q_]), p41, H42, rfl⟩ (by have h1 := hperm.length_eq; have h2 := p41.length_eq; simp only [List.length_append, List.length_cons, List.length_nil] at h1 h2; omega)
     exact (Z6 rfl (Z6 rfl (Z6 rfl (Z6 rfl (Z6 rfl (Z6 rfl (Z6 rfl (Z6 rfl (Z6 rfl (Z6 rfl (Z6 rfl (Z6 rfl (Z6 rfl (Z6 rfl (Z6 rfl (Z0N))))))))))))))))
  ·rintro f48 w49 ⟨v51, H50⟩
   refine Zs 12 _ v51 ?_
   refine Zg ?_
   refine Zn ?_
   refine Z3 (Z1 rfl) (d := 65) (v := (.pointer (some ⟨g, 0 + ((k : Int)).toNat * 79, none⟩))) rfl (by kernel_rfl) ?_
   refine Z3 (Z1 rfl) (d := 66) (v := (.pointer (some ⟨g, 0 + ((k : Int)).toNat * 79, none⟩))) rfl (by kernel_rfl) ?_
   refine Z3 (Z1 rfl) (d := 67) (v := (.pointer (some ⟨g, 0 + ((k : Int)).toNat * 79 + 77, none⟩))) rfl (by kernel_rfl) ?_
   refine Z3 (Z1 rfl) (d := 68) (v := (.bool (q.dn))) rfl (Zj rfl (by kernel_rfl) (Z00 (H50.at 1 rfl) rfl ZK hq 77 rfl (show 0 + ((k : Int)).toNat * 79 + 77 = k * 79 + 77 by omega) (by kernel_rfl))) ?_
   refine Z3 (Z1 rfl) (d := 69) (v := (.bool (!(q.dn)))) rfl (by kernel_rfl) ?_
   refine Z3 (Z1 rfl) (d := 70) (v := (.bool (!(q.dn)))) rfl (by kernel_rfl) ?_
   refine (Z06 (!(q.dn))).elim (fun b52 => ?_) (fun b52 => ?_)
   ·have g53 := Z0y b52
    refine Z01 70 (.bool true) (congrArg Value.bool b52) ?_
    have g54 := Z0y b52
    refine Z3 (Zr 5 70 true rfl (by kernel_rfl) rfl (by kernel_rfl)) (d := 71) (v := (.int .i64 ((Z10 R2 ((Zq R2 fr).getD []) : Int)))) rfl (by kernel_rfl) ?_
    refine Z3 (Zr 5 70 true rfl (by kernel_rfl) rfl (by kernel_rfl)) (d := 72) (v := (.pointer (some ⟨c, 0, none⟩))) rfl (by kernel_rfl) ?_
    refine Z3 (Zr 5 70 true rfl (by kernel_rfl) rfl (by kernel_rfl)) (d := 73) (v := (.pointer (some ⟨c, 0, none⟩))) rfl (by kernel_rfl) ?_
    refine Z3 (Zr 5 70 true rfl (by kernel_rfl) rfl (by kernel_rfl)) (d := 74) (v := (.pointer (some ⟨c, 0, none⟩))) rfl (by kernel_rfl) ?_
    refine Z3 (Zr 5 70 true rfl (by kernel_rfl) rfl (by kernel_rfl)) (d := 75) (v := (.pointer (some ⟨c, 0, none⟩))) rfl (by kernel_rfl) ?_
    refine Z3 (Zr 5 70 true rfl (by kernel_rfl) rfl (by kernel_rfl)) (d := 76) (v := (.int .i64 (F))) rfl (Zj rfl (by kernel_rfl) (H50.cell 0 rfl rfl)) ?_
    refine Z3 (Zr 5 70 true rfl (by kernel_rfl) rfl (by kernel_rfl)) (d := 77) (v := (.int .i64 (F + 1))) rfl (Z05 (z := F + 1) (by kernel_rfl) (IntWalk.i64_in _ (by omega))) ?_
    refine Z3 (Zr 5 70 true rfl (by kernel_rfl) rfl (by kernel_rfl)) (d := 78) (v := (.bool (decide ((Z10 R2 ((Zq R2 fr).getD []) : Int) ≥ (F + 1))))) rfl (by kernel_rfl) ?_
    refine Z3 (Z1 rfl) (d := 79) (v := (.bool (decide ((Z10 R2 ((Zq R2 fr).getD []) : Int) ≥ (F + 1))))) rfl (by kernel_rfl) ?_
    refine Zm ?_
    refine Z7 ?_
    refine (Z06 (decide ((Z10 R2 ((Zq R2 fr).getD []) : Int) ≥ (F + 1)))).elim (fun b55 => ?_) (fun b55 => ?_)
    ·have g56 := of_decide_eq_true b55
     refine Zs 79 (.bool true) (congrArg Value.bool b55) ?_
     have g57 := of_decide_eq_true b55
     refine Z0u rfl ?_
     refine Zn ?_
     refine Z3 (Z1 rfl) (d := 80) (v := (.pointer (some ⟨g, 0 + ((k : Int)).toNat * 79, none⟩))) rfl (by kernel_rfl) ?_
     refine Z3 (Z1 rfl) (d := 81) (v := (.pointer (some ⟨g, 0 + ((k : Int)).toNat * 79, none⟩))) rfl (by kernel_rfl) ?_
     refine Z3 (Z1 rfl) (d := 82) (v := (.pointer (some ⟨g, 0 + ((k : Int)).toNat * 79, none⟩))) rfl (by kernel_rfl) ?_
     refine Z3 (Z1 rfl) (d := 83) (v := (.pointer (some ⟨g, 0 + ((k : Int)).toNat * 79, none⟩))) rfl (by kernel_rfl) ?_
     refine Z3 (Z1 rfl) (d := 84) (v := (.pointer (some ⟨g, 0 + ((k : Int)).toNat * 79 + 76, none⟩))) rfl (by kernel_rfl) ?_
     refine Z3 (Z1 rfl) (d := 85) (v := (.map (some q.mp))) rfl (Zj rfl (by kernel_rfl) (Z00 (H50.at 1 rfl) rfl ZK hq 76 rfl (show 0 + ((k : Int)).toNat * 79 + 76 = k * 79 + 76 by omega) (by kernel_rfl))) ?_
     refine Z3 (Z1 rfl) (d := 86) (v := (.int .i64 (fr))) rfl (by kernel_rfl) ?_
     refine Z3 (Z1 rfl) (d := 87) (v := (Zu ((Zq R2 fr).getD []))) rfl (Z1k (kt := 3) (et := 9) (KeyTy.int (by kernel_rfl)) (by kernel_rfl) Z2F rfl fr rfl (H50.at 2 rfl) (Z60 Zu _ _)) ?_
     refine Z3 (Z1 rfl) (d := 88) (v := (.pointer (some ⟨g, 0 + ((k : Int)).toNat * 79, none⟩))) rfl (by kernel_rfl) ?_
     refine Z3 (Z1 rfl) (d := 89) (v := (.pointer (some ⟨g, 0 + ((k : Int)).toNat * 79 + 77, none⟩))) rfl (by kernel_rfl) ?_
     refine ZE (Z1 rfl) (fun K58 hK58 => ?_)
     refine Z2p (size := 79) (vs := ([(.bool true)] : List Value)) ZK rfl H50 1 rfl rfl rfl rfl (by kernel_rfl) (Nat.le_of_ble_eq_true (by kernel_rfl)) (by kernel_rfl) k 77 (⟨q.x, q.pa, q.pc, q.P, q.no, q.ms, q.cb, q.ma, q.mr, q.op, q.pl, q.mp, true, q.rp⟩ : Zl) hq (show 0 + ((k : Int)).toNat * 79 + 77 = k * 79 + 77 by omega) (Nat.le_of_ble_eq_true (by kernel_rfl)) (by kernel_rfl) ?_
     intro w59 (H60 : Sat w [Z5 c 112 ([(.int .i64 (F)), (.int .i64 (Cn)), (.int .i64 (id)), (.pointer (some ⟨bb, 0, none⟩)), (.slice (some ⟨g, 0, none⟩) Q.length lc)] : List Value), Zd 119 79 (.slice (some ⟨g, 0, none⟩) Q.length lc) Q.length ((Q.set k (⟨q.x, q.pa, q.pc, q.P, q.no, q.ms, q.cb, q.ma, q.mr, q.op, q.pl, q.mp, true, q.rp⟩ : Zl)).flatMap Zf), Zh q.mp (Value.int .i64) Zu R2, Zb w (ZF [Z5 c 112 [.int .i64 F, .int .i64 Cn, .int .i64 id, .pointer (some ⟨bb, 0, none⟩), .slice (some ⟨g, 0, none⟩) Q.length lc], Zd 119 79 (.slice (some ⟨g, 0, none⟩) Q.length lc) Q.length (Q.flatMap Zf), Zh q.mp (Value.int .i64) Zu R]).fp, Z5 b2 3 ([(.int .i64 (ix))] : List Value)] w59)
     have hlw59 : (Q.set k (⟨q.x, q.pa, q.pc, q.P, q.no, q.ms, q.cb, q.ma, q.mr, q.op, q.pl, q.mp, true, q.rp⟩ : Zl)).length = Q.length := List.length_set
     have h61 : (Q.set k (⟨q.x, q.pa, q.pc, q.P, q.no, q.ms, q.cb, q.ma, q.mr, q.op, q.pl, q.mp, true, q.rp⟩ : Zl))[k]? = some (⟨q.x, q.pa, q.pc, q.P, q.no, q.ms, q.cb, q.ma, q.mr, q.op, q.pl, q.mp, true, q.rp⟩ : Zl) := List.getElem?_set_self (by omega)
     refine hK58 _ _ ?_
     clear hK58 K58
     refine Z3 (Z1 rfl) (d := 90) (v := (.pointer (some ⟨g, 0 + ((k : Int)).toNat * 79, none⟩))) rfl (by kernel_rfl) ?_
     refine Z3 (Z1 rfl) (d := 91) (v := (.pointer (some ⟨g, 0 + ((k : Int)).toNat * 79 + 78, none⟩))) rfl (by kernel_rfl) ?_
     refine ZE (Z1 rfl) (fun K62 hK62 => ?_)
     refine Z2p (size := 79) (vs := ([(Zu ((Zq R2 fr).getD []))] : List Value)) ZK rfl H60 1 rfl rfl rfl rfl (by kernel_rfl) (Nat.le_of_ble_eq_true (by kernel_rfl)) (by kernel_rfl) k 78 (⟨q.x, q.pa, q.pc, q.P, q.no, q.ms, q.cb, q.ma, q.mr, q.op, q.pl, q.mp, true, ((Zq R2 fr).getD [])⟩ : Zl) h61 (show 0 + ((k : Int)).toNat * 79 + 78 = k * 79 + 78 by omega) (Nat.le_of_ble_eq_true (by kernel_rfl)) (by kernel_rfl) ?_
     intro w63 (H64 : Sat w [Z5 c 112 ([(.int .i64 (F)), (.int .i64 (Cn)), (.int .i64 (id)), (.pointer (some ⟨bb, 0, none⟩)), (.slice (some ⟨g, 0, none⟩) Q.length lc)] : List Value), Zd 119 79 (.slice (some ⟨g, 0, none⟩) Q.length lc) Q.length (((Q.set k (⟨q.x, q.pa, q.pc, q.P, q.no, q.ms, q.cb, q.ma, q.mr, q.op, q.pl, q.mp, true, q.rp⟩ : Zl)).set k (⟨q.x, q.pa, q.pc, q.P, q.no, q.ms, q.cb, q.ma, q.mr, q.op, q.pl, q.mp, true, ((Zq R2 fr).getD [])⟩ : Zl)).flatMap Zf), Zh q.mp (Value.int .i64) Zu R2, Zb w (ZF [Z5 c 112 [.int .i64 F, .int .i64 Cn, .int .i64 id, .pointer (some ⟨bb, 0, none⟩), .slice (some ⟨g, 0, none⟩) Q.length lc], Zd 119 79 (.slice (some ⟨g, 0, none⟩) Q.length lc) Q.length (Q.flatMap Zf), Zh q.mp (Value.int .i64) Zu R]).fp, Z5 b2 3 ([(.int .i64 (ix))] : List Value)] w63)
     have hlw63 : ((Q.set k (⟨q.x, q.pa, q.pc, q.P, q.no, q.ms, q.cb, q.ma, q.mr, q.op, q.pl, q.mp, true, q.rp⟩ : Zl)).set k (⟨q.x, q.pa, q.pc, q.P, q.no, q.ms, q.cb, q.ma, q.mr, q.op, q.pl, q.mp, true, ((Zq R2 fr).getD [])⟩ : Zl)).length = (Q.set k (⟨q.x, q.pa, q.pc, q.P, q.no, q.ms, q.cb, q.ma, q.mr, q.op, q.pl, q.mp, true, q.rp⟩ : Zl)).length := List.length_set
     have h65 : ((Q.set k (⟨q.x, q.pa, q.pc, q.P, q.no, q.ms, q.cb, q.ma, q.mr, q.op, q.pl, q.mp, true, q.rp⟩ : Zl)).set k (⟨q.x, q.pa, q.pc, q.P, q.no, q.ms, q.cb, q.ma, q.mr, q.op, q.pl, q.mp, true, ((Zq R2 fr).getD [])⟩ : Zl))[k]? = some (⟨q.x, q.pa, q.pc, q.P, q.no, q.ms, q.cb, q.ma, q.mr, q.op, q.pl, q.mp, true, ((Zq R2 fr).getD [])⟩ : Zl) := List.getElem?_set_self (by omega)
     refine hK62 _ _ ?_
     clear hK62 K62
     refine Zm ?_
     refine Z27 ?_
     refine end0 rfl  ?_
     have H66 : Sat w [Z5 c 112 ([(.int .i64 (F)), (.int .i64 (Cn)), (.int .i64 (id)), (.pointer (some ⟨bb, 0, none⟩)), (.slice (some ⟨g, 0, none⟩) Q.length lc)] : List Value), Zd 119 79 (.slice (some ⟨g, 0, none⟩) Q.length lc) Q.length (((Q.set k (⟨q.x, q.pa, q.pc, q.P, q.no, q.ms, q.cb, q.ma, q.mr, q.op, q.pl, q.mp, true, q.rp⟩ : Zl)).set k (⟨q.x, q.pa, q.pc, q.P, q.no, q.ms, q.cb, q.ma, q.mr, q.op, q.pl, q.mp, true, ((Zq R2 fr).getD [])⟩ : Zl)).flatMap Zf), Zh q.mp (Value.int .i64) Zu R2, Zb w (ZF [Z5 c 112 [.int .i64 F, .int .i64 Cn, .int .i64 id, .pointer (some ⟨bb, 0, none⟩), .slice (some ⟨g, 0, none⟩) Q.length lc], Zd 119 79 (.slice (some ⟨g, 0, none⟩) Q.length lc) Q.length (Q.flatMap Zf), Zh q.mp (Value.int .i64) Zu R]).fp] w63 := H64.pick [0, 1, 2, 3] (by decide)
     subst hR2
     exact ⟨rfl, .inr ⟨⟨by first | assumption | (simp_all; done), by omega⟩, H66.cast (by rw [List.set_set])⟩⟩
    ·have g67 := of_decide_eq_false b55
     refine Zs 79 (.bool false) (congrArg Value.bool b55) ?_
     have g68 := of_decide_eq_false b55
     refine ZY rfl ?_
     refine ZN ?_
     refine Z27 ?_
     refine end0 rfl  ?_
     have H69 : Sat w [Z5 c 112 ([(.int .i64 (F)), (.int .i64 (Cn)), (.int .i64 (id)), (.pointer (some ⟨bb, 0, none⟩)), (.slice (some ⟨g, 0, none⟩) Q.length lc)] : List Value), Zd 119 79 (.slice (some ⟨g, 0, none⟩) Q.length lc) Q.length (Q.flatMap Zf), Zh q.mp (Value.int .i64) Zu R2, Zb w (ZF [Z5 c 112 [.int .i64 F, .int .i64 Cn, .int .i64 id, .pointer (some ⟨bb, 0, none⟩), .slice (some ⟨g, 0, none⟩) Q.length lc], Zd 119 79 (.slice (some ⟨g, 0, none⟩) Q.length lc) Q.length (Q.flatMap Zf), Zh q.mp (Value.int .i64) Zu R]).fp] w49 := H50.pick [0, 1, 2, 3] (by decide)
     subst hR2
     exact ⟨rfl, .inl ⟨by first | (left; assumption) | (left; simp_all; done) | (right; omega), H69⟩⟩
   ·have g70 := Z09 b52
    refine Z01 70 (.bool false) (congrArg Value.bool b52) ?_
    have g71 := Z09 b52
    refine ZR (Z03 5 70 true rfl (by kernel_rfl) rfl (by kernel_rfl)) rfl ?_
    refine ZR (Z03 5 70 true rfl (by kernel_rfl) rfl (by kernel_rfl)) rfl ?_
    refine ZR (Z03 5 70 true rfl (by kernel_rfl) rfl (by kernel_rfl)) rfl ?_
    refine ZR (Z03 5 70 true rfl (by kernel_rfl) rfl (by kernel_rfl)) rfl ?_
    refine ZR (Z03 5 70 true rfl (by kernel_rfl) rfl (by kernel_rfl)) rfl ?_
    refine ZR (Z03 5 70 true rfl (by kernel_rfl) rfl (by kernel_rfl)) rfl ?_
    refine ZR (Z03 5 70 true rfl (by kernel_rfl) rfl (by kernel_rfl)) rfl ?_
    refine ZR (Z03 5 70 true rfl (by kernel_rfl) rfl (by kernel_rfl)) rfl ?_
    refine Z3 (Z1 rfl) (d := 79) (v := (.bool false)) rfl (by kernel_rfl) ?_
    refine Zm ?_
    refine Z7 ?_
    refine ZY rfl ?_
    refine ZN ?_
    refine Z27 ?_
    refine end0 rfl  ?_
    have H72 : Sat w [Z5 c 112 ([(.int .i64 (F)), (.int .i64 (Cn)), (.int .i64 (id)), (.pointer (some ⟨bb, 0, none⟩)), (.slice (some ⟨g, 0, none⟩) Q.length lc)] : List Value), Zd 119 79 (.slice (some ⟨g, 0, none⟩) Q.length lc) Q.length (Q.flatMap Zf), Zh q.mp (Value.int .i64) Zu R2, Zb w (ZF [Z5 c 112 [.int .i64 F, .int .i64 Cn, .int .i64 id, .pointer (some ⟨bb, 0, none⟩), .slice (some ⟨g, 0, none⟩) Q.length lc], Zd 119 79 (.slice (some ⟨g, 0, none⟩) Q.length lc) Q.length (Q.flatMap Zf), Zh q.mp (Value.int .i64) Zu R]).fp] w49 := H50.pick [0, 1, 2, 3] (by decide)
    subst hR2
    exact ⟨rfl, .inl ⟨by first | (left; assumption) | (left; simp_all; done) | (right; omega), H72⟩⟩
theorem Z3W (w : World) (c bb g lc : Nat) (F Cn id : Int) (Q : List Zl) (k : Nat) (q : Zl) (hq : Q[k]? = some q) (R : List (Int × List UInt8)) (hA : (ZF [Z5 c 112 [.int .i64 F, .int .i64 Cn, .int .i64 id, .pointer (some ⟨bb, 0, none⟩), .slice (some ⟨g, 0, none⟩) Q.length lc], Zd 119 79 (.slice (some ⟨g, 0, none⟩) Q.length lc) Q.length (Q.flatMap Zf), Zh q.mp (Value.int .i64) Zu R]).ok w) (hlQ : Q.length ≤ 64) (hlR : R.length ≤ 1000) (hF : 1 ≤ F ∧ F ≤ 100) (hid : 0 ≤ id ∧ id ≤ 1000000) (fr ix : Int) (tx : List UInt8) (hk : idxQ Q ix = (k : Int)) (hin : inB F fr = true) :
  Calls Tryz.prog 16 #[(.pointer (some ⟨c, 0, none⟩)), (.agg ⟨(([(.int .i64 (13)), (.int .i64 (fr)), (.int .i64 (1000 + id)), (.int .i64 (0)), (.int .i64 (0))] : List Value) ++ hc Z8 ++ ([(.int .i64 (0)), (.int .i64 (0)), (.int .i64 (0)), (.int .i64 (0)), (.int .i64 (0)), (.int .i64 (0))] : List Value) ++ hc Z8 ++ ([(.int .u64 (0)), (.int .i64 (0)), (.int .i64 (0)), (.int .i64 (0)), (.int .i64 (0))] : List Value) ++ hc Z8 ++ ([(.int .i64 (0)), (.int .i64 (0)), (.int .i64 (0)), (.slice none 0 0), (.int .i64 (0)), (.int .i64 (0)), (.int .i64 (0))] : List Value) ++ hc Z8 ++ ([(.int .u64 (0)), (.int .i64 (0)), (.int .i64 (0)), (.int .i64 (0)), (.int .i64 (0)), (.int .u64 (0)), (.int .i64 (0)), (.int .i64 (0)), (.int .u64 (0)), (.slice none 0 0), (.int .i64 (0)), (.int .i64 (0)), (.int .i64 (0)), (.int .i64 (0)), (.int .i64 (0)), (.int .i64 (0)), (.int .i64 (0)), (.int .u64 (0)), (.slice none 0 0), (.slice none 0 0), (.slice none 0 0), (.int .i64 (0)), (.int .i64 (0)), (.int .i64 (0))] : List Value) ++ ([(.int .i64 (0)), (.int .i64 (0)), (.int .i64 (0))] : List Value) ++ hc Z8 ++ ([(.int .i64 (0)), (.int .i64 (0)), (.int .i64 (ix)), (.int .i64 (0)), (.int .i64 (0))] : List Value) ++ hc Z8 ++ ([(.int .u64 (0)), (.int .i64 (0)), (.slice none 0 0)] : List Value) ++ hc Z8 ++ ([(.int .i64 (0)), (.int .i64 (0)), (.int .i64 (0)), (.int .i64 (0)), (Zu tx), (.int .i64 (0)), (.int .i64 (0)), (.int .i64 (0)), (.int .u64 (0)), (.slice none 0 0), (.slice none 0 0), (.slice none 0 0), (.slice none 0 0)] : List Value))⟩)] w fun e w' => e = .returned (.slice none 0 0) ∧ Z6i w w' c bb g lc F Cn id Q k q R fr tx := by
 have H : Sat w [Z5 c 112 ([(.int .i64 (F)), (.int .i64 (Cn)), (.int .i64 (id)), (.pointer (some ⟨bb, 0, none⟩)), (.slice (some ⟨g, 0, none⟩) Q.length lc)] : List Value), Zd 119 79 (.slice (some ⟨g, 0, none⟩) Q.length lc) Q.length (Q.flatMap Zf), Zh q.mp (Value.int .i64) Zu R, Zb w (ZF [Z5 c 112 [.int .i64 F, .int .i64 Cn, .int .i64 id, .pointer (some ⟨bb, 0, none⟩), .slice (some ⟨g, 0, none⟩) Q.length lc], Zd 119 79 (.slice (some ⟨g, 0, none⟩) Q.length lc) Q.length (Q.flatMap Zf), Zh q.mp (Value.int .i64) Zu R]).fp] w := Sat.start _ hA
 refine Zx Tryz.func16 rfl 62 rfl (Nat.le_of_ble_eq_true rfl) ?_
 refine Zg ?_
 refine Zn ?_
 refine ZE (Z1 rfl) (fun K1 hK1 => ?_)
 refine Z0Y (vs := (([(.int .i64 (13)), (.int .i64 (fr)), (.int .i64 (1000 + id)), (.int .i64 (0)), (.int .i64 (0))] : List Value) ++ hc Z8 ++ ([(.int .i64 (0)), (.int .i64 (0)), (.int .i64 (0)), (.int .i64 (0)), (.int .i64 (0)), (.int .i64 (0))] : List Value) ++ hc Z8 ++ ([(.int .u64 (0)), (.int .i64 (0)), (.int .i64 (0)), (.int .i64 (0)), (.int .i64 (0))] : List Value) ++ hc Z8 ++ ([(.int .i64 (0)), (.int .i64 (0)), (.int .i64 (0)), (.slice none 0 0), (.int .i64 (0)), (.int .i64 (0)), (.int .i64 (0))] : List Value) ++ hc Z8 ++ ([(.int .u64 (0)), (.int .i64 (0)), (.int .i64 (0)), (.int .i64 (0)), (.int .i64 (0)), (.int .u64 (0)), (.int .i64 (0)), (.int .i64 (0)), (.int .u64 (0)), (.slice none 0 0), (.int .i64 (0)), (.int .i64 (0)), (.int .i64 (0)), (.int .i64 (0)), (.int .i64 (0)), (.int .i64 (0)), (.int .i64 (0)), (.int .u64 (0)), (.slice none 0 0), (.slice none 0 0), (.slice none 0 0), (.int .i64 (0)), (.int .i64 (0)), (.int .i64 (0))] : List Value) ++ ([(.int .i64 (0)), (.int .i64 (0)), (.int .i64 (0))] : List Value) ++ hc Z8 ++ ([(.int .i64 (0)), (.int .i64 (0)), (.int .i64 (ix)), (.int .i64 (0)), (.int .i64 (0))] : List Value) ++ hc Z8 ++ ([(.int .u64 (0)), (.int .i64 (0)), (.slice none 0 0)] : List Value) ++ hc Z8 ++ ([(.int .i64 (0)), (.int .i64 (0)), (.int .i64 (0)), (.int .i64 (0)), (Zu tx), (.int .i64 (0)), (.int .i64 (0)), (.int .i64 (0)), (.int .u64 (0)), (.slice none 0 0), (.slice none 0 0), (.slice none 0 0), (.slice none 0 0)] : List Value))) rfl H rfl rfl ?_
 intro b2 w3 (H4 : Sat w [Z5 c 112 ([(.int .i64 (F)), (.int .i64 (Cn)), (.int .i64 (id)), (.pointer (some ⟨bb, 0, none⟩)), (.slice (some ⟨g, 0, none⟩) Q.length lc)] : List Value), Zd 119 79 (.slice (some ⟨g, 0, none⟩) Q.length lc) Q.length (Q.flatMap Zf), Zh q.mp (Value.int .i64) Zu R, Zb w (ZF [Z5 c 112 [.int .i64 F, .int .i64 Cn, .int .i64 id, .pointer (some ⟨bb, 0, none⟩), .slice (some ⟨g, 0, none⟩) Q.length lc], Zd 119 79 (.slice (some ⟨g, 0, none⟩) Q.length lc) Q.length (Q.flatMap Zf), Zh q.mp (Value.int .i64) Zu R]).fp, Z5 b2 82 (([(.int .i64 (13)), (.int .i64 (fr)), (.int .i64 (1000 + id)), (.int .i64 (0)), (.int .i64 (0))] : List Value) ++ hc Z8 ++ ([(.int .i64 (0)), (.int .i64 (0)), (.int .i64 (0)), (.int .i64 (0)), (.int .i64 (0)), (.int .i64 (0))] : List Value) ++ hc Z8 ++ ([(.int .u64 (0)), (.int .i64 (0)), (.int .i64 (0)), (.int .i64 (0)), (.int .i64 (0))] : List Value) ++ hc Z8 ++ ([(.int .i64 (0)), (.int .i64 (0)), (.int .i64 (0)), (.slice none 0 0), (.int .i64 (0)), (.int .i64 (0)), (.int .i64 (0))] : List Value) ++ hc Z8 ++ ([(.int .u64 (0)), (.int .i64 (0)), (.int .i64 (0)), (.int .i64 (0)), (.int .i64 (0)), (.int .u64 (0)), (.int .i64 (0)), (.int .i64 (0)), (.int .u64 (0)), (.slice none 0 0), (.int .i64 (0)), (.int .i64 (0)), (.int .i64 (0)), (.int .i64 (0)), (.int .i64 (0)), (.int .i64 (0)), (.int .i64 (0)), (.int .u64 (0)), (.slice none 0 0), (.slice none 0 0), (.slice none 0 0), (.int .i64 (0)), (.int .i64 (0)), (.int .i64 (0))] : List Value) ++ ([(.int .i64 (0)), (.int .i64 (0)), (.int .i64 (0))] : List Value) ++ hc Z8 ++ ([(.int .i64 (0)), (.int .i64 (0)), (.int .i64 (ix)), (.int .i64 (0)), (.int .i64 (0))] : List Value) ++ hc Z8 ++ ([(.int .u64 (0)), (.int .i64 (0)), (.slice none 0 0)] : List Value) ++ hc Z8 ++ ([(.int .i64 (0)), (.int .i64 (0)), (.int .i64 (0)), (.int .i64 (0)), (Zu tx), (.int .i64 (0)), (.int .i64 (0)), (.int .i64 (0)), (.int .u64 (0)), (.slice none 0 0), (.slice none 0 0), (.slice none 0 0), (.slice none 0 0)] : List Value))] w3)
 refine hK1 _ _ ?_
 clear hK1 K1
 refine Z3 (Z1 rfl) (d := 4) (v := (.slice none 0 0)) rfl (by kernel_rfl) ?_
 refine Zm ?_
 refine Z7 ?_
 refine Zg ?_
 refine Zg ?_
 refine Z1s H4 (by kernel_rfl) (by kernel_rfl) ?_
 refine ZO (Z1 rfl) (d := 5) (v := (.pointer (some ⟨b2, 2, none⟩))) rfl (fun _ H' => (by kernel_rfl)) ?_
 refine ZO (Z1 rfl) (d := 6) (v := (.int .i64 (1000 + id))) rfl (fun _ H' => (Zj rfl (by kernel_rfl) (H'.cell 4 rfl rfl))) ?_
 refine ZO (Z1 rfl) (d := 7) (v := (.pointer (some ⟨c, 0, none⟩))) rfl (fun _ H' => (by kernel_rfl)) ?_
 refine ZO (Z1 rfl) (d := 8) (v := (.pointer (some ⟨c, 0, none⟩))) rfl (fun _ H' => (by kernel_rfl)) ?_
 refine ZO (Z1 rfl) (d := 9) (v := (.pointer (some ⟨c, 2, none⟩))) rfl (fun _ H' => (by kernel_rfl)) ?_
 refine ZO (Z1 rfl) (d := 10) (v := (.int .i64 (id))) rfl (fun _ H' => (Zj rfl (by kernel_rfl) (H'.cell 0 rfl rfl))) ?_
 refine ZO (Z1 rfl) (d := 11) (v := (.int .i64 (1000 + id))) rfl (fun _ H' => (Z05 (z := 1000 + id) (by kernel_rfl) (IntWalk.i64_in _ (by omega)))) ?_
 refine ZO (Z1 rfl) (d := 12) (v := (.bool (!(decide ((1000 + id) = (1000 + id)))))) rfl (fun _ H' => (by kernel_rfl)) ?_
 refine ZO (Z1 rfl) (d := 13) (v := (.bool (!(decide ((1000 + id) = (1000 + id)))))) rfl (fun _ H' => (by kernel_rfl)) ?_
 have b5 : (!(decide ((1000 + id) = (1000 + id)))) = false := by rw [decide_eq_true rfl]; rfl
 refine Z5l 13 (.bool false) (congrArg Value.bool b5) ?_
 have g6 := Z09 b5
 have g7 := of_decide_eq_true g6
 refine ZO (Zr 8 13 false rfl (by kernel_rfl) rfl (by kernel_rfl)) (d := 14) (v := (.pointer (some ⟨c, 0, none⟩))) rfl (fun _ H' => (by kernel_rfl)) ?_
 refine ZO (Zr 8 13 false rfl (by kernel_rfl) rfl (by kernel_rfl)) (d := 15) (v := (.pointer (some ⟨c, 0, none⟩))) rfl (fun _ H' => (by kernel_rfl)) ?_
 refine ZO (Zr 8 13 false rfl (by kernel_rfl) rfl (by kernel_rfl)) (d := 16) (v := (.pointer (some ⟨c, 0, none⟩))) rfl (fun _ H' => (by kernel_rfl)) ?_
 refine ZO (Zr 8 13 false rfl (by kernel_rfl) rfl (by kernel_rfl)) (d := 17) (v := (.agg ⟨([(.int .i64 (F)), (.int .i64 (Cn))] : List Value)⟩)) rfl (fun _ H' => (ZJ (vs := ([(.int .i64 (F)), (.int .i64 (Cn))] : List Value)) rfl (by kernel_rfl) (by kernel_rfl) (by exact Nat.le_of_ble_eq_true (by kernel_rfl)) (H'.at 0 rfl) (by kernel_rfl))) ?_
 refine ZO (Zr 8 13 false rfl (by kernel_rfl) rfl (by kernel_rfl)) (d := 18) (v := (.pointer (some ⟨b2, 1, none⟩))) rfl (fun _ H' => (by kernel_rfl)) ?_
 refine ZO (Zr 8 13 false rfl (by kernel_rfl) rfl (by kernel_rfl)) (d := 19) (v := (.int .i64 (fr))) rfl (fun _ H' => (Zj rfl (by kernel_rfl) (H'.cell 4 rfl rfl))) ?_
 refine Z2l (Zr 8 13 false rfl (by kernel_rfl) rfl (by kernel_rfl)) (d := 20) (v := (.bool (inB F fr))) rfl (fun _ _ => by kernel_rfl) (fun w' H' => (Z5y w' F Cn fr (by omega)).mono fun _ _ h => ⟨h.1, H'.keepU h.2⟩) ?_
 refine ZO (Zr 8 13 false rfl (by kernel_rfl) rfl (by kernel_rfl)) (d := 21) (v := (.bool (!(inB F fr)))) rfl (fun _ H' => (by kernel_rfl)) ?_
 refine ZO (Z1 rfl) (d := 22) (v := (.bool (!(inB F fr)))) rfl (fun _ H' => (by kernel_rfl)) ?_
 refine Z1Q ?_
 intro w8 H9
 refine Z7 ?_
 have b10 : (!(inB F fr)) = false := by rw [hin]; rfl
 refine Zs 22 (.bool false) (congrArg Value.bool b10) ?_
 have g11 := Z09 b10
 refine ZY rfl ?_
 refine ZN ?_
 refine Z7 ?_
 refine Zg ?_
 refine Zg ?_
 refine Zn ?_
 refine Z3 (Z1 rfl) (d := 23) (v := (.pointer (some ⟨b2, 0, none⟩))) rfl (by kernel_rfl) ?_
 refine Z3 (Z1 rfl) (d := 24) (v := (.int .i64 (13))) rfl (Zj rfl (by kernel_rfl) (H9.cell 4 rfl rfl)) ?_
 refine Zm ?_
 refine Z7 ?_
 refine ZB ?_
 refine Zg ?_
 refine Zn ?_
 refine Z3 (Z1 rfl) (d := 26) (v := (.bool false)) rfl (by kernel_rfl) ?_
 refine Z3 (Z1 rfl) (d := 25) (v := (.bool false)) rfl (by kernel_rfl) ?_
 refine Zm ?_
 refine Z7 ?_
 refine ZY rfl ?_
 refine Zg ?_
 refine Zn ?_
 refine Z3 (Z1 rfl) (d := 34) (v := (.bool false)) rfl (by kernel_rfl) ?_
 refine Z3 (Z1 rfl) (d := 33) (v := (.bool false)) rfl (by kernel_rfl) ?_
 refine Zm ?_
 refine Z7 ?_
 refine ZY rfl ?_
 refine Zg ?_
 refine Zn ?_
 refine Z3 (Z1 rfl) (d := 42) (v := (.bool false)) rfl (by kernel_rfl) ?_
 refine Z3 (Z1 rfl) (d := 41) (v := (.bool false)) rfl (by kernel_rfl) ?_
 refine Zm ?_
 refine Z7 ?_
 refine ZY rfl ?_
 refine Zg ?_
 refine Zn ?_
 refine Z3 (Z1 rfl) (d := 53) (v := (.bool true)) rfl (by kernel_rfl) ?_
 refine Z3 (Z1 rfl) (d := 52) (v := (.bool true)) rfl (by kernel_rfl) ?_
 refine Zm ?_
 refine Z7 ?_
 refine Z0u rfl ?_
 refine Zn ?_
 refine Z3 (Z1 rfl) (d := 54) (v := (.pointer (some ⟨c, 0, none⟩))) rfl (by kernel_rfl) ?_
 refine Z3 (Z1 rfl) (d := 55) (v := (.pointer (some ⟨b2, 1, none⟩))) rfl (by kernel_rfl) ?_
 refine Z3 (Z1 rfl) (d := 56) (v := (.int .i64 (fr))) rfl (Zj rfl (by kernel_rfl) (H9.cell 4 rfl rfl)) ?_
 refine Z3 (Z1 rfl) (d := 57) (v := (.pointer (some ⟨b2, 212, none⟩))) rfl (by kernel_rfl) ?_
 refine Z3 (Z1 rfl) (d := 58) (v := (.int .i64 (ix))) rfl (Zj rfl (by kernel_rfl) (H9.cell 4 rfl rfl)) ?_
 refine Z3 (Z1 rfl) (d := 59) (v := (.pointer (some ⟨b2, 286, none⟩))) rfl (by kernel_rfl) ?_
 refine Z3 (Z1 rfl) (d := 60) (v := (Zu tx)) rfl (Zj rfl (by kernel_rfl) (H9.cell 4 rfl rfl)) ?_
 refine ZE (Z1 rfl) (fun K12 hK12 => ?_)
 refine ZC (d := 61) rfl (by kernel_rfl) (Z3v w8 c bb g lc F Cn id Q k q hq R (H9.fin [0, 1, 2] (by decide) rfl) hlQ hlR hF hid fr ix tx hk) ?_
 rintro _ w13 ⟨rfl, (⟨k14, T15⟩ | ⟨k16, T17⟩)⟩
 ·have H18 : Sat w [Z5 c 112 ([(.int .i64 (F)), (.int .i64 (Cn)), (.int .i64 (id)), (.pointer (some ⟨bb, 0, none⟩)), (.slice (some ⟨g, 0, none⟩) Q.length lc)] : List Value), Zd 119 79 (.slice (some ⟨g, 0, none⟩) Q.length lc) Q.length (Q.flatMap Zf), Zh q.mp (Value.int .i64) Zu (Z0d R fr tx), Zb w (ZF [Z5 c 112 [.int .i64 F, .int .i64 Cn, .int .i64 id, .pointer (some ⟨bb, 0, none⟩), .slice (some ⟨g, 0, none⟩) Q.length lc], Zd 119 79 (.slice (some ⟨g, 0, none⟩) Q.length lc) Q.length (Q.flatMap Zf), Zh q.mp (Value.int .i64) Zu R]).fp, Z5 b2 82 (([(.int .i64 (13)), (.int .i64 (fr)), (.int .i64 (1000 + id)), (.int .i64 (0)), (.int .i64 (0))] : List Value) ++ hc Z8 ++ ([(.int .i64 (0)), (.int .i64 (0)), (.int .i64 (0)), (.int .i64 (0)), (.int .i64 (0)), (.int .i64 (0))] : List Value) ++ hc Z8 ++ ([(.int .u64 (0)), (.int .i64 (0)), (.int .i64 (0)), (.int .i64 (0)), (.int .i64 (0))] : List Value) ++ hc Z8 ++ ([(.int .i64 (0)), (.int .i64 (0)), (.int .i64 (0)), (.slice none 0 0), (.int .i64 (0)), (.int .i64 (0)), (.int .i64 (0))] : List Value) ++ hc Z8 ++ ([(.int .u64 (0)), (.int .i64 (0)), (.int .i64 (0)), (.int .i64 (0)), (.int .i64 (0)), (.int .u64 (0)), (.int .i64 (0)), (.int .i64 (0)), (.int .u64 (0)), (.slice none 0 0), (.int .i64 (0)), (.int .i64 (0)), (.int .i64 (0)), (.int .i64 (0)), (.int .i64 (0)), (.int .i64 (0)), (.int .i64 (0)), (.int .u64 (0)), (.slice none 0 0), (.slice none 0 0), (.slice none 0 0), (.int .i64 (0)), (.int .i64 (0)), (.int .i64 (0))] : List Value) ++ ([(.int .i64 (0)), (.int .i64 (0)), (.int .i64 (0))] : List Value) ++ hc Z8 ++ ([(.int .i64 (0)), (.int .i64 (0)), (.int .i64 (ix)), (.int .i64 (0)), (.int .i64 (0))] : List Value) ++ hc Z8 ++ ([(.int .u64 (0)), (.int .i64 (0)), (.slice none 0 0)] : List Value) ++ hc Z8 ++ ([(.int .i64 (0)), (.int .i64 (0)), (.int .i64 (0)), (.int .i64 (0)), (Zu tx), (.int .i64 (0)), (.int .i64 (0)), (.int .i64 (0)), (.int .u64 (0)), (.slice none 0 0), (.slice none 0 0), (.slice none 0 0), (.slice none 0 0)] : List Value))] w13 := (Sat.turnL (L' := [Z5 c 112 ([(.int .i64 (F)), (.int .i64 (Cn)), (.int .i64 (id)), (.pointer (some ⟨bb, 0, none⟩)), (.slice (some ⟨g, 0, none⟩) Q.length lc)] : List Value), Zd 119 79 (.slice (some ⟨g, 0, none⟩) Q.length lc) Q.length (Q.flatMap Zf), Zh q.mp (Value.int .i64) Zu (Z0d R fr tx)]) (R := [Zb w (ZF [Z5 c 112 [.int .i64 F, .int .i64 Cn, .int .i64 id, .pointer (some ⟨bb, 0, none⟩), .slice (some ⟨g, 0, none⟩) Q.length lc], Zd 119 79 (.slice (some ⟨g, 0, none⟩) Q.length lc) Q.length (Q.flatMap Zf), Zh q.mp (Value.int .i64) Zu R]).fp, Z5 b2 82 (([(.int .i64 (13)), (.int .i64 (fr)), (.int .i64 (1000 + id)), (.int .i64 (0)), (.int .i64 (0))] : List Value) ++ hc Z8 ++ ([(.int .i64 (0)), (.int .i64 (0)), (.int .i64 (0)), (.int .i64 (0)), (.int .i64 (0)), (.int .i64 (0))] : List Value) ++ hc Z8 ++ ([(.int .u64 (0)), (.int .i64 (0)), (.int .i64 (0)), (.int .i64 (0)), (.int .i64 (0))] : List Value) ++ hc Z8 ++ ([(.int .i64 (0)), (.int .i64 (0)), (.int .i64 (0)), (.slice none 0 0), (.int .i64 (0)), (.int .i64 (0)), (.int .i64 (0))] : List Value) ++ hc Z8 ++ ([(.int .u64 (0)), (.int .i64 (0)), (.int .i64 (0)), (.int .i64 (0)), (.int .i64 (0)), (.int .u64 (0)), (.int .i64 (0)), (.int .i64 (0)), (.int .u64 (0)), (.slice none 0 0), (.int .i64 (0)), (.int .i64 (0)), (.int .i64 (0)), (.int .i64 (0)), (.int .i64 (0)), (.int .i64 (0)), (.int .i64 (0)), (.int .u64 (0)), (.slice none 0 0), (.slice none 0 0), (.slice none 0 0), (.int .i64 (0)), (.int .i64 (0)), (.int .i64 (0))] : List Value) ++ ([(.int .i64 (0)), (.int .i64 (0)), (.int .i64 (0))] : List Value) ++ hc Z8 ++ ([(.int .i64 (0)), (.int .i64 (0)), (.int .i64 (ix)), (.int .i64 (0)), (.int .i64 (0))] : List Value) ++ hc Z8 ++ ([(.int .u64 (0)), (.int .i64 (0)), (.slice none 0 0)] : List Value) ++ hc Z8 ++ ([(.int .i64 (0)), (.int .i64 (0)), (.int .i64 (0)), (.int .i64 (0)), (Zu tx), (.int .i64 (0)), (.int .i64 (0)), (.int .i64 (0)), (.int .u64 (0)), (.slice none 0 0), (.slice none 0 0), (.slice none 0 0), (.slice none 0 0)] : List Value))]) H9 [0, 1, 2] [3, 4] (by decide) (by kernel_rfl) rfl T15).pick [0, 1, 2, 3, 4] (by decide)
  refine ⟨_, rfl, ?_⟩
  refine hK12 _ _ ?_
  clear hK12 K12
  refine Zm ?_
  refine Zz ?_
  refine Z7 ?_
  refine Zg ?_
  refine Zn ?_
  refine Z3 (Z1 rfl) (d := 4) (v := (.slice none 0 0)) rfl (by kernel_rfl) ?_
  refine Zm ?_
  refine Z7 ?_
  refine ZW ?_
  refine Z0J rfl (ZI (v := (.slice none 0 0)) rfl) ?_
  exact ⟨rfl, .inl ⟨k14, H18.pick [0, 1, 2, 3] (by decide)⟩⟩
 ·have H19 : Sat w [Z5 c 112 ([(.int .i64 (F)), (.int .i64 (Cn)), (.int .i64 (id)), (.pointer (some ⟨bb, 0, none⟩)), (.slice (some ⟨g, 0, none⟩) Q.length lc)] : List Value), Zd 119 79 (.slice (some ⟨g, 0, none⟩) Q.length lc) Q.length ((Q.set k (⟨q.x, q.pa, q.pc, q.P, q.no, q.ms, q.cb, q.ma, q.mr, q.op, q.pl, q.mp, true, ((Zq (Z0d R fr tx) fr).getD [])⟩ : Zl)).flatMap Zf), Zh q.mp (Value.int .i64) Zu (Z0d R fr tx), Zb w (ZF [Z5 c 112 [.int .i64 F, .int .i64 Cn, .int .i64 id, .pointer (some ⟨bb, 0, none⟩), .slice (some ⟨g, 0, none⟩) Q.length lc], Zd 119 79 (.slice (some ⟨g, 0, none⟩) Q.length lc) Q.length (Q.flatMap Zf), Zh q.mp (Value.int .i64) Zu R]).fp, Z5 b2 82 (([(.int .i64 (13)), (.int .i64 (fr)), (.int .i64 (1000 + id)), (.int .i64 (0)), (.int .i64 (0))] : List Value) ++ hc Z8 ++ ([(.int .i64 (0)), (.int .i64 (0)), (.int .i64 (0)), (.int .i64 (0)), (.int .i64 (0)), (.int .i64 (0))] : List Value) ++ hc Z8 ++ ([(.int .u64 (0)), (.int .i64 (0)), (.int .i64 (0)), (.int .i64 (0)), (.int .i64 (0))] : List Value) ++ hc Z8 ++ ([(.int .i64 (0)), (.int .i64 (0)), (.int .i64 (0)), (.slice none 0 0), (.int .i64 (0)), (.int .i64 (0)), (.int .i64 (0))] : List Value) ++ hc Z8 ++ ([(.int .u64 (0)), (.int .i64 (0)), (.int .i64 (0)), (.int .i64 (0)), (.int .i64 (0)), (.int .u64 (0)), (.int .i64 (0)), (.int .i64 (0)), (.int .u64 (0)), (.slice none 0 0), (.int .i64 (0)), (.int .i64 (0)), (.int .i64 (0)), (.int .i64 (0)), (.int .i64 (0)), (.int .i64 (0)), (.int .i64 (0)), (.int .u64 (0)), (.slice none 0 0), (.slice none 0 0), (.slice none 0 0), (.int .i64 (0)), (.int .i64 (0)), (.int .i64 (0))] : List Value) ++ ([(.int .i64 (0)), (.int .i64 (0)), (.int .i64 (0))] : List Value) ++ hc Z8 ++ ([(.int .i64 (0)), (.int .i64 (0)), (.int .i64 (ix)), (.int .i64 (0)), (.int .i64 (0))] : List Value) ++ hc Z8 ++ ([(.int .u64 (0)), (.int .i64 (0)), (.slice none 0 0)] : List Value) ++ hc Z8 ++ ([(.int .i64 (0)), (.int .i64 (0)), (.int .i64 (0)), (.int .i64 (0)), (Zu tx), (.int .i64 (0)), (.int .i64 (0)), (.int .i64 (0)), (.int .u64 (0)), (.slice none 0 0), (.slice none 0 0), (.slice none 0 0), (.slice none 0 0)] : List Value))] w13 := (Sat.turnL (L' := [Z5 c 112 ([(.int .i64 (F)), (.int .i64 (Cn)), (.int .i64 (id)), (.pointer (some ⟨bb, 0, none⟩)), (.slice (some ⟨g, 0, none⟩) Q.length lc)] : List Value), Zd 119 79 (.slice (some ⟨g, 0, none⟩) Q.length lc) Q.length ((Q.set k (⟨q.x, q.pa, q.pc, q.P, q.no, q.ms, q.cb, q.ma, q.mr, q.op, q.pl, q.mp, true, ((Zq (Z0d R fr tx) fr).getD [])⟩ : Zl)).flatMap Zf), Zh q.mp (Value.int .i64) Zu (Z0d R fr tx)]) (R := [Zb w (ZF [Z5 c 112 [.int .i64 F, .int .i64 Cn, .int .i64 id, .pointer (some ⟨bb, 0, none⟩), .slice (some ⟨g, 0, none⟩) Q.length lc], Zd 119 79 (.slice (some ⟨g, 0, none⟩) Q.length lc) Q.length (Q.flatMap Zf), Zh q.mp (Value.int .i64) Zu R]).fp, Z5 b2 82 (([(.int .i64 (13)), (.int .i64 (fr)), (.int .i64 (1000 + id)), (.int .i64 (0)), (.int .i64 (0))] : List Value) ++ hc Z8 ++ ([(.int .i64 (0)), (.int .i64 (0)), (.int .i64 (0)), (.int .i64 (0)), (.int .i64 (0)), (.int .i64 (0))] : List Value) ++ hc Z8 ++ ([(.int .u64 (0)), (.int .i64 (0)), (.int .i64 (0)), (.int .i64 (0)), (.int .i64 (0))] : List Value) ++ hc Z8 ++ ([(.int .i64 (0)), (.int .i64 (0)), (.int .i64 (0)), (.slice none 0 0), (.int .i64 (0)), (.int .i64 (0)), (.int .i64 (0))] : List Value) ++ hc Z8 ++ ([(.int .u64 (0)), (.int .i64 (0)), (.int .i64 (0)), (.int .i64 (0)), (.int .i64 (0)), (.int .u64 (0)), (.int .i64 (0)), (.int .i64 (0)), (.int .u64 (0)), (.slice none 0 0), (.int .i64 (0)), (.int .i64 (0)), (.int .i64 (0)), (.int .i64 (0)), (.int .i64 (0)), (.int .i64 (0)), (.int .i64 (0)), (.int .u64 (0)), (.slice none 0 0), (.slice none 0 0), (.slice none 0 0), (.int .i64 (0)), (.int .i64 (0)), (.int .i64 (0))] : List Value) ++ ([(.int .i64 (0)), (.int .i64 (0)), (.int .i64 (0))] : List Value) ++ hc Z8 ++ ([(.int .i64 (0)), (.int .i64 (0)), (.int .i64 (ix)), (.int .i64 (0)), (.int .i64 (0))] : List Value) ++ hc Z8 ++ ([(.int .u64 (0)), (.int .i64 (0)), (.slice none 0 0)] : List Value) ++ hc Z8 ++ ([(.int .i64 (0)), (.int .i64 (0)), (.int .i64 (0)), (.int .i64 (0)), (Zu tx), (.int .i64 (0)), (.int .i64 (0)), (.int .i64 (0)), (.int .u64 (0)), (.slice none 0 0), (.slice none 0 0), (.slice none 0 0), (.slice none 0 0)] : List Value))]) H9 [0, 1, 2] [3, 4] (by decide) (by kernel_rfl) rfl T17).pick [0, 1, 2, 3, 4] (by decide)
  refine ⟨_, rfl, ?_⟩
  refine hK12 _ _ ?_
  clear hK12 K12
  refine Zm ?_
  refine Zz ?_
  refine Z7 ?_
  refine Zg ?_
  refine Zn ?_
  refine Z3 (Z1 rfl) (d := 4) (v := (.slice none 0 0)) rfl (by kernel_rfl) ?_
  refine Zm ?_
  refine Z7 ?_
  refine ZW ?_
  refine Z0J rfl (ZI (v := (.slice none 0 0)) rfl) ?_
  exact ⟨rfl, .inr ⟨k16, H19.pick [0, 1, 2, 3] (by decide)⟩⟩
end Go.Proofs.YtgigjkjdmalmaaaGreat
