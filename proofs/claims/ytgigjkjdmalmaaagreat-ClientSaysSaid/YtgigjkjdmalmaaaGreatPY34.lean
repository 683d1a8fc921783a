/- WHAT IS PROVED: contracts and plain laws of ClP. Conditions: stated with each. -/
import Derived.Test.YtgigjkjdmalmaaaGreatPY05
import Derived.Test.YtgigjkjdmalmaaaGreatPY14
import Derived.Test.YtgigjkjdmalmaaaGreatPY23
set_option maxHeartbeats 4000000
set_option maxRecDepth 100000
namespace Go.Proofs.YtgigjkjdmalmaaaGreat
open Go.RowKit
abbrev Z9w (p0 : Int) (p1 : Int) (p2 : Int) (p3 : Nat) (p4 : Nat) (p5 : Nat) (p6 : Nat) : List Value := ([(.int .i64 p0), (.int .i64 p1), (.int .i64 p2), (pt p3 0), (.slice (some ⟨p4, 0, none⟩) p5 p6)] : List Value)
abbrev Z80 (p0 : Int) : List Value := ([(.int .i64 p0)] : List Value)
def RpPost (w w' : World) (c bb g lc : Nat) (F Cn id : Int) (Q : List Zq) (k : Nat) (q : Zq) (R : List (Int × List UInt8)) (fr : Int) (tx : List UInt8) : Prop :=
 ((q.dn = true ∨ (Z1Q (Z0U R fr tx) ((Zn (Z0U R fr tx) fr).getD []) : Int) < F + 1) ∧ Sat w [Z3 c 112 [.int .i64 F, .int .i64 Cn, .int .i64 id, .pointer (some ⟨bb, 0, none⟩), .slice (some ⟨g, 0, none⟩) Q.length lc], Zc 119 79 (.slice (some ⟨g, 0, none⟩) Q.length lc) Q.length (Q.flatMap Zh), ZI q.mp (Value.int .i64) ZD (Z0U R fr tx), Z7 w (ZL [Z3 c 112 [.int .i64 F, .int .i64 Cn, .int .i64 id, .pointer (some ⟨bb, 0, none⟩), .slice (some ⟨g, 0, none⟩) Q.length lc], Zc 119 79 (.slice (some ⟨g, 0, none⟩) Q.length lc) Q.length (Q.flatMap Zh), ZI q.mp (Value.int .i64) ZD R]).fp] w') ∨
 ((q.dn = false ∧ F + 1 ≤ (Z1Q (Z0U R fr tx) ((Zn (Z0U R fr tx) fr).getD []) : Int)) ∧ Sat w [Z3 c 112 [.int .i64 F, .int .i64 Cn, .int .i64 id, .pointer (some ⟨bb, 0, none⟩), .slice (some ⟨g, 0, none⟩) Q.length lc], Zc 119 79 (.slice (some ⟨g, 0, none⟩) Q.length lc) Q.length ((Q.set k (⟨q.x, q.pa, q.pc, q.P, q.no, q.ms, q.cb, q.ma, q.mr, q.op, q.pl, q.mp, true, ((Zn (Z0U R fr tx) fr).getD [])⟩ : Zq)).flatMap Zh), ZI q.mp (Value.int .i64) ZD (Z0U R fr tx), Z7 w (ZL [Z3 c 112 [.int .i64 F, .int .i64 Cn, .int .i64 id, .pointer (some ⟨bb, 0, none⟩), .slice (some ⟨g, 0, none⟩) Q.length lc], Zc 119 79 (.slice (some ⟨g, 0, none⟩) Q.length lc) Q.length (Q.flatMap Zh), ZI q.mp (Value.int .i64) ZD R]).fp] w')
theorem Z4F (w : World) : (zeroValue 9).run Tryz.prog w = .ok (ZD []) w := by kernel_rfl
theorem Z6w (w : World) (c bb g lc : Nat) (F Cn id : Int) (Q : List Zq) (k : Nat) (q : Zq) (hq : Q[k]? = some q) (R : List (Int × List UInt8)) (hA : (ZL [Z3 c 112 [.int .i64 F, .int .i64 Cn, .int .i64 id, .pointer (some ⟨bb, 0, none⟩), .slice (some ⟨g, 0, none⟩) Q.length lc], Zc 119 79 (.slice (some ⟨g, 0, none⟩) Q.length lc) Q.length (Q.flatMap Zh), ZI q.mp (Value.int .i64) ZD R]).ok w) (hlQ : Q.length ≤ 64) (hlR : R.length ≤ 1000) (hF : 1 ≤ F ∧ F ≤ 100) (hid : 0 ≤ id ∧ id ≤ 1000000) (fr ix : Int) (tx : List UInt8) (hk : Zc2 Q ix = (k : Int)) :
  Calls Tryz.prog 40 #[(.pointer (some ⟨c, 0, none⟩)), (.int .i64 (fr)), (.int .i64 (ix)), (ZD tx)] w fun e w' => e = .returned (.tuple #[]) ∧ RpPost w w' c bb g lc F Cn id Q k q R fr tx := by
 have hkl : k < Q.length := (List.getElem?_eq_some_iff.1 hq).1
 have H := Sat.start _ hA
 refine Zg Tryz.func40 rfl 92 rfl (Nat.le_of_ble_eq_true rfl) ?_
 apply zsl
 refine zwd fun Kq kq => ?_
 refine zdb (Z80 ix) H ?_
 intro b2 w3 H4
 refine kq _ _ ?_
 clear kq Kq
 apply Z0N
 refine wv 15 (pt c 0) ?_
 refine wv 16 (pt c 0) ?_
 refine wv 17 (pt c 4) ?_
 refine zw1 18 (.slice (some ⟨g, 0, none⟩) Q.length lc) (H4.cell 0 rfl rfl) ?_
 refine wv 19 (.func (.func 65) #[] #[(pt b2 0)]) ?_
 refine zwd fun Kq kq => ?_
 refine zdq 20 ((by have h_ := Z6q w3 b2 ix (H4.at 4 rfl) g lc Q (H4.at 1 rfl) (by omega); rw [hk] at h_; exact h_)) H4 ?_
 intro w6 H7
 refine kq _ _ ?_
 clear kq Kq
 refine wv 8 (.int .i64 ((k : Int))) ?_
 apply znt
 apply Zf
 apply zsl
 refine wv 21 (.int .i64 ((k : Int))) ?_
 refine wv 22 (.bool (decide ((k : Int) < 0))) ?_
 apply znt
 have b9 : (decide ((k : Int) < 0)) = false := by exact decide_eq_false (by omega)
 have g10 := of_decide_eq_false b9
 refine Z1a _ b9 ?_
 apply ZF
 apply ztn
 apply zsl
 refine wv 23 (pt c 0) ?_
 refine wv 24 (pt c 0) ?_
 refine wv 25 (pt c 4) ?_
 refine zw1 26 (.slice (some ⟨g, 0, none⟩) Q.length lc) (H7.cell 0 rfl rfl) ?_
 refine wv 27 (.int .i64 ((k : Int))) ?_
 refine wv 28 (.pointer (some ⟨g, 0 + ((k : Int)).toNat * 79, none⟩)) ?_ (hr := Z0r (E := 119) (by kernel_rfl) (by kernel_rfl) (Nat.le_of_ble_eq_true rfl) rfl rfl (by omega) (by omega))
 refine wv 9 (.pointer (some ⟨g, 0 + ((k : Int)).toNat * 79, none⟩)) ?_
 apply znt
 refine Z0v ([10, 11] ++ List.range' 29 17) (fun G_ W_ => ∃ (R2 : List (Int × List UInt8)), (R2 = (Z0U R fr tx)) ∧ Sat w [Z3 c 112 (Z9w F Cn id bb g Q.length lc), Zc 119 79 (.slice (some ⟨g, 0, none⟩) Q.length lc) Q.length (Q.flatMap Zh), ZI q.mp (Value.int .i64) ZD R2, Z7 w (ZL [Z3 c 112 [.int .i64 F, .int .i64 Cn, .int .i64 id, .pointer (some ⟨bb, 0, none⟩), .slice (some ⟨g, 0, none⟩) Q.length lc], Zc 119 79 (.slice (some ⟨g, 0, none⟩) Q.length lc) Q.length (Q.flatMap Zh), ZI q.mp (Value.int .i64) ZD R]).fp, Z3 b2 3 (Z80 ix)] W_) ?_ ?_
 ·apply zsl
  refine wv 30 (.pointer (some ⟨g, 0 + ((k : Int)).toNat * 79, none⟩)) ?_
  refine wv 31 (.pointer (some ⟨g, 0 + ((k : Int)).toNat * 79, none⟩)) ?_
  refine wv 32 (.pointer (some ⟨g, 0 + ((k : Int)).toNat * 79 + 76, none⟩)) ?_
  refine zw1 33 (.map (some q.mp)) (ZS (H7.at 1 rfl) rfl ZB hq 76 rfl (show 0 + ((k : Int)).toNat * 79 + 76 = k * 79 + 76 by omega) (by kernel_rfl)) ?_
  refine wv 34 (.int .i64 (fr)) ?_
  refine wv 35 (.tuple #[(ZD ((Zn R fr).getD [])), (.bool ((Zn R fr).isSome))]) ?_ (hr := Z4d (kt := 3) (et := 9) (KeyTy.int (by kernel_rfl)) (by kernel_rfl) Z4F rfl fr rfl (H7.at 2 rfl) (Z8P ZD _ _) rfl)
  refine wv 29 (.tuple #[(ZD ((Zn R fr).getD [])), (.bool ((Zn R fr).isSome))]) ?_
  refine wv 36 (ZD ((Zn R fr).getD [])) ?_
  refine wv 37 (.bool ((Zn R fr).isSome)) ?_
  refine wv 10 (ZD ((Zn R fr).getD [])) ?_
  refine wv 11 (.bool ((Zn R fr).isSome)) ?_
  apply Z0N
  refine wv 38 (.bool ((Zn R fr).isSome)) ?_
  refine wv 39 (.bool (!((Zn R fr).isSome))) ?_
  apply znt
  refine (ZC (!((Zn R fr).isSome))).elim (fun b12 => ?_) (fun b12 => ?_)
  ·have g13 := Z12 b12
   refine Z1q _ b12 ?_
   apply Zt
   refine wv 40 (.pointer (some ⟨g, 0 + ((k : Int)).toNat * 79, none⟩)) ?_
   refine wv 41 (.pointer (some ⟨g, 0 + ((k : Int)).toNat * 79, none⟩)) ?_
   refine wv 42 (.pointer (some ⟨g, 0 + ((k : Int)).toNat * 79 + 76, none⟩)) ?_
   refine zw1 43 (.map (some q.mp)) (ZS (H7.at 1 rfl) rfl ZB hq 76 rfl (show 0 + ((k : Int)).toNat * 79 + 76 = k * 79 + 76 by omega) (by kernel_rfl)) ?_
   refine wv 44 (.int .i64 (fr)) ?_
   refine wv 45 (ZD tx) ?_
   refine zwd fun Kq kq => ?_
   refine Z1K (kt := 3) (et := 9) rfl H7 2 rfl (KeyTy.int (by kernel_rfl)) (by kernel_rfl) rfl fr rfl tx rfl ?_
   intro w16 H17
   refine kq _ _ ?_
   clear kq Kq
   apply Zu
   have H18 := H17.pk [0, 1, 2, 3, 4]
   have hno : fr ∉ R.map (·.1) := Z1h.1 (by have q_ := b12; simpa using q_)
   refine ZJ ?_ ⟨(Z2Y R fr tx), (Z65 hno), H18⟩
   exact zs
  have g19 := Z03 b12
  refine Z1a _ b12 ?_
  apply ZF
  have H21 := H7.pk [0, 1, 2, 3, 4]
  have hin_ : fr ∈ R.map (·.1) := Decidable.byContradiction fun h_ => by have q_ := b12; rw [Z1h.2 h_] at q_; simp at q_
  refine ZJ ?_ ⟨R, (Z45 hin_).symm, H21⟩
  exact zs
 rintro f22 w23 ⟨R2, hR2, H24⟩
 apply zsl
 refine wv 12 (.int .i64 (0)) ?_
 apply znt
 refine Z0v ([12, 14] ++ List.range' 46 19) (fun G_ W_ => G_ 12 = (.int .i64 ((Z1Q R2 ((Zn R2 fr).getD []) : Int))) ∧ Sat w [Z3 c 112 (Z9w F Cn id bb g Q.length lc), Zc 119 79 (.slice (some ⟨g, 0, none⟩) Q.length lc) Q.length (Q.flatMap Zh), ZI q.mp (Value.int .i64) ZD R2, Z7 w (ZL [Z3 c 112 [.int .i64 F, .int .i64 Cn, .int .i64 id, .pointer (some ⟨bb, 0, none⟩), .slice (some ⟨g, 0, none⟩) Q.length lc], Zc 119 79 (.slice (some ⟨g, 0, none⟩) Q.length lc) Q.length (Q.flatMap Zh), ZI q.mp (Value.int .i64) ZD R]).fp, Z3 b2 3 (Z80 ix)] W_) ?_ ?_
 ·apply Zf
  have hM1 : MapAt w23 q.mp (Value.int .i64) ZD R2 := H24.at 2 rfl
  have hrow1 : (Zc 119 79 (.slice (some ⟨g, 0, none⟩) Q.length lc) Q.length (Q.flatMap Zh)).ok w23 := H24.at 1 rfl
  have hlR2 : R2.length ≤ 1001 := by rw [hR2]; exact Nat.le_trans Z3Z (by omega)
  have HK := Sat.start0 w23
  apply Zt
  refine wv 46 (.pointer (some ⟨g, 0 + ((k : Int)).toNat * 79, none⟩)) ?_
  refine wv 47 (.pointer (some ⟨g, 0 + ((k : Int)).toNat * 79, none⟩)) ?_
  refine wv 48 (.pointer (some ⟨g, 0 + ((k : Int)).toNat * 79 + 76, none⟩)) ?_
  refine zw1 49 (.map (some q.mp)) (ZS (HK.roCk 0 rfl hrow1 (fun _ _ h => h)) rfl ZB hq 76 rfl (show 0 + ((k : Int)).toNat * 79 + 76 = k * 79 + 76 by omega) (by kernel_rfl)) ?_
  refine zwd fun Kq kq => ?_
  refine Z7T (kt := 3) (et := 9) rfl HK 0 rfl hM1 (fun h => h) (by kernel_rfl) rfl ?_
  intro r27 w28 H29
  refine kq _ _ ?_
  clear kq Kq
  apply znt
  apply ZA
  refine ZW ([12, 14] ++ List.range' 51 14) (fun F_ W_ m_ => ∃ (seen rest : List (Int × List UInt8)), F_ 12 = (.int .i64 ((Z1Q seen ((Zn R2 fr).getD []) : Int))) ∧ (R2.Perm (seen ++ rest)) ∧ Sat w23 [Z7 w23 (fun _ => False), Z8u w23 r27 q.mp (Value.int .i64) ZD R2 seen] W_ ∧ m_ = rest.length) _ ⟨[], R2, (show ((.int .i64 (0)) : Value) = _ by first | rfl | go_num), (List.Perm.refl _), H29, rfl⟩ ?_
  rintro g30 w31 _ ⟨seen, rest, v33, hperm, H32, rfl⟩
  refine Zo 12 _ v33 ?_
  apply zsl
  refine zwd fun Kq kq => ?_
  refine Z95 rfl H32 1 rfl 0 rfl (fun h => h) rfl ?_ ?_
  ·intro p36
   refine kq _ _ ?_
   clear kq Kq
   refine wv 52 (.bool false) ?_
   apply znt
   apply Zf
   refine Z0y rfl ?_
   apply zxb
   have H37 := H24.keepU (H32.upd 0 rfl [] (fun _ h => h.elim))
   refine ZJ ?_ ⟨(congrArg (fun z_ : Nat => Value.int .i64 (z_ : Int)) (Z7S (x := ((Zn R2 fr).getD [])) p36).symm), H37⟩
   exact zs
  intro y38 t39 w40 p41 H42
  refine kq _ _ ?_
  clear kq Kq
  refine wv 52 (.bool true) ?_
  apply znt
  apply Zf
  refine Z0R rfl ?_
  apply ZF
  apply ztn
  apply ZA
  apply zsl
  refine wv 53 (.tuple #[(.int .i64 (y38.1)), (ZD y38.2)]) ?_ (hr := H42.entryR 1 rfl 0 rfl (fun h => h) rfl)
  refine wv 54 (ZD y38.2) ?_
  refine wv 14 (ZD y38.2) ?_
  apply Z0N
  refine wv 55 (ZD y38.2) ?_
  refine wv 56 (.pointer (some ⟨g, 0 + ((k : Int)).toNat * 79, none⟩)) ?_
  refine wv 57 (.pointer (some ⟨g, 0 + ((k : Int)).toNat * 79, none⟩)) ?_
  refine wv 58 (.pointer (some ⟨g, 0 + ((k : Int)).toNat * 79 + 76, none⟩)) ?_
  refine zw1 59 (.map (some q.mp)) (ZS (H42.roCk 0 rfl hrow1 (fun _ _ h => h)) rfl ZB hq 76 rfl (show 0 + ((k : Int)).toNat * 79 + 76 = k * 79 + 76 by omega) (by kernel_rfl)) ?_
  refine wv 60 (.int .i64 (fr)) ?_
  refine wv 61 (ZD ((Zn R2 fr).getD [])) ?_ (hr := Z1D (kt := 3) (et := 9) (KeyTy.int (by kernel_rfl)) (by kernel_rfl) Z4F rfl fr rfl (H42.roMap 0 rfl hM1 (fun h => h)) (Z8P ZD _ _))
  refine wv 62 (.bool (decide (y38.2 = ((Zn R2 fr).getD [])))) ?_ (hr := ZbV y38.2 ((Zn R2 fr).getD []) rfl rfl)
  apply znt
  refine (ZC (decide (y38.2 = ((Zn R2 fr).getD [])))).elim (fun b43 => ?_) (fun b43 => ?_)
  ·have g44 := of_decide_eq_true b43
   refine Z1q _ b43 ?_
   apply Zt
   refine wv 63 (.int .i64 ((Z1Q seen ((Zn R2 fr).getD []) : Int))) ?_
   refine wv 64 (.int .i64 ((Z1Q seen ((Zn R2 fr).getD []) : Int) + 1)) ?_ (hr := Z0I (z := (Z1Q seen ((Zn R2 fr).getD []) : Int) + 1) (by kernel_rfl) (IntWalk.i64_in _ (by have h1 := hperm.length_eq; have h2 := Zbn (l := seen) (x := ((Zn R2 fr).getD [])); simp only [List.length_append] at h1; omega)))
   refine wv 12 (.int .i64 ((Z1Q seen ((Zn R2 fr).getD []) : Int) + 1)) ?_
   apply Zu
   apply Zw
   refine ZE ?_ _ ⟨(seen ++ [y38]), t39, (show ((.int .i64 ((Z1Q seen ((Zn R2 fr).getD []) : Int) + 1)) : Value) = _ by rw [Z3q, Z4b]; have q_ := b43; simp at q_; simp [q_]), p41, H42, rfl⟩ (by have h1 := hperm.length_eq; have h2 := p41.length_eq; simp only [List.length_append, List.length_cons, List.length_nil] at h1 h2; omega)
   exact zs
  have g46 := of_decide_eq_false b43
  refine Z1a _ b43 ?_
  apply ZF
  apply Zw
  refine ZE ?_ _ ⟨(seen ++ [y38]), t39, (show ((.int .i64 ((Z1Q seen ((Zn R2 fr).getD []) : Int))) : Value) = _ by rw [Z3q, Z4b]; have q_ := b43; simp at q_; simp [q_]), p41, H42, rfl⟩ (by have h1 := hperm.length_eq; have h2 := p41.length_eq; simp only [List.length_append, List.length_cons, List.length_nil] at h1 h2; omega)
  exact zs
 rintro f48 w49 ⟨v51, H50⟩
 refine Zo 12 _ v51 ?_
 apply zsl
 refine wv 65 (.pointer (some ⟨g, 0 + ((k : Int)).toNat * 79, none⟩)) ?_
 refine wv 66 (.pointer (some ⟨g, 0 + ((k : Int)).toNat * 79, none⟩)) ?_
 refine wv 67 (.pointer (some ⟨g, 0 + ((k : Int)).toNat * 79 + 77, none⟩)) ?_
 refine zw1 68 (.bool (q.dn)) (ZS (H50.at 1 rfl) rfl ZB hq 77 rfl (show 0 + ((k : Int)).toNat * 79 + 77 = k * 79 + 77 by omega) (by kernel_rfl)) ?_
 refine wv 69 (.bool (!(q.dn))) ?_
 refine wv 70 (.bool (!(q.dn))) ?_
 refine (ZC (!(q.dn))).elim (fun b52 => ?_) (fun b52 => ?_)
 ·have g53 := Z12 b52
  refine ZP 70 (.bool true) (congrArg Value.bool b52) ?_
  refine wy 5 70 true 71 (.int .i64 ((Z1Q R2 ((Zn R2 fr).getD []) : Int))) ?_
  refine wy 5 70 true 72 (pt c 0) ?_
  refine wy 5 70 true 73 (pt c 0) ?_
  refine wy 5 70 true 74 (pt c 0) ?_
  refine wy 5 70 true 75 (pt c 0) ?_
  refine wy 5 70 true 76 (.int .i64 (F)) ?_ (hr := Zi rfl (by kernel_rfl) (H50.cell 0 rfl rfl))
  refine wy 5 70 true 77 (.int .i64 (F + 1)) ?_ (hr := Z0I (z := F + 1) (by kernel_rfl) (IntWalk.i64_in _ (by omega)))
  refine wy 5 70 true 78 (.bool (decide ((Z1Q R2 ((Zn R2 fr).getD []) : Int) ≥ (F + 1)))) ?_
  refine wv 79 (.bool (decide ((Z1Q R2 ((Zn R2 fr).getD []) : Int) ≥ (F + 1)))) ?_
  apply znt
  refine (ZC (decide ((Z1Q R2 ((Zn R2 fr).getD []) : Int) ≥ (F + 1)))).elim (fun b55 => ?_) (fun b55 => ?_)
  ·have g56 := of_decide_eq_true b55
   refine Z1q _ b55 ?_
   apply Zt
   refine wv 80 (.pointer (some ⟨g, 0 + ((k : Int)).toNat * 79, none⟩)) ?_
   refine wv 81 (.pointer (some ⟨g, 0 + ((k : Int)).toNat * 79, none⟩)) ?_
   refine wv 82 (.pointer (some ⟨g, 0 + ((k : Int)).toNat * 79, none⟩)) ?_
   refine wv 83 (.pointer (some ⟨g, 0 + ((k : Int)).toNat * 79, none⟩)) ?_
   refine wv 84 (.pointer (some ⟨g, 0 + ((k : Int)).toNat * 79 + 76, none⟩)) ?_
   refine zw1 85 (.map (some q.mp)) (ZS (H50.at 1 rfl) rfl ZB hq 76 rfl (show 0 + ((k : Int)).toNat * 79 + 76 = k * 79 + 76 by omega) (by kernel_rfl)) ?_
   refine wv 86 (.int .i64 (fr)) ?_
   refine wv 87 (ZD ((Zn R2 fr).getD [])) ?_ (hr := Z1D (kt := 3) (et := 9) (KeyTy.int (by kernel_rfl)) (by kernel_rfl) Z4F rfl fr rfl (H50.at 2 rfl) (Z8P ZD _ _))
   refine wv 88 (.pointer (some ⟨g, 0 + ((k : Int)).toNat * 79, none⟩)) ?_
   refine wv 89 (.pointer (some ⟨g, 0 + ((k : Int)).toNat * 79 + 77, none⟩)) ?_
   refine zwd fun Kq kq => ?_
   refine Z2B (size := 79) (vs := ([(.bool true)] : List Value)) ZB rfl H50 1 rfl rfl rfl rfl (by kernel_rfl) (Nat.le_of_ble_eq_true (by kernel_rfl)) (by kernel_rfl) k 77 (⟨q.x, q.pa, q.pc, q.P, q.no, q.ms, q.cb, q.ma, q.mr, q.op, q.pl, q.mp, true, q.rp⟩ : Zq) hq (show 0 + ((k : Int)).toNat * 79 + 77 = k * 79 + 77 by omega) (Nat.le_of_ble_eq_true (by kernel_rfl)) (by kernel_rfl) ?_
   intro w59 H60
   have hlw59 : (Q.set k (⟨q.x, q.pa, q.pc, q.P, q.no, q.ms, q.cb, q.ma, q.mr, q.op, q.pl, q.mp, true, q.rp⟩ : Zq)).length = Q.length := List.length_set
   have h61 : (Q.set k (⟨q.x, q.pa, q.pc, q.P, q.no, q.ms, q.cb, q.ma, q.mr, q.op, q.pl, q.mp, true, q.rp⟩ : Zq))[k]? = some (⟨q.x, q.pa, q.pc, q.P, q.no, q.ms, q.cb, q.ma, q.mr, q.op, q.pl, q.mp, true, q.rp⟩ : Zq) := List.getElem?_set_self (by omega)
   refine kq _ _ ?_
   clear kq Kq
   refine wv 90 (.pointer (some ⟨g, 0 + ((k : Int)).toNat * 79, none⟩)) ?_
   refine wv 91 (.pointer (some ⟨g, 0 + ((k : Int)).toNat * 79 + 78, none⟩)) ?_
   refine zwd fun Kq kq => ?_
   refine Z2B (size := 79) (vs := ([(ZD ((Zn R2 fr).getD []))] : List Value)) ZB rfl H60 1 rfl rfl rfl rfl (by kernel_rfl) (Nat.le_of_ble_eq_true (by kernel_rfl)) (by kernel_rfl) k 78 (⟨q.x, q.pa, q.pc, q.P, q.no, q.ms, q.cb, q.ma, q.mr, q.op, q.pl, q.mp, true, ((Zn R2 fr).getD [])⟩ : Zq) h61 (show 0 + ((k : Int)).toNat * 79 + 78 = k * 79 + 78 by omega) (Nat.le_of_ble_eq_true (by kernel_rfl)) (by kernel_rfl) ?_
   intro w63 H64
   have hlw63 : ((Q.set k (⟨q.x, q.pa, q.pc, q.P, q.no, q.ms, q.cb, q.ma, q.mr, q.op, q.pl, q.mp, true, q.rp⟩ : Zq)).set k (⟨q.x, q.pa, q.pc, q.P, q.no, q.ms, q.cb, q.ma, q.mr, q.op, q.pl, q.mp, true, ((Zn R2 fr).getD [])⟩ : Zq)).length = (Q.set k (⟨q.x, q.pa, q.pc, q.P, q.no, q.ms, q.cb, q.ma, q.mr, q.op, q.pl, q.mp, true, q.rp⟩ : Zq)).length := List.length_set
   have h65 : ((Q.set k (⟨q.x, q.pa, q.pc, q.P, q.no, q.ms, q.cb, q.ma, q.mr, q.op, q.pl, q.mp, true, q.rp⟩ : Zq)).set k (⟨q.x, q.pa, q.pc, q.P, q.no, q.ms, q.cb, q.ma, q.mr, q.op, q.pl, q.mp, true, ((Zn R2 fr).getD [])⟩ : Zq))[k]? = some (⟨q.x, q.pa, q.pc, q.P, q.no, q.ms, q.cb, q.ma, q.mr, q.op, q.pl, q.mp, true, ((Zn R2 fr).getD [])⟩ : Zq) := List.getElem?_set_self (by omega)
   refine kq _ _ ?_
   clear kq Kq
   apply Zu
   refine Z0D ?_
   refine Z7a rfl  ?_
   have H66 : Sat w [Z3 c 112 (Z9w F Cn id bb g Q.length lc), Zc 119 79 (.slice (some ⟨g, 0, none⟩) Q.length lc) Q.length (((Q.set k (⟨q.x, q.pa, q.pc, q.P, q.no, q.ms, q.cb, q.ma, q.mr, q.op, q.pl, q.mp, true, q.rp⟩ : Zq)).set k (⟨q.x, q.pa, q.pc, q.P, q.no, q.ms, q.cb, q.ma, q.mr, q.op, q.pl, q.mp, true, ((Zn R2 fr).getD [])⟩ : Zq)).flatMap Zh), ZI q.mp (Value.int .i64) ZD R2, Z7 w (ZL [Z3 c 112 [.int .i64 F, .int .i64 Cn, .int .i64 id, .pointer (some ⟨bb, 0, none⟩), .slice (some ⟨g, 0, none⟩) Q.length lc], Zc 119 79 (.slice (some ⟨g, 0, none⟩) Q.length lc) Q.length (Q.flatMap Zh), ZI q.mp (Value.int .i64) ZD R]).fp] w63 := H64.pick [0, 1, 2, 3] (by decide)
   subst hR2
   exact ⟨rfl, .inr ⟨⟨by first | assumption | (simp_all; done), by omega⟩, H66.cast (by rw [List.set_set])⟩⟩
  have g67 := of_decide_eq_false b55
  refine Z1a _ b55 ?_
  apply ZF
  refine Z0D ?_
  refine Z7a rfl  ?_
  have H69 := H50.pk [0, 1, 2, 3]
  subst hR2
  exact ⟨rfl, .inl ⟨by first | (left; assumption) | (left; simp_all; done) | (right; omega), H69⟩⟩
 have g70 := Z03 b52
 refine ZP 70 (.bool false) (congrArg Value.bool b52) ?_
 iterate 8 refine wn 5 70 true ?_
 refine wv 79 (.bool false) ?_
 apply znt
 refine Z0y rfl ?_
 apply ZF
 refine Z0D ?_
 refine Z7a rfl  ?_
 have H72 := H50.pk [0, 1, 2, 3]
 subst hR2
 exact ⟨rfl, .inl ⟨by first | (left; assumption) | (left; simp_all; done) | (right; omega), H72⟩⟩
theorem Z5B (w : World) (c bb g lc : Nat) (F Cn id : Int) (Q : List Zq) (hcl : (Z3 c 112 [.int .i64 F, .int .i64 Cn, .int .i64 id, .pointer (some ⟨bb, 0, none⟩), .slice (some ⟨g, 0, none⟩) Q.length lc]).ok w) (hrow : (Zc 119 79 (.slice (some ⟨g, 0, none⟩) Q.length lc) Q.length (Q.flatMap Zh)).ok w) (hlQ : Q.length ≤ 64) (fr ix : Int) (tx : List UInt8) (hk : Zc2 Q ix = -1) :
  Calls Tryz.prog 40 #[(.pointer (some ⟨c, 0, none⟩)), (.int .i64 (fr)), (.int .i64 (ix)), (ZD tx)] w fun e w' => e = .returned (.tuple #[]) ∧ Upd [] w w' := by
 have H := Sat.start0 w
 refine Zg Tryz.func40 rfl 92 rfl (Nat.le_of_ble_eq_true rfl) ?_
 apply zsl
 refine zwd fun Kq kq => ?_
 refine zdb (Z80 ix) H ?_
 intro b2 w3 H4
 refine kq _ _ ?_
 clear kq Kq
 apply Z0N
 refine wv 15 (pt c 0) ?_
 refine wv 16 (pt c 0) ?_
 refine wv 17 (pt c 4) ?_
 refine zw1 18 (.slice (some ⟨g, 0, none⟩) Q.length lc) (H4.roCell 0 rfl hcl (fun h => h) rfl) ?_
 refine wv 19 (.func (.func 65) #[] #[(pt b2 0)]) ?_
 refine zwd fun Kq kq => ?_
 refine zdq 20 ((by have h_ := Z6q w3 b2 ix (H4.at 1 rfl) g lc Q (H4.roCk 0 rfl hrow (fun _ _ h => h)) (by omega); rw [hk] at h_; exact h_)) H4 ?_
 intro w6 H7
 refine kq _ _ ?_
 clear kq Kq
 refine wv 8 (.int .i64 (-1)) ?_
 apply znt
 apply Zf
 apply zsl
 refine wv 21 (.int .i64 (-1)) ?_
 refine wv 22 (.bool true) ?_
 apply znt
 refine Z0R rfl ?_
 apply Zz
 apply ZY
 refine Z7a rfl  ?_
 exact ⟨rfl, H7.upd 0 rfl [] (fun _ h => h.elim)⟩
end Go.Proofs.YtgigjkjdmalmaaaGreat
