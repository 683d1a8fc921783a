/- WHAT IS PROVED: contracts and plain laws of ClR, SilM. Conditions: stated with each. -/
import Derived.Test.YtgigjkjdmalmaaaGreatPY05
import Derived.Test.YtgigjkjdmalmaaaGreatPY12
import Derived.Test.YtgigjkjdmalmaaaGreatPY14
import Derived.Test.YtgigjkjdmalmaaaGreatPY17
set_option maxHeartbeats 4000000
set_option maxRecDepth 100000
namespace Go.Proofs.YtgigjkjdmalmaaaGreat
open Go.RowKit
abbrev Z1m (p0 : Option Addr) (p1 : List UInt8) (p2 : Nat) : Ck := Zc 5 1 (.slice p0 p1.length p2) p1.length (p1.flatMap ZH)
abbrev Z4l (p0 : Int) (p1 : Int) (p2 : Int) (p3 : Nat) (p4 : Nat) (p5 : Nat) (p6 : Nat) : List Value := ([(.int .i64 p0), (.int .i64 p1), (.int .i64 p2), (pt p3 0), (.slice (some ⟨p4, 0, none⟩) p5 p6)] : List Value)
abbrev Z38 (p0 : Int) (p1 : Int) (p2 : Int) (p3 : Z1e) (p4 : Int) : List Value := ([(.int .i64 p0), (.int .i64 p1), (.int .i64 p2)] : List Value) ++ hc p3 ++ ([(.int .u64 p4)] : List Value)
abbrev Z2d (p0 : Int) (p1 : EntD) : List Value := ([(.int .i64 p0), (.int .i64 p1.cl), (.int .i64 p1.sq)] : List Value) ++ hc p1.h ++ ([(.int .u64 p1.t)] : List Value)
abbrev Zbt : List Value := ([(.int .i64 (0)), (.int .i64 (0)), (.int .i64 (0))] : List Value) ++ hc Zx ++ ([(.int .u64 (0))] : List Value)
def RcPost (w w' : World) (e : Ending) (c bb g lc : Nat) (F Cn id : Int) (Q : List Zq) (k : Nat) (q : Zq) (R : List (Int × RcD)) (fr ix sq tm : Int) : Prop :=
 ((q.op = true ∨ (Z1Q (Z0U R fr (⟨ix, ⟨id, sq, q.x.h, tm⟩⟩ : RcD)) ((Zn (Z0U R fr (⟨ix, ⟨id, sq, q.x.h, tm⟩⟩ : RcD)) fr).getD rc0) : Int) < F + 1) ∧ e = .returned (.slice none 0 0) ∧ Sat w [Z3 c 112 [.int .i64 F, .int .i64 Cn, .int .i64 id, .pointer (some ⟨bb, 0, none⟩), .slice (some ⟨g, 0, none⟩) Q.length lc], Zc 119 79 (.slice (some ⟨g, 0, none⟩) Q.length lc) Q.length (Q.flatMap Zh), ZI q.mr (Value.int .i64) rcV (Z0U R fr (⟨ix, ⟨id, sq, q.x.h, tm⟩⟩ : RcD)), (Z1m q.pa q.P q.pc), Z7 w (ZL [Z3 c 112 [.int .i64 F, .int .i64 Cn, .int .i64 id, .pointer (some ⟨bb, 0, none⟩), .slice (some ⟨g, 0, none⟩) Q.length lc], Zc 119 79 (.slice (some ⟨g, 0, none⟩) Q.length lc) Q.length (Q.flatMap Zh), ZI q.mr (Value.int .i64) rcV R, (Z1m q.pa q.P q.pc)]).fp] w') ∨
 ((q.op = false ∧ F + 1 ≤ (Z1Q (Z0U R fr (⟨ix, ⟨id, sq, q.x.h, tm⟩⟩ : RcD)) ((Zn (Z0U R fr (⟨ix, ⟨id, sq, q.x.h, tm⟩⟩ : RcD)) fr).getD rc0) : Int)) ∧ ∃ (da : Option Addr) (dc : Nat) (D : List OmR) (B : List Ck), e = .returned (.slice da D.length dc) ∧ (D.length : Int) = 3 * F + 1 ∧ (∀ j, j < D.length → Z6g (1000 + id) (⟨10, 0, 0, co0, co0, none, 0, [], ((Zn (Z0U R fr (⟨ix, ⟨id, sq, q.x.h, tm⟩⟩ : RcD)) fr).getD rc0).i, q.pa, q.pc, q.P, q.no⟩ : OmR) B j (D.getD j om0)) ∧ Sat w [Z3 c 112 [.int .i64 F, .int .i64 Cn, .int .i64 id, .pointer (some ⟨bb, 0, none⟩), .slice (some ⟨g, 0, none⟩) Q.length lc], Zc 119 79 (.slice (some ⟨g, 0, none⟩) Q.length lc) Q.length ((Q.set k (⟨q.x, q.pa, q.pc, q.P, q.no, q.ms, q.cb, q.ma, q.mr, true, ((Zn (Z0U R fr (⟨ix, ⟨id, sq, q.x.h, tm⟩⟩ : RcD)) fr).getD rc0).i, q.mp, q.dn, q.rp⟩ : Zq)).flatMap Zh), ZI q.mr (Value.int .i64) rcV (Z0U R fr (⟨ix, ⟨id, sq, q.x.h, tm⟩⟩ : RcD)), (Z1m q.pa q.P q.pc), Zc 82 295 (.slice da D.length dc) D.length (D.flatMap Z0d), Z0j B, Z7 w (ZL [Z3 c 112 [.int .i64 F, .int .i64 Cn, .int .i64 id, .pointer (some ⟨bb, 0, none⟩), .slice (some ⟨g, 0, none⟩) Q.length lc], Zc 119 79 (.slice (some ⟨g, 0, none⟩) Q.length lc) Q.length (Q.flatMap Zh), ZI q.mr (Value.int .i64) rcV R, (Z1m q.pa q.P q.pc)]).fp] w')
theorem Z6v (w : World) (c bb g lc : Nat) (F Cn id : Int) (Q : List Zq) (k : Nat) (q : Zq) (hq : Q[k]? = some q) (R : List (Int × RcD)) (hA : (ZL [Z3 c 112 [.int .i64 F, .int .i64 Cn, .int .i64 id, .pointer (some ⟨bb, 0, none⟩), .slice (some ⟨g, 0, none⟩) Q.length lc], Zc 119 79 (.slice (some ⟨g, 0, none⟩) Q.length lc) Q.length (Q.flatMap Zh), ZI q.mr (Value.int .i64) rcV R, Zc 5 1 (.slice q.pa q.P.length q.pc) q.P.length (q.P.flatMap ZH)]).ok w) (hlQ : Q.length ≤ 64) (hlR : R.length ≤ 1000) (hlP : q.P.length ≤ 1000) (hF : 1 ≤ F ∧ F ≤ 100) (hid : 0 ≤ id ∧ id ≤ 1000000) (fr ix sq tm : Int) (hsq : sq = (k : Int) + 1) :
  Calls Tryz.prog 39 #[(.pointer (some ⟨c, 0, none⟩)), (.int .i64 (fr)), (.agg ⟨(([(.int .i64 (ix)), (.int .i64 (id)), (.int .i64 (sq))] : List Value) ++ hc q.x.h ++ ([(.int .u64 (tm))] : List Value))⟩)] w fun e w' => RcPost w w' e c bb g lc F Cn id Q k q R fr ix sq tm := by
 have hkl : k < Q.length := (List.getElem?_eq_some_iff.1 hq).1
 have H := Sat.start _ hA
 refine Zg Tryz.func39 rfl 102 rfl (Nat.le_of_ble_eq_true rfl) ?_
 apply zsl
 refine zwd fun Kq kq => ?_
 refine zdb (Z38 ix id sq q.x.h tm) H ?_
 intro b2 w3 H4
 refine kq _ _ ?_
 clear kq Kq
 refine wv 6 (.slice none 0 0) ?_
 apply Z0N
 refine wv 13 (pt c 0) ?_
 refine wv 14 (pt b2 1) ?_
 refine wv 15 (pt b2 1) ?_
 refine zwN 16 ([(.int .i64 (id)), (.int .i64 (sq))] : List Value) (H4.at 5 rfl) ?_
 refine wv 17 (pt b2 1) ?_
 refine wv 18 (pt b2 3) ?_
 refine zwN 19 (hc q.x.h) (H4.at 5 rfl) ?_
 refine zwd fun Kq kq => ?_
 refine zdq 20 (Z1J w3 c bb g lc F Cn id Q (H4.at 0 rfl) (H4.at 1 rfl) hlQ k q hq sq (by omega)) H4 ?_
 intro w6 H7
 refine kq _ _ ?_
 clear kq Kq
 refine wv 7 (.pointer (some ⟨g, 0 + ((k : Int)).toNat * 79, none⟩)) ?_
 apply znt
 apply Zf
 apply zsl
 refine wv 21 (.pointer (some ⟨g, 0 + ((k : Int)).toNat * 79, none⟩)) ?_
 refine wv 22 (.bool false) ?_
 apply znt
 refine Z0y rfl ?_
 apply ZF
 apply ztn
 refine Z0v ([8, 9] ++ List.range' 23 17) (fun G_ W_ => ∃ (R2 : List (Int × RcD)), (R2 = (Z0U R fr (⟨ix, ⟨id, sq, q.x.h, tm⟩⟩ : RcD))) ∧ Sat w [Z3 c 112 (Z4l F Cn id bb g Q.length lc), Zc 119 79 (.slice (some ⟨g, 0, none⟩) Q.length lc) Q.length (Q.flatMap Zh), ZI q.mr (Value.int .i64) rcV R2, (Z1m q.pa q.P q.pc), Z7 w (ZL [Z3 c 112 [.int .i64 F, .int .i64 Cn, .int .i64 id, .pointer (some ⟨bb, 0, none⟩), .slice (some ⟨g, 0, none⟩) Q.length lc], Zc 119 79 (.slice (some ⟨g, 0, none⟩) Q.length lc) Q.length (Q.flatMap Zh), ZI q.mr (Value.int .i64) rcV R, (Z1m q.pa q.P q.pc)]).fp, Z3 b2 131 (Z38 ix id sq q.x.h tm)] W_) ?_ ?_
 ·apply zsl
  refine wv 24 (.pointer (some ⟨g, 0 + ((k : Int)).toNat * 79, none⟩)) ?_
  refine wv 25 (.pointer (some ⟨g, 0 + ((k : Int)).toNat * 79, none⟩)) ?_
  refine wv 26 (.pointer (some ⟨g, 0 + ((k : Int)).toNat * 79 + 73, none⟩)) ?_
  refine zw1 27 (.map (some q.mr)) (ZS (H7.at 1 rfl) rfl ZB hq 73 rfl (show 0 + ((k : Int)).toNat * 79 + 73 = k * 79 + 73 by omega) (by kernel_rfl)) ?_
  refine wv 28 (.int .i64 (fr)) ?_
  refine wv 29 (.tuple #[(.agg ⟨(Z2d (((Zn R fr).getD rc0).i) (((Zn R fr).getD rc0).e))⟩), (.bool ((Zn R fr).isSome))]) ?_ (hr := Z4d (kt := 3) (et := 131) (KeyTy.int (by kernel_rfl)) (by kernel_rfl) Zai rfl fr rfl (H7.at 2 rfl) (Z8P rcV _ _) rfl)
  refine wv 23 (.tuple #[(.agg ⟨(Z2d (((Zn R fr).getD rc0).i) (((Zn R fr).getD rc0).e))⟩), (.bool ((Zn R fr).isSome))]) ?_
  refine wv 30 (.agg ⟨(Z2d (((Zn R fr).getD rc0).i) (((Zn R fr).getD rc0).e))⟩) ?_
  refine wv 31 (.bool ((Zn R fr).isSome)) ?_
  refine zwd fun Kq kq => ?_
  refine zda (Zbt) H7 ?_
  intro b11 w12 H13
  refine kq _ _ ?_
  clear kq Kq
  refine zwd fun Kq kq => ?_
  refine Z21 (Z2d (((Zn R fr).getD rc0).i) (((Zn R fr).getD rc0).e)) H13 6 ?_
  intro w15 H16
  refine kq _ _ ?_
  clear kq Kq
  refine wv 9 (.bool ((Zn R fr).isSome)) ?_
  apply Z0N
  refine wv 32 (.bool ((Zn R fr).isSome)) ?_
  refine wv 33 (.bool (!((Zn R fr).isSome))) ?_
  apply znt
  refine (ZC (!((Zn R fr).isSome))).elim (fun b18 => ?_) (fun b18 => ?_)
  ·have g19 := Z12 b18
   refine Z1q _ b18 ?_
   refine Z0b H16 [Z3 c 112 (Z4l F Cn id bb g Q.length lc), Zc 119 79 (.slice (some ⟨g, 0, none⟩) Q.length lc) Q.length (Q.flatMap Zh), (Z1m q.pa q.P q.pc), Z7 w (ZL [Z3 c 112 [.int .i64 F, .int .i64 Cn, .int .i64 id, .pointer (some ⟨bb, 0, none⟩), .slice (some ⟨g, 0, none⟩) Q.length lc], Zc 119 79 (.slice (some ⟨g, 0, none⟩) Q.length lc) Q.length (Q.flatMap Zh), ZI q.mr (Value.int .i64) rcV R, (Z1m q.pa q.P q.pc)]).fp, Z3 b2 131 (Z38 ix id sq q.x.h tm), Z3 b11 131 (Z2d (((Zn R fr).getD rc0).i) (((Zn R fr).getD rc0).e))] 7 rfl (by kernel_rfl) (fun Hx => (Hx.pk [0, 1, 3, 4, 5, 6])) ?_
   intro w21 H22 S23
   refine hv0 0 S23 34 (.pointer (some ⟨g, 0 + ((k : Int)).toNat * 79, none⟩)) ?_
   refine hv0 1 S23 35 (.pointer (some ⟨g, 0 + ((k : Int)).toNat * 79, none⟩)) ?_
   refine hv0 2 S23 36 (.pointer (some ⟨g, 0 + ((k : Int)).toNat * 79 + 73, none⟩)) ?_
   refine hv0 3 S23 37 (.map (some q.mr)) ?_ (he := fun _ H' => (Zi rfl (by kernel_rfl) (ZS (H'.at 1 rfl) rfl ZB hq 73 rfl (show 0 + ((k : Int)).toNat * 79 + 73 = k * 79 + 73 by omega) (by kernel_rfl))))
   refine hv0 4 S23 38 (.int .i64 (fr)) ?_
   refine hv0 5 S23 39 (.agg ⟨(Z38 ix id sq q.x.h tm)⟩) ?_ (he := fun _ H' => (ZG (vs := (Z38 ix id sq q.x.h tm)) rfl (by kernel_rfl) (by kernel_rfl) (by exact Nat.le_of_ble_eq_true (by kernel_rfl)) (H'.at 4 rfl) (by kernel_rfl)))
   refine Z0H 6 fun Kq kq => ?_
   refine Z1K (kt := 3) (et := 131) rfl H22 2 rfl (KeyTy.int (by kernel_rfl)) (by kernel_rfl) rfl fr rfl (⟨ix, ⟨id, sq, q.x.h, tm⟩⟩ : RcD) rfl ?_
   intro w25 H26
   have S27 := H26.pk [0, 1, 3, 4, 5, 6]
   refine kq _ _ S27 ?_
   clear kq Kq
   refine zhf ?_
   have H28 := H26.pk [0, 1, 2, 3, 4, 5]
   have hno : fr ∉ R.map (·.1) := Z1h.1 (by have q_ := b18; simpa using q_)
   refine ZJ ?_ ⟨(Z2Y R fr (⟨ix, ⟨id, sq, q.x.h, tm⟩⟩ : RcD)), (Z65 hno), H28⟩
   exact zs
  have g29 := Z03 b18
  refine Z1a _ b18 ?_
  apply ZF
  have H31 := H16.pk [0, 1, 2, 3, 4, 5]
  have hin_ : fr ∈ R.map (·.1) := Decidable.byContradiction fun h_ => by have q_ := b18; rw [Z1h.2 h_] at q_; simp at q_
  refine ZJ ?_ ⟨R, (Z45 hin_).symm, H31⟩
  exact zs
 rintro f32 w33 ⟨R2, hR2, H34⟩
 apply zsl
 refine wv 10 (.int .i64 (0)) ?_
 apply znt
 refine Z0v ([10, 12] ++ List.range' 40 19) (fun G_ W_ => G_ 10 = (.int .i64 ((Z1Q R2 ((Zn R2 fr).getD rc0) : Int))) ∧ Sat w [Z3 c 112 (Z4l F Cn id bb g Q.length lc), Zc 119 79 (.slice (some ⟨g, 0, none⟩) Q.length lc) Q.length (Q.flatMap Zh), ZI q.mr (Value.int .i64) rcV R2, (Z1m q.pa q.P q.pc), Z7 w (ZL [Z3 c 112 [.int .i64 F, .int .i64 Cn, .int .i64 id, .pointer (some ⟨bb, 0, none⟩), .slice (some ⟨g, 0, none⟩) Q.length lc], Zc 119 79 (.slice (some ⟨g, 0, none⟩) Q.length lc) Q.length (Q.flatMap Zh), ZI q.mr (Value.int .i64) rcV R, (Z1m q.pa q.P q.pc)]).fp, Z3 b2 131 (Z38 ix id sq q.x.h tm)] W_) ?_ ?_
 ·apply Zf
  have hM1 : MapAt w33 q.mr (Value.int .i64) rcV R2 := H34.at 2 rfl
  have hrow1 : (Zc 119 79 (.slice (some ⟨g, 0, none⟩) Q.length lc) Q.length (Q.flatMap Zh)).ok w33 := H34.at 1 rfl
  have hlR2 : R2.length ≤ 1001 := by rw [hR2]; exact Nat.le_trans Z3Z (by omega)
  have HK := Sat.start0 w33
  apply Zt
  refine wv 40 (.pointer (some ⟨g, 0 + ((k : Int)).toNat * 79, none⟩)) ?_
  refine wv 41 (.pointer (some ⟨g, 0 + ((k : Int)).toNat * 79, none⟩)) ?_
  refine wv 42 (.pointer (some ⟨g, 0 + ((k : Int)).toNat * 79 + 73, none⟩)) ?_
  refine zw1 43 (.map (some q.mr)) (ZS (HK.roCk 0 rfl hrow1 (fun _ _ h => h)) rfl ZB hq 73 rfl (show 0 + ((k : Int)).toNat * 79 + 73 = k * 79 + 73 by omega) (by kernel_rfl)) ?_
  refine zwd fun Kq kq => ?_
  refine Z7T (kt := 3) (et := 131) rfl HK 0 rfl hM1 (fun h => h) (by kernel_rfl) rfl ?_
  intro r37 w38 H39
  refine kq _ _ ?_
  clear kq Kq
  apply znt
  apply ZA
  refine ZW ([10, 12] ++ List.range' 45 14) (fun F_ W_ m_ => ∃ (seen rest : List (Int × RcD)), F_ 10 = (.int .i64 ((Z1Q seen ((Zn R2 fr).getD rc0) : Int))) ∧ (R2.Perm (seen ++ rest)) ∧ Sat w33 [Z7 w33 (fun _ => False), Z8u w33 r37 q.mr (Value.int .i64) rcV R2 seen] W_ ∧ m_ = rest.length) _ ⟨[], R2, (show ((.int .i64 (0)) : Value) = _ by first | rfl | go_num), (List.Perm.refl _), H39, rfl⟩ ?_
  rintro g40 w41 _ ⟨seen, rest, v43, hperm, H42, rfl⟩
  refine Zo 10 _ v43 ?_
  apply zsl
  refine zwd fun Kq kq => ?_
  refine Z95 rfl H42 1 rfl 0 rfl (fun h => h) rfl ?_ ?_
  ·intro p46
   refine kq _ _ ?_
   clear kq Kq
   refine wv 46 (.bool false) ?_
   apply znt
   apply Zf
   refine Z0y rfl ?_
   apply zxb
   have H47 := H34.keepU (H42.upd 0 rfl [] (fun _ h => h.elim))
   refine ZJ ?_ ⟨(congrArg (fun z_ : Nat => Value.int .i64 (z_ : Int)) (Z7S (x := ((Zn R2 fr).getD rc0)) p46).symm), H47⟩
   exact zs
  intro y48 t49 w50 p51 H52
  refine kq _ _ ?_
  clear kq Kq
  refine wv 46 (.bool true) ?_
  apply znt
  apply Zf
  refine Z0R rfl ?_
  apply ZF
  apply ztn
  apply ZA
  apply zsl
  refine wv 47 (.tuple #[(.int .i64 (y48.1)), (.agg ⟨(Z2d y48.2.i y48.2.e)⟩)]) ?_ (hr := H52.entryR 1 rfl 0 rfl (fun h => h) rfl)
  refine wv 48 (.agg ⟨(Z2d y48.2.i y48.2.e)⟩) ?_
  refine zwd fun Kq kq => ?_
  refine zda (Zbt) H52 ?_
  intro b54 w55 H56
  refine kq _ _ ?_
  clear kq Kq
  refine zwd fun Kq kq => ?_
  refine Z21 (Z2d y48.2.i y48.2.e) H56 2 ?_
  intro w58 H59
  refine kq _ _ ?_
  clear kq Kq
  apply znt
  apply Zf
  refine zqs H59 ?_
  refine qv 49 (.agg ⟨(Z2d y48.2.i y48.2.e)⟩) ?_ (hr := fun _ H' => (ZG (vs := (Z2d y48.2.i y48.2.e)) rfl (by kernel_rfl) (by kernel_rfl) (by exact Nat.le_of_ble_eq_true (by kernel_rfl)) (H'.at 2 rfl) (by kernel_rfl)))
  refine qv 50 (.pointer (some ⟨g, 0 + ((k : Int)).toNat * 79, none⟩)) ?_
  refine qv 51 (.pointer (some ⟨g, 0 + ((k : Int)).toNat * 79, none⟩)) ?_
  refine qv 52 (.pointer (some ⟨g, 0 + ((k : Int)).toNat * 79 + 73, none⟩)) ?_
  refine qv 53 (.map (some q.mr)) ?_ (hr := fun _ H' => (Zi rfl (by kernel_rfl) (ZS (H'.roCk 0 rfl hrow1 (fun _ _ h => h)) rfl ZB hq 73 rfl (show 0 + ((k : Int)).toNat * 79 + 73 = k * 79 + 73 by omega) (by kernel_rfl))))
  refine qv 54 (.int .i64 (fr)) ?_
  refine qv 55 (.agg ⟨(Z2d (((Zn R2 fr).getD rc0).i) (((Zn R2 fr).getD rc0).e))⟩) ?_ (hr := fun _ H' => (Z1D (kt := 3) (et := 131) (KeyTy.int (by kernel_rfl)) (by kernel_rfl) Zai rfl fr rfl (H'.roMap 0 rfl hM1 (fun h => h)) (Z8P rcV _ _)))
  refine qv 56 (.bool (decide (y48.2 = ((Zn R2 fr).getD rc0)))) ?_ (hr := fun _ H' => (rcF.e_eq y48.2 ((Zn R2 fr).getD rc0) rfl rfl))
  refine Z1A ?_
  intro w61 H62
  apply ztn
  refine (ZC (decide (y48.2 = ((Zn R2 fr).getD rc0)))).elim (fun b63 => ?_) (fun b63 => ?_)
  ·have g64 := of_decide_eq_true b63
   refine Z1q _ b63 ?_
   apply Zt
   refine wv 57 (.int .i64 ((Z1Q seen ((Zn R2 fr).getD rc0) : Int))) ?_
   refine wv 58 (.int .i64 ((Z1Q seen ((Zn R2 fr).getD rc0) : Int) + 1)) ?_ (hr := Z0I (z := (Z1Q seen ((Zn R2 fr).getD rc0) : Int) + 1) (by kernel_rfl) (IntWalk.i64_in _ (by have h1 := hperm.length_eq; have h2 := Zbn (l := seen) (x := ((Zn R2 fr).getD rc0)); simp only [List.length_append] at h1; omega)))
   refine wv 10 (.int .i64 ((Z1Q seen ((Zn R2 fr).getD rc0) : Int) + 1)) ?_
   apply Zu
   apply Zw
   have H66 := H62.pk [0, 1]
   refine ZE ?_ _ ⟨(seen ++ [y48]), t49, (show ((.int .i64 ((Z1Q seen ((Zn R2 fr).getD rc0) : Int) + 1)) : Value) = _ by rw [Z3q, Z4b]; have q_ := b63; simp at q_; simp [q_]), p51, H66, rfl⟩ (by have h1 := hperm.length_eq; have h2 := p51.length_eq; simp only [List.length_append, List.length_cons, List.length_nil] at h1 h2; omega)
   exact zs
  have g67 := of_decide_eq_false b63
  refine Z1a _ b63 ?_
  apply ZF
  apply Zw
  have H69 := H62.pk [0, 1]
  refine ZE ?_ _ ⟨(seen ++ [y48]), t49, (show ((.int .i64 ((Z1Q seen ((Zn R2 fr).getD rc0) : Int))) : Value) = _ by rw [Z3q, Z4b]; have q_ := b63; simp at q_; simp [q_]), p51, H69, rfl⟩ (by have h1 := hperm.length_eq; have h2 := p51.length_eq; simp only [List.length_append, List.length_cons, List.length_nil] at h1 h2; omega)
  exact zs
 rintro f70 w71 ⟨v73, H72⟩
 refine Zo 10 _ v73 ?_
 apply Zf
 apply zsl
 refine wv 59 (.pointer (some ⟨g, 0 + ((k : Int)).toNat * 79, none⟩)) ?_
 refine wv 60 (.pointer (some ⟨g, 0 + ((k : Int)).toNat * 79, none⟩)) ?_
 refine wv 61 (.pointer (some ⟨g, 0 + ((k : Int)).toNat * 79 + 74, none⟩)) ?_
 refine zw1 62 (.bool (q.op)) (ZS (H72.at 1 rfl) rfl ZB hq 74 rfl (show 0 + ((k : Int)).toNat * 79 + 74 = k * 79 + 74 by omega) (by kernel_rfl)) ?_
 refine wv 63 (.bool (q.op)) ?_
 refine (ZC (q.op)).elim (fun b74 => ?_) (fun b74 => ?_)
 ·refine ZP 63 (.bool true) (congrArg Value.bool b74) ?_
  iterate 8 refine wn 4 63 false ?_
  refine wv 72 (.bool true) ?_
  apply znt
  refine Z0R rfl ?_
  apply zsl
  refine wv 6 (.slice none 0 0) ?_
  apply znt
  apply Zz
  apply ZY
  refine ze1 (.slice none 0 0) ?_
  subst hR2
  exact .inl ⟨by first | (left; assumption) | (right; omega), rfl, H72.pk [0, 1, 2, 3, 4]⟩
 refine ZP 63 (.bool false) (congrArg Value.bool b74) ?_
 refine wy 4 63 false 64 (.int .i64 ((Z1Q R2 ((Zn R2 fr).getD rc0) : Int))) ?_
 refine wy 4 63 false 65 (pt c 0) ?_
 refine wy 4 63 false 66 (pt c 0) ?_
 refine wy 4 63 false 67 (pt c 0) ?_
 refine wy 4 63 false 68 (pt c 0) ?_
 refine wy 4 63 false 69 (.int .i64 (F)) ?_ (hr := Zi rfl (by kernel_rfl) (H72.cell 0 rfl rfl))
 refine wy 4 63 false 70 (.int .i64 (F + 1)) ?_ (hr := Z0I (z := F + 1) (by kernel_rfl) (IntWalk.i64_in _ (by omega)))
 refine wy 4 63 false 71 (.bool (decide ((Z1Q R2 ((Zn R2 fr).getD rc0) : Int) < (F + 1)))) ?_
 refine wv 72 (.bool (decide ((Z1Q R2 ((Zn R2 fr).getD rc0) : Int) < (F + 1)))) ?_
 apply znt
 refine (ZC (decide ((Z1Q R2 ((Zn R2 fr).getD rc0) : Int) < (F + 1)))).elim (fun b75 => ?_) (fun b75 => ?_)
 ·have g76 := of_decide_eq_true b75
  refine Z1q _ b75 ?_
  apply zsl
  refine wv 6 (.slice none 0 0) ?_
  apply znt
  apply Zz
  apply ZY
  refine ze1 (.slice none 0 0) ?_
  subst hR2
  exact .inl ⟨by first | (left; assumption) | (right; omega), rfl, H72.pk [0, 1, 2, 3, 4]⟩
 have g78 := of_decide_eq_false b75
 refine Z1a _ b75 ?_
 apply ZF
 apply ztn
 apply zsl
 refine wv 73 (.pointer (some ⟨g, 0 + ((k : Int)).toNat * 79, none⟩)) ?_
 refine wv 74 (.pointer (some ⟨g, 0 + ((k : Int)).toNat * 79, none⟩)) ?_
 refine wv 75 (.pointer (some ⟨g, 0 + ((k : Int)).toNat * 79, none⟩)) ?_
 refine wv 76 (.pointer (some ⟨g, 0 + ((k : Int)).toNat * 79, none⟩)) ?_
 refine wv 77 (.pointer (some ⟨g, 0 + ((k : Int)).toNat * 79 + 73, none⟩)) ?_
 refine zw1 78 (.map (some q.mr)) (ZS (H72.at 1 rfl) rfl ZB hq 73 rfl (show 0 + ((k : Int)).toNat * 79 + 73 = k * 79 + 73 by omega) (by kernel_rfl)) ?_
 refine wv 79 (.int .i64 (fr)) ?_
 refine wv 80 (.agg ⟨(Z2d (((Zn R2 fr).getD rc0).i) (((Zn R2 fr).getD rc0).e))⟩) ?_ (hr := Z1D (kt := 3) (et := 131) (KeyTy.int (by kernel_rfl)) (by kernel_rfl) Zai rfl fr rfl (H72.at 2 rfl) (Z8P rcV _ _))
 refine wv 81 (.int .i64 (((Zn R2 fr).getD rc0).i)) ?_
 refine wv 82 (.pointer (some ⟨g, 0 + ((k : Int)).toNat * 79, none⟩)) ?_
 refine wv 83 (.pointer (some ⟨g, 0 + ((k : Int)).toNat * 79 + 74, none⟩)) ?_
 refine zwd fun Kq kq => ?_
 refine Z2B (size := 79) (vs := ([(.bool true)] : List Value)) ZB rfl H72 1 rfl rfl rfl rfl (by kernel_rfl) (Nat.le_of_ble_eq_true (by kernel_rfl)) (by kernel_rfl) k 74 (⟨q.x, q.pa, q.pc, q.P, q.no, q.ms, q.cb, q.ma, q.mr, true, q.pl, q.mp, q.dn, q.rp⟩ : Zq) hq (show 0 + ((k : Int)).toNat * 79 + 74 = k * 79 + 74 by omega) (Nat.le_of_ble_eq_true (by kernel_rfl)) (by kernel_rfl) ?_
 intro w81 H82
 have hlw81 : (Q.set k (⟨q.x, q.pa, q.pc, q.P, q.no, q.ms, q.cb, q.ma, q.mr, true, q.pl, q.mp, q.dn, q.rp⟩ : Zq)).length = Q.length := List.length_set
 have h83 : (Q.set k (⟨q.x, q.pa, q.pc, q.P, q.no, q.ms, q.cb, q.ma, q.mr, true, q.pl, q.mp, q.dn, q.rp⟩ : Zq))[k]? = some (⟨q.x, q.pa, q.pc, q.P, q.no, q.ms, q.cb, q.ma, q.mr, true, q.pl, q.mp, q.dn, q.rp⟩ : Zq) := List.getElem?_set_self (by omega)
 refine kq _ _ ?_
 clear kq Kq
 refine wv 84 (.pointer (some ⟨g, 0 + ((k : Int)).toNat * 79, none⟩)) ?_
 refine wv 85 (.pointer (some ⟨g, 0 + ((k : Int)).toNat * 79 + 75, none⟩)) ?_
 refine zwd fun Kq kq => ?_
 refine Z2B (size := 79) (vs := ([(.int .i64 (((Zn R2 fr).getD rc0).i))] : List Value)) ZB rfl H82 1 rfl rfl rfl rfl (by kernel_rfl) (Nat.le_of_ble_eq_true (by kernel_rfl)) (by kernel_rfl) k 75 (⟨q.x, q.pa, q.pc, q.P, q.no, q.ms, q.cb, q.ma, q.mr, true, (((Zn R2 fr).getD rc0).i), q.mp, q.dn, q.rp⟩ : Zq) h83 (show 0 + ((k : Int)).toNat * 79 + 75 = k * 79 + 75 by omega) (Nat.le_of_ble_eq_true (by kernel_rfl)) (by kernel_rfl) ?_
 intro w85 (H86 : Sat w [Z3 c 112 (Z4l F Cn id bb g Q.length lc), Zc 119 79 (.slice (some ⟨g, 0, none⟩) Q.length lc) Q.length (((Q.set k (⟨q.x, q.pa, q.pc, q.P, q.no, q.ms, q.cb, q.ma, q.mr, true, q.pl, q.mp, q.dn, q.rp⟩ : Zq)).set k (⟨q.x, q.pa, q.pc, q.P, q.no, q.ms, q.cb, q.ma, q.mr, true, (((Zn R2 fr).getD rc0).i), q.mp, q.dn, q.rp⟩ : Zq)).flatMap Zh), ZI q.mr (Value.int .i64) rcV R2, (Z1m q.pa q.P q.pc), Z7 w (ZL [Z3 c 112 [.int .i64 F, .int .i64 Cn, .int .i64 id, .pointer (some ⟨bb, 0, none⟩), .slice (some ⟨g, 0, none⟩) Q.length lc], Zc 119 79 (.slice (some ⟨g, 0, none⟩) Q.length lc) Q.length (Q.flatMap Zh), ZI q.mr (Value.int .i64) rcV R, (Z1m q.pa q.P q.pc)]).fp, Z3 b2 131 (Z38 ix id sq q.x.h tm)] w85)
 have hlw85 : ((Q.set k (⟨q.x, q.pa, q.pc, q.P, q.no, q.ms, q.cb, q.ma, q.mr, true, q.pl, q.mp, q.dn, q.rp⟩ : Zq)).set k (⟨q.x, q.pa, q.pc, q.P, q.no, q.ms, q.cb, q.ma, q.mr, true, (((Zn R2 fr).getD rc0).i), q.mp, q.dn, q.rp⟩ : Zq)).length = (Q.set k (⟨q.x, q.pa, q.pc, q.P, q.no, q.ms, q.cb, q.ma, q.mr, true, q.pl, q.mp, q.dn, q.rp⟩ : Zq)).length := List.length_set
 have h87 : ((Q.set k (⟨q.x, q.pa, q.pc, q.P, q.no, q.ms, q.cb, q.ma, q.mr, true, q.pl, q.mp, q.dn, q.rp⟩ : Zq)).set k (⟨q.x, q.pa, q.pc, q.P, q.no, q.ms, q.cb, q.ma, q.mr, true, (((Zn R2 fr).getD rc0).i), q.mp, q.dn, q.rp⟩ : Zq))[k]? = some (⟨q.x, q.pa, q.pc, q.P, q.no, q.ms, q.cb, q.ma, q.mr, true, (((Zn R2 fr).getD rc0).i), q.mp, q.dn, q.rp⟩ : Zq) := List.getElem?_set_self (by omega)
 refine kq _ _ ?_
 clear kq Kq
 apply znt
 apply Zf
 have H88 : Sat w [Z3 c 112 (Z4l F Cn id bb g ((Q.set k (⟨q.x, q.pa, q.pc, q.P, q.no, q.ms, q.cb, q.ma, q.mr, true, (((Zn R2 fr).getD rc0).i), q.mp, q.dn, q.rp⟩ : Zq)).length) lc), Zc 119 79 (.slice (some ⟨g, 0, none⟩) ((Q.set k (⟨q.x, q.pa, q.pc, q.P, q.no, q.ms, q.cb, q.ma, q.mr, true, (((Zn R2 fr).getD rc0).i), q.mp, q.dn, q.rp⟩ : Zq)).length) lc) ((Q.set k (⟨q.x, q.pa, q.pc, q.P, q.no, q.ms, q.cb, q.ma, q.mr, true, (((Zn R2 fr).getD rc0).i), q.mp, q.dn, q.rp⟩ : Zq)).length) ((Q.set k (⟨q.x, q.pa, q.pc, q.P, q.no, q.ms, q.cb, q.ma, q.mr, true, (((Zn R2 fr).getD rc0).i), q.mp, q.dn, q.rp⟩ : Zq)).flatMap Zh), ZI q.mr (Value.int .i64) rcV R2, (Z1m q.pa q.P q.pc), Z7 w (ZL [Z3 c 112 [.int .i64 F, .int .i64 Cn, .int .i64 id, .pointer (some ⟨bb, 0, none⟩), .slice (some ⟨g, 0, none⟩) Q.length lc], Zc 119 79 (.slice (some ⟨g, 0, none⟩) Q.length lc) Q.length (Q.flatMap Zh), ZI q.mr (Value.int .i64) rcV R, (Z1m q.pa q.P q.pc)]).fp, Z3 b2 131 (Z38 ix id sq q.x.h tm)] w85 := H86.cast (by rw [List.set_set, List.length_set])
 have h89 : (Q.set k (⟨q.x, q.pa, q.pc, q.P, q.no, q.ms, q.cb, q.ma, q.mr, true, (((Zn R2 fr).getD rc0).i), q.mp, q.dn, q.rp⟩ : Zq))[k]? = some (⟨q.x, q.pa, q.pc, q.P, q.no, q.ms, q.cb, q.ma, q.mr, true, (((Zn R2 fr).getD rc0).i), q.mp, q.dn, q.rp⟩ : Zq) := List.getElem?_set_self (by omega)
 have hlA2 : (Q.set k (⟨q.x, q.pa, q.pc, q.P, q.no, q.ms, q.cb, q.ma, q.mr, true, (((Zn R2 fr).getD rc0).i), q.mp, q.dn, q.rp⟩ : Zq)).length = Q.length := List.length_set
 refine Z0b H88 [Z3 c 112 (Z4l F Cn id bb g ((Q.set k (⟨q.x, q.pa, q.pc, q.P, q.no, q.ms, q.cb, q.ma, q.mr, true, (((Zn R2 fr).getD rc0).i), q.mp, q.dn, q.rp⟩ : Zq)).length) lc), Zc 119 79 (.slice (some ⟨g, 0, none⟩) ((Q.set k (⟨q.x, q.pa, q.pc, q.P, q.no, q.ms, q.cb, q.ma, q.mr, true, (((Zn R2 fr).getD rc0).i), q.mp, q.dn, q.rp⟩ : Zq)).length) lc) ((Q.set k (⟨q.x, q.pa, q.pc, q.P, q.no, q.ms, q.cb, q.ma, q.mr, true, (((Zn R2 fr).getD rc0).i), q.mp, q.dn, q.rp⟩ : Zq)).length) ((Q.set k (⟨q.x, q.pa, q.pc, q.P, q.no, q.ms, q.cb, q.ma, q.mr, true, (((Zn R2 fr).getD rc0).i), q.mp, q.dn, q.rp⟩ : Zq)).flatMap Zh), ZI q.mr (Value.int .i64) rcV R2, (Z1m q.pa q.P q.pc), Z7 w (ZL [Z3 c 112 [.int .i64 F, .int .i64 Cn, .int .i64 id, .pointer (some ⟨bb, 0, none⟩), .slice (some ⟨g, 0, none⟩) Q.length lc], Zc 119 79 (.slice (some ⟨g, 0, none⟩) Q.length lc) Q.length (Q.flatMap Zh), ZI q.mr (Value.int .i64) rcV R, (Z1m q.pa q.P q.pc)]).fp, Z3 b2 131 (Z38 ix id sq q.x.h tm)] 17 rfl (by kernel_rfl) (fun Hx => (Hx.pk [0, 1, 2, 3, 4, 5])) ?_
 intro w90 H91 S92
 refine hv0 0 S92 86 (pt c 0) ?_
 refine hv0 1 S92 87 (.pointer (some ⟨g, 0 + ((k : Int)).toNat * 79, none⟩)) ?_
 refine hv0 2 S92 88 (.pointer (some ⟨g, 0 + ((k : Int)).toNat * 79, none⟩)) ?_
 refine hv0 3 S92 89 (.pointer (some ⟨g, 0 + ((k : Int)).toNat * 79 + 75, none⟩)) ?_
 refine hv0 4 S92 90 (.int .i64 ((((Zn R2 fr).getD rc0).i))) ?_ (he := fun _ H' => (Zi rfl (by kernel_rfl) (ZS (H'.at 1 rfl) rfl ZB h89 75 rfl (show 0 + ((k : Int)).toNat * 79 + 75 = k * 79 + 75 by omega) (by kernel_rfl))))
 refine hv0 5 S92 91 (.pointer (some ⟨g, 0 + ((k : Int)).toNat * 79, none⟩)) ?_
 refine hv0 6 S92 92 (.pointer (some ⟨g, 0 + ((k : Int)).toNat * 79, none⟩)) ?_
 refine hv0 7 S92 93 (.pointer (some ⟨g, 0 + ((k : Int)).toNat * 79 + 37, none⟩)) ?_
 refine hv0 8 S92 94 ((.slice q.pa q.P.length q.pc)) ?_ (he := fun _ H' => (Zi rfl (by kernel_rfl) (ZS (H'.at 1 rfl) rfl ZB h89 37 rfl (show 0 + ((k : Int)).toNat * 79 + 37 = k * 79 + 37 by omega) (by kernel_rfl))))
 refine hv0 9 S92 95 (.pointer (some ⟨g, 0 + ((k : Int)).toNat * 79, none⟩)) ?_
 refine hv0 10 S92 96 (.pointer (some ⟨g, 0 + ((k : Int)).toNat * 79, none⟩)) ?_
 refine hv0 11 S92 97 (.pointer (some ⟨g, 0 + ((k : Int)).toNat * 79 + 38, none⟩)) ?_
 refine hv0 12 S92 98 (.agg ⟨(hc q.no)⟩) ?_ (he := fun _ H' => (Z0a (vs := (hc q.no)) rfl (by kernel_rfl) (by kernel_rfl) (Nat.le_of_ble_eq_true (by kernel_rfl)) (Z1d (H'.at 1 rfl) rfl ZB h89 38 (show 0 + ((k : Int)).toNat * 79 + 38 = k * 79 + 38 by omega) (by kernel_rfl) (by kernel_rfl))))
 refine Z0s 13 rfl (by kernel_rfl) (by kernel_rfl) (by kernel_rfl) (fun _ _ _ h => h) S92 (Z5 rfl) (d := 99) (v := (.agg ⟨(([(.int .i64 ((((Zn R2 fr).getD rc0).i))), ((.slice q.pa q.P.length q.pc))] : List Value) ++ hc q.no)⟩)) rfl (fun _ H' => (by kernel_rfl)) ?_
 refine Z0s 14 rfl (by kernel_rfl) (by kernel_rfl) (by kernel_rfl) (fun _ _ _ h => h) S92 (Z5 rfl) (d := 100) (v := (.agg ⟨(([(.int .i64 (10)), (.int .i64 (0)), (.int .i64 (0)), (.int .i64 (0)), (.int .i64 (0))] : List Value) ++ hc Zx ++ ([(.int .i64 (0)), (.int .i64 (0)), (.int .i64 (0)), (.int .i64 (0)), (.int .i64 (0)), (.int .i64 (0))] : List Value) ++ hc Zx ++ ([(.int .u64 (0)), (.int .i64 (0)), (.int .i64 (0)), (.int .i64 (0)), (.int .i64 (0))] : List Value) ++ hc Zx ++ ([(.int .i64 (0)), (.int .i64 (0)), (.int .i64 (0)), (.slice none 0 0), (.int .i64 (0)), (.int .i64 (0)), (.int .i64 (0))] : List Value) ++ hc Zx ++ ([(.int .u64 (0)), (.int .i64 (0)), (.int .i64 (0)), (.int .i64 (0)), (.int .i64 (0)), (.int .u64 (0)), (.int .i64 (0)), (.int .i64 (0)), (.int .u64 (0)), (.slice none 0 0), (.int .i64 (0)), (.int .i64 (0)), (.int .i64 (0)), (.int .i64 (0)), (.int .i64 (0)), (.int .i64 (0)), (.int .i64 (0)), (.int .u64 (0)), (.slice none 0 0), (.slice none 0 0), (.slice none 0 0), (.int .i64 (0)), (.int .i64 (0)), (.int .i64 (0))] : List Value) ++ ([(.int .i64 (0)), (.int .i64 (0)), (.int .i64 (0))] : List Value) ++ hc Zx ++ ([(.int .i64 (0)), (.int .i64 (0)), (.int .i64 (0)), (.int .i64 (0)), (.int .i64 (0))] : List Value) ++ hc Zx ++ ([(.int .u64 (0)), (.int .i64 ((((Zn R2 fr).getD rc0).i))), ((.slice q.pa q.P.length q.pc))] : List Value) ++ hc q.no ++ ([(.int .i64 (0)), (.int .i64 (0)), (.int .i64 (0)), (.int .i64 (0)), (ZD ([] : List UInt8)), (.int .i64 (0)), (.int .i64 (0)), (.int .i64 (0)), (.int .u64 (0)), (.slice none 0 0), (.slice none 0 0), (.slice none 0 0), (.slice none 0 0)] : List Value))⟩)) rfl (fun _ H' => (by kernel_rfl)) ?_
 refine Z0H 15 fun Kq kq => ?_
 refine zdc 101 (Z22 w90 c bb F Cn id (.slice (some ⟨g, 0, none⟩) ((Q.set k (⟨q.x, q.pa, q.pc, q.P, q.no, q.ms, q.cb, q.ma, q.mr, true, (((Zn R2 fr).getD rc0).i), q.mp, q.dn, q.rp⟩ : Zq)).length) lc) (H91.at 0 rfl) hF hid (⟨10, 0, 0, co0, co0, none, 0, [], ((Zn R2 fr).getD rc0).i, q.pa, q.pc, q.P, q.no⟩ : OmR) ListAt.nil (Nat.zero_le _) (ListAt.row Z0u (by decide) (H91.at 3 rfl)) hlP) ?_
 rintro _ w94 ⟨a95, c96, D97, B98, rfl, n99, o100, k101, p102, q103⟩
 have H104 := H91.addU p102 k101 q103
 have H105 := H104.open 6 rfl
 refine ⟨_, rfl, ?_⟩
 have S106 := H105.pk [0, 1, 2, 3, 4, 5]
 refine kq _ _ S106 ?_
 clear kq Kq
 refine hv0 16 S106 6 (.slice a95 D97.length c96) ?_
 refine zhf ?_
 apply ztn
 apply Zz
 refine ze1 (.slice a95 D97.length c96) ?_
 have H107 : Sat w [Z3 c 112 (Z4l F Cn id bb g ((Q.set k (⟨q.x, q.pa, q.pc, q.P, q.no, q.ms, q.cb, q.ma, q.mr, true, (((Zn R2 fr).getD rc0).i), q.mp, q.dn, q.rp⟩ : Zq)).length) lc), Zc 119 79 (.slice (some ⟨g, 0, none⟩) ((Q.set k (⟨q.x, q.pa, q.pc, q.P, q.no, q.ms, q.cb, q.ma, q.mr, true, (((Zn R2 fr).getD rc0).i), q.mp, q.dn, q.rp⟩ : Zq)).length) lc) ((Q.set k (⟨q.x, q.pa, q.pc, q.P, q.no, q.ms, q.cb, q.ma, q.mr, true, (((Zn R2 fr).getD rc0).i), q.mp, q.dn, q.rp⟩ : Zq)).length) ((Q.set k (⟨q.x, q.pa, q.pc, q.P, q.no, q.ms, q.cb, q.ma, q.mr, true, (((Zn R2 fr).getD rc0).i), q.mp, q.dn, q.rp⟩ : Zq)).flatMap Zh), ZI q.mr (Value.int .i64) rcV R2, (Z1m q.pa q.P q.pc), Zc 82 295 (.slice a95 D97.length c96) D97.length (D97.flatMap Z0d), Z0j B98, Z7 w (ZL [Z3 c 112 [.int .i64 F, .int .i64 Cn, .int .i64 id, .pointer (some ⟨bb, 0, none⟩), .slice (some ⟨g, 0, none⟩) Q.length lc], Zc 119 79 (.slice (some ⟨g, 0, none⟩) Q.length lc) Q.length (Q.flatMap Zh), ZI q.mr (Value.int .i64) rcV R, (Z1m q.pa q.P q.pc)]).fp] w94 := H105.pick [0, 1, 2, 3, 6, 7, 4] (by decide)
 subst hR2
 exact .inr ⟨⟨by first | assumption | simp_all, by omega⟩, a95, c96, D97, B98, rfl, n99, o100, H107.cast (by rw [hlA2])⟩
def rcS (h : Z1e) (s : Zcu) : RcD := ⟨s.p, ⟨0, 1, h, s.t⟩⟩
theorem Zca {h : Z1e} {a b : Zcu} (e : rcS h a = rcS h b) : a = b := by
 cases a; cases b
 simp only [rcS, RcD.mk.injEq, EntD.mk.injEq] at e
 obtain ⟨rfl, _, _, _, rfl⟩ := e
 rfl
structure Sil (F : Int) (h : Z1e) (S : List (Int × Zcu)) (R : List (Int × RcD)) (op : Bool) : Prop where
 R : R = S.map fun e => (e.1, rcS h e.2)
 op : op = true ↔ Z9T S (F + 1).toNat
section
variable {F mo : Int} {h : Z1e} {S : List (Int × Zcu)} {R : List (Int × RcD)} {op : Bool} {fr : Int} {s : Zcu} {n : Nat}
theorem Sil.nil : Sil F h [] [] false := ⟨rfl, ⟨(fun e => nomatch e), fun e => absurd e ZaU⟩⟩
theorem Sil.cnt (H : Sil F h S R op) : Z1Q (Z0U R fr (rcS h s)) ((Zn (Z0U R fr (rcS h s)) fr).getD rc0) = Z1Q (Z0U S fr s) ((Zn (Z0U S fr s) fr).getD sy0) := by
 have e : Z0U R fr (rcS h s) = (Z0U S fr s).map fun e => (e.1, rcS h e.2) := by rw [H.R]; exact Z7N (f := rcS h)
 have hm : fr ∈ (Z0U S fr s).map (·.1) := by
  by_cases q : fr ∈ S.map (·.1)
  ·rw [Z45 q]; exact q
  ·rw [Z40 q]; simp
 rw [e, ZaO (f := rcS h)]
 cases hl : Zn (Z0U S fr s) fr with
 | none => exact absurd hm (Z1h.1 hl)
 | some v => exact ZbM (f := rcS h) (fun a b => Zca)
theorem Sil.no (H : Sil F h S R op) (hc : op = true ∨ (Z1Q (Z0U R fr (rcS h s)) ((Zn (Z0U R fr (rcS h s)) fr).getD rc0) : Int) < F + 1) : Sil F h (Z0U S fr s) (Z0U R fr (rcS h s)) op := by
 refine ⟨by rw [H.R]; exact Z7N (f := rcS h), ?_⟩
 rw [ZaT (d := sy0)]
 constructor
 ·exact fun q => .inl (H.op.1 q)
 ·rintro (q | q)
  ·exact H.op.2 q
  ·rcases hc with hc | hc
   ·exact hc
   ·rw [H.cnt] at hc; omega
theorem Sil.most (H : Sil F h S R op) (hF : 1 ≤ F) (hm : ∀ n : Nat, 1 ≤ n → ((n : Int) ≤ mo ↔ Z9T S n)) : decide (mo ≥ F + 1) = op := by
 have q := hm (F + 1).toNat (by omega)
 rw [Bool.eq_iff_iff, decide_eq_true_eq, H.op, ← q]
 omega
end
theorem Zbc {e size n c : Nat} {oa : Option Addr} {xs : List Value} {w : World} (h : (Zc e size (.slice oa n c) n xs).ok w) : ∀ ad, oa = some ad → ad.spot = none := fun ad ha => by
 rcases h.2 with ⟨h1, _⟩ | ⟨g, cap, cur, h1, _⟩
 ·simp only [Value.slice.injEq] at h1
  rw [ha] at h1; simp at h1
 ·simp only [Value.slice.injEq] at h1
  rw [ha] at h1
  obtain ⟨h2, _⟩ := h1
  simp only [Option.some.injEq] at h2
  rw [h2]
end Go.Proofs.YtgigjkjdmalmaaaGreat
