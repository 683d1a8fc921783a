/- WHAT IS PROVED: contracts and plain laws of SmB. Conditions: stated with each. -/
import Derived.Test.YtgigjkjdmalmaaaGreatPY05
import Derived.Test.YtgigjkjdmalmaaaGreatPY38
set_option maxHeartbeats 4000000
set_option maxRecDepth 100000
namespace Go.Proofs.YtgigjkjdmalmaaaGreat
open Go.RowKit
abbrev Z3L (p0 : Z0) (p1 : Option Addr) (p2 : Nat) (p3 : Nat) : List Value := ([(.int .i64 p0.cl), (.int .i64 p0.seq)] : List Value) ++ hc p0.h ++ ([(.int .i64 p0.len), (.int .i64 p0.sb), (.int .i64 p0.sm), (.slice p1 p2 p3)] : List Value)
abbrev ZbB : List Value := ([(.int .i64 (0)), (.int .i64 (0))] : List Value) ++ hc Zx ++ ([(.int .i64 (0)), (.int .i64 (0)), (.int .i64 (0)), (.slice none 0 0)] : List Value)
abbrev Z5b (p0 : PrR) : List Value := ([(.int .i64 p0.r), (.int .i64 p0.e), (.int .u64 p0.f), (.slice p0.ca p0.C.length p0.cc), (.int .i64 p0.sb), (.int .i64 p0.sm)] : List Value)
abbrev Z83 : List Value := ([(.int .i64 (0)), (.int .i64 (0)), (.int .u64 (0)), (.slice none 0 0), (.int .i64 (0)), (.int .i64 (0))] : List Value)
abbrev ZbC (p0 : Option Addr) (p1 : List CeR) (p2 : Nat) : Ck := Zc 57 38 (.slice p0 p1.length p2) p1.length (p1.flatMap Z2J)
abbrev ZbD (p0 : Z0) (p1 : CeR) (p2 : Nat) : List Value := ([(.int .i64 p0.cl), (.int .i64 p0.seq)] : List Value) ++ hc p0.h ++ ([(.int .i64 p0.len), (.int .i64 p0.sb), (.int .i64 p0.sm), (.slice p1.sa p2 p1.sc)] : List Value)
abbrev Z84 (p0 : PrR) (p1 : Option Addr) (p2 : Nat) (p3 : Nat) : List Value := ([(.int .i64 p0.r), (.int .i64 p0.e), (.int .u64 p0.f), (.slice p1 p2 p3), (.int .i64 p0.sb), (.int .i64 p0.sm)] : List Value)
abbrev Z25 (p0 : Int) (p1 : Int) (p2 : Option Addr) (p3 : Nat) (p4 : Nat) (p5 : Option Addr) (p6 : Nat) (p7 : Nat) (p8 : Option Addr) (p9 : Nat) (p10 : Nat) : List Value := ([(.int .i64 p0), (.int .u64 p1), (.slice p2 p3 p4), (.slice p5 p6 p7), (.slice p8 p9 p10)] : List Value)
abbrev Z4q : List Value := ([(.int .i64 (0)), (.int .u64 (0)), (.slice none 0 0), (.slice none 0 0), (.slice none 0 0)] : List Value)
abbrev Z5c (p0 : Option Addr) (p1 : List PrR) (p2 : Nat) : Ck := Zc 62 6 (.slice p0 p1.length p2) p1.length (p1.flatMap Z3s)
abbrev Z9E (p0 : PrR) (p1 : Nat) : List Value := ([(.int .i64 p0.r), (.int .i64 p0.e), (.int .u64 p0.f), (.slice p0.ca p1 p0.cc), (.int .i64 p0.sb), (.int .i64 p0.sm)] : List Value)
abbrev Z5W (p0 : Option Addr) (p1 : List OpR) (p2 : Nat) : Ck := Zc 75 34 (.slice p0 p1.length p2) p1.length (p1.flatMap Z3r)
abbrev Z7u (p0 : OpR) (p1 : Nat) : List Value := ([(.int .i64 p0.i), (.slice p0.pa p1 p0.pc)] : List Value) ++ hc p0.h
abbrev Z4o (p0 : OpR) (p1 : Option Addr) (p2 : Nat) (p3 : Nat) : List Value := ([(.int .i64 p0.i), (.slice p1 p2 p3)] : List Value) ++ hc p0.h
abbrev Z9F (p0 : Option Addr) (p1 : List TbR) (p2 : Nat) : Ck := Zc 166 2 (.slice p0 p1.length p2) p1.length (p1.flatMap Z4f)
abbrev Z7v (p0 : TbR) (p1 : Nat) : List Value := ([(.int .i64 p0.i), (.slice p0.da p1 p0.dc)] : List Value)
abbrev Z4p (p0 : Int) (p1 : Option Addr) (p2 : Nat) (p3 : Nat) : List Value := ([(.int .i64 p0), (.slice p1 p2 p3)] : List Value)
theorem Z4Y (w : World) (x : Z0) (sa : Option Addr) (sc : Nat) (S : List Zk) (hS : ListAt ZV 38 w (.slice sa S.length sc) S) :
  Calls Tryz.prog 43 #[(.agg ⟨(([(.int .i64 (x.cl)), (.int .i64 (x.seq))] : List Value) ++ hc x.h ++ ([(.int .i64 (x.len)), (.int .i64 (x.sb)), (.int .i64 (x.sm)), (.slice sa S.length sc)] : List Value))⟩)] w fun e w' => ∃ (a : Option Addr) (c : Nat), e = .returned (.agg ⟨Z1E x ++ [.slice a (S.take 6).length c]⟩) ∧ Upd [] w w' := by
 have H := Sat.start0 w
 refine Zg Tryz.func43 rfl 8 rfl (Nat.le_of_ble_eq_true rfl) ?_
 apply zsl
 refine zwd fun Kq kq => ?_
 refine zdb (Z3L x sa S.length sc) H ?_
 intro b2 w3 H4
 refine kq _ _ ?_
 clear kq Kq
 refine zwd fun Kq kq => ?_
 refine zda (ZbB) H4 ?_
 intro b6 w7 H8
 refine kq _ _ ?_
 clear kq Kq
 apply Z0N
 refine wv 3 (pt b2 37) ?_
 refine zw1 4 (.slice sa S.length sc) (H8.cell 1 rfl (by kernel_rfl)) ?_
 refine zwd fun Kq kq => ?_
 refine zdc 5 (Z3n (ZbS w7 sa sc S (ListAt.now H8 0 rfl hS) 6 (by decide))) ?_
 rintro _ w10 ⟨a11, c12, rfl, u13⟩
 have H14 := H8.keepU u13
 refine ⟨_, rfl, ?_⟩
 refine kq _ _ ?_
 clear kq Kq
 refine wv 6 (pt b2 37) ?_
 refine zwd fun Kq kq => ?_
 refine zds ([((.slice a11 (S.take 6).length c12))] : List Value) (Z3L x a11 ((S.take 6).length) c12) H14 1 ?_
 intro w16 H17
 refine kq _ _ ?_
 clear kq Kq
 apply Z0N
 refine zwN 7 (Z3L x a11 ((S.take 6).length) c12) (H17.at 1 rfl) ?_
 refine zwd fun Kq kq => ?_
 refine Z21 (Z3L x a11 ((S.take 6).length) c12) H17 2 ?_
 intro w20 H21
 refine kq _ _ ?_
 clear kq Kq
 apply znt
 apply Zz
 refine Z1x rfl (Z02 (vs := (Z3L x a11 ((S.take 6).length) c12)) rfl (by kernel_rfl) (by kernel_rfl) (by exact Nat.le_of_ble_eq_true (by kernel_rfl)) (H21.at 2 rfl) (by kernel_rfl)) ?_
 exact ⟨a11, c12, rfl, H21.upd 0 rfl [] (fun _ h => h.elim)⟩
theorem Z4Z (w : World) (p : PrR) (hC : ListAt Z2J 38 w (.slice p.ca p.C.length p.cc) p.C) (hCi : ∀ c ∈ p.C, Zcs w c) :
  Calls Tryz.prog 44 #[(.agg ⟨([(.int .i64 (p.r)), (.int .i64 (p.e)), (.int .u64 (p.f)), (.slice p.ca p.C.length p.cc), (.int .i64 (p.sb)), (.int .i64 (p.sm))] : List Value)⟩)] w fun e w' => ∃ p_ : PrR, e = .returned (.agg ⟨Z3s p_⟩) ∧ Upd [] w w' := by
 have H := Sat.start0 w
 have hcap := ListAt.cap hC
 refine Zg Tryz.func44 rfl 28 rfl (Nat.le_of_ble_eq_true rfl) ?_
 apply zsl
 refine zwd fun Kq kq => ?_
 refine zdb (Z5b p) H ?_
 intro b2 w3 H4
 refine kq _ _ ?_
 clear kq Kq
 refine zwd fun Kq kq => ?_
 refine zda (Z83) H4 ?_
 intro b6 w7 H8
 refine kq _ _ ?_
 clear kq Kq
 apply Z0N
 refine wv 3 (.slice none 0 0) ?_
 apply znt
 apply Zf
 apply zsl
 refine wv 4 (.int .i64 (0)) ?_
 apply znt
 apply ZA
 have H9 := H8.addNil 57 38
 refine ZW (List.range' 3 22) (fun F_ W_ m_ => ∃ (i : Nat) (da : Option Addr) (dc : Nat) (D : List CeR), F_ 4 = (.int .i64 ((i : Int))) ∧ F_ 3 = (.slice da D.length dc) ∧ (i ≤ 3) ∧ (D.length = i) ∧ Sat w [Z7 w (fun _ => False), Z3 b2 62 (Z5b p), Z3 b6 62 (Z83), (ZbC da D dc)] W_ ∧ m_ = 4 - i) _ ⟨0, none, 0, [], (show ((.int .i64 (0)) : Value) = _ by first | rfl | go_num), (by first | rfl | go_num), (Nat.zero_le _), rfl, H9, rfl⟩ ?_
 rintro g10 w11 _ ⟨i, da, dc, D, v13, v14, hiD, hnD, H12, rfl⟩
 refine Zo 4 _ v13 ?_
 refine Zo 3 _ v14 ?_
 apply Zf
 refine Z0v [5, 6, 7, 8, 9, 10, 11, 12, 13] (fun G_ W_ => G_ 13 = (.bool (decide ((i : Int) < (p.C.length : Int)) && decide ((i : Int) < 3))) ∧ Sat w [Z7 w (fun _ => False), Z3 b2 62 (Z5b p), Z3 b6 62 (Z83), (ZbC da D dc)] W_) ?_ ?_
 ·apply Zt
  refine wv 5 (.int .i64 ((i : Int))) ?_
  refine wv 6 (pt b2 3) ?_
  refine zw1 7 (.slice p.ca p.C.length p.cc) (H12.cell 1 rfl rfl) ?_
  refine wv 8 (.int .i64 ((p.C.length : Int))) ?_
  refine wv 9 (.bool (decide ((i : Int) < (p.C.length : Int)))) ?_
  refine wv 10 (.bool (decide ((i : Int) < (p.C.length : Int)))) ?_
  refine (ZC (decide ((i : Int) < (p.C.length : Int)))).elim (fun b17 => ?_) (fun b17 => ?_)
  ·have g18 := of_decide_eq_true b17
   refine ZP 10 (.bool true) (congrArg Value.bool b17) ?_
   refine wy 5 10 true 11 (.int .i64 ((i : Int))) ?_
   refine wy 5 10 true 12 (.bool (decide ((i : Int) < 3))) ?_
   refine wv 13 (.bool (decide ((i : Int) < 3))) ?_
   apply Zu
   refine ZJ ?_ ⟨(congrArg Value.bool (show (decide ((i : Int) < 3)) = (decide ((i : Int) < (p.C.length : Int)) && decide ((i : Int) < 3)) by rw [b17]; rfl)), H12⟩
   exact zs
  have g20 := of_decide_eq_false b17
  refine ZP 10 (.bool false) (congrArg Value.bool b17) ?_
  iterate 2 refine wn 5 10 true ?_
  refine wv 13 (.bool false) ?_
  apply Zu
  refine ZJ ?_ ⟨(congrArg Value.bool (show false = (decide ((i : Int) < (p.C.length : Int)) && decide ((i : Int) < 3)) by rw [b17]; rfl)), H12⟩
  exact zs
 rintro f22 w23 ⟨v25, H24⟩
 refine Zo 13 _ v25 ?_
 refine (ZC (decide ((i : Int) < (p.C.length : Int)) && decide ((i : Int) < 3))).elim (fun b26 => ?_) (fun b26 => ?_)
 ·refine Z1q _ b26 ?_
  apply ZF
  apply ztn
  apply Zf
  apply ZA
  have hii := b26
  simp only [Bool.and_eq_true, decide_eq_true_eq] at hii
  obtain ⟨hi1, hi2⟩ := hii
  apply Zt
  refine wv 16 (.slice da D.length dc) ?_
  refine wv 17 (pt b2 3) ?_
  refine zw1 18 (.slice p.ca p.C.length p.cc) (H24.cell 1 rfl rfl) ?_
  refine wv 19 (.int .i64 ((i : Int))) ?_
  obtain ⟨g27, o28, c29, e30, R31⟩ := SliceOf.atD hC ce0 (show i < p.C.length by omega)
  refine wv 20 (.pointer (some ⟨g27, o28 + ((i : Int)).toNat * 38, none⟩)) ?_ (hr := ZM (E := 57) (by kernel_rfl) (by kernel_rfl) (Nat.le_of_ble_eq_true rfl) rfl e30 rfl (by omega) (by omega))
  refine wv 21 (.agg ⟨(ZbD ((p.C.getD i ce0).x) (p.C.getD i ce0) ((p.C.getD i ce0).S.length))⟩) ?_ (hr := Z0a (vs := (ZbD ((p.C.getD i ce0).x) (p.C.getD i ce0) ((p.C.getD i ce0).S.length))) rfl (by kernel_rfl) (by kernel_rfl) (Nat.le_of_ble_eq_true (by kernel_rfl)) (H24.runR 0 rfl (Z16 R31 0 (by kernel_rfl) (show o28 + ((i : Int)).toNat * 38 = o28 + i * 38 + 0 by omega)) (fun h => h)))
  refine zwd fun Kq kq => ?_
  refine zdc 22 (Z4Y w23 (p.C.getD i ce0).x (p.C.getD i ce0).sa (p.C.getD i ce0).sc (p.C.getD i ce0).S (ListAt.now H24 0 rfl (hCi (p.C.getD i ce0) (Z1c (by omega))))) ?_
  rintro _ w33 ⟨a34, c35, rfl, u36⟩
  have H37 := H24.keepU u36
  refine ⟨_, rfl, ?_⟩
  refine kq _ _ ?_
  clear kq Kq
  refine zwd fun Kq kq => ?_
  refine Z3U 57 38 96 (.agg ⟨(ZbB)⟩) [(0, (.agg ⟨(Z3L ((p.C.getD i ce0).x) a34 (((p.C.getD i ce0).S.take 6).length) c35)⟩))] (Z3L ((p.C.getD i ce0).x) a34 (((p.C.getD i ce0).S.take 6).length) c35) H37 ?_
  intro b39 w40 H41
  have H42 := H41.ct 4 rfl (Zc 57 38 (.slice (some ⟨b39, 0, none⟩) 1 1) 1 ([(⟨(p.C.getD i ce0).x, a34, c35, (p.C.getD i ce0).S.take 6⟩ : CeR)].flatMap Z2J)) (by rw [(show ((Z3L ((p.C.getD i ce0).x) a34 (((p.C.getD i ce0).S.take 6).length) c35) : List Value) = ([(⟨(p.C.getD i ce0).x, a34, c35, (p.C.getD i ce0).S.take 6⟩ : CeR)] : List CeR).flatMap Z2J by kernel_rfl)])
  refine kq _ _ ?_
  clear kq Kq
  refine zwd fun Kq kq => ?_
  refine Z0n (T := 60) (e := 57) (size := 38) (bytes := 96) rfl H42 (by kernel_rfl) 3 4 rfl rfl rfl rfl (Z0e Z2J Z99 [(⟨(p.C.getD i ce0).x, a34, c35, (p.C.getD i ce0).S.take 6⟩ : CeR)]) (by omega) (by omega) ?_
  intro v44 w45 H46
  have H49 := H46.ct 3 rfl (Zc 57 38 v44 ((D ++ [(⟨(p.C.getD i ce0).x, a34, c35, (p.C.getD i ce0).S.take 6⟩ : CeR)]).length) ((D ++ [(⟨(p.C.getD i ce0).x, a34, c35, (p.C.getD i ce0).S.take 6⟩ : CeR)]).flatMap Z2J)) ja
  obtain ⟨a47, c48, rfl⟩ := Ze (H49.at 3 rfl)
  refine kq _ _ ?_
  clear kq Kq
  refine wv 3 (.slice a47 ((D ++ [(⟨(p.C.getD i ce0).x, a34, c35, (p.C.getD i ce0).S.take 6⟩ : CeR)]).length) c48) ?_
  apply Zu
  apply Zw
  apply ztn
  apply Zt
  refine wv 14 (.int .i64 ((i : Int))) ?_
  refine zwi 15 ((i : Int) + 1) ?_
  refine wv 4 (.int .i64 ((i : Int) + 1)) ?_
  apply Zu
  have H50 := H49.pk [0, 1, 2, 3]
  refine ZE ?_ _ ⟨(i + 1), a47, c48, (D ++ [(⟨(p.C.getD i ce0).x, a34, c35, (p.C.getD i ce0).S.take 6⟩ : CeR)]), rfl, (show ((.slice a47 ((D ++ [(⟨(p.C.getD i ce0).x, a34, c35, (p.C.getD i ce0).S.take 6⟩ : CeR)]).length) c48) : Value) = _ by first | rfl | go_num), (by omega), (by simp only [List.length_append, List.length_cons, List.length_nil]; omega), H50, rfl⟩ (by omega)
  exact zs
 refine Z1a _ b26 ?_
 apply zxb
 apply ztn
 apply zsl
 refine wv 25 (.slice da D.length dc) ?_
 refine wv 26 (pt b2 3) ?_
 refine zwd fun Kq kq => ?_
 refine zds ([(.slice da D.length dc)] : List Value) (Z84 p da D.length dc) H24 1 ?_
 intro w52 H53
 refine kq _ _ ?_
 clear kq Kq
 apply Z0N
 refine zwN 27 (Z84 p da D.length dc) (H53.at 1 rfl) ?_
 refine zwd fun Kq kq => ?_
 refine Z21 (Z84 p da D.length dc) H53 2 ?_
 intro w56 H57
 refine kq _ _ ?_
 clear kq Kq
 apply znt
 apply Zz
 refine Z1x rfl (Z02 (vs := (Z84 p da D.length dc)) rfl (by kernel_rfl) (by kernel_rfl) (by exact Nat.le_of_ble_eq_true (by kernel_rfl)) (H57.at 2 rfl) (by kernel_rfl)) ?_
 exact ⟨⟨p.r, p.e, p.f, da, dc, p.sb, p.sm, D⟩, rfl, H57.upd 0 rfl [] (fun _ h => h.elim)⟩
theorem Z4h (w : World) (b : BtR) (hb : BtIn w b) :
  Calls Tryz.prog 45 #[(.agg ⟨([(.int .i64 (b.e)), (.int .u64 (b.t)), (.slice b.pa b.P.length b.pc), (.slice b.oa b.O.length b.oc), (.slice b.ta b.T.length b.tc)] : List Value)⟩)] w fun e w' => ∃ b_ : BtR, e = .returned (.agg ⟨Z7q b_⟩) ∧ Upd [] w w' := by
 have H := Sat.start0 w
 have hcapP := ListAt.cap hb.p
 have hcapO := ListAt.cap hb.o
 have hcapT := ListAt.cap hb.t
 refine Zg Tryz.func45 rfl 86 rfl (Nat.le_of_ble_eq_true rfl) ?_
 apply zsl
 refine zwd fun Kq kq => ?_
 refine zdb (Z25 b.e b.t b.pa b.P.length b.pc b.oa b.O.length b.oc b.ta b.T.length b.tc) H ?_
 intro b2 w3 H4
 refine kq _ _ ?_
 clear kq Kq
 refine zwd fun Kq kq => ?_
 refine zda (Z4q) H4 ?_
 intro b6 w7 H8
 refine kq _ _ ?_
 clear kq Kq
 apply Z0N
 refine wv 3 (.slice none 0 0) ?_
 apply znt
 apply Zf
 apply zsl
 refine wv 4 (.int .i64 (0)) ?_
 apply znt
 apply ZA
 have H9 := H8.addNil 62 6
 refine ZW ([3, 4] ++ List.range' 11 20) (fun F_ W_ m_ => ∃ (i : Nat) (pa : Option Addr) (pc : Nat) (P : List PrR), F_ 4 = (.int .i64 ((i : Int))) ∧ F_ 3 = (.slice pa P.length pc) ∧ (i ≤ 6) ∧ (P.length = i) ∧ Sat w [Z7 w (fun _ => False), Z3 b2 67 (Z25 b.e b.t b.pa b.P.length b.pc b.oa b.O.length b.oc b.ta b.T.length b.tc), Z3 b6 67 (Z4q), (Z5c pa P pc)] W_ ∧ m_ = 7 - i) _ ⟨0, none, 0, [], (show ((.int .i64 (0)) : Value) = _ by first | rfl | go_num), (by first | rfl | go_num), (Nat.zero_le _), rfl, H9, rfl⟩ ?_
 rintro g10 w11 _ ⟨i, pa, pc, P, v13, v14, hiP, hnP, H12, rfl⟩
 refine Zo 4 _ v13 ?_
 refine Zo 3 _ v14 ?_
 apply Zf
 refine Z0v [11, 12, 13, 14, 15, 16, 17, 18, 19] (fun G_ W_ => G_ 19 = (.bool (decide ((i : Int) < (b.P.length : Int)) && decide ((i : Int) < 6))) ∧ Sat w [Z7 w (fun _ => False), Z3 b2 67 (Z25 b.e b.t b.pa b.P.length b.pc b.oa b.O.length b.oc b.ta b.T.length b.tc), Z3 b6 67 (Z4q), (Z5c pa P pc)] W_) ?_ ?_
 ·apply Zt
  refine wv 11 (.int .i64 ((i : Int))) ?_
  refine wv 12 (pt b2 2) ?_
  refine zw1 13 (.slice b.pa b.P.length b.pc) (H12.cell 1 rfl rfl) ?_
  refine wv 14 (.int .i64 ((b.P.length : Int))) ?_
  refine wv 15 (.bool (decide ((i : Int) < (b.P.length : Int)))) ?_
  refine wv 16 (.bool (decide ((i : Int) < (b.P.length : Int)))) ?_
  refine (ZC (decide ((i : Int) < (b.P.length : Int)))).elim (fun b17 => ?_) (fun b17 => ?_)
  ·have g18 := of_decide_eq_true b17
   refine ZP 16 (.bool true) (congrArg Value.bool b17) ?_
   refine wy 5 16 true 17 (.int .i64 ((i : Int))) ?_
   refine wy 5 16 true 18 (.bool (decide ((i : Int) < 6))) ?_
   refine wv 19 (.bool (decide ((i : Int) < 6))) ?_
   apply Zu
   refine ZJ ?_ ⟨(congrArg Value.bool (show (decide ((i : Int) < 6)) = (decide ((i : Int) < (b.P.length : Int)) && decide ((i : Int) < 6)) by rw [b17]; rfl)), H12⟩
   exact zs
  have g20 := of_decide_eq_false b17
  refine ZP 16 (.bool false) (congrArg Value.bool b17) ?_
  iterate 2 refine wn 5 16 true ?_
  refine wv 19 (.bool false) ?_
  apply Zu
  refine ZJ ?_ ⟨(congrArg Value.bool (show false = (decide ((i : Int) < (b.P.length : Int)) && decide ((i : Int) < 6)) by rw [b17]; rfl)), H12⟩
  exact zs
 rintro f22 w23 ⟨v25, H24⟩
 refine Zo 19 _ v25 ?_
 refine (ZC (decide ((i : Int) < (b.P.length : Int)) && decide ((i : Int) < 6))).elim (fun b26 => ?_) (fun b26 => ?_)
 ·refine Z1q _ b26 ?_
  apply ZF
  apply ztn
  apply Zf
  apply ZA
  have hii := b26
  simp only [Bool.and_eq_true, decide_eq_true_eq] at hii
  obtain ⟨hi1, hi2⟩ := hii
  apply Zt
  refine wv 22 (.slice pa P.length pc) ?_
  refine wv 23 (pt b2 2) ?_
  refine zw1 24 (.slice b.pa b.P.length b.pc) (H24.cell 1 rfl rfl) ?_
  refine wv 25 (.int .i64 ((i : Int))) ?_
  obtain ⟨g27, o28, c29, e30, R31⟩ := SliceOf.atD hb.p pr0 (show i < b.P.length by omega)
  refine wv 26 (.pointer (some ⟨g27, o28 + ((i : Int)).toNat * 6, none⟩)) ?_ (hr := ZM (E := 62) (by kernel_rfl) (by kernel_rfl) (Nat.le_of_ble_eq_true rfl) rfl e30 rfl (by omega) (by omega))
  refine wv 27 (.agg ⟨(Z9E (b.P.getD i pr0) ((b.P.getD i pr0).C.length))⟩) ?_ (hr := Z0a (vs := (Z9E (b.P.getD i pr0) ((b.P.getD i pr0).C.length))) rfl (by kernel_rfl) (by kernel_rfl) (Nat.le_of_ble_eq_true (by kernel_rfl)) (H24.runR 0 rfl (Z16 R31 0 (by kernel_rfl) (show o28 + ((i : Int)).toNat * 6 = o28 + i * 6 + 0 by omega)) (fun h => h)))
  refine zwd fun Kq kq => ?_
  refine zdc 28 (Z4Z w23 (b.P.getD i pr0) (ListAt.now H24 0 rfl (hb.pi (b.P.getD i pr0) (Z1c (by omega))).1) (fun c_ hc_ => ListAt.now H24 0 rfl ((hb.pi (b.P.getD i pr0) (Z1c (by omega))).2 c_ hc_))) ?_
  rintro _ w33 ⟨p34, rfl, u35⟩
  have H36 := H24.keepU u35
  refine ⟨_, rfl, ?_⟩
  refine kq _ _ ?_
  clear kq Kq
  refine zwd fun Kq kq => ?_
  refine Z3U 62 6 64 (.agg ⟨(Z83)⟩) [(0, (.agg ⟨(Z5b p34)⟩))] (Z5b p34) H36 ?_
  intro b38 w39 H40
  have H41 := H40.ct 4 rfl (Zc 62 6 (.slice (some ⟨b38, 0, none⟩) 1 1) 1 ([p34].flatMap Z3s)) (by rw [(show ((Z5b p34) : List Value) = ([p34] : List PrR).flatMap Z3s by kernel_rfl)])
  refine kq _ _ ?_
  clear kq Kq
  refine zwd fun Kq kq => ?_
  refine Z0n (T := 63) (e := 62) (size := 6) (bytes := 64) rfl H41 (by kernel_rfl) 3 4 rfl rfl rfl rfl (Z0e Z3s Z9f [p34]) (by omega) (by omega) ?_
  intro v43 w44 H45
  have H48 := H45.ct 3 rfl (Zc 62 6 v43 ((P ++ [p34]).length) ((P ++ [p34]).flatMap Z3s)) ja
  obtain ⟨a46, c47, rfl⟩ := Ze (H48.at 3 rfl)
  refine kq _ _ ?_
  clear kq Kq
  refine wv 3 (.slice a46 ((P ++ [p34]).length) c47) ?_
  apply Zu
  apply Zw
  apply ztn
  apply Zt
  refine wv 20 (.int .i64 ((i : Int))) ?_
  refine zwi 21 ((i : Int) + 1) ?_
  refine wv 4 (.int .i64 ((i : Int) + 1)) ?_
  apply Zu
  have H49 := H48.pk [0, 1, 2, 3]
  refine ZE ?_ _ ⟨(i + 1), a46, c47, (P ++ [p34]), rfl, rfl, (by omega), (by simp only [List.length_append, List.length_cons, List.length_nil]; omega), H49, rfl⟩ (by omega)
  exact zs
 refine Z1a _ b26 ?_
 apply zxb
 apply ztn
 apply zsl
 refine wv 5 (.slice none 0 0) ?_
 apply znt
 apply Zf
 apply zsl
 refine wv 6 (.int .i64 (0)) ?_
 apply znt
 apply ZA
 have H50 := H24.addNil 75 34
 refine ZW ([5, 6, 7] ++ List.range' 31 24) (fun F_ W_ m_ => ∃ (j : Nat) (oa : Option Addr) (oc : Nat) (O : List OpR), F_ 6 = (.int .i64 ((j : Int))) ∧ F_ 5 = (.slice oa O.length oc) ∧ (j ≤ 3) ∧ (O.length = j) ∧ Sat w [Z7 w (fun _ => False), Z3 b2 67 (Z25 b.e b.t b.pa b.P.length b.pc b.oa b.O.length b.oc b.ta b.T.length b.tc), Z3 b6 67 (Z4q), (Z5c pa P pc), (Z5W oa O oc)] W_ ∧ m_ = 4 - j) _ ⟨0, none, 0, [], (show ((.int .i64 (0)) : Value) = _ by first | rfl | go_num), (by first | rfl | go_num), (Nat.zero_le _), rfl, H50, rfl⟩ ?_
 rintro g51 w52 _ ⟨j, oa, oc, O, v54, v55, hiO, hnO, H53, rfl⟩
 refine Zo 6 _ v54 ?_
 refine Zo 5 _ v55 ?_
 apply Zf
 refine Z0v [31, 32, 33, 34, 35, 36, 37, 38, 39] (fun G_ W_ => G_ 39 = (.bool (decide ((j : Int) < (b.O.length : Int)) && decide ((j : Int) < 3))) ∧ Sat w [Z7 w (fun _ => False), Z3 b2 67 (Z25 b.e b.t b.pa b.P.length b.pc b.oa b.O.length b.oc b.ta b.T.length b.tc), Z3 b6 67 (Z4q), (Z5c pa P pc), (Z5W oa O oc)] W_) ?_ ?_
 ·apply Zt
  refine wv 31 (.int .i64 ((j : Int))) ?_
  refine wv 32 (pt b2 3) ?_
  refine zw1 33 (.slice b.oa b.O.length b.oc) (H53.cell 1 rfl rfl) ?_
  refine wv 34 (.int .i64 ((b.O.length : Int))) ?_
  refine wv 35 (.bool (decide ((j : Int) < (b.O.length : Int)))) ?_
  refine wv 36 (.bool (decide ((j : Int) < (b.O.length : Int)))) ?_
  refine (ZC (decide ((j : Int) < (b.O.length : Int)))).elim (fun b58 => ?_) (fun b58 => ?_)
  ·have g59 := of_decide_eq_true b58
   refine ZP 36 (.bool true) (congrArg Value.bool b58) ?_
   refine wy 5 36 true 37 (.int .i64 ((j : Int))) ?_
   refine wy 5 36 true 38 (.bool (decide ((j : Int) < 3))) ?_
   refine wv 39 (.bool (decide ((j : Int) < 3))) ?_
   apply Zu
   refine ZJ ?_ ⟨(congrArg Value.bool (show (decide ((j : Int) < 3)) = (decide ((j : Int) < (b.O.length : Int)) && decide ((j : Int) < 3)) by rw [b58]; rfl)), H53⟩
   exact zs
  have g61 := of_decide_eq_false b58
  refine ZP 36 (.bool false) (congrArg Value.bool b58) ?_
  iterate 2 refine wn 5 36 true ?_
  refine wv 39 (.bool false) ?_
  apply Zu
  refine ZJ ?_ ⟨(congrArg Value.bool (show false = (decide ((j : Int) < (b.O.length : Int)) && decide ((j : Int) < 3)) by rw [b58]; rfl)), H53⟩
  exact zs
 rintro f63 w64 ⟨v66, H65⟩
 refine Zo 39 _ v66 ?_
 refine (ZC (decide ((j : Int) < (b.O.length : Int)) && decide ((j : Int) < 3))).elim (fun b67 => ?_) (fun b67 => ?_)
 ·refine Z1q _ b67 ?_
  apply ZF
  apply ztn
  apply Zf
  apply ZA
  apply Zf
  have hii := b67
  simp only [Bool.and_eq_true, decide_eq_true_eq] at hii
  obtain ⟨hi1, hi2⟩ := hii
  apply Zt
  refine wv 42 (pt b2 3) ?_
  refine zw1 43 (.slice b.oa b.O.length b.oc) (H65.cell 1 rfl rfl) ?_
  refine wv 44 (.int .i64 ((j : Int))) ?_
  obtain ⟨g68, o69, c70, e71, R72⟩ := SliceOf.atD hb.o op0 (show j < b.O.length by omega)
  refine wv 45 (.pointer (some ⟨g68, o69 + ((j : Int)).toNat * 34, none⟩)) ?_ (hr := ZM (E := 75) (by kernel_rfl) (by kernel_rfl) (Nat.le_of_ble_eq_true rfl) rfl e71 rfl (by omega) (by omega))
  refine wv 46 (.agg ⟨(Z7u (b.O.getD j op0) ((b.O.getD j op0).P.length))⟩) ?_ (hr := Z0a (vs := (Z7u (b.O.getD j op0) ((b.O.getD j op0).P.length))) rfl (by kernel_rfl) (by kernel_rfl) (Nat.le_of_ble_eq_true (by kernel_rfl)) (H65.runR 0 rfl (Z16 R72 0 (by kernel_rfl) (show o69 + ((j : Int)).toNat * 34 = o69 + j * 34 + 0 by omega)) (fun h => h)))
  refine zwd fun Kq kq => ?_
  refine zda (([(.int .i64 (0)), (.slice none 0 0)] : List Value) ++ hc Zx) H65 ?_
  intro b74 w75 H76
  refine kq _ _ ?_
  clear kq Kq
  refine zwd fun Kq kq => ?_
  refine Z21 (Z7u (b.O.getD j op0) ((b.O.getD j op0).P.length)) H76 5 ?_
  intro w78 H79
  refine kq _ _ ?_
  clear kq Kq
  apply Z0N
  refine wv 47 (pt b74 1) ?_
  refine zw1 48 ((.slice (b.O.getD j op0).pa (b.O.getD j op0).P.length (b.O.getD j op0).pc)) (H79.cell 5 rfl (by kernel_rfl)) ?_
  refine zwd fun Kq kq => ?_
  refine zdc 49 (Z3n (Z5K w78 (b.O.getD j op0).pa (b.O.getD j op0).pc ((b.O.getD j op0).P) (ListAt.now H79 0 rfl (hb.oi (b.O.getD j op0) (Z1c (by omega)))) 60 (by decide))) ?_
  rintro _ w82 ⟨a83, c84, rfl, u85⟩
  have H86 := H79.keepU u85
  refine ⟨_, rfl, ?_⟩
  refine kq _ _ ?_
  clear kq Kq
  refine wv 50 (pt b74 1) ?_
  refine zwd fun Kq kq => ?_
  refine zds ([((.slice a83 (((b.O.getD j op0).P).take 60).length c84))] : List Value) (Z4o (b.O.getD j op0) a83 ((((b.O.getD j op0).P).take 60).length) c84) H86 5 ?_
  intro w88 H89
  refine kq _ _ ?_
  clear kq Kq
  apply znt
  apply Zt
  refine wv 51 (.slice oa O.length oc) ?_
  refine zwN 52 (Z4o (b.O.getD j op0) a83 ((((b.O.getD j op0).P).take 60).length) c84) (H89.at 5 rfl) ?_
  refine zwd fun Kq kq => ?_
  refine Z3U 75 34 64 (.agg ⟨(([(.int .i64 (0)), (.slice none 0 0)] : List Value) ++ hc Zx)⟩) [(0, (.agg ⟨(Z4o (b.O.getD j op0) a83 ((((b.O.getD j op0).P).take 60).length) c84)⟩))] (Z4o (b.O.getD j op0) a83 ((((b.O.getD j op0).P).take 60).length) c84) H89 ?_
  intro b92 w93 H94
  have H95 := H94.ct 6 rfl (Zc 75 34 (.slice (some ⟨b92, 0, none⟩) 1 1) 1 ([(⟨(b.O.getD j op0).i, a83, c84, (((b.O.getD j op0).P).take 60), (b.O.getD j op0).h⟩ : OpR)].flatMap Z3r)) (by rw [(show ((Z4o (b.O.getD j op0) a83 ((((b.O.getD j op0).P).take 60).length) c84) : List Value) = ([(⟨(b.O.getD j op0).i, a83, c84, (((b.O.getD j op0).P).take 60), (b.O.getD j op0).h⟩ : OpR)] : List OpR).flatMap Z3r by kernel_rfl)])
  refine kq _ _ ?_
  clear kq Kq
  refine zwd fun Kq kq => ?_
  refine Z0n (T := 64) (e := 75) (size := 34) (bytes := 64) rfl H95 (by kernel_rfl) 4 6 rfl rfl rfl rfl (Z0e Z3r Z9e [(⟨(b.O.getD j op0).i, a83, c84, (((b.O.getD j op0).P).take 60), (b.O.getD j op0).h⟩ : OpR)]) (by omega) (by omega) ?_
  intro v97 w98 H99
  have H102 := H99.ct 4 rfl (Zc 75 34 v97 ((O ++ [(⟨(b.O.getD j op0).i, a83, c84, (((b.O.getD j op0).P).take 60), (b.O.getD j op0).h⟩ : OpR)]).length) ((O ++ [(⟨(b.O.getD j op0).i, a83, c84, (((b.O.getD j op0).P).take 60), (b.O.getD j op0).h⟩ : OpR)]).flatMap Z3r)) ja
  obtain ⟨a100, c101, rfl⟩ := Ze (H102.at 4 rfl)
  refine kq _ _ ?_
  clear kq Kq
  refine wv 5 (.slice a100 ((O ++ [(⟨(b.O.getD j op0).i, a83, c84, (((b.O.getD j op0).P).take 60), (b.O.getD j op0).h⟩ : OpR)]).length) c101) ?_
  apply Zu
  apply Zw
  apply ztn
  apply Zt
  refine wv 40 (.int .i64 ((j : Int))) ?_
  refine zwi 41 ((j : Int) + 1) ?_
  refine wv 6 (.int .i64 ((j : Int) + 1)) ?_
  apply Zu
  have H103 := H102.pk [0, 1, 2, 3, 4]
  refine ZE ?_ _ ⟨(j + 1), a100, c101, (O ++ [(⟨(b.O.getD j op0).i, a83, c84, (((b.O.getD j op0).P).take 60), (b.O.getD j op0).h⟩ : OpR)]), rfl, (show ((.slice a100 ((O ++ [(⟨(b.O.getD j op0).i, a83, c84, (((b.O.getD j op0).P).take 60), (b.O.getD j op0).h⟩ : OpR)]).length) c101) : Value) = _ by first | rfl | go_num), (by omega), (by simp only [List.length_append, List.length_cons, List.length_nil]; omega), H103, rfl⟩ (by omega)
  exact zs
 refine Z1a _ b67 ?_
 apply zxb
 apply ztn
 apply zsl
 refine wv 8 (.slice none 0 0) ?_
 apply znt
 apply Zf
 apply zsl
 refine wv 9 (.int .i64 (0)) ?_
 apply znt
 apply ZA
 have H104 := H65.addNil 166 2
 refine ZW ([8, 9, 10] ++ List.range' 55 24) (fun F_ W_ m_ => ∃ (k : Nat) (ta : Option Addr) (tc : Nat) (T : List TbR), F_ 9 = (.int .i64 ((k : Int))) ∧ F_ 8 = (.slice ta T.length tc) ∧ (k ≤ 3) ∧ (T.length = k) ∧ Sat w [Z7 w (fun _ => False), Z3 b2 67 (Z25 b.e b.t b.pa b.P.length b.pc b.oa b.O.length b.oc b.ta b.T.length b.tc), Z3 b6 67 (Z4q), (Z5c pa P pc), (Z5W oa O oc), (Z9F ta T tc)] W_ ∧ m_ = 4 - k) _ ⟨0, none, 0, [], (show ((.int .i64 (0)) : Value) = _ by first | rfl | go_num), (by first | rfl | go_num), (Nat.zero_le _), rfl, H104, rfl⟩ ?_
 rintro g105 w106 _ ⟨k, ta, tc, T, v108, v109, hiT, hnT, H107, rfl⟩
 refine Zo 9 _ v108 ?_
 refine Zo 8 _ v109 ?_
 apply Zf
 refine Z0v [55, 56, 57, 58, 59, 60, 61, 62, 63] (fun G_ W_ => G_ 63 = (.bool (decide ((k : Int) < (b.T.length : Int)) && decide ((k : Int) < 3))) ∧ Sat w [Z7 w (fun _ => False), Z3 b2 67 (Z25 b.e b.t b.pa b.P.length b.pc b.oa b.O.length b.oc b.ta b.T.length b.tc), Z3 b6 67 (Z4q), (Z5c pa P pc), (Z5W oa O oc), (Z9F ta T tc)] W_) ?_ ?_
 ·apply Zt
  refine wv 55 (.int .i64 ((k : Int))) ?_
  refine wv 56 (pt b2 4) ?_
  refine zw1 57 (.slice b.ta b.T.length b.tc) (H107.cell 1 rfl rfl) ?_
  refine wv 58 (.int .i64 ((b.T.length : Int))) ?_
  refine wv 59 (.bool (decide ((k : Int) < (b.T.length : Int)))) ?_
  refine wv 60 (.bool (decide ((k : Int) < (b.T.length : Int)))) ?_
  refine (ZC (decide ((k : Int) < (b.T.length : Int)))).elim (fun b112 => ?_) (fun b112 => ?_)
  ·have g113 := of_decide_eq_true b112
   refine ZP 60 (.bool true) (congrArg Value.bool b112) ?_
   refine wy 5 60 true 61 (.int .i64 ((k : Int))) ?_
   refine wy 5 60 true 62 (.bool (decide ((k : Int) < 3))) ?_
   refine wv 63 (.bool (decide ((k : Int) < 3))) ?_
   apply Zu
   refine ZJ ?_ ⟨(congrArg Value.bool (show (decide ((k : Int) < 3)) = (decide ((k : Int) < (b.T.length : Int)) && decide ((k : Int) < 3)) by rw [b112]; rfl)), H107⟩
   exact zs
  have g115 := of_decide_eq_false b112
  refine ZP 60 (.bool false) (congrArg Value.bool b112) ?_
  iterate 2 refine wn 5 60 true ?_
  refine wv 63 (.bool false) ?_
  apply Zu
  refine ZJ ?_ ⟨(congrArg Value.bool (show false = (decide ((k : Int) < (b.T.length : Int)) && decide ((k : Int) < 3)) by rw [b112]; rfl)), H107⟩
  exact zs
 rintro f117 w118 ⟨v120, H119⟩
 refine Zo 63 _ v120 ?_
 refine (ZC (decide ((k : Int) < (b.T.length : Int)) && decide ((k : Int) < 3))).elim (fun b121 => ?_) (fun b121 => ?_)
 ·refine Z1q _ b121 ?_
  apply ZF
  apply ztn
  apply Zf
  apply ZA
  apply Zf
  have hii := b121
  simp only [Bool.and_eq_true, decide_eq_true_eq] at hii
  obtain ⟨hi1, hi2⟩ := hii
  apply Zt
  refine wv 66 (pt b2 4) ?_
  refine zw1 67 (.slice b.ta b.T.length b.tc) (H119.cell 1 rfl rfl) ?_
  refine wv 68 (.int .i64 ((k : Int))) ?_
  obtain ⟨g122, o123, c124, e125, R126⟩ := SliceOf.atD hb.t tb0 (show k < b.T.length by omega)
  refine wv 69 (.pointer (some ⟨g122, o123 + ((k : Int)).toNat * 2, none⟩)) ?_ (hr := ZM (E := 166) (by kernel_rfl) (by kernel_rfl) (Nat.le_of_ble_eq_true rfl) rfl e125 rfl (by omega) (by omega))
  refine wv 70 (.agg ⟨(Z7v (b.T.getD k tb0) ((b.T.getD k tb0).D.length))⟩) ?_ (hr := Z0a (vs := (Z7v (b.T.getD k tb0) ((b.T.getD k tb0).D.length))) rfl (by kernel_rfl) (by kernel_rfl) (Nat.le_of_ble_eq_true (by kernel_rfl)) (H119.runR 0 rfl (Z16 R126 0 (by kernel_rfl) (show o123 + ((k : Int)).toNat * 2 = o123 + k * 2 + 0 by omega)) (fun h => h)))
  refine zwd fun Kq kq => ?_
  refine zda ([(.int .i64 (0)), (.slice none 0 0)] : List Value) H119 ?_
  intro b128 w129 H130
  refine kq _ _ ?_
  clear kq Kq
  refine zwd fun Kq kq => ?_
  refine Z21 (Z7v (b.T.getD k tb0) ((b.T.getD k tb0).D.length)) H130 6 ?_
  intro w132 H133
  refine kq _ _ ?_
  clear kq Kq
  apply Z0N
  refine wv 71 (pt b128 1) ?_
  refine zw1 72 ((.slice (b.T.getD k tb0).da (b.T.getD k tb0).D.length (b.T.getD k tb0).dc)) (H133.cell 6 rfl rfl) ?_
  refine zwd fun Kq kq => ?_
  refine zdc 73 (Z3n (ZbR w132 (b.T.getD k tb0).da (b.T.getD k tb0).dc ((b.T.getD k tb0).D) (ListAt.now H133 0 rfl (hb.ti (b.T.getD k tb0) (Z1c (by omega)))) 6 (by decide))) ?_
  rintro _ w136 ⟨a137, c138, rfl, u139⟩
  have H140 := H133.keepU u139
  refine ⟨_, rfl, ?_⟩
  refine kq _ _ ?_
  clear kq Kq
  refine wv 74 (pt b128 1) ?_
  refine zwd fun Kq kq => ?_
  refine zds ([((.slice a137 (((b.T.getD k tb0).D).take 6).length c138))] : List Value) (Z4p ((b.T.getD k tb0).i) a137 ((((b.T.getD k tb0).D).take 6).length) c138) H140 6 ?_
  intro w142 H143
  refine kq _ _ ?_
  clear kq Kq
  apply znt
  apply Zt
  refine wv 75 (.slice ta T.length tc) ?_
  refine zwN 76 (Z4p ((b.T.getD k tb0).i) a137 ((((b.T.getD k tb0).D).take 6).length) c138) (H143.at 6 rfl) ?_
  refine zwd fun Kq kq => ?_
  refine Z3U 166 2 32 (.agg ⟨([(.int .i64 (0)), (.slice none 0 0)] : List Value)⟩) [(0, (.agg ⟨(Z4p ((b.T.getD k tb0).i) a137 ((((b.T.getD k tb0).D).take 6).length) c138)⟩))] (Z4p ((b.T.getD k tb0).i) a137 ((((b.T.getD k tb0).D).take 6).length) c138) H143 ?_
  intro b146 w147 H148
  have H149 := H148.ct 7 rfl (Zc 166 2 (.slice (some ⟨b146, 0, none⟩) 1 1) 1 ([(⟨(b.T.getD k tb0).i, a137, c138, (((b.T.getD k tb0).D).take 6)⟩ : TbR)].flatMap Z4f)) (by rw [(show ((Z4p ((b.T.getD k tb0).i) a137 ((((b.T.getD k tb0).D).take 6).length) c138) : List Value) = ([(⟨(b.T.getD k tb0).i, a137, c138, (((b.T.getD k tb0).D).take 6)⟩ : TbR)] : List TbR).flatMap Z4f by kernel_rfl)])
  refine kq _ _ ?_
  clear kq Kq
  refine zwd fun Kq kq => ?_
  refine Z0n (T := 65) (e := 166) (size := 2) (bytes := 32) rfl H149 (by kernel_rfl) 5 7 rfl rfl rfl rfl (Z0e Z4f Z9h [(⟨(b.T.getD k tb0).i, a137, c138, (((b.T.getD k tb0).D).take 6)⟩ : TbR)]) (by omega) (by omega) ?_
  intro v151 w152 H153
  have H156 := H153.ct 5 rfl (Zc 166 2 v151 ((T ++ [(⟨(b.T.getD k tb0).i, a137, c138, (((b.T.getD k tb0).D).take 6)⟩ : TbR)]).length) ((T ++ [(⟨(b.T.getD k tb0).i, a137, c138, (((b.T.getD k tb0).D).take 6)⟩ : TbR)]).flatMap Z4f)) ja
  obtain ⟨a154, c155, rfl⟩ := Ze (H156.at 5 rfl)
  refine kq _ _ ?_
  clear kq Kq
  refine wv 8 (.slice a154 ((T ++ [(⟨(b.T.getD k tb0).i, a137, c138, (((b.T.getD k tb0).D).take 6)⟩ : TbR)]).length) c155) ?_
  apply Zu
  apply Zw
  apply ztn
  apply Zt
  refine wv 64 (.int .i64 ((k : Int))) ?_
  refine zwi 65 ((k : Int) + 1) ?_
  refine wv 9 (.int .i64 ((k : Int) + 1)) ?_
  apply Zu
  have H157 := H156.pk [0, 1, 2, 3, 4, 5]
  refine ZE ?_ _ ⟨(k + 1), a154, c155, (T ++ [(⟨(b.T.getD k tb0).i, a137, c138, (((b.T.getD k tb0).D).take 6)⟩ : TbR)]), rfl, (show ((.slice a154 ((T ++ [(⟨(b.T.getD k tb0).i, a137, c138, (((b.T.getD k tb0).D).take 6)⟩ : TbR)]).length) c155) : Value) = _ by first | rfl | go_num), (by omega), (by simp only [List.length_append, List.length_cons, List.length_nil]; omega), H157, rfl⟩ (by omega)
  exact zs
 refine Z1a _ b121 ?_
 apply zxb
 apply ztn
 apply zsl
 refine wv 79 (.slice pa P.length pc) ?_
 refine wv 80 (.slice oa O.length oc) ?_
 refine wv 81 (.slice ta T.length tc) ?_
 refine wv 82 (pt b2 2) ?_
 refine zwd fun Kq kq => ?_
 refine zds ([(.slice pa P.length pc)] : List Value) (Z25 b.e b.t pa P.length pc b.oa b.O.length b.oc b.ta b.T.length b.tc) H119 1 ?_
 intro w159 H160
 refine kq _ _ ?_
 clear kq Kq
 refine wv 83 (pt b2 3) ?_
 refine zwd fun Kq kq => ?_
 refine zds ([(.slice oa O.length oc)] : List Value) (Z25 b.e b.t pa P.length pc oa O.length oc b.ta b.T.length b.tc) H160 1 ?_
 intro w163 H164
 refine kq _ _ ?_
 clear kq Kq
 refine wv 84 (pt b2 4) ?_
 refine zwd fun Kq kq => ?_
 refine zds ([(.slice ta T.length tc)] : List Value) (Z25 b.e b.t pa P.length pc oa O.length oc ta T.length tc) H164 1 ?_
 intro w167 H168
 refine kq _ _ ?_
 clear kq Kq
 apply Z0N
 refine zwN 85 (Z25 b.e b.t pa P.length pc oa O.length oc ta T.length tc) (H168.at 1 rfl) ?_
 refine zwd fun Kq kq => ?_
 refine Z21 (Z25 b.e b.t pa P.length pc oa O.length oc ta T.length tc) H168 2 ?_
 intro w171 H172
 refine kq _ _ ?_
 clear kq Kq
 apply znt
 apply Zz
 refine Z1x rfl (Z02 (vs := (Z25 b.e b.t pa P.length pc oa O.length oc ta T.length tc)) rfl (by kernel_rfl) (by kernel_rfl) (by exact Nat.le_of_ble_eq_true (by kernel_rfl)) (H172.at 2 rfl) (by kernel_rfl)) ?_
 exact ⟨⟨b.e, b.t, pa, pc, P, oa, oc, O, ta, tc, T⟩, rfl, H172.upd 0 rfl [] (fun _ h => h.elim)⟩
end Go.Proofs.YtgigjkjdmalmaaaGreat
