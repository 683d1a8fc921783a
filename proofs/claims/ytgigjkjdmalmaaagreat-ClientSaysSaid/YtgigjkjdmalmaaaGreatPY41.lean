/- WHAT IS PROVED: contracts and plain laws of Says22. Conditions: stated with each. -/
import Derived.Test.YtgigjkjdmalmaaaGreatPY05
import Derived.Test.YtgigjkjdmalmaaaGreatPY11
import Derived.Test.YtgigjkjdmalmaaaGreatPY12
import Derived.Test.YtgigjkjdmalmaaaGreatPY24
import Derived.Test.YtgigjkjdmalmaaaGreatPY25
import Derived.Test.YtgigjkjdmalmaaaGreatPY31
import Derived.Test.YtgigjkjdmalmaaaGreatPY37
import Derived.Test.YtgigjkjdmalmaaaGreatPY38
import Derived.Test.YtgigjkjdmalmaaaGreatPY40
set_option maxHeartbeats 4000000
set_option maxRecDepth 100000
namespace Go.Proofs.YtgigjkjdmalmaaaGreat
open Go.RowKit
abbrev Zv (p0 : Int) : List Value := ([(.int .i64 p0), (.int .i64 (3))] : List Value)
abbrev ZN (p0 : Nat) (p1 : List Z4) : Ck := ZI p0 ZK (Value.int .i64) (ZU p1)
abbrev ZO (p0 : Nat) : List Value := ([(.map (some p0))] : List Value)
abbrev Z0X (p0 : Int) (p1 : Int) (p2 : Nat) : List Value := ([(.int .i64 p0), (.int .i64 (3)), (.int .i64 p1), (pt p2 0), (.slice none 0 0)] : List Value)
abbrev Z3b (p0 : Int) (p1 : Int) (p2 : Nat) (p3 : Option Addr) (p4 : Nat) (p5 : Nat) : List Value := ([(.int .i64 p0), (.int .i64 (3)), (.int .i64 p1), (pt p2 0), (.slice p3 p4 p5)] : List Value)
abbrev Z01 (p0 : Int) (p1 : Int) (p2 : Nat) (p3 : Nat) (p4 : Nat) (p5 : Nat) : List Value := ([(.int .i64 p0), (.int .i64 (3)), (.int .i64 p1), (pt p2 0), (.slice (some ⟨p3, 0, none⟩) p4 p5)] : List Value)
abbrev ZR (p0 : Int) (p1 : Int) (p2 : Int) (p3 : Z0) (p4 : Zk) (p5 : Zk) (p6 : Int) (p7 : Int) (p8 : Int) (p9 : Int) (p10 : Int) (p11 : Int) (p12 : Int) (p13 : Int) (p14 : Int) (p15 : Option Addr) (p16 : Nat) (p17 : Nat) (p18 : Option Addr) (p19 : Nat) (p20 : Nat) (p21 : Option Addr) (p22 : Nat) (p23 : Nat) (p24 : Int) (p25 : Int) (p26 : Int) (p27 : Int) (p28 : Int) (p29 : Int) (p30 : Z1e) (p31 : Int) (p32 : Int) (p33 : Int) (p34 : EntD) (p35 : Z2H) (p36 : Value) (p37 : Int) (p38 : Int) (p39 : Int) (p40 : Int) (p41 : Option Addr) (p42 : Nat) (p43 : Nat) (p44 : Option Addr) (p45 : Nat) (p46 : Nat) (p47 : Option Addr) (p48 : Nat) (p49 : Nat) (p50 : Option Addr) (p51 : Nat) (p52 : Nat) (p53 : CeR) (p54 : PrR) (p55 : OpR) : List Value := ([(.int .i64 p0), (.int .i64 p1), (.int .i64 p2), (.int .i64 p3.cl), (.int .i64 p3.seq)] : List Value) ++ hc p3.h ++ ([(.int .i64 p3.len), (.int .i64 p3.sb), (.int .i64 p3.sm), (.int .i64 p4.r), (.int .i64 p4.cl), (.int .i64 p4.seq)] : List Value) ++ hc p4.h ++ ([(.int .u64 p4.t), (.int .i64 p4.sb), (.int .i64 p4.sm), (.int .i64 p53.x.cl), (.int .i64 p53.x.seq)] : List Value) ++ hc p53.x.h ++ ([(.int .i64 p53.x.len), (.int .i64 p53.x.sb), (.int .i64 p53.x.sm), (.slice p53.sa p53.S.length p53.sc), (.int .i64 p5.r), (.int .i64 p5.cl), (.int .i64 p5.seq)] : List Value) ++ hc p5.h ++ ([(.int .u64 p5.t), (.int .i64 p5.sb), (.int .i64 p5.sm), (.int .i64 p6), (.int .i64 p7), (.int .u64 p8), (.int .i64 p54.r), (.int .i64 p54.e), (.int .u64 p54.f), (.slice p54.ca p54.C.length p54.cc), (.int .i64 p54.sb), (.int .i64 p54.sm), (.int .i64 p9), (.int .i64 p10), (.int .i64 p11), (.int .i64 p12), (.int .i64 p13), (.int .u64 p14), (.slice p15 p16 p17), (.slice p18 p19 p20), (.slice p21 p22 p23), (.int .i64 p24), (.int .i64 p25), (.int .i64 p26)] : List Value) ++ ([(.int .i64 p27), (.int .i64 p28), (.int .i64 p29)] : List Value) ++ hc p30 ++ ([(.int .i64 p31), (.int .i64 p32), (.int .i64 p33), (.int .i64 p34.cl), (.int .i64 p34.sq)] : List Value) ++ hc p34.h ++ ([(.int .u64 p34.t), (.int .i64 p55.i), (.slice p55.pa p55.P.length p55.pc)] : List Value) ++ hc p55.h ++ ([(.int .i64 p35.r), (.int .i64 p35.i), (.int .i64 p35.sb), (.int .i64 p35.sm), p36, (.int .i64 p37), (.int .i64 p38), (.int .i64 p39), (.int .u64 p40), (.slice p41 p42 p43), (.slice p44 p45 p46), (.slice p47 p48 p49), (.slice p50 p51 p52)] : List Value)
abbrev Z3c (p0 : Value) : List Value := ([(.int .i64 (0)), (.int .i64 (0)), (.int .i64 (0)), (.int .i64 (0)), (.int .i64 (0))] : List Value) ++ hc Zx ++ ([(.int .i64 (0)), (.int .i64 (0)), (.int .i64 (0)), (.int .i64 (0)), (.int .i64 (0)), (.int .i64 (0))] : List Value) ++ hc Zx ++ ([(.int .u64 (0)), (.int .i64 (0)), (.int .i64 (0)), (.int .i64 (0)), (.int .i64 (0))] : List Value) ++ hc Zx ++ ([(.int .i64 (0)), (.int .i64 (0)), (.int .i64 (0)), (.slice none 0 0), (.int .i64 (0)), (.int .i64 (0)), (.int .i64 (0))] : List Value) ++ hc Zx ++ ([(.int .u64 (0)), (.int .i64 (0)), (.int .i64 (0)), (.int .i64 (0)), (.int .i64 (0)), (.int .u64 (0)), (.int .i64 (0)), (.int .i64 (0)), (.int .u64 (0)), (.slice none 0 0), (.int .i64 (0)), (.int .i64 (0)), (.int .i64 (0)), (.int .i64 (0)), (.int .i64 (0)), (.int .i64 (0)), (.int .i64 (0)), (.int .u64 (0)), (.slice none 0 0), (.slice none 0 0), (.slice none 0 0), (.int .i64 (0)), (.int .i64 (0)), (.int .i64 (0))] : List Value) ++ ([(.int .i64 (0)), (.int .i64 (0)), (.int .i64 (0))] : List Value) ++ hc Zx ++ ([(.int .i64 (0)), (.int .i64 (0)), (.int .i64 (0)), (.int .i64 (0)), (.int .i64 (0))] : List Value) ++ hc Zx ++ ([(.int .u64 (0)), (.int .i64 (0)), (.slice none 0 0)] : List Value) ++ hc Zx ++ ([(.int .i64 (0)), (.int .i64 (0)), (.int .i64 (0)), (.int .i64 (0)), p0, (.int .i64 (0)), (.int .i64 (0)), (.int .i64 (0)), (.int .u64 (0)), (.slice none 0 0), (.slice none 0 0), (.slice none 0 0), (.slice none 0 0)] : List Value)
abbrev Z3d (p0 : Int) (p1 : Int) (p2 : Int) (p3 : Int) (p4 : Int) : List Value := ([(.int .i64 p0), (.int .i64 p1), (.int .i64 p2), (.int .i64 p3), (.int .i64 p4)] : List Value)
abbrev Z3e (p0 : Int) (p1 : Int) (p2 : Int) (p3 : Option Addr) (p4 : Nat) (p5 : Nat) : List Value := ([(.int .i64 p0), (.int .i64 p1), (.int .i64 p2), (.slice p3 p4 p5)] : List Value)
theorem MsIn.now {w0 w : World} {D : Nat → Prop} {G : List Ck} {m : MsR} (h : MsIn w0 m) (H : Sat w0 G w) (i : Nat) (hi : G[i]? = some (Z7 w0 (fun _ => False))) : MsIn w m :=
 ⟨ListAt.now H i hi h.cx, ⟨ListAt.now H i hi h.pr.1, fun c hc => ListAt.now H i hi (h.pr.2 c hc)⟩, h.qb.now (D := D) H i hi, ListAt.now H i hi h.op, h.db.now (D := D) H i hi, ListAt.now H i hi h.v, h.st, h.ak⟩
theorem Z8A (w : World) (f i0 : Int) (ya : Option Addr) (yc : Nat) (PL : List PyD) (hPL : ListAt encPy 1 w (.slice ya PL.length yc) PL) (hPy : ∀ x ∈ PL, PyIn w x) (la0 : Option Addr) (lc0 : Nat) (MS : List MsR) (hMS : ListAt Z6E 295 w (.slice la0 MS.length lc0) MS) (hMi : ∀ x ∈ MS, MsIn w x) (ga : Option Addr) (gc : Nat) (AG : List Int) (hAG : ListAt encJ 1 w (.slice ga AG.length gc) AG) :
  Calls Tryz.prog 4 #[(.int .i64 (f)), (.int .i64 (i0)), (.slice ya PL.length yc), (.slice la0 MS.length lc0), (.slice ga AG.length gc)] w fun e w' => e = .returned (.bool true) ∧ Upd [] w w' := by
 have hw3 := Z2G f 3 (by omega)
 have hwi := Z2G i0 3 (by omega)
 have hcP := ListAt.cap hPL
 have hcM := ListAt.cap hMS
 have hcA := ListAt.cap hAG
 have H := Sat.start0 w
 refine Zg Tryz.func4 rfl 202 rfl (Nat.le_of_ble_eq_true rfl) ?_
 apply zsl
 refine wv 10 (.bool false) ?_
 apply znt
 refine Z0v [11, 25, 26, 27, 28] (fun G_ W_ => ∃ (F : Int) (x11 : Nat), G_ 11 = (pt x11 0) ∧ (1 ≤ F ∧ F ≤ 3) ∧ Sat w [Z7 w (fun _ => False), Z3 x11 27 (Zv F)] W_) ?_ ?_
 ·apply Zt
  refine wv 25 (.int .i64 (f)) ?_
  refine zwd fun Kq kq => ?_
  refine zdq 26 (Z2F w f 3 (by omega)) H ?_
  intro w3 H4
  refine kq _ _ ?_
  clear kq Kq
  refine zwi 27 (1 + (Z04 f 3)) ?_
  refine wv 28 (.agg ⟨(Zv (1 + (Z04 f 3)))⟩) ?_
  refine zwd fun Kq kq => ?_
  refine zda ([(.int .i64 (0)), (.int .i64 (0))] : List Value) H4 ?_
  intro b7 w8 H9
  refine kq _ _ ?_
  clear kq Kq
  refine zwd fun Kq kq => ?_
  refine Z21 (Zv (1 + (Z04 f 3))) H9 1 ?_
  intro w11 (H12 : Sat w [Z7 w (fun _ => False), Z3 b7 27 (Zv (1 + (Z04 f 3)))] w11)
  refine kq _ _ ?_
  clear kq Kq
  apply Zu
  have H14 := H12.pk [0, 1]
  refine ZJ ?_ ⟨(1 + (Z04 f 3)), b7, rfl, (by omega), H14⟩
  exact zs
 rintro f15 w16 ⟨F, x11, v18, hF, H17⟩
 refine Zo 11 _ v18 ?_
 apply zsl
 refine zwN 29 (Zv F) (H17.at 1 rfl) ?_
 refine zwd fun Kq kq => ?_
 refine zdq 30 (Zcp w16 F 3 (by omega)) H17 ?_
 intro w20 H21
 refine kq _ _ ?_
 clear kq Kq
 refine wv 12 (.int .i64 (3 * F + 1)) ?_
 apply znt
 refine Z0v [1, 31, 32] (fun G_ W_ => ∃ (id : Int), G_ 1 = (.int .i64 (id)) ∧ (0 ≤ id ∧ id < 3) ∧ Sat w [Z7 w (fun _ => False), Z3 x11 27 (Zv F)] W_) ?_ ?_
 ·apply Zt
  refine wv 31 (.int .i64 (i0)) ?_
  refine zwd fun Kq kq => ?_
  refine zdq 32 (Z2F w20 i0 3 (by omega)) H21 ?_
  intro w25 H26
  refine kq _ _ ?_
  clear kq Kq
  refine wv 1 (.int .i64 (Z04 i0 3)) ?_
  apply Zu
  have H28 : Sat w [Z7 w (fun _ => False), Z3 x11 27 (Zv F)] w25 := H26.pk [0, 1]
  refine ZJ ?_ ⟨(Z04 i0 3), rfl, (by omega), H28⟩
  exact (Za rfl (Za rfl (Za rfl (Z1N))))
 rintro f29 w30 ⟨id, v32, hid, H31⟩
 refine Zo 1 _ v32 ?_
 apply zsl
 refine zwd fun Kq kq => ?_
 refine zdc 33 (Z8a w30) ?_
 rintro _ w34 ⟨b35, m36, rfl, k37, p38, q39⟩
 have H40 := H31.addU p38 k37 q39
 have H41 : Sat w [Z7 w (fun _ => False), Z3 x11 27 (Zv F), Z3 b35 108 (ZO m36), (ZN m36 ([]))] w34 := H40.open 2 rfl
 refine ⟨_, rfl, ?_⟩
 refine kq _ _ ?_
 clear kq Kq
 refine wv 13 (pt b35 0) ?_
 apply znt
 apply Zf
 apply zsl
 refine wv 34 (pt b35 0) ?_
 refine wv 35 (.bool false) ?_
 apply znt
 refine Z0y rfl ?_
 apply ZF
 apply ztn
 apply zsl
 refine zwN 37 (Zv F) (H41.at 1 rfl) ?_
 refine wv 38 (.int .i64 (id)) ?_
 refine wv 39 (pt b35 0) ?_
 refine zwd fun Kq kq => ?_
 refine zdc 40 (Z6t w34 F 3 id b35 (by unfold Z2I; simp; omega) (by omega)) ?_
 rintro _ w43 ⟨c44, rfl, k45, p46, q47⟩
 have H48 := H41.addU p46 k45 q47
 refine ⟨_, rfl, ?_⟩
 refine kq _ _ ?_
 clear kq Kq
 refine wv 36 (.tuple #[(pt c44 0), (.int .i64 (0))]) ?_
 refine wv 41 (pt c44 0) ?_
 refine wv 42 (.int .i64 (0)) ?_
 refine wv 14 (pt c44 0) ?_
 refine wv 15 (.int .i64 (0)) ?_
 apply znt
 apply Zf
 apply zsl
 refine wv 43 (.int .i64 (0)) ?_
 refine wv 44 (.bool false) ?_
 refine wv 45 (.bool false) ?_
 refine wy 2 45 false 46 (pt c44 0) ?_
 refine wy 2 45 false 47 (.bool false) ?_
 refine wv 48 (.bool false) ?_
 apply znt
 refine Z0y rfl ?_
 apply ZF
 apply ztn
 apply zsl
 refine wv 16 (.slice none 0 0) ?_
 apply znt
 apply Zf
 apply zsl
 refine wv 17 (.int .i64 (0)) ?_
 apply znt
 apply ZA
 have H50 : Sat w [Z7 w (fun _ => False), Z3 x11 27 (Zv F), Z3 b35 108 (ZO m36), (ZN m36 ([])), Z3 c44 112 ([(.int .i64 (F)), (.int .i64 (3)), (.int .i64 (id)), (pt b35 0), (.slice none (([] : List Zq).length) 0)] : List Value), Zc 119 79 (.slice none (([] : List Zq).length) 0) (([] : List Zq).length) (([] : List Zq).flatMap Zh)] w43 := H48.addNil 119 79
 have H51 := H50.famNew rqP
 have H52 := H51.addNil 35 1
 have H53 := H52.bag0
 have H54 := H53.pk [0, 1, 4, 5, 6, 2, 3, 7, 8]
 refine ZW ([10, 16, 17, 18, 19] ++ List.range' 49 42) (fun F_ W_ m_ => ∃ (i : Nat) (Q : List Zq) (Z : List (Zq × RqM)) (L : List Z4) (la : Option Addr) (lc : Nat) (oa : Option Addr) (oc : Nat) (OL : List OlD) (Bo : List Ck), F_ 17 = (.int .i64 ((i : Int))) ∧ F_ 16 = (.slice oa OL.length oc) ∧ (i ≤ 3) ∧ (Q.length = i) ∧ (InvZ F id [] 0 Q Z) ∧ (L.length ≤ i) ∧ ((la = none ∧ Q = [] ∧ lc = 0) ∨ ∃ g, la = some ⟨g, 0, none⟩) ∧ (OL.length = i) ∧ (OlOk F id Bo OL) ∧ Sat w [Z7 w (fun _ => False), Z3 x11 27 (Zv F), Z3 c44 112 (Z3b F id b35 la Q.length lc), Zc 119 79 (.slice la Q.length lc) Q.length (Q.flatMap Zh), Z1j rqP Z, Z3 b35 108 (ZO m36), (ZN m36 L), Zc 35 1 (.slice oa OL.length oc) OL.length (OL.flatMap ZZ), Z0j Bo] W_ ∧ m_ = 4 - i) _ ⟨0, [], [], [], none, 0, none, 0, [], [], (show ((.int .i64 (0)) : Value) = _ by first | rfl | go_num), (by first | rfl | go_num), (Nat.zero_le _), rfl, InvZ.nil, (Nat.zero_le _), (.inl ⟨rfl, rfl, rfl⟩), rfl, OlOk.nil, H54, rfl⟩ ?_
 rintro g55 w56 _ ⟨i, Q, Z, L, la, lc, oa, oc, OL, Bo, v58, v59, hi, hQl, hI, hL, hla, hOl, hOk, H57, rfl⟩
 refine Zo 17 _ v58 ?_
 refine Zo 16 _ v59 ?_
 apply Zf
 refine Z0v [49, 50, 51, 52, 53, 54, 55, 56] (fun G_ W_ => G_ 56 = (.bool (decide ((i : Int) < (PL.length : Int)) && decide ((i : Int) < 3))) ∧ Sat w [Z7 w (fun _ => False), Z3 x11 27 (Zv F), Z3 c44 112 (Z3b F id b35 la Q.length lc), Zc 119 79 (.slice la Q.length lc) Q.length (Q.flatMap Zh), Z1j rqP Z, Z3 b35 108 (ZO m36), (ZN m36 L), Zc 35 1 (.slice oa OL.length oc) OL.length (OL.flatMap ZZ), Z0j Bo] W_) ?_ ?_
 ·apply Zt
  refine wv 49 (.int .i64 ((i : Int))) ?_
  refine wv 50 (.slice ya PL.length yc) ?_
  refine wv 51 (.int .i64 ((PL.length : Int))) ?_
  refine wv 52 (.bool (decide ((i : Int) < (PL.length : Int)))) ?_
  refine wv 53 (.bool (decide ((i : Int) < (PL.length : Int)))) ?_
  refine (ZC (decide ((i : Int) < (PL.length : Int)))).elim (fun b62 => ?_) (fun b62 => ?_)
  ·have g63 := of_decide_eq_true b62
   refine ZP 53 (.bool true) (congrArg Value.bool b62) ?_
   refine wy 4 53 true 54 (.int .i64 ((i : Int))) ?_
   refine wy 4 53 true 55 (.bool (decide ((i : Int) < 3))) ?_
   refine wv 56 (.bool (decide ((i : Int) < 3))) ?_
   apply Zu
   refine ZJ ?_ ⟨(congrArg Value.bool (show (decide ((i : Int) < 3)) = (decide ((i : Int) < (PL.length : Int)) && decide ((i : Int) < 3)) by rw [b62]; rfl)), H57⟩
   exact zs
  have g65 := of_decide_eq_false b62
  refine ZP 53 (.bool false) (congrArg Value.bool b62) ?_
  iterate 2 refine wn 4 53 true ?_
  refine wv 56 (.bool false) ?_
  apply Zu
  refine ZJ ?_ ⟨(congrArg Value.bool (show false = (decide ((i : Int) < (PL.length : Int)) && decide ((i : Int) < 3)) by rw [b62]; rfl)), H57⟩
  exact zs
 rintro f67 w68 ⟨v70, H69⟩
 refine Zo 56 _ v70 ?_
 refine (ZC (decide ((i : Int) < (PL.length : Int)) && decide ((i : Int) < 3))).elim (fun b71 => ?_) (fun b71 => ?_)
 ·refine Z1q _ b71 ?_
  apply ZF
  apply ztn
  apply Zf
  apply ZA
  have hii := b71
  simp only [Bool.and_eq_true, decide_eq_true_eq] at hii
  obtain ⟨hi1, hi2⟩ := hii
  refine Z0v ([18, 19] ++ List.range' 59 13) (fun G_ W_ => ∃ (g2 lc2 : Nat) (q : Zq) (L2 : List Z4) (da : Option Addr) (dc : Nat) (D : List OmR), G_ 18 = (.slice da D.length dc) ∧ G_ 19 = (.int .i64 (0)) ∧ (q.x.cl = id ∧ q.x.seq = (i : Int) + 1) ∧ (q.P.length ≤ 256) ∧ (q.cb = none ∧ q.op = false ∧ q.pl = 0 ∧ q.dn = false ∧ q.rp = []) ∧ (L2.length ≤ i + 1) ∧ ((D.length : Int) = 3 * F + 1) ∧ (OutG F id D) ∧ Sat w [Z7 w (fun _ => False), Z3 x11 27 (Zv F), Z3 c44 112 (Z01 F id b35 g2 ((Q ++ [q]).length) lc2), Zc 119 79 (.slice (some ⟨g2, 0, none⟩) ((Q ++ [q]).length) lc2) ((Q ++ [q]).length) ((Q ++ [q]).flatMap Zh), Z1j rqP (Z ++ [(q, (⟨[], [], [], []⟩ : RqM))]), Z3 b35 108 (ZO m36), (ZN m36 L2), Zc 35 1 (.slice oa OL.length oc) OL.length (OL.flatMap ZZ), Z0j Bo, Zc 82 295 (.slice da D.length dc) D.length (D.flatMap Z0d)] W_) ?_ ?_
  ·apply Zt
   refine wv 60 (pt c44 0) ?_
   refine wv 61 (.slice ya PL.length yc) ?_
   refine wv 62 (.int .i64 ((i : Int))) ?_
   obtain ⟨g73, o74, c75, e76, R77⟩ := SliceOf.atD hPL py0 (show i < PL.length by omega)
   refine wv 63 (.pointer (some ⟨g73, o74 + ((i : Int)).toNat * 1, none⟩)) ?_ (hr := ZM (E := 38) (by kernel_rfl) (by kernel_rfl) (Nat.le_of_ble_eq_true rfl) rfl e76 rfl (by omega) (by omega))
   refine zw1 64 ((.slice (PL.getD i py0).a (PL.getD i py0).P.length (PL.getD i py0).c)) (H69.cellR 0 rfl (Z1C R77 0 (by kernel_rfl) (show o74 + ((i : Int)).toNat * 1 = o74 + i * 1 + 0 by omega)) (fun h => h)) ?_
   refine zwd fun Kq kq => ?_
   refine zdc 65 (Z5K w68 (PL.getD i py0).a (PL.getD i py0).c ((PL.getD i py0).P) (ListAt.now H69 0 rfl (hPy _ (Z1c (by omega)))) 200 (by decide)) ?_
   rintro _ w79 ⟨u80, rfl, k81, p82, q83⟩
   have H84 : Sat w [Z7 w (fun _ => False), Z3 x11 27 (Zv F), Z3 c44 112 (Z3b F id b35 la Q.length lc), Zc 119 79 (.slice la Q.length lc) Q.length (Q.flatMap Zh), Z1j rqP Z, Z3 b35 108 (ZO m36), (ZN m36 L), Zc 35 1 (.slice oa OL.length oc) OL.length (OL.flatMap ZZ), Z0j Bo, Zc 5 1 u80 ((((PL.getD i py0).P).take 200).length) ((((PL.getD i py0).P).take 200).flatMap ZH)] w79 := H69.addU p82 k81 q83
   obtain ⟨a85, c86, rfl⟩ := Ze (H84.at 9 rfl)
   refine ⟨_, rfl, ?_⟩
   refine kq _ _ ?_
   clear kq Kq
   refine wv 66 (.int .i64 ((i : Int))) ?_
   refine wv 67 (.int .u8 ((i : Int))) ?_ (hr := Z0I (z := (i : Int)) (by kernel_rfl) (Zcl (by omega)))
   refine wv 68 (.agg ⟨(([(.int .u8 ((i : Int))), (.int .u8 (0)), (.int .u8 (0)), (.int .u8 (0)), (.int .u8 (0)), (.int .u8 (0)), (.int .u8 (0)), (.int .u8 (0)), (.int .u8 (0)), (.int .u8 (0)), (.int .u8 (0)), (.int .u8 (0)), (.int .u8 (0)), (.int .u8 (0)), (.int .u8 (0)), (.int .u8 (0)), (.int .u8 (0)), (.int .u8 (0)), (.int .u8 (0)), (.int .u8 (0)), (.int .u8 (0)), (.int .u8 (0)), (.int .u8 (0)), (.int .u8 (0))] : List Value) ++ ([(.int .u8 (0)), (.int .u8 (0)), (.int .u8 (0)), (.int .u8 (0)), (.int .u8 (0)), (.int .u8 (0)), (.int .u8 (0)), (.int .u8 (0))] : List Value))⟩) ?_
   refine zwd fun Kq kq => ?_
   have H88 : Sat w [Z7 w (fun _ => False), Z3 x11 27 (Zv F), Z3 c44 112 (Z3b F id b35 la Q.length lc), Zc 119 79 (.slice la Q.length lc) Q.length (Q.flatMap Zh), Z1j rqP Z, Z3 b35 108 (ZO m36), (ZN m36 L), Zc 35 1 (.slice oa OL.length oc) OL.length (OL.flatMap ZZ), Z0j Bo, ZX (.slice a85 (((PL.getD i py0).P).take 200).length c86) (((PL.getD i py0).P).take 200)] w79 := H84.conv 9 rfl (fun h_ => Z1H (ListAt.row (enc := ZH) (sz := 1) Z0u (by decide) h_)) (fun _ h_ => h_.2)
   have hlPp : (((PL.getD i py0).P).take 200).length ≤ 200 := by rw [List.length_take]; omega
   refine Z0L (d := 69) rfl (by rw [← Z8y (show i < 3 by omega)]; kernel_rfl) (Z3B w79 c44 b35 m36 lc la F 3 id Q L a85 c86 (((PL.getD i py0).P).take 200) (H88.fn [2, 3, 5, 6, 9]) (Z0T i) (by omega) (by omega) (Nat.le_trans hlPp (by decide)) (Zbc (H84.at 9 rfl)) (by omega) (by omega)) ?_
   rintro _ w89 ⟨g90, c91, a92, c93, m94, m95, m96, m97, a98, c99, D100, B101, rfl, n102, o103, T104⟩
   have H105 : Sat w [Z7 w (fun _ => False), Z3 x11 27 (Zv F), Z3 c44 112 (Z01 F id b35 g90 ((Q ++ [(⟨(⟨id, ((Q.length : Int) + 1), Z8 (ofT id ((Q.length : Int) + 1) (Z0T i) (((PL.getD i py0).P).take 200)), (((PL.getD i py0).P).take 200).length, 1000 + id, Z9 (Zd L (⟨1000 + id, Z1 (⟨id, ((Q.length : Int) + 1), Z8 (ofT id ((Q.length : Int) + 1) (Z0T i) (((PL.getD i py0).P).take 200)), (((PL.getD i py0).P).take 200).length, 0, 0⟩ : Z0)⟩ : Z4)) (⟨1000 + id, Z1 (⟨id, ((Q.length : Int) + 1), Z8 (ofT id ((Q.length : Int) + 1) (Z0T i) (((PL.getD i py0).P).take 200)), (((PL.getD i py0).P).take 200).length, 0, 0⟩ : Z0)⟩ : Z4)⟩ : Z0), a92, c93, (((PL.getD i py0).P).take 200), (Z0T i), m94, none, m95, m96, false, 0, m97, false, []⟩ : Zq)]).length) c91), Zc 119 79 (.slice (some ⟨g90, 0, none⟩) ((Q ++ [(⟨(⟨id, ((Q.length : Int) + 1), Z8 (ofT id ((Q.length : Int) + 1) (Z0T i) (((PL.getD i py0).P).take 200)), (((PL.getD i py0).P).take 200).length, 1000 + id, Z9 (Zd L (⟨1000 + id, Z1 (⟨id, ((Q.length : Int) + 1), Z8 (ofT id ((Q.length : Int) + 1) (Z0T i) (((PL.getD i py0).P).take 200)), (((PL.getD i py0).P).take 200).length, 0, 0⟩ : Z0)⟩ : Z4)) (⟨1000 + id, Z1 (⟨id, ((Q.length : Int) + 1), Z8 (ofT id ((Q.length : Int) + 1) (Z0T i) (((PL.getD i py0).P).take 200)), (((PL.getD i py0).P).take 200).length, 0, 0⟩ : Z0)⟩ : Z4)⟩ : Z0), a92, c93, (((PL.getD i py0).P).take 200), (Z0T i), m94, none, m95, m96, false, 0, m97, false, []⟩ : Zq)]).length) c91) ((Q ++ [(⟨(⟨id, ((Q.length : Int) + 1), Z8 (ofT id ((Q.length : Int) + 1) (Z0T i) (((PL.getD i py0).P).take 200)), (((PL.getD i py0).P).take 200).length, 1000 + id, Z9 (Zd L (⟨1000 + id, Z1 (⟨id, ((Q.length : Int) + 1), Z8 (ofT id ((Q.length : Int) + 1) (Z0T i) (((PL.getD i py0).P).take 200)), (((PL.getD i py0).P).take 200).length, 0, 0⟩ : Z0)⟩ : Z4)) (⟨1000 + id, Z1 (⟨id, ((Q.length : Int) + 1), Z8 (ofT id ((Q.length : Int) + 1) (Z0T i) (((PL.getD i py0).P).take 200)), (((PL.getD i py0).P).take 200).length, 0, 0⟩ : Z0)⟩ : Z4)⟩ : Z0), a92, c93, (((PL.getD i py0).P).take 200), (Z0T i), m94, none, m95, m96, false, 0, m97, false, []⟩ : Zq)]).length) ((Q ++ [(⟨(⟨id, ((Q.length : Int) + 1), Z8 (ofT id ((Q.length : Int) + 1) (Z0T i) (((PL.getD i py0).P).take 200)), (((PL.getD i py0).P).take 200).length, 1000 + id, Z9 (Zd L (⟨1000 + id, Z1 (⟨id, ((Q.length : Int) + 1), Z8 (ofT id ((Q.length : Int) + 1) (Z0T i) (((PL.getD i py0).P).take 200)), (((PL.getD i py0).P).take 200).length, 0, 0⟩ : Z0)⟩ : Z4)) (⟨1000 + id, Z1 (⟨id, ((Q.length : Int) + 1), Z8 (ofT id ((Q.length : Int) + 1) (Z0T i) (((PL.getD i py0).P).take 200)), (((PL.getD i py0).P).take 200).length, 0, 0⟩ : Z0)⟩ : Z4)⟩ : Z0), a92, c93, (((PL.getD i py0).P).take 200), (Z0T i), m94, none, m95, m96, false, 0, m97, false, []⟩ : Zq)]).flatMap Zh), Z1j rqP Z, Z3 b35 108 (ZO m36), (ZN m36 (Zd L (⟨1000 + id, Z1 (⟨id, ((Q.length : Int) + 1), Z8 (ofT id ((Q.length : Int) + 1) (Z0T i) (((PL.getD i py0).P).take 200)), (((PL.getD i py0).P).take 200).length, 0, 0⟩ : Z0)⟩ : Z4))), Zc 35 1 (.slice oa OL.length oc) OL.length (OL.flatMap ZZ), Z0j Bo, ZX (.slice a85 (((PL.getD i py0).P).take 200).length c86) (((PL.getD i py0).P).take 200), ZI m94 (Value.int .i64) Z0h [], ZI m95 (Value.int .i64) Value.bool [], ZI m96 (Value.int .i64) rcV [], ZI m97 (Value.int .i64) ZD [], Zc 5 1 (.slice a92 ((((PL.getD i py0).P).take 200).length) c93) ((((PL.getD i py0).P).take 200).length) ((((PL.getD i py0).P).take 200).flatMap ZH), Zc 82 295 (.slice a98 D100.length c99) D100.length (D100.flatMap Z0d), Z0j B101] w89 := (Sat.turnL (L' := [Z3 c44 112 (Z01 F id b35 g90 ((Q ++ [(⟨(⟨id, ((Q.length : Int) + 1), Z8 (ofT id ((Q.length : Int) + 1) (Z0T i) (((PL.getD i py0).P).take 200)), (((PL.getD i py0).P).take 200).length, 1000 + id, Z9 (Zd L (⟨1000 + id, Z1 (⟨id, ((Q.length : Int) + 1), Z8 (ofT id ((Q.length : Int) + 1) (Z0T i) (((PL.getD i py0).P).take 200)), (((PL.getD i py0).P).take 200).length, 0, 0⟩ : Z0)⟩ : Z4)) (⟨1000 + id, Z1 (⟨id, ((Q.length : Int) + 1), Z8 (ofT id ((Q.length : Int) + 1) (Z0T i) (((PL.getD i py0).P).take 200)), (((PL.getD i py0).P).take 200).length, 0, 0⟩ : Z0)⟩ : Z4)⟩ : Z0), a92, c93, (((PL.getD i py0).P).take 200), (Z0T i), m94, none, m95, m96, false, 0, m97, false, []⟩ : Zq)]).length) c91), Zc 119 79 (.slice (some ⟨g90, 0, none⟩) ((Q ++ [(⟨(⟨id, ((Q.length : Int) + 1), Z8 (ofT id ((Q.length : Int) + 1) (Z0T i) (((PL.getD i py0).P).take 200)), (((PL.getD i py0).P).take 200).length, 1000 + id, Z9 (Zd L (⟨1000 + id, Z1 (⟨id, ((Q.length : Int) + 1), Z8 (ofT id ((Q.length : Int) + 1) (Z0T i) (((PL.getD i py0).P).take 200)), (((PL.getD i py0).P).take 200).length, 0, 0⟩ : Z0)⟩ : Z4)) (⟨1000 + id, Z1 (⟨id, ((Q.length : Int) + 1), Z8 (ofT id ((Q.length : Int) + 1) (Z0T i) (((PL.getD i py0).P).take 200)), (((PL.getD i py0).P).take 200).length, 0, 0⟩ : Z0)⟩ : Z4)⟩ : Z0), a92, c93, (((PL.getD i py0).P).take 200), (Z0T i), m94, none, m95, m96, false, 0, m97, false, []⟩ : Zq)]).length) c91) ((Q ++ [(⟨(⟨id, ((Q.length : Int) + 1), Z8 (ofT id ((Q.length : Int) + 1) (Z0T i) (((PL.getD i py0).P).take 200)), (((PL.getD i py0).P).take 200).length, 1000 + id, Z9 (Zd L (⟨1000 + id, Z1 (⟨id, ((Q.length : Int) + 1), Z8 (ofT id ((Q.length : Int) + 1) (Z0T i) (((PL.getD i py0).P).take 200)), (((PL.getD i py0).P).take 200).length, 0, 0⟩ : Z0)⟩ : Z4)) (⟨1000 + id, Z1 (⟨id, ((Q.length : Int) + 1), Z8 (ofT id ((Q.length : Int) + 1) (Z0T i) (((PL.getD i py0).P).take 200)), (((PL.getD i py0).P).take 200).length, 0, 0⟩ : Z0)⟩ : Z4)⟩ : Z0), a92, c93, (((PL.getD i py0).P).take 200), (Z0T i), m94, none, m95, m96, false, 0, m97, false, []⟩ : Zq)]).length) ((Q ++ [(⟨(⟨id, ((Q.length : Int) + 1), Z8 (ofT id ((Q.length : Int) + 1) (Z0T i) (((PL.getD i py0).P).take 200)), (((PL.getD i py0).P).take 200).length, 1000 + id, Z9 (Zd L (⟨1000 + id, Z1 (⟨id, ((Q.length : Int) + 1), Z8 (ofT id ((Q.length : Int) + 1) (Z0T i) (((PL.getD i py0).P).take 200)), (((PL.getD i py0).P).take 200).length, 0, 0⟩ : Z0)⟩ : Z4)) (⟨1000 + id, Z1 (⟨id, ((Q.length : Int) + 1), Z8 (ofT id ((Q.length : Int) + 1) (Z0T i) (((PL.getD i py0).P).take 200)), (((PL.getD i py0).P).take 200).length, 0, 0⟩ : Z0)⟩ : Z4)⟩ : Z0), a92, c93, (((PL.getD i py0).P).take 200), (Z0T i), m94, none, m95, m96, false, 0, m97, false, []⟩ : Zq)]).flatMap Zh), Z3 b35 108 (ZO m36), (ZN m36 (Zd L (⟨1000 + id, Z1 (⟨id, ((Q.length : Int) + 1), Z8 (ofT id ((Q.length : Int) + 1) (Z0T i) (((PL.getD i py0).P).take 200)), (((PL.getD i py0).P).take 200).length, 0, 0⟩ : Z0)⟩ : Z4))), ZX (.slice a85 (((PL.getD i py0).P).take 200).length c86) (((PL.getD i py0).P).take 200), ZI m94 (Value.int .i64) Z0h [], ZI m95 (Value.int .i64) Value.bool [], ZI m96 (Value.int .i64) rcV [], ZI m97 (Value.int .i64) ZD [], Zc 5 1 (.slice a92 ((((PL.getD i py0).P).take 200).length) c93) ((((PL.getD i py0).P).take 200).length) ((((PL.getD i py0).P).take 200).flatMap ZH), Zc 82 295 (.slice a98 D100.length c99) D100.length (D100.flatMap Z0d), Z0j B101]) (R := [Z7 w (fun _ => False), Z3 x11 27 (Zv F), Z1j rqP Z, Zc 35 1 (.slice oa OL.length oc) OL.length (OL.flatMap ZZ), Z0j Bo]) H88 [2, 3, 5, 6, 9] [0, 1, 4, 7, 8] (by decide) (by kernel_rfl) rfl T104).pk [12, 13, 0, 1, 14, 2, 3, 15, 16, 4, 5, 6, 7, 8, 9, 10, 11]
   refine ⟨_, rfl, ?_⟩
   refine kq _ _ ?_
   clear kq Kq
   refine wv 59 (.tuple #[(.slice a98 D100.length c99), (.int .i64 (0))]) ?_
   refine wv 70 (.slice a98 D100.length c99) ?_
   refine wv 71 (.int .i64 (0)) ?_
   refine wv 18 (.slice a98 D100.length c99) ?_
   refine wv 19 (.int .i64 (0)) ?_
   apply Zu
   have H106 := Sat.famPush (f := rqP) (q := ((⟨(⟨id, ((Q.length : Int) + 1), Z8 (ofT id ((Q.length : Int) + 1) (Z0T i) (((PL.getD i py0).P).take 200)), (((PL.getD i py0).P).take 200).length, 1000 + id, Z9 (Zd L (⟨1000 + id, Z1 (⟨id, ((Q.length : Int) + 1), Z8 (ofT id ((Q.length : Int) + 1) (Z0T i) (((PL.getD i py0).P).take 200)), (((PL.getD i py0).P).take 200).length, 0, 0⟩ : Z0)⟩ : Z4)) (⟨1000 + id, Z1 (⟨id, ((Q.length : Int) + 1), Z8 (ofT id ((Q.length : Int) + 1) (Z0T i) (((PL.getD i py0).P).take 200)), (((PL.getD i py0).P).take 200).length, 0, 0⟩ : Z0)⟩ : Z4)⟩ : Z0), a92, c93, (((PL.getD i py0).P).take 200), (Z0T i), m94, none, m95, m96, false, 0, m97, false, []⟩ : Zq), (⟨[], [], [], []⟩ : RqM))) (Q := Z) (R := [Z7 w (fun _ => False), Z3 x11 27 (Zv F), Z3 c44 112 (Z01 F id b35 g90 ((Q ++ [(⟨(⟨id, ((Q.length : Int) + 1), Z8 (ofT id ((Q.length : Int) + 1) (Z0T i) (((PL.getD i py0).P).take 200)), (((PL.getD i py0).P).take 200).length, 1000 + id, Z9 (Zd L (⟨1000 + id, Z1 (⟨id, ((Q.length : Int) + 1), Z8 (ofT id ((Q.length : Int) + 1) (Z0T i) (((PL.getD i py0).P).take 200)), (((PL.getD i py0).P).take 200).length, 0, 0⟩ : Z0)⟩ : Z4)) (⟨1000 + id, Z1 (⟨id, ((Q.length : Int) + 1), Z8 (ofT id ((Q.length : Int) + 1) (Z0T i) (((PL.getD i py0).P).take 200)), (((PL.getD i py0).P).take 200).length, 0, 0⟩ : Z0)⟩ : Z4)⟩ : Z0), a92, c93, (((PL.getD i py0).P).take 200), (Z0T i), m94, none, m95, m96, false, 0, m97, false, []⟩ : Zq)]).length) c91), Zc 119 79 (.slice (some ⟨g90, 0, none⟩) ((Q ++ [(⟨(⟨id, ((Q.length : Int) + 1), Z8 (ofT id ((Q.length : Int) + 1) (Z0T i) (((PL.getD i py0).P).take 200)), (((PL.getD i py0).P).take 200).length, 1000 + id, Z9 (Zd L (⟨1000 + id, Z1 (⟨id, ((Q.length : Int) + 1), Z8 (ofT id ((Q.length : Int) + 1) (Z0T i) (((PL.getD i py0).P).take 200)), (((PL.getD i py0).P).take 200).length, 0, 0⟩ : Z0)⟩ : Z4)) (⟨1000 + id, Z1 (⟨id, ((Q.length : Int) + 1), Z8 (ofT id ((Q.length : Int) + 1) (Z0T i) (((PL.getD i py0).P).take 200)), (((PL.getD i py0).P).take 200).length, 0, 0⟩ : Z0)⟩ : Z4)⟩ : Z0), a92, c93, (((PL.getD i py0).P).take 200), (Z0T i), m94, none, m95, m96, false, 0, m97, false, []⟩ : Zq)]).length) c91) ((Q ++ [(⟨(⟨id, ((Q.length : Int) + 1), Z8 (ofT id ((Q.length : Int) + 1) (Z0T i) (((PL.getD i py0).P).take 200)), (((PL.getD i py0).P).take 200).length, 1000 + id, Z9 (Zd L (⟨1000 + id, Z1 (⟨id, ((Q.length : Int) + 1), Z8 (ofT id ((Q.length : Int) + 1) (Z0T i) (((PL.getD i py0).P).take 200)), (((PL.getD i py0).P).take 200).length, 0, 0⟩ : Z0)⟩ : Z4)) (⟨1000 + id, Z1 (⟨id, ((Q.length : Int) + 1), Z8 (ofT id ((Q.length : Int) + 1) (Z0T i) (((PL.getD i py0).P).take 200)), (((PL.getD i py0).P).take 200).length, 0, 0⟩ : Z0)⟩ : Z4)⟩ : Z0), a92, c93, (((PL.getD i py0).P).take 200), (Z0T i), m94, none, m95, m96, false, 0, m97, false, []⟩ : Zq)]).length) ((Q ++ [(⟨(⟨id, ((Q.length : Int) + 1), Z8 (ofT id ((Q.length : Int) + 1) (Z0T i) (((PL.getD i py0).P).take 200)), (((PL.getD i py0).P).take 200).length, 1000 + id, Z9 (Zd L (⟨1000 + id, Z1 (⟨id, ((Q.length : Int) + 1), Z8 (ofT id ((Q.length : Int) + 1) (Z0T i) (((PL.getD i py0).P).take 200)), (((PL.getD i py0).P).take 200).length, 0, 0⟩ : Z0)⟩ : Z4)) (⟨1000 + id, Z1 (⟨id, ((Q.length : Int) + 1), Z8 (ofT id ((Q.length : Int) + 1) (Z0T i) (((PL.getD i py0).P).take 200)), (((PL.getD i py0).P).take 200).length, 0, 0⟩ : Z0)⟩ : Z4)⟩ : Z0), a92, c93, (((PL.getD i py0).P).take 200), (Z0T i), m94, none, m95, m96, false, 0, m97, false, []⟩ : Zq)]).flatMap Zh), Z3 b35 108 (ZO m36), (ZN m36 (Zd L (⟨1000 + id, Z1 (⟨id, ((Q.length : Int) + 1), Z8 (ofT id ((Q.length : Int) + 1) (Z0T i) (((PL.getD i py0).P).take 200)), (((PL.getD i py0).P).take 200).length, 0, 0⟩ : Z0)⟩ : Z4))), Zc 35 1 (.slice oa OL.length oc) OL.length (OL.flatMap ZZ), Z0j Bo, Zc 82 295 (.slice a98 D100.length c99) D100.length (D100.flatMap Z0d)]) (H105.pk [10, 11, 12, 13, 14, 4, 0, 1, 2, 3, 5, 6, 7, 8, 15])
   have H108 : Sat w [Z7 w (fun _ => False), Z3 x11 27 (Zv F), Z3 c44 112 (Z01 F id b35 g90 ((Q ++ [(⟨(⟨id, ((Q.length : Int) + 1), Z8 (ofT id ((Q.length : Int) + 1) (Z0T i) (((PL.getD i py0).P).take 200)), (((PL.getD i py0).P).take 200).length, 1000 + id, Z9 (Zd L (⟨1000 + id, Z1 (⟨id, ((Q.length : Int) + 1), Z8 (ofT id ((Q.length : Int) + 1) (Z0T i) (((PL.getD i py0).P).take 200)), (((PL.getD i py0).P).take 200).length, 0, 0⟩ : Z0)⟩ : Z4)) (⟨1000 + id, Z1 (⟨id, ((Q.length : Int) + 1), Z8 (ofT id ((Q.length : Int) + 1) (Z0T i) (((PL.getD i py0).P).take 200)), (((PL.getD i py0).P).take 200).length, 0, 0⟩ : Z0)⟩ : Z4)⟩ : Z0), a92, c93, (((PL.getD i py0).P).take 200), (Z0T i), m94, none, m95, m96, false, 0, m97, false, []⟩ : Zq)]).length) c91), Zc 119 79 (.slice (some ⟨g90, 0, none⟩) ((Q ++ [(⟨(⟨id, ((Q.length : Int) + 1), Z8 (ofT id ((Q.length : Int) + 1) (Z0T i) (((PL.getD i py0).P).take 200)), (((PL.getD i py0).P).take 200).length, 1000 + id, Z9 (Zd L (⟨1000 + id, Z1 (⟨id, ((Q.length : Int) + 1), Z8 (ofT id ((Q.length : Int) + 1) (Z0T i) (((PL.getD i py0).P).take 200)), (((PL.getD i py0).P).take 200).length, 0, 0⟩ : Z0)⟩ : Z4)) (⟨1000 + id, Z1 (⟨id, ((Q.length : Int) + 1), Z8 (ofT id ((Q.length : Int) + 1) (Z0T i) (((PL.getD i py0).P).take 200)), (((PL.getD i py0).P).take 200).length, 0, 0⟩ : Z0)⟩ : Z4)⟩ : Z0), a92, c93, (((PL.getD i py0).P).take 200), (Z0T i), m94, none, m95, m96, false, 0, m97, false, []⟩ : Zq)]).length) c91) ((Q ++ [(⟨(⟨id, ((Q.length : Int) + 1), Z8 (ofT id ((Q.length : Int) + 1) (Z0T i) (((PL.getD i py0).P).take 200)), (((PL.getD i py0).P).take 200).length, 1000 + id, Z9 (Zd L (⟨1000 + id, Z1 (⟨id, ((Q.length : Int) + 1), Z8 (ofT id ((Q.length : Int) + 1) (Z0T i) (((PL.getD i py0).P).take 200)), (((PL.getD i py0).P).take 200).length, 0, 0⟩ : Z0)⟩ : Z4)) (⟨1000 + id, Z1 (⟨id, ((Q.length : Int) + 1), Z8 (ofT id ((Q.length : Int) + 1) (Z0T i) (((PL.getD i py0).P).take 200)), (((PL.getD i py0).P).take 200).length, 0, 0⟩ : Z0)⟩ : Z4)⟩ : Z0), a92, c93, (((PL.getD i py0).P).take 200), (Z0T i), m94, none, m95, m96, false, 0, m97, false, []⟩ : Zq)]).length) ((Q ++ [(⟨(⟨id, ((Q.length : Int) + 1), Z8 (ofT id ((Q.length : Int) + 1) (Z0T i) (((PL.getD i py0).P).take 200)), (((PL.getD i py0).P).take 200).length, 1000 + id, Z9 (Zd L (⟨1000 + id, Z1 (⟨id, ((Q.length : Int) + 1), Z8 (ofT id ((Q.length : Int) + 1) (Z0T i) (((PL.getD i py0).P).take 200)), (((PL.getD i py0).P).take 200).length, 0, 0⟩ : Z0)⟩ : Z4)) (⟨1000 + id, Z1 (⟨id, ((Q.length : Int) + 1), Z8 (ofT id ((Q.length : Int) + 1) (Z0T i) (((PL.getD i py0).P).take 200)), (((PL.getD i py0).P).take 200).length, 0, 0⟩ : Z0)⟩ : Z4)⟩ : Z0), a92, c93, (((PL.getD i py0).P).take 200), (Z0T i), m94, none, m95, m96, false, 0, m97, false, []⟩ : Zq)]).flatMap Zh), Z1j rqP (Z ++ [((⟨(⟨id, ((Q.length : Int) + 1), Z8 (ofT id ((Q.length : Int) + 1) (Z0T i) (((PL.getD i py0).P).take 200)), (((PL.getD i py0).P).take 200).length, 1000 + id, Z9 (Zd L (⟨1000 + id, Z1 (⟨id, ((Q.length : Int) + 1), Z8 (ofT id ((Q.length : Int) + 1) (Z0T i) (((PL.getD i py0).P).take 200)), (((PL.getD i py0).P).take 200).length, 0, 0⟩ : Z0)⟩ : Z4)) (⟨1000 + id, Z1 (⟨id, ((Q.length : Int) + 1), Z8 (ofT id ((Q.length : Int) + 1) (Z0T i) (((PL.getD i py0).P).take 200)), (((PL.getD i py0).P).take 200).length, 0, 0⟩ : Z0)⟩ : Z4)⟩ : Z0), a92, c93, (((PL.getD i py0).P).take 200), (Z0T i), m94, none, m95, m96, false, 0, m97, false, []⟩ : Zq), (⟨[], [], [], []⟩ : RqM))]), Z3 b35 108 (ZO m36), (ZN m36 (Zd L (⟨1000 + id, Z1 (⟨id, ((Q.length : Int) + 1), Z8 (ofT id ((Q.length : Int) + 1) (Z0T i) (((PL.getD i py0).P).take 200)), (((PL.getD i py0).P).take 200).length, 0, 0⟩ : Z0)⟩ : Z4))), Zc 35 1 (.slice oa OL.length oc) OL.length (OL.flatMap ZZ), Z0j Bo, Zc 82 295 (.slice a98 D100.length c99) D100.length (D100.flatMap Z0d)] w89 := H106.pk [1, 2, 3, 4, 0, 5, 6, 7, 8, 9]
   refine ZJ ?_ ⟨g90, c91, (⟨(⟨id, ((Q.length : Int) + 1), Z8 (ofT id ((Q.length : Int) + 1) (Z0T i) (((PL.getD i py0).P).take 200)), (((PL.getD i py0).P).take 200).length, 1000 + id, Z9 (Zd L (⟨1000 + id, Z1 (⟨id, ((Q.length : Int) + 1), Z8 (ofT id ((Q.length : Int) + 1) (Z0T i) (((PL.getD i py0).P).take 200)), (((PL.getD i py0).P).take 200).length, 0, 0⟩ : Z0)⟩ : Z4)) (⟨1000 + id, Z1 (⟨id, ((Q.length : Int) + 1), Z8 (ofT id ((Q.length : Int) + 1) (Z0T i) (((PL.getD i py0).P).take 200)), (((PL.getD i py0).P).take 200).length, 0, 0⟩ : Z0)⟩ : Z4)⟩ : Z0), a92, c93, (((PL.getD i py0).P).take 200), (Z0T i), m94, none, m95, m96, false, 0, m97, false, []⟩ : Zq), (Zd L (⟨1000 + id, Z1 (⟨id, ((Q.length : Int) + 1), Z8 (ofT id ((Q.length : Int) + 1) (Z0T i) (((PL.getD i py0).P).take 200)), (((PL.getD i py0).P).take 200).length, 0, 0⟩ : Z0)⟩ : Z4)), a98, c99, D100, rfl, rfl, ⟨rfl, (by rw [hQl])⟩, (Nat.le_trans hlPp (by decide)), ⟨rfl, rfl, rfl, rfl, rfl⟩, (Nat.le_trans (Z4w _ _) (by omega)), n102, (.inr ⟨n102, _, B101, .inl rfl, o103⟩), H108⟩
   exact zs
  rintro f109 w110 ⟨g2, lc2, q, L2, da, dc, D, v112, v113, hqx, hqP, hq0, hL2, hDn, hDo, H111⟩
  refine Zo 18 _ v112 ?_
  refine Zo 19 _ v113 ?_
  apply Zf
  apply zsl
  refine wv 72 (.int .i64 (0)) ?_
  refine wv 73 (.bool false) ?_
  refine wv 74 (.bool false) ?_
  refine wy 2 74 false 75 (pt c44 0) ?_
  refine Z0B (Z0k 2 74 false rfl (by kernel_rfl) rfl (by kernel_rfl)) (fun Kq kq => ?_)
  refine zdq 76 (Z23 w110 c44 b35 lc2 (some ⟨g2, 0, none⟩) F 3 id (Q ++ [q]) (H111.at 2 rfl)) H111 ?_
  intro w115 H116
  refine kq _ _ ?_
  clear kq Kq
  refine wy 2 74 false 77 (.int .i64 ((i : Int))) ?_
  refine wy 2 74 false 78 (.int .i64 ((i : Int) + 1)) ?_ (hr := Z0I (z := (i : Int) + 1) (by kernel_rfl) (IntWalk.i64_in _ (by omega)))
  refine wy 2 74 false 79 (.bool (!(decide (((Q ++ [q]).length : Int) = ((i : Int) + 1))))) ?_
  refine wv 80 (.bool (!(decide (((Q ++ [q]).length : Int) = ((i : Int) + 1))))) ?_
  refine wv 81 (.bool (!(decide (((Q ++ [q]).length : Int) = ((i : Int) + 1))))) ?_
  have b118 : (!(decide (((Q ++ [q]).length : Int) = ((i : Int) + 1)))) = false := by rw [decide_eq_true (by rw [List.length_append, hQl]; rfl)]; rfl
  refine ZP 81 (.bool false) (congrArg Value.bool b118) ?_
  have g119 := Z03 b118
  have g120 := of_decide_eq_true g119
  refine wy 9 81 false 82 (.slice da D.length dc) ?_
  refine wy 9 81 false 83 (.int .i64 ((D.length : Int))) ?_
  refine wy 9 81 false 84 (.int .i64 (3 * F + 1)) ?_
  refine wy 9 81 false 85 (.bool (!(decide ((D.length : Int) = (3 * F + 1))))) ?_
  refine wv 86 (.bool (!(decide ((D.length : Int) = (3 * F + 1))))) ?_
  apply znt
  have b121 : (!(decide ((D.length : Int) = (3 * F + 1)))) = false := by rw [decide_eq_true hDn]; rfl
  have g122 := Z03 b121
  have g123 := of_decide_eq_true g122
  refine Z1a _ b121 ?_
  apply ZF
  apply ztn
  apply Zt
  refine wv 87 (.slice oa OL.length oc) ?_
  refine wv 88 (.slice da D.length dc) ?_
  refine zwd fun Kq kq => ?_
  refine Z3U 35 1 24 (.slice none 0 0) [(0, (.slice da D.length dc))] ([(.slice da D.length dc)] : List Value) H116 ?_
  intro b125 w126 (H127 : Sat w [Z7 w (fun _ => False), Z3 x11 27 (Zv F), Z3 c44 112 (Z01 F id b35 g2 ((Q ++ [q]).length) lc2), Zc 119 79 (.slice (some ⟨g2, 0, none⟩) ((Q ++ [q]).length) lc2) ((Q ++ [q]).length) ((Q ++ [q]).flatMap Zh), Z1j rqP (Z ++ [(q, (⟨[], [], [], []⟩ : RqM))]), Z3 b35 108 (ZO m36), (ZN m36 L2), Zc 35 1 (.slice oa OL.length oc) OL.length (OL.flatMap ZZ), Z0j Bo, Zc 82 295 (.slice da D.length dc) D.length (D.flatMap Z0d), Zc 35 1 (.slice (some ⟨b125, 0, none⟩) 1 1) 1 ([(.slice da D.length dc)] : List Value)] w126)
  have H128 : Sat w [Z7 w (fun _ => False), Z3 x11 27 (Zv F), Z3 c44 112 (Z01 F id b35 g2 ((Q ++ [q]).length) lc2), Zc 119 79 (.slice (some ⟨g2, 0, none⟩) ((Q ++ [q]).length) lc2) ((Q ++ [q]).length) ((Q ++ [q]).flatMap Zh), Z1j rqP (Z ++ [(q, (⟨[], [], [], []⟩ : RqM))]), Z3 b35 108 (ZO m36), (ZN m36 L2), Zc 35 1 (.slice oa OL.length oc) OL.length (OL.flatMap ZZ), Z0j Bo, Zc 82 295 (.slice da D.length dc) D.length (D.flatMap Z0d), Zc 35 1 (.slice (some ⟨b125, 0, none⟩) 1 1) 1 ([(⟨da, dc, D⟩ : OlD)].flatMap ZZ)] w126 := H127.cast (by rw [(show (([(.slice da D.length dc)] : List Value) : List Value) = ([(⟨da, dc, D⟩ : OlD)] : List OlD).flatMap ZZ by kernel_rfl)])
  refine kq _ _ ?_
  clear kq Kq
  refine zwd fun Kq kq => ?_
  refine Z0n (T := 87) (e := 35) (size := 1) (bytes := 24) rfl H128 (by kernel_rfl) 7 10 rfl rfl rfl rfl (Z0e ZZ Z2l [(⟨da, dc, D⟩ : OlD)]) (by omega) (by omega) ?_
  intro v130 w131 H132
  have H135 : Sat w [Z7 w (fun _ => False), Z3 x11 27 (Zv F), Z3 c44 112 (Z01 F id b35 g2 ((Q ++ [q]).length) lc2), Zc 119 79 (.slice (some ⟨g2, 0, none⟩) ((Q ++ [q]).length) lc2) ((Q ++ [q]).length) ((Q ++ [q]).flatMap Zh), Z1j rqP (Z ++ [(q, (⟨[], [], [], []⟩ : RqM))]), Z3 b35 108 (ZO m36), (ZN m36 L2), Zc 35 1 v130 ((OL ++ [(⟨da, dc, D⟩ : OlD)]).length) ((OL ++ [(⟨da, dc, D⟩ : OlD)]).flatMap ZZ), Z0j Bo, Zc 82 295 (.slice da D.length dc) D.length (D.flatMap Z0d), Zc 35 1 (.slice (some ⟨b125, 0, none⟩) 1 1) 1 ([(⟨da, dc, D⟩ : OlD)].flatMap ZZ)] w131 := H132.cast (by simp only [List.length_append, List.flatMap_append] <;> rfl)
  obtain ⟨a133, c134, rfl⟩ := Ze (H135.at 7 rfl)
  refine kq _ _ ?_
  clear kq Kq
  refine wv 16 (.slice a133 ((OL ++ [(⟨da, dc, D⟩ : OlD)]).length) c134) ?_
  apply Zu
  apply Zw
  apply ztn
  have H136 := (H135.pk [8, 9, 0, 1, 2, 3, 4, 5, 6, 7, 10]).bag
  have H137 : Sat w [Z7 w (fun _ => False), Z3 x11 27 (Zv F), Z3 c44 112 (Z01 F id b35 g2 ((Q ++ [q]).length) lc2), Zc 119 79 (.slice (some ⟨g2, 0, none⟩) ((Q ++ [q]).length) lc2) ((Q ++ [q]).length) ((Q ++ [q]).flatMap Zh), Z1j rqP (Z ++ [(q, (⟨[], [], [], []⟩ : RqM))]), Z3 b35 108 (ZO m36), (ZN m36 L2), Zc 35 1 (.slice a133 ((OL ++ [(⟨da, dc, D⟩ : OlD)]).length) c134) ((OL ++ [(⟨da, dc, D⟩ : OlD)]).length) ((OL ++ [(⟨da, dc, D⟩ : OlD)]).flatMap ZZ), Z0j ((olC (⟨da, dc, D⟩ : OlD)) :: Bo), Zc 35 1 (.slice (some ⟨b125, 0, none⟩) 1 1) 1 ([(⟨da, dc, D⟩ : OlD)].flatMap ZZ)] w131 := H136.pk [1, 2, 3, 4, 5, 6, 7, 8, 0, 9]
  apply Zt
  refine wv 57 (.int .i64 ((i : Int))) ?_
  refine zwi 58 ((i : Int) + 1) ?_
  refine wv 17 (.int .i64 ((i : Int) + 1)) ?_
  apply Zu
  have H138 := H137.pk [0, 1, 2, 3, 4, 5, 6, 7, 8]
  refine ZE ?_ _ ⟨(i + 1), (Q ++ [q]), (Z ++ [(q, (⟨[], [], [], []⟩ : RqM))]), L2, (some ⟨g2, 0, none⟩), lc2, a133, c134, (OL ++ [(⟨da, dc, D⟩ : OlD)]), ((olC (⟨da, dc, D⟩ : OlD)) :: Bo), rfl, (show ((.slice a133 ((OL ++ [(⟨da, dc, D⟩ : OlD)]).length) c134) : Value) = _ by first | rfl | go_num), (by omega), (by rw [List.length_append, hQl]; rfl), (hI.push (z := (q, (⟨[], [], [], []⟩ : RqM))) ⟨⟨hqx.1, by rw [hQl]; exact hqx.2⟩, hqP, StM.nil, Nat.le_refl _, Nat.le_refl _, (fun c_ h_ => by rw [hq0.1] at h_; cases h_), (fun _ => hq0.2.2.1), (fun _ => hq0.2.2.2.2)⟩), (by omega), (.inr ⟨g2, rfl⟩), (by rw [List.length_append, hOl]; rfl), (hOk.add hDo), H138, rfl⟩ (by omega)
  exact zs
 refine Z1a _ b71 ?_
 apply zxb
 apply ztn
 refine Z0v ([16, 20, 21] ++ List.range' 91 42) (fun G_ W_ => ∃ (ox : Option Addr) (cx : Nat) (OLx : List OlD) (Bx : List Ck), G_ 16 = (.slice ox OLx.length cx) ∧ (OLx.length ≤ 1000) ∧ (OlOk F id Bx OLx) ∧ Sat w [Z7 w (fun _ => False), Z3 x11 27 (Zv F), Zc 35 1 (.slice ox OLx.length cx) OLx.length (OLx.flatMap ZZ), Z0j Bx] W_) ?_ ?_
 ·apply Zf
  have hOl3 : OL.length ≤ 3 := by omega
  rcases hla with ⟨rfl, rfl, rfl⟩ | ⟨g, rfl⟩
  ·have H140 : Sat w [Z7 w (fun _ => False), Z3 x11 27 (Zv F), Z3 c44 112 (Z0X F id b35), Zc 119 79 (.slice none (([] : List Zq).length) 0) (([] : List Zq).length) (([] : List Zq).flatMap Zh), Z1j rqP Z, Z3 b35 108 (ZO m36), (ZN m36 L), Zc 35 1 (.slice oa OL.length oc) OL.length (OL.flatMap ZZ), Z0j Bo] w68 := H69
   apply Zt
   refine wv 20 (.int .i64 (0)) ?_
   apply znt
   apply ZA
   have H141 := H140.pk [0, 1, 2, 7, 8]
   refine ZW ([16, 20, 21] ++ List.range' 91 42) (fun F_ W_ m_ => ∃ (j : Nat) (ob : Option Addr) (od : Nat) (OL2 : List OlD) (B2o : List Ck), F_ 20 = (.int .i64 ((j : Int))) ∧ F_ 16 = (.slice ob OL2.length od) ∧ (j ≤ 10) ∧ (OL2.length ≤ 3 + 2 * j) ∧ (OlOk F id B2o OL2) ∧ Sat w [Z7 w (fun _ => False), Z3 x11 27 (Zv F), Z3 c44 112 (Z0X F id b35), Zc 35 1 (.slice ob OL2.length od) OL2.length (OL2.flatMap ZZ), Z0j B2o] W_ ∧ m_ = 11 - j) _ ⟨0, oa, oc, OL, Bo, (show ((.int .i64 (0)) : Value) = _ by first | rfl | go_num), (by first | rfl | go_num), (Nat.zero_le _), (by omega), hOk, H141, rfl⟩ ?_
   rintro g142 w143 _ ⟨j, ob, od, OL2, B2o, v145, v146, hj, hO2, hOk2, H144, rfl⟩
   refine Zo 20 _ v145 ?_
   refine Zo 16 _ v146 ?_
   apply Zf
   refine Z0v [91, 92, 93, 94, 95, 96, 97, 98] (fun G_ W_ => G_ 98 = (.bool (decide ((j : Int) < (MS.length : Int)) && decide ((j : Int) < 10))) ∧ Sat w [Z7 w (fun _ => False), Z3 x11 27 (Zv F), Z3 c44 112 (Z0X F id b35), Zc 35 1 (.slice ob OL2.length od) OL2.length (OL2.flatMap ZZ), Z0j B2o] W_) ?_ ?_
   ·apply Zt
    refine wv 91 (.int .i64 ((j : Int))) ?_
    refine wv 92 (.slice la0 MS.length lc0) ?_
    refine wv 93 (.int .i64 ((MS.length : Int))) ?_
    refine wv 94 (.bool (decide ((j : Int) < (MS.length : Int)))) ?_
    refine wv 95 (.bool (decide ((j : Int) < (MS.length : Int)))) ?_
    refine (ZC (decide ((j : Int) < (MS.length : Int)))).elim (fun b149 => ?_) (fun b149 => ?_)
    ·have g150 := of_decide_eq_true b149
     refine ZP 95 (.bool true) (congrArg Value.bool b149) ?_
     refine wy 4 95 true 96 (.int .i64 ((j : Int))) ?_
     refine wy 4 95 true 97 (.bool (decide ((j : Int) < 10))) ?_
     refine wv 98 (.bool (decide ((j : Int) < 10))) ?_
     apply Zu
     refine ZJ ?_ ⟨(congrArg Value.bool (show (decide ((j : Int) < 10)) = (decide ((j : Int) < (MS.length : Int)) && decide ((j : Int) < 10)) by rw [b149]; rfl)), H144⟩
     exact zs
    have g152 := of_decide_eq_false b149
    refine ZP 95 (.bool false) (congrArg Value.bool b149) ?_
    iterate 2 refine wn 4 95 true ?_
    refine wv 98 (.bool false) ?_
    apply Zu
    refine ZJ ?_ ⟨(congrArg Value.bool (show false = (decide ((j : Int) < (MS.length : Int)) && decide ((j : Int) < 10)) by rw [b149]; rfl)), H144⟩
    exact zs
   rintro f154 w155 ⟨v157, H156⟩
   refine Zo 98 _ v157 ?_
   refine (ZC (decide ((j : Int) < (MS.length : Int)) && decide ((j : Int) < 10))).elim (fun b158 => ?_) (fun b158 => ?_)
   ·refine Z1q _ b158 ?_
    apply ZF
    apply ztn
    apply Zf
    apply ZA
    apply Zf
    have hii := b158
    simp only [Bool.and_eq_true, decide_eq_true_eq] at hii
    obtain ⟨hi1, hi2⟩ := hii
    apply Zt
    refine wv 101 (.slice la0 MS.length lc0) ?_
    refine wv 102 (.int .i64 ((j : Int))) ?_
    obtain ⟨g159, o160, c161, e162, R163⟩ := SliceOf.atD hMS ms0 (show j < MS.length by omega)
    refine wv 103 (.pointer (some ⟨g159, o160 + ((j : Int)).toNat * 295, none⟩)) ?_ (hr := ZM (E := 82) (by kernel_rfl) (by kernel_rfl) (Nat.le_of_ble_eq_true rfl) rfl e162 rfl (by omega) (by omega))
    refine wv 104 (.agg ⟨(ZR ((MS.getD j ms0).k) ((MS.getD j ms0).fr) ((MS.getD j ms0).to) ((MS.getD j ms0).co) ((MS.getD j ms0).st) ((MS.getD j ms0).ak) ((MS.getD j ms0).ep) ((MS.getD j ms0).rd) ((MS.getD j ms0).tm) ((MS.getD j ms0).qe) ((MS.getD j ms0).qd) ((MS.getD j ms0).qv) ((MS.getD j ms0).qr) ((MS.getD j ms0).qb.e) ((MS.getD j ms0).qb.t) ((MS.getD j ms0).qb.pa) ((MS.getD j ms0).qb.P.length) ((MS.getD j ms0).qb.pc) ((MS.getD j ms0).qb.oa) ((MS.getD j ms0).qb.O.length) ((MS.getD j ms0).qb.oc) ((MS.getD j ms0).qb.ta) ((MS.getD j ms0).qb.T.length) ((MS.getD j ms0).qb.tc) ((MS.getD j ms0).qsb) ((MS.getD j ms0).qsm) ((MS.getD j ms0).vo.k) ((MS.getD j ms0).vo.e) ((MS.getD j ms0).vo.d) ((MS.getD j ms0).vo.r) ((MS.getD j ms0).vo.h) ((MS.getD j ms0).vo.sb) ((MS.getD j ms0).vo.sm) ((MS.getD j ms0).ix) ((MS.getD j ms0).en) ((MS.getD j ms0).dn) (ZD ((MS.getD j ms0).re)) ((MS.getD j ms0).de) ((MS.getD j ms0).dd) ((MS.getD j ms0).db.e) ((MS.getD j ms0).db.t) ((MS.getD j ms0).db.pa) ((MS.getD j ms0).db.P.length) ((MS.getD j ms0).db.pc) ((MS.getD j ms0).db.oa) ((MS.getD j ms0).db.O.length) ((MS.getD j ms0).db.oc) ((MS.getD j ms0).db.ta) ((MS.getD j ms0).db.T.length) ((MS.getD j ms0).db.tc) ((MS.getD j ms0).va) ((MS.getD j ms0).V.length) ((MS.getD j ms0).vc) ((MS.getD j ms0).cx) ((MS.getD j ms0).pr) ((MS.getD j ms0).op))⟩) ?_ (hr := Z0a (vs := (ZR ((MS.getD j ms0).k) ((MS.getD j ms0).fr) ((MS.getD j ms0).to) ((MS.getD j ms0).co) ((MS.getD j ms0).st) ((MS.getD j ms0).ak) ((MS.getD j ms0).ep) ((MS.getD j ms0).rd) ((MS.getD j ms0).tm) ((MS.getD j ms0).qe) ((MS.getD j ms0).qd) ((MS.getD j ms0).qv) ((MS.getD j ms0).qr) ((MS.getD j ms0).qb.e) ((MS.getD j ms0).qb.t) ((MS.getD j ms0).qb.pa) ((MS.getD j ms0).qb.P.length) ((MS.getD j ms0).qb.pc) ((MS.getD j ms0).qb.oa) ((MS.getD j ms0).qb.O.length) ((MS.getD j ms0).qb.oc) ((MS.getD j ms0).qb.ta) ((MS.getD j ms0).qb.T.length) ((MS.getD j ms0).qb.tc) ((MS.getD j ms0).qsb) ((MS.getD j ms0).qsm) ((MS.getD j ms0).vo.k) ((MS.getD j ms0).vo.e) ((MS.getD j ms0).vo.d) ((MS.getD j ms0).vo.r) ((MS.getD j ms0).vo.h) ((MS.getD j ms0).vo.sb) ((MS.getD j ms0).vo.sm) ((MS.getD j ms0).ix) ((MS.getD j ms0).en) ((MS.getD j ms0).dn) (ZD ((MS.getD j ms0).re)) ((MS.getD j ms0).de) ((MS.getD j ms0).dd) ((MS.getD j ms0).db.e) ((MS.getD j ms0).db.t) ((MS.getD j ms0).db.pa) ((MS.getD j ms0).db.P.length) ((MS.getD j ms0).db.pc) ((MS.getD j ms0).db.oa) ((MS.getD j ms0).db.O.length) ((MS.getD j ms0).db.oc) ((MS.getD j ms0).db.ta) ((MS.getD j ms0).db.T.length) ((MS.getD j ms0).db.tc) ((MS.getD j ms0).va) ((MS.getD j ms0).V.length) ((MS.getD j ms0).vc) ((MS.getD j ms0).cx) ((MS.getD j ms0).pr) ((MS.getD j ms0).op))) rfl (by kernel_rfl) (by kernel_rfl) (Nat.le_of_ble_eq_true (by kernel_rfl)) (H156.runR 0 rfl (Z16 R163 0 (by kernel_rfl) (show o160 + ((j : Int)).toNat * 295 = o160 + j * 295 + 0 by omega)) (fun h => h)))
    refine zwd fun Kq kq => ?_
    have hmm := hMi _ (Z1c (l := MS) (i := j) (d := ms0) (by omega))
    refine zdc 105 (Z4i w155 (MS.getD j ms0) (hmm.now (D := fun _ => False) H156 0 rfl)) ?_
    rintro _ w165 ⟨n166, hes, e167, u168⟩
    rw [show Z6E n166 = (ZR n166.k n166.fr n166.to n166.co n166.st n166.ak n166.ep n166.rd n166.tm n166.qe n166.qd n166.qv n166.qr n166.qb.e n166.qb.t n166.qb.pa n166.qb.P.length n166.qb.pc n166.qb.oa n166.qb.O.length n166.qb.oc n166.qb.ta n166.qb.T.length n166.qb.tc n166.qsb n166.qsm n166.vo.k n166.vo.e n166.vo.d n166.vo.r n166.vo.h n166.vo.sb n166.vo.sm n166.ix n166.en n166.dn (ZD n166.re) n166.de n166.dd n166.db.e n166.db.t n166.db.pa n166.db.P.length n166.db.pc n166.db.oa n166.db.O.length n166.db.oc n166.db.ta n166.db.T.length n166.db.tc n166.va n166.V.length n166.vc n166.cx n166.pr n166.op) by kernel_rfl] at hes
    subst hes
    have H169 := H156.keepU u168
    refine ⟨_, rfl, ?_⟩
    refine kq _ _ ?_
    clear kq Kq
    refine zwd fun Kq kq => ?_
    refine zda (Z3c (ZD ([] : List UInt8))) H169 ?_
    intro b171 w172 (H173 : Sat w [Z7 w (fun _ => False), Z3 x11 27 (Zv F), Z3 c44 112 (Z0X F id b35), Zc 35 1 (.slice ob OL2.length od) OL2.length (OL2.flatMap ZZ), Z0j B2o, Z3 b171 82 (Z3c (ZD ([] : List UInt8)))] w172)
    refine kq _ _ ?_
    clear kq Kq
    refine zwd fun Kq kq => ?_
    refine Z21 (ZR n166.k n166.fr n166.to n166.co n166.st n166.ak n166.ep n166.rd n166.tm n166.qe n166.qd n166.qv n166.qr n166.qb.e n166.qb.t n166.qb.pa n166.qb.P.length n166.qb.pc n166.qb.oa n166.qb.O.length n166.qb.oc n166.qb.ta n166.qb.T.length n166.qb.tc n166.qsb n166.qsm n166.vo.k n166.vo.e n166.vo.d n166.vo.r n166.vo.h n166.vo.sb n166.vo.sm n166.ix n166.en n166.dn (ZD n166.re) n166.de n166.dd n166.db.e n166.db.t n166.db.pa n166.db.P.length n166.db.pc n166.db.oa n166.db.O.length n166.db.oc n166.db.ta n166.db.T.length n166.db.tc n166.va n166.V.length n166.vc n166.cx n166.pr n166.op) H173 5 ?_
    intro w175 H176
    refine kq _ _ ?_
    clear kq Kq
    apply Z0N
    refine wv 106 (.int .i64 (id)) ?_
    refine zwi 107 (1000 + id) ?_
    refine wv 108 (pt b171 1) ?_
    refine zw1 109 (.int .i64 (n166.fr)) (H176.cell 5 rfl (by kernel_rfl)) ?_
    refine wv 110 (.int .i64 (3 * F + 1)) ?_
    refine zwd fun Kq kq => ?_
    refine zdq 111 (Z2F w175 n166.fr (3 * F + 1) (by omega)) H176 ?_
    intro w179 H180
    refine kq _ _ ?_
    clear kq Kq
    refine wv 112 (pt b171 2) ?_
    refine zwd fun Kq kq => ?_
    refine zds ([(.int .i64 (1000 + id))] : List Value) (ZR n166.k n166.fr (1000 + id) n166.co n166.st n166.ak n166.ep n166.rd n166.tm n166.qe n166.qd n166.qv n166.qr n166.qb.e n166.qb.t n166.qb.pa n166.qb.P.length n166.qb.pc n166.qb.oa n166.qb.O.length n166.qb.oc n166.qb.ta n166.qb.T.length n166.qb.tc n166.qsb n166.qsm n166.vo.k n166.vo.e n166.vo.d n166.vo.r n166.vo.h n166.vo.sb n166.vo.sm n166.ix n166.en n166.dn (ZD n166.re) n166.de n166.dd n166.db.e n166.db.t n166.db.pa n166.db.P.length n166.db.pc n166.db.oa n166.db.O.length n166.db.oc n166.db.ta n166.db.T.length n166.db.tc n166.va n166.V.length n166.vc n166.cx n166.pr n166.op) H180 5 ?_
    intro w183 (H184 : Sat w [Z7 w (fun _ => False), Z3 x11 27 (Zv F), Z3 c44 112 (Z0X F id b35), Zc 35 1 (.slice ob OL2.length od) OL2.length (OL2.flatMap ZZ), Z0j B2o, Z3 b171 82 (ZR n166.k n166.fr (1000 + id) n166.co n166.st n166.ak n166.ep n166.rd n166.tm n166.qe n166.qd n166.qv n166.qr n166.qb.e n166.qb.t n166.qb.pa n166.qb.P.length n166.qb.pc n166.qb.oa n166.qb.O.length n166.qb.oc n166.qb.ta n166.qb.T.length n166.qb.tc n166.qsb n166.qsm n166.vo.k n166.vo.e n166.vo.d n166.vo.r n166.vo.h n166.vo.sb n166.vo.sm n166.ix n166.en n166.dn (ZD n166.re) n166.de n166.dd n166.db.e n166.db.t n166.db.pa n166.db.P.length n166.db.pc n166.db.oa n166.db.O.length n166.db.oc n166.db.ta n166.db.T.length n166.db.tc n166.va n166.V.length n166.vc n166.cx n166.pr n166.op)] w183)
    refine kq _ _ ?_
    clear kq Kq
    refine wv 113 (pt b171 1) ?_
    refine zwd fun Kq kq => ?_
    refine zds ([(.int .i64 (Z04 n166.fr (3 * F + 1)))] : List Value) (ZR n166.k (Z04 n166.fr (3 * F + 1)) (1000 + id) n166.co n166.st n166.ak n166.ep n166.rd n166.tm n166.qe n166.qd n166.qv n166.qr n166.qb.e n166.qb.t n166.qb.pa n166.qb.P.length n166.qb.pc n166.qb.oa n166.qb.O.length n166.qb.oc n166.qb.ta n166.qb.T.length n166.qb.tc n166.qsb n166.qsm n166.vo.k n166.vo.e n166.vo.d n166.vo.r n166.vo.h n166.vo.sb n166.vo.sm n166.ix n166.en n166.dn (ZD n166.re) n166.de n166.dd n166.db.e n166.db.t n166.db.pa n166.db.P.length n166.db.pc n166.db.oa n166.db.O.length n166.db.oc n166.db.ta n166.db.T.length n166.db.tc n166.va n166.V.length n166.vc n166.cx n166.pr n166.op) H184 5 ?_
    intro w187 H188
    refine kq _ _ ?_
    clear kq Kq
    apply Z0N
    refine wv 114 (.slice ob OL2.length od) ?_
    refine wv 115 (pt c44 0) ?_
    refine zwN 116 (ZR n166.k (Z04 n166.fr (3 * F + 1)) (1000 + id) n166.co n166.st n166.ak n166.ep n166.rd n166.tm n166.qe n166.qd n166.qv n166.qr n166.qb.e n166.qb.t n166.qb.pa n166.qb.P.length n166.qb.pc n166.qb.oa n166.qb.O.length n166.qb.oc n166.qb.ta n166.qb.T.length n166.qb.tc n166.qsb n166.qsm n166.vo.k n166.vo.e n166.vo.d n166.vo.r n166.vo.h n166.vo.sb n166.vo.sm n166.ix n166.en n166.dn (ZD n166.re) n166.de n166.dd n166.db.e n166.db.t n166.db.pa n166.db.P.length n166.db.pc n166.db.oa n166.db.O.length n166.db.oc n166.db.ta n166.db.T.length n166.db.tc n166.va n166.V.length n166.vc n166.cx n166.pr n166.op) (H188.at 5 rfl) ?_
    refine zwd fun Kq kq => ?_
    refine zdc 117 (Z7h w187 c44 b35 F 3 id (H188.at 2 rfl) hF (by omega) (⟨n166.k, Z04 n166.fr (3 * F + 1), 1000 + id, n166.co, n166.st, n166.cx, n166.ak, n166.ep, n166.rd, n166.tm, n166.pr, n166.qe, n166.qd, n166.qv, n166.qr, n166.qb, n166.qsb, n166.qsm, n166.vo, n166.ix, n166.en, n166.op, n166.dn, n166.re, n166.de, n166.dd, n166.db, n166.va, n166.vc, n166.V⟩ : MsR) rfl (by have q_ := Z2G n166.fr (3 * F + 1) (by omega); show inB F _ = true; unfold inB; simp only [Bool.and_eq_true, decide_eq_true_eq]; omega) (by show Z3V n166.st; rw [e167.st]; exact hmm.st) (by show Z3V n166.ak; rw [e167.ak]; exact hmm.ak)) ?_
    rintro _ w191 ⟨rfl, u192⟩
    have H193 := H188.keepU u192
    have H194 := H193.addNil 82 295
    refine ⟨_, rfl, ?_⟩
    refine kq _ _ ?_
    clear kq Kq
    refine zwd fun Kq kq => ?_
    refine Z3U 35 1 24 (.slice none 0 0) [(0, (.slice none 0 0))] ([(.slice none 0 0)] : List Value) H194 ?_
    intro b196 w197 (H198 : Sat w [Z7 w (fun _ => False), Z3 x11 27 (Zv F), Z3 c44 112 (Z0X F id b35), Zc 35 1 (.slice ob OL2.length od) OL2.length (OL2.flatMap ZZ), Z0j B2o, Z3 b171 82 (ZR n166.k (Z04 n166.fr (3 * F + 1)) (1000 + id) n166.co n166.st n166.ak n166.ep n166.rd n166.tm n166.qe n166.qd n166.qv n166.qr n166.qb.e n166.qb.t n166.qb.pa n166.qb.P.length n166.qb.pc n166.qb.oa n166.qb.O.length n166.qb.oc n166.qb.ta n166.qb.T.length n166.qb.tc n166.qsb n166.qsm n166.vo.k n166.vo.e n166.vo.d n166.vo.r n166.vo.h n166.vo.sb n166.vo.sm n166.ix n166.en n166.dn (ZD n166.re) n166.de n166.dd n166.db.e n166.db.t n166.db.pa n166.db.P.length n166.db.pc n166.db.oa n166.db.O.length n166.db.oc n166.db.ta n166.db.T.length n166.db.tc n166.va n166.V.length n166.vc n166.cx n166.pr n166.op), Zc 82 295 (.slice none 0 0) (([] : List OmR).length) (([] : List OmR).flatMap Z0d), Zc 35 1 (.slice (some ⟨b196, 0, none⟩) 1 1) 1 ([(.slice none 0 0)] : List Value)] w197)
    have H199 := H198.ct 7 rfl (Zc 35 1 (.slice (some ⟨b196, 0, none⟩) 1 1) 1 ([(⟨none, 0, []⟩ : OlD)].flatMap ZZ)) (by rw [(show (([(.slice none 0 0)] : List Value) : List Value) = ([(⟨none, 0, []⟩ : OlD)] : List OlD).flatMap ZZ by kernel_rfl)])
    refine kq _ _ ?_
    clear kq Kq
    refine zwd fun Kq kq => ?_
    refine Z0n (T := 87) (e := 35) (size := 1) (bytes := 24) rfl H199 (by kernel_rfl) 3 7 rfl rfl rfl rfl (Z0e ZZ Z2l [(⟨none, 0, []⟩ : OlD)]) (by omega) (by omega) ?_
    intro v201 w202 (H203 : Sat w [Z7 w (fun _ => False), Z3 x11 27 (Zv F), Z3 c44 112 (Z0X F id b35), Zc 35 1 v201 (OL2.length + 1) ((OL2.flatMap ZZ) ++ ([(⟨none, 0, []⟩ : OlD)].flatMap ZZ)), Z0j B2o, Z3 b171 82 (ZR n166.k (Z04 n166.fr (3 * F + 1)) (1000 + id) n166.co n166.st n166.ak n166.ep n166.rd n166.tm n166.qe n166.qd n166.qv n166.qr n166.qb.e n166.qb.t n166.qb.pa n166.qb.P.length n166.qb.pc n166.qb.oa n166.qb.O.length n166.qb.oc n166.qb.ta n166.qb.T.length n166.qb.tc n166.qsb n166.qsm n166.vo.k n166.vo.e n166.vo.d n166.vo.r n166.vo.h n166.vo.sb n166.vo.sm n166.ix n166.en n166.dn (ZD n166.re) n166.de n166.dd n166.db.e n166.db.t n166.db.pa n166.db.P.length n166.db.pc n166.db.oa n166.db.O.length n166.db.oc n166.db.ta n166.db.T.length n166.db.tc n166.va n166.V.length n166.vc n166.cx n166.pr n166.op), Zc 82 295 (.slice none 0 0) (([] : List OmR).length) (([] : List OmR).flatMap Z0d), Zc 35 1 (.slice (some ⟨b196, 0, none⟩) 1 1) 1 ([(⟨none, 0, []⟩ : OlD)].flatMap ZZ)] w202)
    have H206 := H203.ct 3 rfl (Zc 35 1 v201 ((OL2 ++ [(⟨none, 0, []⟩ : OlD)]).length) ((OL2 ++ [(⟨none, 0, []⟩ : OlD)]).flatMap ZZ)) ja
    obtain ⟨a204, c205, rfl⟩ := Ze (H206.at 3 rfl)
    refine kq _ _ ?_
    clear kq Kq
    refine wv 16 (.slice a204 ((OL2 ++ [(⟨none, 0, []⟩ : OlD)]).length) c205) ?_
    apply znt
    apply Zf
    have H207 : Sat w [Z0j ((olC (⟨none, 0, ([] : List OmR)⟩ : OlD)) :: B2o), Z7 w (fun _ => False), Z3 x11 27 (Zv F), Z3 c44 112 (Z0X F id b35), Zc 35 1 (.slice a204 ((OL2 ++ [(⟨none, 0, []⟩ : OlD)]).length) c205) ((OL2 ++ [(⟨none, 0, []⟩ : OlD)]).length) ((OL2 ++ [(⟨none, 0, []⟩ : OlD)]).flatMap ZZ), Z3 b171 82 (ZR n166.k (Z04 n166.fr (3 * F + 1)) (1000 + id) n166.co n166.st n166.ak n166.ep n166.rd n166.tm n166.qe n166.qd n166.qv n166.qr n166.qb.e n166.qb.t n166.qb.pa n166.qb.P.length n166.qb.pc n166.qb.oa n166.qb.O.length n166.qb.oc n166.qb.ta n166.qb.T.length n166.qb.tc n166.qsb n166.qsm n166.vo.k n166.vo.e n166.vo.d n166.vo.r n166.vo.h n166.vo.sb n166.vo.sm n166.ix n166.en n166.dn (ZD n166.re) n166.de n166.dd n166.db.e n166.db.t n166.db.pa n166.db.P.length n166.db.pc n166.db.oa n166.db.O.length n166.db.oc n166.db.ta n166.db.T.length n166.db.tc n166.va n166.V.length n166.vc n166.cx n166.pr n166.op), Zc 35 1 (.slice (some ⟨b196, 0, none⟩) 1 1) 1 ([(⟨none, 0, []⟩ : OlD)].flatMap ZZ)] w202 := (H206.pk [4, 6, 0, 1, 2, 3, 5, 7]).bag
    have H208 := H207.pk [1, 2, 3, 4, 0, 5, 6]
    have hO3 : (OL2 ++ [(⟨none, 0, []⟩ : OlD)]).length = OL2.length + 1 := by rw [List.length_append]; rfl
    apply Zt
    refine wv 120 (.int .i64 ((j : Int))) ?_
    refine wv 121 (.slice ga AG.length gc) ?_
    refine wv 122 (.int .i64 ((AG.length : Int))) ?_
    refine wv 123 (.bool (decide ((j : Int) < (AG.length : Int)))) ?_
    apply znt
    refine (ZC (decide ((j : Int) < (AG.length : Int)))).elim (fun b209 => ?_) (fun b209 => ?_)
    ·have g210 := of_decide_eq_true b209
     refine Z1q _ b209 ?_
     apply Zt
     refine wv 124 (.slice a204 ((OL2 ++ [(⟨none, 0, []⟩ : OlD)]).length) c205) ?_
     refine wv 125 (pt c44 0) ?_
     refine wv 126 (.slice ga AG.length gc) ?_
     refine wv 127 (.int .i64 ((j : Int))) ?_
     obtain ⟨g212, o213, c214, e215, R216⟩ := SliceOf.atD hAG 0 (show j < AG.length by omega)
     refine wv 128 (.pointer (some ⟨g212, o213 + ((j : Int)).toNat * 1, none⟩)) ?_ (hr := ZM (E := 3) (by kernel_rfl) (by kernel_rfl) (Nat.le_of_ble_eq_true rfl) rfl e215 rfl (by omega) (by omega))
     refine zw1 129 (.int .i64 ((AG.getD j 0))) (H208.cellR 0 rfl (Z1C R216 0 (by kernel_rfl) (show o213 + ((j : Int)).toNat * 1 = o213 + j * 1 + 0 by omega)) (fun h => h)) ?_
     refine zwd fun Kq kq => ?_
     refine zdc 130 (Z6l w202 c44 b35 F 3 id (H208.at 2 rfl) (AG.getD j 0)) ?_
     rintro _ w218 ⟨rfl, u219⟩
     have H220 := H208.keepU u219
     have H221 := H220.addNil 82 295
     refine ⟨_, rfl, ?_⟩
     refine kq _ _ ?_
     clear kq Kq
     refine zwd fun Kq kq => ?_
     refine Z3U 35 1 24 (.slice none 0 0) [(0, (.slice none 0 0))] ([(.slice none 0 0)] : List Value) H221 ?_
     intro b223 w224 (H225 : Sat w [Z7 w (fun _ => False), Z3 x11 27 (Zv F), Z3 c44 112 (Z0X F id b35), Zc 35 1 (.slice a204 ((OL2 ++ [(⟨none, 0, []⟩ : OlD)]).length) c205) ((OL2 ++ [(⟨none, 0, []⟩ : OlD)]).length) ((OL2 ++ [(⟨none, 0, []⟩ : OlD)]).flatMap ZZ), Z0j ((olC (⟨none, 0, ([] : List OmR)⟩ : OlD)) :: B2o), Z3 b171 82 (ZR n166.k (Z04 n166.fr (3 * F + 1)) (1000 + id) n166.co n166.st n166.ak n166.ep n166.rd n166.tm n166.qe n166.qd n166.qv n166.qr n166.qb.e n166.qb.t n166.qb.pa n166.qb.P.length n166.qb.pc n166.qb.oa n166.qb.O.length n166.qb.oc n166.qb.ta n166.qb.T.length n166.qb.tc n166.qsb n166.qsm n166.vo.k n166.vo.e n166.vo.d n166.vo.r n166.vo.h n166.vo.sb n166.vo.sm n166.ix n166.en n166.dn (ZD n166.re) n166.de n166.dd n166.db.e n166.db.t n166.db.pa n166.db.P.length n166.db.pc n166.db.oa n166.db.O.length n166.db.oc n166.db.ta n166.db.T.length n166.db.tc n166.va n166.V.length n166.vc n166.cx n166.pr n166.op), Zc 35 1 (.slice (some ⟨b196, 0, none⟩) 1 1) 1 ([(⟨none, 0, []⟩ : OlD)].flatMap ZZ), Zc 82 295 (.slice none 0 0) (([] : List OmR).length) (([] : List OmR).flatMap Z0d), Zc 35 1 (.slice (some ⟨b223, 0, none⟩) 1 1) 1 ([(.slice none 0 0)] : List Value)] w224)
     have H226 := H225.ct 8 rfl (Zc 35 1 (.slice (some ⟨b223, 0, none⟩) 1 1) 1 ([(⟨none, 0, []⟩ : OlD)].flatMap ZZ)) (by rw [(show (([(.slice none 0 0)] : List Value) : List Value) = ([(⟨none, 0, []⟩ : OlD)] : List OlD).flatMap ZZ by kernel_rfl)])
     refine kq _ _ ?_
     clear kq Kq
     refine zwd fun Kq kq => ?_
     refine Z0n (T := 87) (e := 35) (size := 1) (bytes := 24) rfl H226 (by kernel_rfl) 3 8 rfl rfl rfl rfl (Z0e ZZ Z2l [(⟨none, 0, []⟩ : OlD)]) (by omega) (by omega) ?_
     intro v228 w229 (H230 : Sat w [Z7 w (fun _ => False), Z3 x11 27 (Zv F), Z3 c44 112 (Z0X F id b35), Zc 35 1 v228 ((OL2 ++ [(⟨none, 0, []⟩ : OlD)]).length + 1) (((OL2 ++ [(⟨none, 0, []⟩ : OlD)]).flatMap ZZ) ++ ([(⟨none, 0, []⟩ : OlD)].flatMap ZZ)), Z0j ((olC (⟨none, 0, ([] : List OmR)⟩ : OlD)) :: B2o), Z3 b171 82 (ZR n166.k (Z04 n166.fr (3 * F + 1)) (1000 + id) n166.co n166.st n166.ak n166.ep n166.rd n166.tm n166.qe n166.qd n166.qv n166.qr n166.qb.e n166.qb.t n166.qb.pa n166.qb.P.length n166.qb.pc n166.qb.oa n166.qb.O.length n166.qb.oc n166.qb.ta n166.qb.T.length n166.qb.tc n166.qsb n166.qsm n166.vo.k n166.vo.e n166.vo.d n166.vo.r n166.vo.h n166.vo.sb n166.vo.sm n166.ix n166.en n166.dn (ZD n166.re) n166.de n166.dd n166.db.e n166.db.t n166.db.pa n166.db.P.length n166.db.pc n166.db.oa n166.db.O.length n166.db.oc n166.db.ta n166.db.T.length n166.db.tc n166.va n166.V.length n166.vc n166.cx n166.pr n166.op), Zc 35 1 (.slice (some ⟨b196, 0, none⟩) 1 1) 1 ([(⟨none, 0, []⟩ : OlD)].flatMap ZZ), Zc 82 295 (.slice none 0 0) (([] : List OmR).length) (([] : List OmR).flatMap Z0d), Zc 35 1 (.slice (some ⟨b223, 0, none⟩) 1 1) 1 ([(⟨none, 0, []⟩ : OlD)].flatMap ZZ)] w229)
     have H233 := H230.ct 3 rfl (Zc 35 1 v228 (((OL2 ++ [(⟨none, 0, []⟩ : OlD)]) ++ [(⟨none, 0, []⟩ : OlD)]).length) (((OL2 ++ [(⟨none, 0, []⟩ : OlD)]) ++ [(⟨none, 0, []⟩ : OlD)]).flatMap ZZ)) ja
     obtain ⟨a231, c232, rfl⟩ := Ze (H233.at 3 rfl)
     refine kq _ _ ?_
     clear kq Kq
     refine wv 16 (.slice a231 (((OL2 ++ [(⟨none, 0, []⟩ : OlD)]) ++ [(⟨none, 0, []⟩ : OlD)]).length) c232) ?_
     apply Zu
     apply Zw
     apply ztn
     have H234 : Sat w [Z0j ((olC (⟨none, 0, ([] : List OmR)⟩ : OlD)) :: ((olC (⟨none, 0, ([] : List OmR)⟩ : OlD)) :: B2o)), Z7 w (fun _ => False), Z3 x11 27 (Zv F), Z3 c44 112 (Z0X F id b35), Zc 35 1 (.slice a231 (((OL2 ++ [(⟨none, 0, []⟩ : OlD)]) ++ [(⟨none, 0, []⟩ : OlD)]).length) c232) (((OL2 ++ [(⟨none, 0, []⟩ : OlD)]) ++ [(⟨none, 0, []⟩ : OlD)]).length) (((OL2 ++ [(⟨none, 0, []⟩ : OlD)]) ++ [(⟨none, 0, []⟩ : OlD)]).flatMap ZZ), Z3 b171 82 (ZR n166.k (Z04 n166.fr (3 * F + 1)) (1000 + id) n166.co n166.st n166.ak n166.ep n166.rd n166.tm n166.qe n166.qd n166.qv n166.qr n166.qb.e n166.qb.t n166.qb.pa n166.qb.P.length n166.qb.pc n166.qb.oa n166.qb.O.length n166.qb.oc n166.qb.ta n166.qb.T.length n166.qb.tc n166.qsb n166.qsm n166.vo.k n166.vo.e n166.vo.d n166.vo.r n166.vo.h n166.vo.sb n166.vo.sm n166.ix n166.en n166.dn (ZD n166.re) n166.de n166.dd n166.db.e n166.db.t n166.db.pa n166.db.P.length n166.db.pc n166.db.oa n166.db.O.length n166.db.oc n166.db.ta n166.db.T.length n166.db.tc n166.va n166.V.length n166.vc n166.cx n166.pr n166.op), Zc 35 1 (.slice (some ⟨b196, 0, none⟩) 1 1) 1 ([(⟨none, 0, []⟩ : OlD)].flatMap ZZ), Zc 35 1 (.slice (some ⟨b223, 0, none⟩) 1 1) 1 ([(⟨none, 0, []⟩ : OlD)].flatMap ZZ)] w229 := (H233.pk [4, 7, 0, 1, 2, 3, 5, 6, 8]).bag
     have H235 := H234.pk [1, 2, 3, 4, 0, 5, 6, 7]
     apply Zt
     refine wv 99 (.int .i64 ((j : Int))) ?_
     refine zwi 100 ((j : Int) + 1) ?_
     refine wv 20 (.int .i64 ((j : Int) + 1)) ?_
     apply Zu
     have H236 : Sat w [Z7 w (fun _ => False), Z3 x11 27 (Zv F), Z3 c44 112 (Z0X F id b35), Zc 35 1 (.slice a231 (((OL2 ++ [(⟨none, 0, []⟩ : OlD)]) ++ [(⟨none, 0, []⟩ : OlD)]).length) c232) (((OL2 ++ [(⟨none, 0, []⟩ : OlD)]) ++ [(⟨none, 0, []⟩ : OlD)]).length) (((OL2 ++ [(⟨none, 0, []⟩ : OlD)]) ++ [(⟨none, 0, []⟩ : OlD)]).flatMap ZZ), Z0j ((olC (⟨none, 0, ([] : List OmR)⟩ : OlD)) :: ((olC (⟨none, 0, ([] : List OmR)⟩ : OlD)) :: B2o))] w229 := H235.pk [0, 1, 2, 3, 4]
     refine ZE ?_ _ ⟨(j + 1), a231, c232, ((OL2 ++ [(⟨none, 0, []⟩ : OlD)]) ++ [(⟨none, 0, []⟩ : OlD)]), ((olC (⟨none, 0, ([] : List OmR)⟩ : OlD)) :: ((olC (⟨none, 0, ([] : List OmR)⟩ : OlD)) :: B2o)), rfl, (show ((.slice a231 (((OL2 ++ [(⟨none, 0, []⟩ : OlD)]) ++ [(⟨none, 0, []⟩ : OlD)]).length) c232) : Value) = _ by first | rfl | go_num), (by omega), (by simp only [List.length_append, List.length_cons, List.length_nil]; omega), ((hOk2.add OutG.nil).add OutG.nil), H236, rfl⟩ (by omega)
     exact zs
    have g237 := of_decide_eq_false b209
    refine Z1a _ b209 ?_
    apply ZF
    apply Zw
    apply ztn
    apply Zt
    refine wv 99 (.int .i64 ((j : Int))) ?_
    refine zwi 100 ((j : Int) + 1) ?_
    refine wv 20 (.int .i64 ((j : Int) + 1)) ?_
    apply Zu
    have H239 := H208.pk [0, 1, 2, 3, 4]
    refine ZE ?_ _ ⟨(j + 1), a204, c205, (OL2 ++ [(⟨none, 0, []⟩ : OlD)]), ((olC (⟨none, 0, ([] : List OmR)⟩ : OlD)) :: B2o), rfl, (show ((.slice a204 ((OL2 ++ [(⟨none, 0, []⟩ : OlD)]).length) c205) : Value) = _ by first | rfl | go_num), (by omega), (by simp only [List.length_append, List.length_cons, List.length_nil]; omega), (hOk2.add OutG.nil), H239, rfl⟩ (by omega)
    exact zs
   refine Z1a _ b158 ?_
   apply zxb
   have H240 : Sat w [Z7 w (fun _ => False), Z3 x11 27 (Zv F), Zc 35 1 (.slice ob OL2.length od) OL2.length (OL2.flatMap ZZ), Z0j B2o] w155 := H156.pk [0, 1, 3, 4]
   refine ZJ ?_ ⟨ob, od, OL2, B2o, rfl, (by omega), hOk2, H240⟩
   exact zs
  have H241 := H69
  apply Zt
  refine wv 20 (.int .i64 (0)) ?_
  apply znt
  apply ZA
  have H242 := H241.bag0
  have H243 : Sat w [Z7 w (fun _ => False), Z3 x11 27 (Zv F), Z3 c44 112 (Z01 F id b35 g Q.length lc), Zc 119 79 (.slice (some ⟨g, 0, none⟩) Q.length lc) Q.length (Q.flatMap Zh), Z1j rqP Z, Z0j [], Z3 b35 108 (ZO m36), (ZN m36 L), Zc 35 1 (.slice oa OL.length oc) OL.length (OL.flatMap ZZ), Z0j Bo] w68 := H242.pk [0, 1, 2, 3, 4, 9, 5, 6, 7, 8]
  refine ZW ([16, 20, 21] ++ List.range' 91 42) (fun F_ W_ m_ => ∃ (j : Nat) (ob : Option Addr) (od : Nat) (OL2 : List OlD) (B2o : List Ck) (Qj : List Zq) (Zj : List (Zq × RqM)) (Bz : List Ck), F_ 20 = (.int .i64 ((j : Int))) ∧ F_ 16 = (.slice ob OL2.length od) ∧ (j ≤ 10) ∧ (OL2.length ≤ 3 + 2 * j) ∧ (OlOk F id B2o OL2) ∧ (InvZ F id Bz j Qj Zj) ∧ (Qj.length ≤ 3) ∧ Sat w [Z7 w (fun _ => False), Z3 x11 27 (Zv F), Z3 c44 112 (Z01 F id b35 g Qj.length lc), Zc 119 79 (.slice (some ⟨g, 0, none⟩) Qj.length lc) Qj.length (Qj.flatMap Zh), Z1j rqP Zj, Z0j Bz, Z3 b35 108 (ZO m36), (ZN m36 L), Zc 35 1 (.slice ob OL2.length od) OL2.length (OL2.flatMap ZZ), Z0j B2o] W_ ∧ m_ = 11 - j) _ ⟨0, oa, oc, OL, Bo, Q, Z, [], (show ((.int .i64 (0)) : Value) = _ by first | rfl | go_num), (by first | rfl | go_num), (Nat.zero_le _), (by omega), hOk, hI, (by omega), H243, rfl⟩ ?_
  rintro g244 w245 _ ⟨j, ob, od, OL2, B2o, Qj, Zj, Bz, v247, v248, hj, hO2, hOk2, hIj, hQj, H246, rfl⟩
  refine Zo 20 _ v247 ?_
  refine Zo 16 _ v248 ?_
  apply Zf
  refine Z0v [91, 92, 93, 94, 95, 96, 97, 98] (fun G_ W_ => G_ 98 = (.bool (decide ((j : Int) < (MS.length : Int)) && decide ((j : Int) < 10))) ∧ Sat w [Z7 w (fun _ => False), Z3 x11 27 (Zv F), Z3 c44 112 (Z01 F id b35 g Qj.length lc), Zc 119 79 (.slice (some ⟨g, 0, none⟩) Qj.length lc) Qj.length (Qj.flatMap Zh), Z1j rqP Zj, Z0j Bz, Z3 b35 108 (ZO m36), (ZN m36 L), Zc 35 1 (.slice ob OL2.length od) OL2.length (OL2.flatMap ZZ), Z0j B2o] W_) ?_ ?_
  ·apply Zt
   refine wv 91 (.int .i64 ((j : Int))) ?_
   refine wv 92 (.slice la0 MS.length lc0) ?_
   refine wv 93 (.int .i64 ((MS.length : Int))) ?_
   refine wv 94 (.bool (decide ((j : Int) < (MS.length : Int)))) ?_
   refine wv 95 (.bool (decide ((j : Int) < (MS.length : Int)))) ?_
   refine (ZC (decide ((j : Int) < (MS.length : Int)))).elim (fun b251 => ?_) (fun b251 => ?_)
   ·have g252 := of_decide_eq_true b251
    refine ZP 95 (.bool true) (congrArg Value.bool b251) ?_
    refine wy 4 95 true 96 (.int .i64 ((j : Int))) ?_
    refine wy 4 95 true 97 (.bool (decide ((j : Int) < 10))) ?_
    refine wv 98 (.bool (decide ((j : Int) < 10))) ?_
    apply Zu
    refine ZJ ?_ ⟨(congrArg Value.bool (show (decide ((j : Int) < 10)) = (decide ((j : Int) < (MS.length : Int)) && decide ((j : Int) < 10)) by rw [b251]; rfl)), H246⟩
    exact zs
   have g254 := of_decide_eq_false b251
   refine ZP 95 (.bool false) (congrArg Value.bool b251) ?_
   iterate 2 refine wn 4 95 true ?_
   refine wv 98 (.bool false) ?_
   apply Zu
   refine ZJ ?_ ⟨(congrArg Value.bool (show false = (decide ((j : Int) < (MS.length : Int)) && decide ((j : Int) < 10)) by rw [b251]; rfl)), H246⟩
   exact zs
  rintro f256 w257 ⟨v259, H258⟩
  refine Zo 98 _ v259 ?_
  refine (ZC (decide ((j : Int) < (MS.length : Int)) && decide ((j : Int) < 10))).elim (fun b260 => ?_) (fun b260 => ?_)
  ·refine Z1q _ b260 ?_
   apply ZF
   apply ztn
   apply Zf
   apply ZA
   apply Zf
   have hii := b260
   simp only [Bool.and_eq_true, decide_eq_true_eq] at hii
   obtain ⟨hi1, hi2⟩ := hii
   apply Zt
   refine wv 101 (.slice la0 MS.length lc0) ?_
   refine wv 102 (.int .i64 ((j : Int))) ?_
   obtain ⟨g261, o262, c263, e264, R265⟩ := SliceOf.atD hMS ms0 (show j < MS.length by omega)
   refine wv 103 (.pointer (some ⟨g261, o262 + ((j : Int)).toNat * 295, none⟩)) ?_ (hr := ZM (E := 82) (by kernel_rfl) (by kernel_rfl) (Nat.le_of_ble_eq_true rfl) rfl e264 rfl (by omega) (by omega))
   refine wv 104 (.agg ⟨(ZR ((MS.getD j ms0).k) ((MS.getD j ms0).fr) ((MS.getD j ms0).to) ((MS.getD j ms0).co) ((MS.getD j ms0).st) ((MS.getD j ms0).ak) ((MS.getD j ms0).ep) ((MS.getD j ms0).rd) ((MS.getD j ms0).tm) ((MS.getD j ms0).qe) ((MS.getD j ms0).qd) ((MS.getD j ms0).qv) ((MS.getD j ms0).qr) ((MS.getD j ms0).qb.e) ((MS.getD j ms0).qb.t) ((MS.getD j ms0).qb.pa) ((MS.getD j ms0).qb.P.length) ((MS.getD j ms0).qb.pc) ((MS.getD j ms0).qb.oa) ((MS.getD j ms0).qb.O.length) ((MS.getD j ms0).qb.oc) ((MS.getD j ms0).qb.ta) ((MS.getD j ms0).qb.T.length) ((MS.getD j ms0).qb.tc) ((MS.getD j ms0).qsb) ((MS.getD j ms0).qsm) ((MS.getD j ms0).vo.k) ((MS.getD j ms0).vo.e) ((MS.getD j ms0).vo.d) ((MS.getD j ms0).vo.r) ((MS.getD j ms0).vo.h) ((MS.getD j ms0).vo.sb) ((MS.getD j ms0).vo.sm) ((MS.getD j ms0).ix) ((MS.getD j ms0).en) ((MS.getD j ms0).dn) (ZD ((MS.getD j ms0).re)) ((MS.getD j ms0).de) ((MS.getD j ms0).dd) ((MS.getD j ms0).db.e) ((MS.getD j ms0).db.t) ((MS.getD j ms0).db.pa) ((MS.getD j ms0).db.P.length) ((MS.getD j ms0).db.pc) ((MS.getD j ms0).db.oa) ((MS.getD j ms0).db.O.length) ((MS.getD j ms0).db.oc) ((MS.getD j ms0).db.ta) ((MS.getD j ms0).db.T.length) ((MS.getD j ms0).db.tc) ((MS.getD j ms0).va) ((MS.getD j ms0).V.length) ((MS.getD j ms0).vc) ((MS.getD j ms0).cx) ((MS.getD j ms0).pr) ((MS.getD j ms0).op))⟩) ?_ (hr := Z0a (vs := (ZR ((MS.getD j ms0).k) ((MS.getD j ms0).fr) ((MS.getD j ms0).to) ((MS.getD j ms0).co) ((MS.getD j ms0).st) ((MS.getD j ms0).ak) ((MS.getD j ms0).ep) ((MS.getD j ms0).rd) ((MS.getD j ms0).tm) ((MS.getD j ms0).qe) ((MS.getD j ms0).qd) ((MS.getD j ms0).qv) ((MS.getD j ms0).qr) ((MS.getD j ms0).qb.e) ((MS.getD j ms0).qb.t) ((MS.getD j ms0).qb.pa) ((MS.getD j ms0).qb.P.length) ((MS.getD j ms0).qb.pc) ((MS.getD j ms0).qb.oa) ((MS.getD j ms0).qb.O.length) ((MS.getD j ms0).qb.oc) ((MS.getD j ms0).qb.ta) ((MS.getD j ms0).qb.T.length) ((MS.getD j ms0).qb.tc) ((MS.getD j ms0).qsb) ((MS.getD j ms0).qsm) ((MS.getD j ms0).vo.k) ((MS.getD j ms0).vo.e) ((MS.getD j ms0).vo.d) ((MS.getD j ms0).vo.r) ((MS.getD j ms0).vo.h) ((MS.getD j ms0).vo.sb) ((MS.getD j ms0).vo.sm) ((MS.getD j ms0).ix) ((MS.getD j ms0).en) ((MS.getD j ms0).dn) (ZD ((MS.getD j ms0).re)) ((MS.getD j ms0).de) ((MS.getD j ms0).dd) ((MS.getD j ms0).db.e) ((MS.getD j ms0).db.t) ((MS.getD j ms0).db.pa) ((MS.getD j ms0).db.P.length) ((MS.getD j ms0).db.pc) ((MS.getD j ms0).db.oa) ((MS.getD j ms0).db.O.length) ((MS.getD j ms0).db.oc) ((MS.getD j ms0).db.ta) ((MS.getD j ms0).db.T.length) ((MS.getD j ms0).db.tc) ((MS.getD j ms0).va) ((MS.getD j ms0).V.length) ((MS.getD j ms0).vc) ((MS.getD j ms0).cx) ((MS.getD j ms0).pr) ((MS.getD j ms0).op))) rfl (by kernel_rfl) (by kernel_rfl) (Nat.le_of_ble_eq_true (by kernel_rfl)) (H258.runR 0 rfl (Z16 R265 0 (by kernel_rfl) (show o262 + ((j : Int)).toNat * 295 = o262 + j * 295 + 0 by omega)) (fun h => h)))
   refine zwd fun Kq kq => ?_
   have hmm := hMi _ (Z1c (l := MS) (i := j) (d := ms0) (by omega))
   refine zdc 105 (Z4i w257 (MS.getD j ms0) (hmm.now (D := fun _ => False) H258 0 rfl)) ?_
   rintro _ w267 ⟨n268, hes, e269, u270⟩
   rw [show Z6E n268 = (ZR n268.k n268.fr n268.to n268.co n268.st n268.ak n268.ep n268.rd n268.tm n268.qe n268.qd n268.qv n268.qr n268.qb.e n268.qb.t n268.qb.pa n268.qb.P.length n268.qb.pc n268.qb.oa n268.qb.O.length n268.qb.oc n268.qb.ta n268.qb.T.length n268.qb.tc n268.qsb n268.qsm n268.vo.k n268.vo.e n268.vo.d n268.vo.r n268.vo.h n268.vo.sb n268.vo.sm n268.ix n268.en n268.dn (ZD n268.re) n268.de n268.dd n268.db.e n268.db.t n268.db.pa n268.db.P.length n268.db.pc n268.db.oa n268.db.O.length n268.db.oc n268.db.ta n268.db.T.length n268.db.tc n268.va n268.V.length n268.vc n268.cx n268.pr n268.op) by kernel_rfl] at hes
   subst hes
   have H271 := H258.keepU u270
   refine ⟨_, rfl, ?_⟩
   refine kq _ _ ?_
   clear kq Kq
   refine zwd fun Kq kq => ?_
   refine zda (Z3c (ZD ([] : List UInt8))) H271 ?_
   intro b273 w274 H275
   refine kq _ _ ?_
   clear kq Kq
   refine zwd fun Kq kq => ?_
   refine Z21 (ZR n268.k n268.fr n268.to n268.co n268.st n268.ak n268.ep n268.rd n268.tm n268.qe n268.qd n268.qv n268.qr n268.qb.e n268.qb.t n268.qb.pa n268.qb.P.length n268.qb.pc n268.qb.oa n268.qb.O.length n268.qb.oc n268.qb.ta n268.qb.T.length n268.qb.tc n268.qsb n268.qsm n268.vo.k n268.vo.e n268.vo.d n268.vo.r n268.vo.h n268.vo.sb n268.vo.sm n268.ix n268.en n268.dn (ZD n268.re) n268.de n268.dd n268.db.e n268.db.t n268.db.pa n268.db.P.length n268.db.pc n268.db.oa n268.db.O.length n268.db.oc n268.db.ta n268.db.T.length n268.db.tc n268.va n268.V.length n268.vc n268.cx n268.pr n268.op) H275 10 ?_
   intro w277 (H278 : Sat w [Z7 w (fun _ => False), Z3 x11 27 (Zv F), Z3 c44 112 (Z01 F id b35 g Qj.length lc), Zc 119 79 (.slice (some ⟨g, 0, none⟩) Qj.length lc) Qj.length (Qj.flatMap Zh), Z1j rqP Zj, Z0j Bz, Z3 b35 108 (ZO m36), (ZN m36 L), Zc 35 1 (.slice ob OL2.length od) OL2.length (OL2.flatMap ZZ), Z0j B2o, Z3 b273 82 (ZR n268.k n268.fr n268.to n268.co n268.st n268.ak n268.ep n268.rd n268.tm n268.qe n268.qd n268.qv n268.qr n268.qb.e n268.qb.t n268.qb.pa n268.qb.P.length n268.qb.pc n268.qb.oa n268.qb.O.length n268.qb.oc n268.qb.ta n268.qb.T.length n268.qb.tc n268.qsb n268.qsm n268.vo.k n268.vo.e n268.vo.d n268.vo.r n268.vo.h n268.vo.sb n268.vo.sm n268.ix n268.en n268.dn (ZD n268.re) n268.de n268.dd n268.db.e n268.db.t n268.db.pa n268.db.P.length n268.db.pc n268.db.oa n268.db.O.length n268.db.oc n268.db.ta n268.db.T.length n268.db.tc n268.va n268.V.length n268.vc n268.cx n268.pr n268.op)] w277)
   refine kq _ _ ?_
   clear kq Kq
   apply Z0N
   refine wv 106 (.int .i64 (id)) ?_
   refine zwi 107 (1000 + id) ?_
   refine wv 108 (pt b273 1) ?_
   refine zw1 109 (.int .i64 (n268.fr)) (H278.cell 10 rfl (by kernel_rfl)) ?_
   refine wv 110 (.int .i64 (3 * F + 1)) ?_
   refine zwd fun Kq kq => ?_
   refine zdq 111 (Z2F w277 n268.fr (3 * F + 1) (by omega)) H278 ?_
   intro w281 H282
   refine kq _ _ ?_
   clear kq Kq
   refine wv 112 (pt b273 2) ?_
   refine zwd fun Kq kq => ?_
   refine zds ([(.int .i64 (1000 + id))] : List Value) (ZR n268.k n268.fr (1000 + id) n268.co n268.st n268.ak n268.ep n268.rd n268.tm n268.qe n268.qd n268.qv n268.qr n268.qb.e n268.qb.t n268.qb.pa n268.qb.P.length n268.qb.pc n268.qb.oa n268.qb.O.length n268.qb.oc n268.qb.ta n268.qb.T.length n268.qb.tc n268.qsb n268.qsm n268.vo.k n268.vo.e n268.vo.d n268.vo.r n268.vo.h n268.vo.sb n268.vo.sm n268.ix n268.en n268.dn (ZD n268.re) n268.de n268.dd n268.db.e n268.db.t n268.db.pa n268.db.P.length n268.db.pc n268.db.oa n268.db.O.length n268.db.oc n268.db.ta n268.db.T.length n268.db.tc n268.va n268.V.length n268.vc n268.cx n268.pr n268.op) H282 10 ?_
   intro w285 H286
   refine kq _ _ ?_
   clear kq Kq
   refine wv 113 (pt b273 1) ?_
   refine zwd fun Kq kq => ?_
   refine zds ([(.int .i64 (Z04 n268.fr (3 * F + 1)))] : List Value) (ZR n268.k (Z04 n268.fr (3 * F + 1)) (1000 + id) n268.co n268.st n268.ak n268.ep n268.rd n268.tm n268.qe n268.qd n268.qv n268.qr n268.qb.e n268.qb.t n268.qb.pa n268.qb.P.length n268.qb.pc n268.qb.oa n268.qb.O.length n268.qb.oc n268.qb.ta n268.qb.T.length n268.qb.tc n268.qsb n268.qsm n268.vo.k n268.vo.e n268.vo.d n268.vo.r n268.vo.h n268.vo.sb n268.vo.sm n268.ix n268.en n268.dn (ZD n268.re) n268.de n268.dd n268.db.e n268.db.t n268.db.pa n268.db.P.length n268.db.pc n268.db.oa n268.db.O.length n268.db.oc n268.db.ta n268.db.T.length n268.db.tc n268.va n268.V.length n268.vc n268.cx n268.pr n268.op) H286 10 ?_
   intro w289 (H290 : Sat w [Z7 w (fun _ => False), Z3 x11 27 (Zv F), Z3 c44 112 (Z01 F id b35 g Qj.length lc), Zc 119 79 (.slice (some ⟨g, 0, none⟩) Qj.length lc) Qj.length (Qj.flatMap Zh), Z1j rqP Zj, Z0j Bz, Z3 b35 108 (ZO m36), (ZN m36 L), Zc 35 1 (.slice ob OL2.length od) OL2.length (OL2.flatMap ZZ), Z0j B2o, Z3 b273 82 (ZR n268.k (Z04 n268.fr (3 * F + 1)) (1000 + id) n268.co n268.st n268.ak n268.ep n268.rd n268.tm n268.qe n268.qd n268.qv n268.qr n268.qb.e n268.qb.t n268.qb.pa n268.qb.P.length n268.qb.pc n268.qb.oa n268.qb.O.length n268.qb.oc n268.qb.ta n268.qb.T.length n268.qb.tc n268.qsb n268.qsm n268.vo.k n268.vo.e n268.vo.d n268.vo.r n268.vo.h n268.vo.sb n268.vo.sm n268.ix n268.en n268.dn (ZD n268.re) n268.de n268.dd n268.db.e n268.db.t n268.db.pa n268.db.P.length n268.db.pc n268.db.oa n268.db.O.length n268.db.oc n268.db.ta n268.db.T.length n268.db.tc n268.va n268.V.length n268.vc n268.cx n268.pr n268.op)] w289)
   refine kq _ _ ?_
   clear kq Kq
   apply Z0N
   refine wv 114 (.slice ob OL2.length od) ?_
   refine wv 115 (pt c44 0) ?_
   refine zwN 116 (ZR n268.k (Z04 n268.fr (3 * F + 1)) (1000 + id) n268.co n268.st n268.ak n268.ep n268.rd n268.tm n268.qe n268.qd n268.qv n268.qr n268.qb.e n268.qb.t n268.qb.pa n268.qb.P.length n268.qb.pc n268.qb.oa n268.qb.O.length n268.qb.oc n268.qb.ta n268.qb.T.length n268.qb.tc n268.qsb n268.qsm n268.vo.k n268.vo.e n268.vo.d n268.vo.r n268.vo.h n268.vo.sb n268.vo.sm n268.ix n268.en n268.dn (ZD n268.re) n268.de n268.dd n268.db.e n268.db.t n268.db.pa n268.db.P.length n268.db.pc n268.db.oa n268.db.O.length n268.db.oc n268.db.ta n268.db.T.length n268.db.tc n268.va n268.V.length n268.vc n268.cx n268.pr n268.op) (H290.at 10 rfl) ?_
   refine zwd fun Kq kq => ?_
   refine zdc 117 (Z7i w289 c44 b35 m36 g lc F 3 id Qj Zj L Bz j (H290.fn [2, 3, 4, 5, 6, 7]) (by omega) hIj (by omega) hF (by omega) (⟨n268.k, Z04 n268.fr (3 * F + 1), 1000 + id, n268.co, n268.st, n268.cx, n268.ak, n268.ep, n268.rd, n268.tm, n268.pr, n268.qe, n268.qd, n268.qv, n268.qr, n268.qb, n268.qsb, n268.qsm, n268.vo, n268.ix, n268.en, n268.op, n268.dn, n268.re, n268.de, n268.dd, n268.db, n268.va, n268.vc, n268.V⟩ : MsR) rfl (by have q_ := Z2G n268.fr (3 * F + 1) (by omega); show inB F _ = true; unfold inB; simp only [Bool.and_eq_true, decide_eq_true_eq]; omega) (by show Z3V n268.st; rw [e269.st]; exact hmm.st) (by show Z3V n268.ak; rw [e269.ak]; exact hmm.ak)) ?_
   rintro _ w293 ⟨da, dc, D, rfl, Q2, Z2, B2, hOut, hInv, hlen, hsb, T294⟩
   have T295 : Sat w289 [Z3 c44 112 (Z01 F id b35 g Q2.length lc), Zc 119 79 (.slice (some ⟨g, 0, none⟩) Q2.length lc) Q2.length (Q2.flatMap Zh), Z1j rqP Z2, Z0j B2, Z3 b35 108 (ZO m36), (ZN m36 L), Zc 82 295 (.slice da D.length dc) D.length (D.flatMap Z0d), Z7 w289 (ZL [Z3 c44 112 (Z01 F id b35 g Qj.length lc), Zc 119 79 (.slice (some ⟨g, 0, none⟩) Qj.length lc) Qj.length (Qj.flatMap Zh), Z1j rqP Zj, Z0j Bz, Z3 b35 108 (ZO m36), (ZN m36 L)]).fp] w293 := T294.cast (by rw [hlen])
   have H296 := H290.tl [Z3 c44 112 (Z01 F id b35 g Q2.length lc), Zc 119 79 (.slice (some ⟨g, 0, none⟩) Q2.length lc) Q2.length (Q2.flatMap Zh), Z1j rqP Z2, Z0j B2, Z3 b35 108 (ZO m36), (ZN m36 L), Zc 82 295 (.slice da D.length dc) D.length (D.flatMap Z0d)] [2, 3, 4, 5, 6, 7] [0, 1, 8, 9, 10] T295 [7, 8, 0, 1, 2, 3, 4, 5, 9, 10, 11, 6]
   refine ⟨_, rfl, ?_⟩
   refine kq _ _ ?_
   clear kq Kq
   refine zwd fun Kq kq => ?_
   refine Z3U 35 1 24 (.slice none 0 0) [(0, (.slice da D.length dc))] ([(.slice da D.length dc)] : List Value) H296 ?_
   intro b298 w299 (H300 : Sat w [Z7 w (fun _ => False), Z3 x11 27 (Zv F), Z3 c44 112 (Z01 F id b35 g Q2.length lc), Zc 119 79 (.slice (some ⟨g, 0, none⟩) Q2.length lc) Q2.length (Q2.flatMap Zh), Z1j rqP Z2, Z0j B2, Z3 b35 108 (ZO m36), (ZN m36 L), Zc 35 1 (.slice ob OL2.length od) OL2.length (OL2.flatMap ZZ), Z0j B2o, Z3 b273 82 (ZR n268.k (Z04 n268.fr (3 * F + 1)) (1000 + id) n268.co n268.st n268.ak n268.ep n268.rd n268.tm n268.qe n268.qd n268.qv n268.qr n268.qb.e n268.qb.t n268.qb.pa n268.qb.P.length n268.qb.pc n268.qb.oa n268.qb.O.length n268.qb.oc n268.qb.ta n268.qb.T.length n268.qb.tc n268.qsb n268.qsm n268.vo.k n268.vo.e n268.vo.d n268.vo.r n268.vo.h n268.vo.sb n268.vo.sm n268.ix n268.en n268.dn (ZD n268.re) n268.de n268.dd n268.db.e n268.db.t n268.db.pa n268.db.P.length n268.db.pc n268.db.oa n268.db.O.length n268.db.oc n268.db.ta n268.db.T.length n268.db.tc n268.va n268.V.length n268.vc n268.cx n268.pr n268.op), Zc 82 295 (.slice da D.length dc) D.length (D.flatMap Z0d), Zc 35 1 (.slice (some ⟨b298, 0, none⟩) 1 1) 1 ([(.slice da D.length dc)] : List Value)] w299)
   have H301 := H300.ct 12 rfl (Zc 35 1 (.slice (some ⟨b298, 0, none⟩) 1 1) 1 ([(⟨da, dc, D⟩ : OlD)].flatMap ZZ)) (by rw [(show (([(.slice da D.length dc)] : List Value) : List Value) = ([(⟨da, dc, D⟩ : OlD)] : List OlD).flatMap ZZ by kernel_rfl)])
   refine kq _ _ ?_
   clear kq Kq
   refine zwd fun Kq kq => ?_
   refine Z0n (T := 87) (e := 35) (size := 1) (bytes := 24) rfl H301 (by kernel_rfl) 8 12 rfl rfl rfl rfl (Z0e ZZ Z2l [(⟨da, dc, D⟩ : OlD)]) (by omega) (by omega) ?_
   intro v303 w304 (H305 : Sat w [Z7 w (fun _ => False), Z3 x11 27 (Zv F), Z3 c44 112 (Z01 F id b35 g Q2.length lc), Zc 119 79 (.slice (some ⟨g, 0, none⟩) Q2.length lc) Q2.length (Q2.flatMap Zh), Z1j rqP Z2, Z0j B2, Z3 b35 108 (ZO m36), (ZN m36 L), Zc 35 1 v303 (OL2.length + 1) ((OL2.flatMap ZZ) ++ ([(⟨da, dc, D⟩ : OlD)].flatMap ZZ)), Z0j B2o, Z3 b273 82 (ZR n268.k (Z04 n268.fr (3 * F + 1)) (1000 + id) n268.co n268.st n268.ak n268.ep n268.rd n268.tm n268.qe n268.qd n268.qv n268.qr n268.qb.e n268.qb.t n268.qb.pa n268.qb.P.length n268.qb.pc n268.qb.oa n268.qb.O.length n268.qb.oc n268.qb.ta n268.qb.T.length n268.qb.tc n268.qsb n268.qsm n268.vo.k n268.vo.e n268.vo.d n268.vo.r n268.vo.h n268.vo.sb n268.vo.sm n268.ix n268.en n268.dn (ZD n268.re) n268.de n268.dd n268.db.e n268.db.t n268.db.pa n268.db.P.length n268.db.pc n268.db.oa n268.db.O.length n268.db.oc n268.db.ta n268.db.T.length n268.db.tc n268.va n268.V.length n268.vc n268.cx n268.pr n268.op), Zc 82 295 (.slice da D.length dc) D.length (D.flatMap Z0d), Zc 35 1 (.slice (some ⟨b298, 0, none⟩) 1 1) 1 ([(⟨da, dc, D⟩ : OlD)].flatMap ZZ)] w304)
   have H308 := H305.ct 8 rfl (Zc 35 1 v303 ((OL2 ++ [(⟨da, dc, D⟩ : OlD)]).length) ((OL2 ++ [(⟨da, dc, D⟩ : OlD)]).flatMap ZZ)) ja
   obtain ⟨a306, c307, rfl⟩ := Ze (H308.at 8 rfl)
   refine kq _ _ ?_
   clear kq Kq
   refine wv 16 (.slice a306 ((OL2 ++ [(⟨da, dc, D⟩ : OlD)]).length) c307) ?_
   apply znt
   apply Zf
   have H309 : Sat w [Z0j ((olC (⟨da, dc, D⟩ : OlD)) :: B2o), Z7 w (fun _ => False), Z3 x11 27 (Zv F), Z3 c44 112 (Z01 F id b35 g Q2.length lc), Zc 119 79 (.slice (some ⟨g, 0, none⟩) Q2.length lc) Q2.length (Q2.flatMap Zh), Z1j rqP Z2, Z0j B2, Z3 b35 108 (ZO m36), (ZN m36 L), Zc 35 1 (.slice a306 ((OL2 ++ [(⟨da, dc, D⟩ : OlD)]).length) c307) ((OL2 ++ [(⟨da, dc, D⟩ : OlD)]).length) ((OL2 ++ [(⟨da, dc, D⟩ : OlD)]).flatMap ZZ), Z3 b273 82 (ZR n268.k (Z04 n268.fr (3 * F + 1)) (1000 + id) n268.co n268.st n268.ak n268.ep n268.rd n268.tm n268.qe n268.qd n268.qv n268.qr n268.qb.e n268.qb.t n268.qb.pa n268.qb.P.length n268.qb.pc n268.qb.oa n268.qb.O.length n268.qb.oc n268.qb.ta n268.qb.T.length n268.qb.tc n268.qsb n268.qsm n268.vo.k n268.vo.e n268.vo.d n268.vo.r n268.vo.h n268.vo.sb n268.vo.sm n268.ix n268.en n268.dn (ZD n268.re) n268.de n268.dd n268.db.e n268.db.t n268.db.pa n268.db.P.length n268.db.pc n268.db.oa n268.db.O.length n268.db.oc n268.db.ta n268.db.T.length n268.db.tc n268.va n268.V.length n268.vc n268.cx n268.pr n268.op), Zc 35 1 (.slice (some ⟨b298, 0, none⟩) 1 1) 1 ([(⟨da, dc, D⟩ : OlD)].flatMap ZZ)] w304 := (H308.pk [9, 11, 0, 1, 2, 3, 4, 5, 6, 7, 8, 10, 12]).bag
   have H310 := H309.pk [1, 2, 3, 4, 5, 6, 7, 8, 9, 0, 10, 11]
   have hO3 : (OL2 ++ [(⟨da, dc, D⟩ : OlD)]).length = OL2.length + 1 := by rw [List.length_append]; rfl
   apply Zt
   refine wv 120 (.int .i64 ((j : Int))) ?_
   refine wv 121 (.slice ga AG.length gc) ?_
   refine wv 122 (.int .i64 ((AG.length : Int))) ?_
   refine wv 123 (.bool (decide ((j : Int) < (AG.length : Int)))) ?_
   apply znt
   refine (ZC (decide ((j : Int) < (AG.length : Int)))).elim (fun b311 => ?_) (fun b311 => ?_)
   ·have g312 := of_decide_eq_true b311
    refine Z1q _ b311 ?_
    apply Zt
    refine wv 124 (.slice a306 ((OL2 ++ [(⟨da, dc, D⟩ : OlD)]).length) c307) ?_
    refine wv 125 (pt c44 0) ?_
    refine wv 126 (.slice ga AG.length gc) ?_
    refine wv 127 (.int .i64 ((j : Int))) ?_
    obtain ⟨g314, o315, c316, e317, R318⟩ := SliceOf.atD hAG 0 (show j < AG.length by omega)
    refine wv 128 (.pointer (some ⟨g314, o315 + ((j : Int)).toNat * 1, none⟩)) ?_ (hr := ZM (E := 3) (by kernel_rfl) (by kernel_rfl) (Nat.le_of_ble_eq_true rfl) rfl e317 rfl (by omega) (by omega))
    refine zw1 129 (.int .i64 ((AG.getD j 0))) (H310.cellR 0 rfl (Z1C R318 0 (by kernel_rfl) (show o315 + ((j : Int)).toNat * 1 = o315 + j * 1 + 0 by omega)) (fun h => h)) ?_
    refine zwd fun Kq kq => ?_
    refine zdc 130 (Z6m w304 c44 b35 m36 g lc F 3 id Q2 Z2 L B2 (j + 1) (H310.fn [2, 3, 4, 5, 6, 7]) (by omega) hInv (by omega) hF (by omega) (AG.getD j 0)) ?_
    rintro _ w320 ⟨a326, c327, D328, rfl, o325, k321, u322, q323⟩
    have H324 : Sat w [Z7 w (fun _ => False), Z3 x11 27 (Zv F), Z3 c44 112 (Z01 F id b35 g Q2.length lc), Zc 119 79 (.slice (some ⟨g, 0, none⟩) Q2.length lc) Q2.length (Q2.flatMap Zh), Z1j rqP Z2, Z0j B2, Z3 b35 108 (ZO m36), (ZN m36 L), Zc 35 1 (.slice a306 ((OL2 ++ [(⟨da, dc, D⟩ : OlD)]).length) c307) ((OL2 ++ [(⟨da, dc, D⟩ : OlD)]).length) ((OL2 ++ [(⟨da, dc, D⟩ : OlD)]).flatMap ZZ), Z0j ((olC (⟨da, dc, D⟩ : OlD)) :: B2o), Z3 b273 82 (ZR n268.k (Z04 n268.fr (3 * F + 1)) (1000 + id) n268.co n268.st n268.ak n268.ep n268.rd n268.tm n268.qe n268.qd n268.qv n268.qr n268.qb.e n268.qb.t n268.qb.pa n268.qb.P.length n268.qb.pc n268.qb.oa n268.qb.O.length n268.qb.oc n268.qb.ta n268.qb.T.length n268.qb.tc n268.qsb n268.qsm n268.vo.k n268.vo.e n268.vo.d n268.vo.r n268.vo.h n268.vo.sb n268.vo.sm n268.ix n268.en n268.dn (ZD n268.re) n268.de n268.dd n268.db.e n268.db.t n268.db.pa n268.db.P.length n268.db.pc n268.db.oa n268.db.O.length n268.db.oc n268.db.ta n268.db.T.length n268.db.tc n268.va n268.V.length n268.vc n268.cx n268.pr n268.op), Zc 35 1 (.slice (some ⟨b298, 0, none⟩) 1 1) 1 ([(⟨da, dc, D⟩ : OlD)].flatMap ZZ), Zc 82 295 (.slice a326 D328.length c327) D328.length (D328.flatMap Z0d)] w320 := H310.addU u322 k321 q323
    refine ⟨_, rfl, ?_⟩
    refine kq _ _ ?_
    clear kq Kq
    refine zwd fun Kq kq => ?_
    refine Z3U 35 1 24 (.slice none 0 0) [(0, (.slice a326 D328.length c327))] ([(.slice a326 D328.length c327)] : List Value) H324 ?_
    intro b330 w331 (H332 : Sat w [Z7 w (fun _ => False), Z3 x11 27 (Zv F), Z3 c44 112 (Z01 F id b35 g Q2.length lc), Zc 119 79 (.slice (some ⟨g, 0, none⟩) Q2.length lc) Q2.length (Q2.flatMap Zh), Z1j rqP Z2, Z0j B2, Z3 b35 108 (ZO m36), (ZN m36 L), Zc 35 1 (.slice a306 ((OL2 ++ [(⟨da, dc, D⟩ : OlD)]).length) c307) ((OL2 ++ [(⟨da, dc, D⟩ : OlD)]).length) ((OL2 ++ [(⟨da, dc, D⟩ : OlD)]).flatMap ZZ), Z0j ((olC (⟨da, dc, D⟩ : OlD)) :: B2o), Z3 b273 82 (ZR n268.k (Z04 n268.fr (3 * F + 1)) (1000 + id) n268.co n268.st n268.ak n268.ep n268.rd n268.tm n268.qe n268.qd n268.qv n268.qr n268.qb.e n268.qb.t n268.qb.pa n268.qb.P.length n268.qb.pc n268.qb.oa n268.qb.O.length n268.qb.oc n268.qb.ta n268.qb.T.length n268.qb.tc n268.qsb n268.qsm n268.vo.k n268.vo.e n268.vo.d n268.vo.r n268.vo.h n268.vo.sb n268.vo.sm n268.ix n268.en n268.dn (ZD n268.re) n268.de n268.dd n268.db.e n268.db.t n268.db.pa n268.db.P.length n268.db.pc n268.db.oa n268.db.O.length n268.db.oc n268.db.ta n268.db.T.length n268.db.tc n268.va n268.V.length n268.vc n268.cx n268.pr n268.op), Zc 35 1 (.slice (some ⟨b298, 0, none⟩) 1 1) 1 ([(⟨da, dc, D⟩ : OlD)].flatMap ZZ), Zc 82 295 (.slice a326 D328.length c327) D328.length (D328.flatMap Z0d), Zc 35 1 (.slice (some ⟨b330, 0, none⟩) 1 1) 1 ([(.slice a326 D328.length c327)] : List Value)] w331)
    have H333 : Sat w [Z7 w (fun _ => False), Z3 x11 27 (Zv F), Z3 c44 112 (Z01 F id b35 g Q2.length lc), Zc 119 79 (.slice (some ⟨g, 0, none⟩) Q2.length lc) Q2.length (Q2.flatMap Zh), Z1j rqP Z2, Z0j B2, Z3 b35 108 (ZO m36), (ZN m36 L), Zc 35 1 (.slice a306 ((OL2 ++ [(⟨da, dc, D⟩ : OlD)]).length) c307) ((OL2 ++ [(⟨da, dc, D⟩ : OlD)]).length) ((OL2 ++ [(⟨da, dc, D⟩ : OlD)]).flatMap ZZ), Z0j ((olC (⟨da, dc, D⟩ : OlD)) :: B2o), Z3 b273 82 (ZR n268.k (Z04 n268.fr (3 * F + 1)) (1000 + id) n268.co n268.st n268.ak n268.ep n268.rd n268.tm n268.qe n268.qd n268.qv n268.qr n268.qb.e n268.qb.t n268.qb.pa n268.qb.P.length n268.qb.pc n268.qb.oa n268.qb.O.length n268.qb.oc n268.qb.ta n268.qb.T.length n268.qb.tc n268.qsb n268.qsm n268.vo.k n268.vo.e n268.vo.d n268.vo.r n268.vo.h n268.vo.sb n268.vo.sm n268.ix n268.en n268.dn (ZD n268.re) n268.de n268.dd n268.db.e n268.db.t n268.db.pa n268.db.P.length n268.db.pc n268.db.oa n268.db.O.length n268.db.oc n268.db.ta n268.db.T.length n268.db.tc n268.va n268.V.length n268.vc n268.cx n268.pr n268.op), Zc 35 1 (.slice (some ⟨b298, 0, none⟩) 1 1) 1 ([(⟨da, dc, D⟩ : OlD)].flatMap ZZ), Zc 82 295 (.slice a326 D328.length c327) D328.length (D328.flatMap Z0d), Zc 35 1 (.slice (some ⟨b330, 0, none⟩) 1 1) 1 ([(⟨a326, c327, D328⟩ : OlD)].flatMap ZZ)] w331 := H332.cast (by rw [(show (([(.slice a326 D328.length c327)] : List Value) : List Value) = ([(⟨a326, c327, D328⟩ : OlD)] : List OlD).flatMap ZZ by kernel_rfl)])
    refine kq _ _ ?_
    clear kq Kq
    refine zwd fun Kq kq => ?_
    refine Z0n (T := 87) (e := 35) (size := 1) (bytes := 24) rfl H333 (by kernel_rfl) 8 13 rfl rfl rfl rfl (Z0e ZZ Z2l [(⟨a326, c327, D328⟩ : OlD)]) (by omega) (by omega) ?_
    intro v335 w336 H337
    have H340 : Sat w [Z7 w (fun _ => False), Z3 x11 27 (Zv F), Z3 c44 112 (Z01 F id b35 g Q2.length lc), Zc 119 79 (.slice (some ⟨g, 0, none⟩) Q2.length lc) Q2.length (Q2.flatMap Zh), Z1j rqP Z2, Z0j B2, Z3 b35 108 (ZO m36), (ZN m36 L), Zc 35 1 v335 (((OL2 ++ [(⟨da, dc, D⟩ : OlD)]) ++ [(⟨a326, c327, D328⟩ : OlD)]).length) (((OL2 ++ [(⟨da, dc, D⟩ : OlD)]) ++ [(⟨a326, c327, D328⟩ : OlD)]).flatMap ZZ), Z0j ((olC (⟨da, dc, D⟩ : OlD)) :: B2o), Z3 b273 82 (ZR n268.k (Z04 n268.fr (3 * F + 1)) (1000 + id) n268.co n268.st n268.ak n268.ep n268.rd n268.tm n268.qe n268.qd n268.qv n268.qr n268.qb.e n268.qb.t n268.qb.pa n268.qb.P.length n268.qb.pc n268.qb.oa n268.qb.O.length n268.qb.oc n268.qb.ta n268.qb.T.length n268.qb.tc n268.qsb n268.qsm n268.vo.k n268.vo.e n268.vo.d n268.vo.r n268.vo.h n268.vo.sb n268.vo.sm n268.ix n268.en n268.dn (ZD n268.re) n268.de n268.dd n268.db.e n268.db.t n268.db.pa n268.db.P.length n268.db.pc n268.db.oa n268.db.O.length n268.db.oc n268.db.ta n268.db.T.length n268.db.tc n268.va n268.V.length n268.vc n268.cx n268.pr n268.op), Zc 35 1 (.slice (some ⟨b298, 0, none⟩) 1 1) 1 ([(⟨da, dc, D⟩ : OlD)].flatMap ZZ), Zc 82 295 (.slice a326 D328.length c327) D328.length (D328.flatMap Z0d), Zc 35 1 (.slice (some ⟨b330, 0, none⟩) 1 1) 1 ([(⟨a326, c327, D328⟩ : OlD)].flatMap ZZ)] w336 := H337.cast (by simp only [List.length_append, List.flatMap_append] <;> rfl)
    obtain ⟨a338, c339, rfl⟩ := Ze (H340.at 8 rfl)
    refine kq _ _ ?_
    clear kq Kq
    refine wv 16 (.slice a338 (((OL2 ++ [(⟨da, dc, D⟩ : OlD)]) ++ [(⟨a326, c327, D328⟩ : OlD)]).length) c339) ?_
    apply Zu
    apply Zw
    apply ztn
    have H341 := (H340.pk [9, 12, 0, 1, 2, 3, 4, 5, 6, 7, 8, 10, 11, 13]).bag
    have H342 : Sat w [Z7 w (fun _ => False), Z3 x11 27 (Zv F), Z3 c44 112 (Z01 F id b35 g Q2.length lc), Zc 119 79 (.slice (some ⟨g, 0, none⟩) Q2.length lc) Q2.length (Q2.flatMap Zh), Z1j rqP Z2, Z0j B2, Z3 b35 108 (ZO m36), (ZN m36 L), Zc 35 1 (.slice a338 (((OL2 ++ [(⟨da, dc, D⟩ : OlD)]) ++ [(⟨a326, c327, D328⟩ : OlD)]).length) c339) (((OL2 ++ [(⟨da, dc, D⟩ : OlD)]) ++ [(⟨a326, c327, D328⟩ : OlD)]).length) (((OL2 ++ [(⟨da, dc, D⟩ : OlD)]) ++ [(⟨a326, c327, D328⟩ : OlD)]).flatMap ZZ), Z0j ((olC (⟨a326, c327, D328⟩ : OlD)) :: ((olC (⟨da, dc, D⟩ : OlD)) :: B2o)), Z3 b273 82 (ZR n268.k (Z04 n268.fr (3 * F + 1)) (1000 + id) n268.co n268.st n268.ak n268.ep n268.rd n268.tm n268.qe n268.qd n268.qv n268.qr n268.qb.e n268.qb.t n268.qb.pa n268.qb.P.length n268.qb.pc n268.qb.oa n268.qb.O.length n268.qb.oc n268.qb.ta n268.qb.T.length n268.qb.tc n268.qsb n268.qsm n268.vo.k n268.vo.e n268.vo.d n268.vo.r n268.vo.h n268.vo.sb n268.vo.sm n268.ix n268.en n268.dn (ZD n268.re) n268.de n268.dd n268.db.e n268.db.t n268.db.pa n268.db.P.length n268.db.pc n268.db.oa n268.db.O.length n268.db.oc n268.db.ta n268.db.T.length n268.db.tc n268.va n268.V.length n268.vc n268.cx n268.pr n268.op), Zc 35 1 (.slice (some ⟨b298, 0, none⟩) 1 1) 1 ([(⟨da, dc, D⟩ : OlD)].flatMap ZZ), Zc 35 1 (.slice (some ⟨b330, 0, none⟩) 1 1) 1 ([(⟨a326, c327, D328⟩ : OlD)].flatMap ZZ)] w336 := H341.pk [1, 2, 3, 4, 5, 6, 7, 8, 9, 0, 10, 11, 12]
    apply Zt
    refine wv 99 (.int .i64 ((j : Int))) ?_
    refine zwi 100 ((j : Int) + 1) ?_
    refine wv 20 (.int .i64 ((j : Int) + 1)) ?_
    apply Zu
    have H343 := H342.pk [0, 1, 2, 3, 4, 5, 6, 7, 8, 9]
    refine ZE ?_ _ ⟨(j + 1), a338, c339, ((OL2 ++ [(⟨da, dc, D⟩ : OlD)]) ++ [(⟨a326, c327, D328⟩ : OlD)]), ((olC (⟨a326, c327, D328⟩ : OlD)) :: ((olC (⟨da, dc, D⟩ : OlD)) :: B2o)), Q2, Z2, B2, rfl, (show ((.slice a338 (((OL2 ++ [(⟨da, dc, D⟩ : OlD)]) ++ [(⟨a326, c327, D328⟩ : OlD)]).length) c339) : Value) = _ by first | rfl | go_num), (by omega), (by simp only [List.length_append, List.length_cons, List.length_nil]; omega), ((hOk2.add hOut).add o325), hInv, (by omega), H343, rfl⟩ (by omega)
    exact zs
   have g344 := of_decide_eq_false b311
   refine Z1a _ b311 ?_
   apply ZF
   apply Zw
   apply ztn
   apply Zt
   refine wv 99 (.int .i64 ((j : Int))) ?_
   refine zwi 100 ((j : Int) + 1) ?_
   refine wv 20 (.int .i64 ((j : Int) + 1)) ?_
   apply Zu
   have H346 : Sat w [Z7 w (fun _ => False), Z3 x11 27 (Zv F), Z3 c44 112 (Z01 F id b35 g Q2.length lc), Zc 119 79 (.slice (some ⟨g, 0, none⟩) Q2.length lc) Q2.length (Q2.flatMap Zh), Z1j rqP Z2, Z0j B2, Z3 b35 108 (ZO m36), (ZN m36 L), Zc 35 1 (.slice a306 ((OL2 ++ [(⟨da, dc, D⟩ : OlD)]).length) c307) ((OL2 ++ [(⟨da, dc, D⟩ : OlD)]).length) ((OL2 ++ [(⟨da, dc, D⟩ : OlD)]).flatMap ZZ), Z0j ((olC (⟨da, dc, D⟩ : OlD)) :: B2o)] w304 := H310.pk [0, 1, 2, 3, 4, 5, 6, 7, 8, 9]
   refine ZE ?_ _ ⟨(j + 1), a306, c307, (OL2 ++ [(⟨da, dc, D⟩ : OlD)]), ((olC (⟨da, dc, D⟩ : OlD)) :: B2o), Q2, Z2, B2, rfl, (show ((.slice a306 ((OL2 ++ [(⟨da, dc, D⟩ : OlD)]).length) c307) : Value) = _ by first | rfl | go_num), (by omega), (by simp only [List.length_append, List.length_cons, List.length_nil]; omega), (hOk2.add hOut), hInv, (by omega), H346, rfl⟩ (by omega)
   exact zs
  refine Z1a _ b260 ?_
  apply zxb
  have H347 := H258.pk [0, 1, 8, 9]
  refine ZJ ?_ ⟨ob, od, OL2, B2o, rfl, (by omega), hOk2, H347⟩
  exact zs
 rintro f348 w349 ⟨ox, cx, OLx, Bx, v351, hlx, hOkx, H350⟩
 refine Zo 16 _ v351 ?_
 apply Zf
 apply Zf
 have hBx : (Z0j Bx).ok w349 := H350.at 3 rfl
 have hOL : ListAt ZZ 1 w349 (.slice ox OLx.length cx) OLx := ListAt.row Z9c (by decide) (H350.at 2 rfl)
 have hCf : (Z3 x11 27 (Zv F)).ok w349 := H350.at 1 rfl
 have HK := Sat.start0 w349
 apply Zt
 refine wv 133 (.slice ox OLx.length cx) ?_
 refine wv 134 (.int .i64 ((OLx.length : Int))) ?_
 refine wv 135 (.int .i64 (0)) ?_
 apply znt
 apply ZA
 refine ZW ([10, 22, 23, 24] ++ List.range' 135 66) (fun F_ W_ m_ => ∃ (p : Nat), F_ 135 = (.int .i64 ((p : Int))) ∧ (p ≤ OLx.length) ∧ Sat w349 [Z7 w349 (fun _ => False)] W_ ∧ m_ = OLx.length - p) _ ⟨0, (show ((.int .i64 (0)) : Value) = _ by first | rfl | go_num), (Nat.zero_le _), HK, rfl⟩ ?_
 rintro g352 w353 _ ⟨p, v355, hp, H354, rfl⟩
 refine Zo 135 _ v355 ?_
 apply zsl
 refine wv 136 (.bool (decide ((p : Int) < (OLx.length : Int)))) ?_
 apply znt
 apply Zf
 refine (ZC (decide ((p : Int) < (OLx.length : Int)))).elim (fun b357 => ?_) (fun b357 => ?_)
 ·have g358 := of_decide_eq_true b357
  refine Z1q _ b357 ?_
  apply ZF
  apply ztn
  apply Zf
  apply ZA
  apply zsl
  refine wv 137 (.int .i64 ((p : Int))) ?_
  refine wv 22 (.int .i64 ((p : Int))) ?_
  apply znt
  apply Zf
  apply zsl
  refine wv 138 (.slice ox OLx.length cx) ?_
  refine wv 139 (.int .i64 ((p : Int))) ?_
  obtain ⟨g360, o361, c362, e363, R364⟩ := SliceOf.atD hOL ol0 (show p < OLx.length by omega)
  refine wv 140 (.pointer (some ⟨g360, o361 + ((p : Int)).toNat * 1, none⟩)) ?_ (hr := ZM (E := 35) (by kernel_rfl) (by kernel_rfl) (Nat.le_of_ble_eq_true rfl) rfl e363 rfl (by omega) (by omega))
  refine zw1 141 (.slice (OLx.getD p ol0).a ((OLx.getD p ol0).D).length (OLx.getD p ol0).c) (H354.cellR 0 rfl (Z1C R364 0 (by kernel_rfl) (show o361 + ((p : Int)).toNat * 1 = o361 + p * 1 + 0 by omega)) (fun h => h)) ?_
  refine wv 142 (.int .i64 ((((OLx.getD p ol0).D).length : Int))) ?_
  refine wv 143 (.bool (decide ((((OLx.getD p ol0).D).length : Int) = 0))) ?_
  apply znt
  refine (ZC (decide ((((OLx.getD p ol0).D).length : Int) = 0))).elim (fun b365 => ?_) (fun b365 => ?_)
  ·have g366 := of_decide_eq_true b365
   refine Z1q _ b365 ?_
   apply Z5m
   apply Z26
   apply Z3p
   apply ztn
   apply Zt
   refine zwi 200 ((p : Int) + 1) ?_
   refine wv 135 (.int .i64 ((p : Int) + 1)) ?_
   apply Zu
   have H368 : Sat w349 [Z7 w349 (fun _ => False)] w353 := H354.pk [0]
   refine ZE ?_ _ ⟨(p + 1), rfl, (by omega), H368, rfl⟩ (by omega)
   exact zs
  have g369 := of_decide_eq_false b365
  refine Z1a _ b365 ?_
  apply ZF
  apply ztn
  apply Zf
  apply zsl
  refine wv 144 (.slice ox OLx.length cx) ?_
  refine wv 145 (.int .i64 ((p : Int))) ?_
  refine wv 146 (.pointer (some ⟨g360, o361 + ((p : Int)).toNat * 1, none⟩)) ?_ (hr := ZM (E := 35) (by kernel_rfl) (by kernel_rfl) (Nat.le_of_ble_eq_true rfl) rfl e363 rfl (by omega) (by omega))
  refine zw1 147 (.slice (OLx.getD p ol0).a ((OLx.getD p ol0).D).length (OLx.getD p ol0).c) (H354.cellR 0 rfl (Z1C R364 0 (by kernel_rfl) (show o361 + ((p : Int)).toNat * 1 = o361 + p * 1 + 0 by omega)) (fun h => h)) ?_
  refine wv 148 (.int .i64 ((((OLx.getD p ol0).D).length : Int))) ?_
  refine wv 149 (.int .i64 (3 * F + 1)) ?_
  refine wv 150 (.bool (!(decide ((((OLx.getD p ol0).D).length : Int) = (3 * F + 1))))) ?_
  apply znt
  have b371 : (!(decide ((((OLx.getD p ol0).D).length : Int) = (3 * F + 1)))) = false := by rw [decide_eq_true (((hOkx _ (Z1c (l := OLx) (i := p) (d := ol0) (by omega))).1.resolve_left (fun h_ => by have q_ := b365; rw [h_] at q_; simp at q_)).1)]; rfl
  have g372 := Z03 b371
  have g373 := of_decide_eq_true g372
  refine Z1a _ b371 ?_
  apply ZF
  apply ztn
  apply zsl
  refine wv 151 (.slice ox OLx.length cx) ?_
  refine wv 152 (.int .i64 ((p : Int))) ?_
  refine wv 153 (.pointer (some ⟨g360, o361 + ((p : Int)).toNat * 1, none⟩)) ?_ (hr := ZM (E := 35) (by kernel_rfl) (by kernel_rfl) (Nat.le_of_ble_eq_true rfl) rfl e363 rfl (by omega) (by omega))
  refine zw1 154 (.slice (OLx.getD p ol0).a ((OLx.getD p ol0).D).length (OLx.getD p ol0).c) (H354.cellR 0 rfl (Z1C R364 0 (by kernel_rfl) (show o361 + ((p : Int)).toNat * 1 = o361 + p * 1 + 0 by omega)) (fun h => h)) ?_
  refine wv 155 (.int .i64 ((((OLx.getD p ol0).D).length : Int))) ?_
  refine wv 156 (.int .i64 (0)) ?_
  apply znt
  apply ZA
  have hne : ¬ ((OLx.getD p ol0).D = []) := fun h_ => by have q_ := b365; rw [h_] at q_; simp at q_
  obtain ⟨hDl, mm, Bm, hkk, hOm⟩ := (hOkx _ (Z1c (l := OLx) (i := p) (d := ol0) (by omega))).1.resolve_left hne
  refine ZW ([10, 23, 24] ++ List.range' 156 44) (fun F_ W_ m_ => ∃ (r : Nat), F_ 156 = (.int .i64 ((r : Int))) ∧ (r ≤ (OLx.getD p ol0).D.length) ∧ Sat w349 [Z7 w349 (fun _ => False)] W_ ∧ m_ = (OLx.getD p ol0).D.length - r) _ ⟨0, (show ((.int .i64 (0)) : Value) = _ by first | rfl | go_num), (Nat.zero_le _), H354, rfl⟩ ?_
  rintro g374 w375 _ ⟨r, v377, hr, H376, rfl⟩
  refine Zo 156 _ v377 ?_
  apply zsl
  refine wv 157 (.bool (decide ((r : Int) < (((OLx.getD p ol0).D).length : Int)))) ?_
  apply znt
  apply Zf
  refine (ZC (decide ((r : Int) < (((OLx.getD p ol0).D).length : Int)))).elim (fun b379 => ?_) (fun b379 => ?_)
  ·have g380 := of_decide_eq_true b379
   refine Z1q _ b379 ?_
   apply ZF
   apply ztn
   apply Zf
   apply ZA
   apply zsl
   refine wv 158 (.int .i64 ((r : Int))) ?_
   obtain ⟨g382, o383, c384, e385, R386⟩ := SliceOf.atD (ListAt.row (enc := Z0d) (sz := 295) Z4e (by decide) (hBx _ (hOkx _ (Z1c (l := OLx) (i := p) (d := ol0) (by omega))).2)) om0 (show r < ((OLx.getD p ol0).D).length by omega)
   refine wv 159 (.pointer (some ⟨g382, o383 + ((r : Int)).toNat * 295, none⟩)) ?_ (hr := ZM (E := 82) (by kernel_rfl) (by kernel_rfl) (Nat.le_of_ble_eq_true rfl) rfl e385 rfl (by omega) (by omega))
   refine wv 160 (.agg ⟨((Z3d ((((OLx.getD p ol0).D).getD r om0).k) ((((OLx.getD p ol0).D).getD r om0).fr) ((((OLx.getD p ol0).D).getD r om0).to) ((((OLx.getD p ol0).D).getD r om0).co.cl) ((((OLx.getD p ol0).D).getD r om0).co.seq)) ++ hc (((OLx.getD p ol0).D).getD r om0).co.h ++ ([(.int .i64 ((((OLx.getD p ol0).D).getD r om0).co.len)), (.int .i64 ((((OLx.getD p ol0).D).getD r om0).co.sb)), (.int .i64 ((((OLx.getD p ol0).D).getD r om0).co.sm))] : List Value) ++ zmS ++ ([(.int .i64 ((((OLx.getD p ol0).D).getD r om0).cx.cl)), (.int .i64 ((((OLx.getD p ol0).D).getD r om0).cx.seq))] : List Value) ++ hc (((OLx.getD p ol0).D).getD r om0).cx.h ++ (Z3e ((((OLx.getD p ol0).D).getD r om0).cx.len) ((((OLx.getD p ol0).D).getD r om0).cx.sb) ((((OLx.getD p ol0).D).getD r om0).cx.sm) ((((OLx.getD p ol0).D).getD r om0).sa) ((((OLx.getD p ol0).D).getD r om0).S.length) ((((OLx.getD p ol0).D).getD r om0).sc)) ++ zmB ++ ([(.int .i64 ((((OLx.getD p ol0).D).getD r om0).oi)), ((.slice (((OLx.getD p ol0).D).getD r om0).oa (((OLx.getD p ol0).D).getD r om0).P.length (((OLx.getD p ol0).D).getD r om0).oc))] : List Value) ++ hc (((OLx.getD p ol0).D).getD r om0).oh ++ zmT)⟩) ?_ (hr := Z0a (vs := ((Z3d ((((OLx.getD p ol0).D).getD r om0).k) ((((OLx.getD p ol0).D).getD r om0).fr) ((((OLx.getD p ol0).D).getD r om0).to) ((((OLx.getD p ol0).D).getD r om0).co.cl) ((((OLx.getD p ol0).D).getD r om0).co.seq)) ++ hc (((OLx.getD p ol0).D).getD r om0).co.h ++ ([(.int .i64 ((((OLx.getD p ol0).D).getD r om0).co.len)), (.int .i64 ((((OLx.getD p ol0).D).getD r om0).co.sb)), (.int .i64 ((((OLx.getD p ol0).D).getD r om0).co.sm))] : List Value) ++ zmS ++ ([(.int .i64 ((((OLx.getD p ol0).D).getD r om0).cx.cl)), (.int .i64 ((((OLx.getD p ol0).D).getD r om0).cx.seq))] : List Value) ++ hc (((OLx.getD p ol0).D).getD r om0).cx.h ++ (Z3e ((((OLx.getD p ol0).D).getD r om0).cx.len) ((((OLx.getD p ol0).D).getD r om0).cx.sb) ((((OLx.getD p ol0).D).getD r om0).cx.sm) ((((OLx.getD p ol0).D).getD r om0).sa) ((((OLx.getD p ol0).D).getD r om0).S.length) ((((OLx.getD p ol0).D).getD r om0).sc)) ++ zmB ++ ([(.int .i64 ((((OLx.getD p ol0).D).getD r om0).oi)), ((.slice (((OLx.getD p ol0).D).getD r om0).oa (((OLx.getD p ol0).D).getD r om0).P.length (((OLx.getD p ol0).D).getD r om0).oc))] : List Value) ++ hc (((OLx.getD p ol0).D).getD r om0).oh ++ zmT)) rfl (by kernel_rfl) (by kernel_rfl) (Nat.le_of_ble_eq_true (by kernel_rfl)) (H376.runR 0 rfl (Z16 R386 0 (by kernel_rfl) (show o383 + ((r : Int)).toNat * 295 = o383 + r * 295 + 0 by omega)) (fun h => h)))
   refine zwd fun Kq kq => ?_
   refine zda (Z3c (ZD ([] : List UInt8))) H376 ?_
   intro b388 w389 H390
   refine kq _ _ ?_
   clear kq Kq
   refine wv 23 (.int .i64 ((r : Int))) ?_
   refine zwd fun Kq kq => ?_
   refine Z21 ((Z3d ((((OLx.getD p ol0).D).getD r om0).k) ((((OLx.getD p ol0).D).getD r om0).fr) ((((OLx.getD p ol0).D).getD r om0).to) ((((OLx.getD p ol0).D).getD r om0).co.cl) ((((OLx.getD p ol0).D).getD r om0).co.seq)) ++ hc (((OLx.getD p ol0).D).getD r om0).co.h ++ ([(.int .i64 ((((OLx.getD p ol0).D).getD r om0).co.len)), (.int .i64 ((((OLx.getD p ol0).D).getD r om0).co.sb)), (.int .i64 ((((OLx.getD p ol0).D).getD r om0).co.sm))] : List Value) ++ zmS ++ ([(.int .i64 ((((OLx.getD p ol0).D).getD r om0).cx.cl)), (.int .i64 ((((OLx.getD p ol0).D).getD r om0).cx.seq))] : List Value) ++ hc (((OLx.getD p ol0).D).getD r om0).cx.h ++ (Z3e ((((OLx.getD p ol0).D).getD r om0).cx.len) ((((OLx.getD p ol0).D).getD r om0).cx.sb) ((((OLx.getD p ol0).D).getD r om0).cx.sm) ((((OLx.getD p ol0).D).getD r om0).sa) ((((OLx.getD p ol0).D).getD r om0).S.length) ((((OLx.getD p ol0).D).getD r om0).sc)) ++ zmB ++ ([(.int .i64 ((((OLx.getD p ol0).D).getD r om0).oi)), ((.slice (((OLx.getD p ol0).D).getD r om0).oa (((OLx.getD p ol0).D).getD r om0).P.length (((OLx.getD p ol0).D).getD r om0).oc))] : List Value) ++ hc (((OLx.getD p ol0).D).getD r om0).oh ++ zmT) H390 1 ?_
   intro w392 (H393 : Sat w349 [Z7 w349 (fun _ => False), Z3 b388 82 ((Z3d ((((OLx.getD p ol0).D).getD r om0).k) ((((OLx.getD p ol0).D).getD r om0).fr) ((((OLx.getD p ol0).D).getD r om0).to) ((((OLx.getD p ol0).D).getD r om0).co.cl) ((((OLx.getD p ol0).D).getD r om0).co.seq)) ++ hc (((OLx.getD p ol0).D).getD r om0).co.h ++ ([(.int .i64 ((((OLx.getD p ol0).D).getD r om0).co.len)), (.int .i64 ((((OLx.getD p ol0).D).getD r om0).co.sb)), (.int .i64 ((((OLx.getD p ol0).D).getD r om0).co.sm))] : List Value) ++ zmS ++ ([(.int .i64 ((((OLx.getD p ol0).D).getD r om0).cx.cl)), (.int .i64 ((((OLx.getD p ol0).D).getD r om0).cx.seq))] : List Value) ++ hc (((OLx.getD p ol0).D).getD r om0).cx.h ++ (Z3e ((((OLx.getD p ol0).D).getD r om0).cx.len) ((((OLx.getD p ol0).D).getD r om0).cx.sb) ((((OLx.getD p ol0).D).getD r om0).cx.sm) ((((OLx.getD p ol0).D).getD r om0).sa) ((((OLx.getD p ol0).D).getD r om0).S.length) ((((OLx.getD p ol0).D).getD r om0).sc)) ++ zmB ++ ([(.int .i64 ((((OLx.getD p ol0).D).getD r om0).oi)), ((.slice (((OLx.getD p ol0).D).getD r om0).oa (((OLx.getD p ol0).D).getD r om0).P.length (((OLx.getD p ol0).D).getD r om0).oc))] : List Value) ++ hc (((OLx.getD p ol0).D).getD r om0).oh ++ zmT)] w392)
   refine kq _ _ ?_
   clear kq Kq
   apply znt
   apply Zf
   refine zqs H393 ?_
   refine qv 161 (pt b388 1) ?_
   refine qv 162 (.int .i64 ((((OLx.getD p ol0).D).getD r om0).fr)) ?_ (hr := fun _ H' => (Zi rfl (by kernel_rfl) (H'.cell 1 rfl (by kernel_rfl))))
   refine qv 163 (.int .i64 (id)) ?_
   refine qv 164 (.int .i64 (1000 + id)) ?_ (hr := fun _ H' => (Z0I (z := 1000 + id) (by kernel_rfl) (IntWalk.i64_in _ (by omega))))
   refine qv 165 (.bool (!(decide (((((OLx.getD p ol0).D).getD r om0).fr) = (1000 + id))))) ?_
   refine qv 166 (.bool (!(decide (((((OLx.getD p ol0).D).getD r om0).fr) = (1000 + id))))) ?_
   have b395 : (!(decide (((((OLx.getD p ol0).D).getD r om0).fr) = (1000 + id)))) = false := by rw [decide_eq_true (hOm r (by omega)).fr]; rfl
   refine Z17 166 (.bool false) (congrArg Value.bool b395) ?_
   have g396 := Z03 b395
   have g397 := of_decide_eq_true g396
   refine qy 5 166 false 167 (pt b388 2) ?_
   refine qy 5 166 false 168 (.int .i64 ((((OLx.getD p ol0).D).getD r om0).to)) ?_ (hr := fun _ H' => (Zi rfl (by kernel_rfl) (H'.cell 1 rfl (by kernel_rfl))))
   refine qy 5 166 false 169 (.int .i64 ((r : Int))) ?_
   refine qy 5 166 false 170 (.bool (!(decide (((((OLx.getD p ol0).D).getD r om0).to) = (r : Int))))) ?_
   refine qv 171 (.bool (!(decide (((((OLx.getD p ol0).D).getD r om0).to) = (r : Int))))) ?_
   refine qv 172 (.bool (!(decide (((((OLx.getD p ol0).D).getD r om0).to) = (r : Int))))) ?_
   have b398 : (!(decide (((((OLx.getD p ol0).D).getD r om0).to) = (r : Int)))) = false := by rw [decide_eq_true (hOm r (by omega)).to]; rfl
   refine Z17 172 (.bool false) (congrArg Value.bool b398) ?_
   have g399 := Z03 b398
   have g400 := of_decide_eq_true g399
   refine qy 11 172 false 173 (pt b388 0) ?_
   refine qy 11 172 false 174 (.int .i64 ((((OLx.getD p ol0).D).getD r om0).k)) ?_ (hr := fun _ H' => (Zi rfl (by kernel_rfl) (H'.cell 1 rfl (by kernel_rfl))))
   refine qy 11 172 false 175 (.slice ox OLx.length cx) ?_
   refine qy 11 172 false 176 (.int .i64 ((p : Int))) ?_
   refine qy 11 172 false 177 (.pointer (some ⟨g360, o361 + ((p : Int)).toNat * 1, none⟩)) ?_ (hr := fun _ H' => (ZM (E := 35) (by kernel_rfl) (by kernel_rfl) (Nat.le_of_ble_eq_true rfl) rfl e363 rfl (by omega) (by omega)))
   refine qy 11 172 false 178 (.slice (OLx.getD p ol0).a ((OLx.getD p ol0).D).length (OLx.getD p ol0).c) ?_ (hr := fun _ H' => (Zi rfl (by kernel_rfl) (H'.cellR 0 rfl (Z1C R364 0 (by kernel_rfl) (show o361 + ((p : Int)).toNat * 1 = o361 + p * 1 + 0 by omega)) (fun h => h))))
   obtain ⟨g401, o402, c403, e404, R405⟩ := SliceOf.atD (ListAt.row (enc := Z0d) (sz := 295) Z4e (by decide) (hBx _ (hOkx _ (Z1c (l := OLx) (i := p) (d := ol0) (by omega))).2)) om0 (show 0 < ((OLx.getD p ol0).D).length by omega)
   refine qy 11 172 false 179 (.pointer (some ⟨g401, o402 + ((0 : Int)).toNat * 295, none⟩)) ?_ (hr := fun _ H' => (ZM (E := 82) (by kernel_rfl) (by kernel_rfl) (Nat.le_of_ble_eq_true rfl) rfl e404 rfl (by omega) (by omega)))
   refine qy 11 172 false 180 (.pointer (some ⟨g401, o402 + ((0 : Int)).toNat * 295, none⟩)) ?_
   refine qy 11 172 false 181 (.int .i64 ((((OLx.getD p ol0).D).getD 0 om0).k)) ?_ (hr := fun _ H' => (Zi rfl (by kernel_rfl) (H'.cellR 0 rfl (Z1C R405 0 (by kernel_rfl) (show o402 + ((0 : Int)).toNat * 295 = o402 + 0 * 295 + 0 by omega)) (fun h => h))))
   refine qy 11 172 false 182 (.bool (!(decide (((((OLx.getD p ol0).D).getD r om0).k) = ((((OLx.getD p ol0).D).getD 0 om0).k))))) ?_
   refine qv 183 (.bool (!(decide (((((OLx.getD p ol0).D).getD r om0).k) = ((((OLx.getD p ol0).D).getD 0 om0).k))))) ?_
   refine qv 184 (.bool (!(decide (((((OLx.getD p ol0).D).getD r om0).k) = ((((OLx.getD p ol0).D).getD 0 om0).k))))) ?_
   have b406 : (!(decide (((((OLx.getD p ol0).D).getD r om0).k) = ((((OLx.getD p ol0).D).getD 0 om0).k)))) = false := by rw [decide_eq_true ((hOm r (by omega)).k.trans (hOm 0 (by omega)).k.symm)]; rfl
   refine Z17 184 (.bool false) (congrArg Value.bool b406) ?_
   have g407 := Z03 b406
   have g408 := of_decide_eq_true g407
   refine qy 23 184 false 185 (pt b388 0) ?_
   refine qy 23 184 false 186 (.int .i64 ((((OLx.getD p ol0).D).getD r om0).k)) ?_ (hr := fun _ H' => (Zi rfl (by kernel_rfl) (H'.cell 1 rfl (by kernel_rfl))))
   refine qy 23 184 false 187 (.bool (!(decide (((((OLx.getD p ol0).D).getD r om0).k) = 1)))) ?_
   refine qy 23 184 false 188 (.bool (!(decide (((((OLx.getD p ol0).D).getD r om0).k) = 1)))) ?_
   refine (ZC (!(decide (((((OLx.getD p ol0).D).getD r om0).k) = 1)))).elim (fun b409 => ?_) (fun b409 => ?_)
   ·have g410 := Z12 b409
    have g411 := of_decide_eq_false g410
    refine Z17 188 (.bool true) (congrArg Value.bool b409) ?_
    refine qy 27 188 true 189 (pt b388 0) ?_
    refine qy 27 188 true 190 (.int .i64 ((((OLx.getD p ol0).D).getD r om0).k)) ?_ (hr := fun _ H' => (Zi rfl (by kernel_rfl) (H'.cell 1 rfl (by kernel_rfl))))
    refine qy 27 188 true 191 (.bool (!(decide (((((OLx.getD p ol0).D).getD r om0).k) = 3)))) ?_
    refine qy 23 184 false 192 (.bool (!(decide (((((OLx.getD p ol0).D).getD r om0).k) = 3)))) ?_
    refine qy 23 184 false 193 (.bool (!(decide (((((OLx.getD p ol0).D).getD r om0).k) = 3)))) ?_
    refine (ZC (!(decide (((((OLx.getD p ol0).D).getD r om0).k) = 3)))).elim (fun b414 => ?_) (fun b414 => ?_)
    ·have g415 := Z12 b414
     have g416 := of_decide_eq_false g415
     refine Z17 193 (.bool true) (congrArg Value.bool b414) ?_
     refine qy 32 193 true 194 (pt b388 0) ?_
     refine qy 32 193 true 195 (.int .i64 ((((OLx.getD p ol0).D).getD r om0).k)) ?_ (hr := fun _ H' => (Zi rfl (by kernel_rfl) (H'.cell 1 rfl (by kernel_rfl))))
     refine qy 32 193 true 196 (.bool (!(decide (((((OLx.getD p ol0).D).getD r om0).k) = 10)))) ?_
     refine qy 23 184 false 197 (.bool (!(decide (((((OLx.getD p ol0).D).getD r om0).k) = 10)))) ?_
     refine qv 198 (.bool (!(decide (((((OLx.getD p ol0).D).getD r om0).k) = 10)))) ?_
     refine Z1A ?_
     intro w419 H420
     apply ztn
     have b421 : (!(decide (((((OLx.getD p ol0).D).getD r om0).k) = 10))) = false := by rw [decide_eq_true (by have q_ := (hOm r (by omega)).k; omega)]; rfl
     have g422 := Z03 b421
     have g423 := of_decide_eq_true g422
     refine Z1a _ b421 ?_
     apply ZF
     apply Zw
     apply ztn
     apply Zt
     refine zwi 199 ((r : Int) + 1) ?_
     refine wv 156 (.int .i64 ((r : Int) + 1)) ?_
     apply Zu
     have H424 := H420.pk [0]
     refine ZE ?_ _ ⟨(r + 1), rfl, (by omega), H424, rfl⟩ (by omega)
     exact zs
    have g425 := Z03 b414
    have g426 := of_decide_eq_true g425
    refine Z17 193 (.bool false) (congrArg Value.bool b414) ?_
    iterate 3 refine qn 32 193 true ?_
    refine qy 23 184 false 197 (.bool false) ?_
    refine qv 198 (.bool false) ?_
    refine Z1A ?_
    intro w429 H430
    apply ztn
    refine Z0y rfl ?_
    apply ZF
    apply Zw
    apply ztn
    apply Zt
    refine zwi 199 ((r : Int) + 1) ?_
    refine wv 156 (.int .i64 ((r : Int) + 1)) ?_
    apply Zu
    have H431 : Sat w349 [Z7 w349 (fun _ => False)] w429 := H430.pk [0]
    refine ZE ?_ _ ⟨(r + 1), rfl, (by omega), H431, rfl⟩ (by omega)
    exact zs
   have g432 := Z03 b409
   have g433 := of_decide_eq_true g432
   refine Z17 188 (.bool false) (congrArg Value.bool b409) ?_
   iterate 3 refine qn 27 188 true ?_
   refine qy 23 184 false 192 (.bool false) ?_
   refine qy 23 184 false 193 (.bool false) ?_
   iterate 3 refine qn 32 193 true ?_
   refine qy 23 184 false 197 (.bool false) ?_
   refine qv 198 (.bool false) ?_
   refine Z1A ?_
   intro w436 H437
   apply ztn
   refine Z0y rfl ?_
   apply ZF
   apply Zw
   apply ztn
   apply Zt
   refine zwi 199 ((r : Int) + 1) ?_
   refine wv 156 (.int .i64 ((r : Int) + 1)) ?_
   apply Zu
   have H438 := H437.pk [0]
   refine ZE ?_ _ ⟨(r + 1), rfl, (by omega), H438, rfl⟩ (by omega)
   exact zs
  have g439 := of_decide_eq_false b379
  refine Z1a _ b379 ?_
  apply zxb
  apply Zw
  apply ztn
  apply Zt
  refine zwi 200 ((p : Int) + 1) ?_
  refine wv 135 (.int .i64 ((p : Int) + 1)) ?_
  apply Zu
  have H441 : Sat w349 [Z7 w349 (fun _ => False)] w375 := H376.pk [0]
  refine ZE ?_ _ ⟨(p + 1), rfl, (by omega), H441, rfl⟩ (by omega)
  exact zs
 have g442 := of_decide_eq_false b357
 refine Z1a _ b357 ?_
 apply zxb
 apply ztn
 apply zsl
 refine zwd fun Kq kq => ?_
 refine zdq 201 (Z7L w353) H354 ?_
 intro w445 H446
 refine kq _ _ ?_
 clear kq Kq
 refine wv 10 (.bool true) ?_
 apply znt
 apply Zz
 refine ze1 (.bool true) ?_
 have H448 := H350.keepU (H446.upd 0 rfl [] (fun _ h => h.elim))
 exact ⟨rfl, H448.upd 0 rfl [] (fun _ h => h.elim)⟩
end Go.Proofs.YtgigjkjdmalmaaaGreat
