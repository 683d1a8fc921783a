/- WHAT IS PROVED: contracts and plain laws of Right11. Conditions: stated with each. -/
import Derived.Test.YtoaifondpohniaaGreatPR04
import Derived.Test.YtoaifondpohniaaGreatPR30
import Derived.Test.YtoaifondpohniaaGreatPR32
import Derived.Test.YtoaifondpohniaaGreatPR33
import Derived.Test.YtoaifondpohniaaGreatPR34
import Derived.Test.YtoaifondpohniaaGreatPR35
set_option maxHeartbeats 4000000
set_option maxRecDepth 100000
namespace Go.Proofs.YtoaifondpohniaaGreat
open Go.RowKit
abbrev Z4 (p0 : Z5) : List Value := ([(.int .i64 p0.r), (.int .i64 p0.cl), (.int .i64 p0.seq)] : List Value) ++ hc p0.h ++ ([(.int .u64 p0.t), (.int .i64 p0.sb), (.int .i64 p0.sm)] : List Value)
abbrev Zf (p0 : PrR) : List Value := ([(.int .i64 p0.r), (.int .i64 p0.e), (.int .u64 p0.f), (.slice p0.ca p0.C.length p0.cc), (.int .i64 p0.sb), (.int .i64 p0.sm)] : List Value)
abbrev Z3 (p0 : Int) (p1 : Int) : List Value := ([(.int .i64 p0), (.int .i64 p1)] : List Value)
abbrev Z7 : List Value := ([(.int .i64 (1)), (.int .i64 (3))] : List Value)
abbrev Z2Z : List Value := ([(.int .i64 (0)), (.int .i64 (0))] : List Value)
abbrev Zo (p0 : Nat) : List Value := ([(.map (some p0))] : List Value)
abbrev Zm (p0 : Nat) (p1 : List Signed) : Ck := Z3d p0 Z0e (Value.int .i64) (Z04 p1)
abbrev Zn (p0 : Option Addr) (p1 : List Signed) (p2 : Nat) : Ck := ZH 114 2 (.slice p0 p1.length p2) p1.length (p1.flatMap Z43)
abbrev Zb (p0 : Nat) (p1 : Nat) : List Value := ([(pt p0 0), (pt p1 0)] : List Value)
abbrev Zd (p0 : Option Addr) (p1 : List CeR) (p2 : Nat) : Ck := ZH 53 38 (.slice p0 p1.length p2) p1.length (p1.flatMap Z0h)
abbrev Zi (p0 : Option Addr) (p1 : List Z5) (p2 : Nat) : Ck := ZH 31 38 (.slice p0 p1.length p2) p1.length (p1.flatMap Z0J)
abbrev Ze (p0 : Option Addr) (p1 : Nat) (p2 : Nat) : List Value := ([(.slice p0 p1 p2)] : List Value)
abbrev Zj (p0 : Option Addr) (p1 : Nat) (p2 : Nat) : List Value := ([(.int .i64 (1)), (.int .i64 (3)), (.int .i64 (2)), (.slice p0 p1 p2)] : List Value)
abbrev Z0g (p0 : CeR) : List Value := ([(.int .i64 p0.x.cl), (.int .i64 p0.x.seq)] : List Value) ++ hc p0.x.h ++ ([(.int .i64 p0.x.len), (.int .i64 p0.x.sb), (.int .i64 p0.x.sm), (.slice p0.sa p0.S.length p0.sc)] : List Value)
abbrev Z23 (p0 : Option Addr) (p1 : List Z5) (p2 : Nat) : Ck := ZH 101 38 (.slice p0 p1.length p2) p1.length (p1.flatMap Z0J)
abbrev Z1e : List Value := ([(.int .i64 (0)), (.int .i64 (0))] : List Value) ++ hc Z0d ++ ([(.int .i64 (0)), (.int .i64 (0)), (.int .i64 (0)), (.slice none 0 0)] : List Value)
abbrev Z3a (p0 : Zg) (p1 : Option Addr) (p2 : Nat) (p3 : Nat) : List Value := ([(.int .i64 p0.cl), (.int .i64 p0.seq)] : List Value) ++ hc p0.h ++ ([(.int .i64 p0.len), (.int .i64 p0.sb), (.int .i64 p0.sm), (.slice p1 p2 p3)] : List Value)
abbrev Z44 : List Value := ([(.int .i64 (0)), (.int .i64 (0)), (.int .i64 (0))] : List Value) ++ hc Z0d ++ ([(.int .u64 (0)), (.int .i64 (0)), (.int .i64 (0))] : List Value)
abbrev Z0Q (p0 : Option Addr) (p1 : List UInt8) (p2 : Nat) : Ck := ZH 5 1 (.slice p0 p1.length p2) p1.length (p1.flatMap ZN)
abbrev Z0a (p0 : Option Addr) (p1 : Nat) (p2 : Nat) (p3 : Int) : List Value := ([(.int .i64 (2)), (.int .i64 (1)), (.int .u64 (500)), (.slice p0 p1 p2), (.int .i64 (2)), (.int .i64 p3)] : List Value)
abbrev Z8f : List Value := ([(.int .i64 (0)), (.int .i64 (0)), (.int .u64 (0)), (.slice none 0 0), (.int .i64 (0)), (.int .i64 (0))] : List Value)
abbrev Z0b (p0 : Int) (p1 : Int) (p2 : Int) (p3 : Option Addr) (p4 : Nat) (p5 : Nat) (p6 : Int) (p7 : Int) : List Value := ([(.int .i64 p0), (.int .i64 p1), (.int .u64 p2), (.slice p3 p4 p5), (.int .i64 p6), (.int .i64 p7)] : List Value)
abbrev Z5x (p0 : Option Addr) (p1 : Nat) (p2 : Nat) (p3 : Int) : List Value := ([(.int .i64 (2)), (.int .i64 (1)), (.int .u64 (501)), (.slice p0 p1 p2), (.int .i64 (2)), (.int .i64 p3)] : List Value)
abbrev Z5y (p0 : Option Addr) (p1 : Nat) (p2 : Nat) (p3 : Int) : List Value := ([(.int .i64 (2)), (.int .i64 (2)), (.int .u64 (500)), (.slice p0 p1 p2), (.int .i64 (2)), (.int .i64 p3)] : List Value)
abbrev Z5z (p0 : Option Addr) (p1 : Nat) (p2 : Nat) (p3 : Int) : List Value := ([(.int .i64 (3)), (.int .i64 (1)), (.int .u64 (500)), (.slice p0 p1 p2), (.int .i64 (2)), (.int .i64 p3)] : List Value)
abbrev Z0K (p0 : Nat) (p1 : Nat) (p2 : Nat) (p3 : Int) : List Value := ([(.int .i64 (2)), (.int .i64 (1)), (.int .u64 (500)), (.slice (some ⟨p0, 0, none⟩) p1 p2), (.int .i64 (2)), (.int .i64 p3)] : List Value)
abbrev Z0L (p0 : Int) (p1 : Nat) (p2 : Nat) (p3 : Nat) (p4 : Int) : List Value := ([(.int .i64 (2)), (.int .i64 (1)), (.int .u64 p0), (.slice (some ⟨p1, 0, none⟩) p2 p3), (.int .i64 (2)), (.int .i64 p4)] : List Value)
abbrev Z2u (p0 : Int) (p1 : Int) (p2 : Int) (p3 : Hash) (p4 : Int) (p5 : Int) (p6 : Int) : List Value := ([(.int .i64 p0), (.int .i64 p1), (.int .i64 p2)] : List Value) ++ hc p3 ++ ([(.int .u64 p4), (.int .i64 p5), (.int .i64 p6)] : List Value)
theorem Z5r {L : List Signed} {c : Zg} (h : ZaZ L c) (hcl : 0 ≤ c.cl ∧ c.cl ≤ 1000) (hsq : c.seq ≤ 1000) (hln : c.len ≤ 1000) (hL : L.length ≤ 100000) : CoB c := by
 have q := (Z2n h.2.1).2
 have q1 := h.1
 have q2 := h.2.2
 exact ⟨⟨by omega, by omega, by omega⟩, by omega, by omega⟩
theorem Zbz {A : Ck} {B : List Ck} {L L' : List CeR} {x : CeR} {P Q R S : Prop} (h : (L' = L ∧ P ∧ Q) ∨ (R ∧ S ∧ ∃ k, Z7U L x k ∧ L' = L.take k ++ x :: L.drop k)) (hL : ∀ c ∈ L, CeT B c) (hx : CeT (A :: B) x) : (∀ c ∈ L', CeT (A :: B) c) ∧ L'.length ≤ L.length + 1 := by
 have hs : ∀ c ∈ L, CeT (A :: B) c := fun c hc => (hL c hc).sub fun _ h => List.mem_cons_of_mem A h
 rcases h with ⟨rfl, _⟩ | ⟨_, _, k, _, rfl⟩
 ·exact ⟨hs, by omega⟩
 refine ⟨fun c hc => ?_, by simp only [List.length_append, List.length_cons, List.length_take, List.length_drop]; omega⟩
 rcases List.mem_append.1 hc with h | h
 ·exact hs c (List.mem_of_mem_take h)
 rcases List.mem_cons.1 h with rfl | h
 ·exact hx
 exact hs c (List.mem_of_mem_drop h)
theorem Zcz {P : CeR → Prop} {L L' : List CeR} {x : CeR} {P1 Q R S : Prop} (h : (L' = L ∧ P1 ∧ Q) ∨ (R ∧ S ∧ ∃ k, Z7U L x k ∧ L' = L.take k ++ x :: L.drop k)) (hL : ∀ c ∈ L, P c) (hx : P x) : ∀ c ∈ L', P c := by
 rcases h with ⟨rfl, _⟩ | ⟨_, _, k, _, rfl⟩
 ·exact hL
 intro c hc
 rcases List.mem_append.1 hc with h | h
 ·exact hL c (List.mem_of_mem_take h)
 rcases List.mem_cons.1 h with rfl | h
 ·exact hx
 exact hL c (List.mem_of_mem_drop h)
theorem Z8s (w : World) (what at_ : Int) (aa1 : Option Addr) (ac1 : Nat) (A1 : List Zc9) (hA1 : ListAt Z9Y 45 w (.slice aa1 A1.length ac1) A1) (hAc1 : ∀ a ∈ A1, AcB w a) (y : Z5) (hy : Z8E y) (q : PrR) (hqC : ListAt Z0h 38 w (.slice q.ca q.C.length q.cc) q.C) (hqB : ∀ c ∈ q.C, CeL w c) (hqn : q.r ≤ 9223372036854775807 ∧ q.e ≤ 9223372036854775807 ∧ 0 ≤ q.f ∧ q.f < 18446744073709551616) (cf cn : Int) :
  Calls Tryz.prog 3 #[(.slice aa1 A1.length ac1), (.int .i64 (what)), (.int .i64 (at_)), (.agg ⟨(([(.int .i64 (y.r)), (.int .i64 (y.cl)), (.int .i64 (y.seq))] : List Value) ++ hc y.h ++ ([(.int .u64 (y.t)), (.int .i64 (y.sb)), (.int .i64 (y.sm))] : List Value))⟩), (.agg ⟨([(.int .i64 (q.r)), (.int .i64 (q.e)), (.int .u64 (q.f)), (.slice q.ca q.C.length q.cc), (.int .i64 (q.sb)), (.int .i64 (q.sm))] : List Value)⟩), (.agg ⟨([(.int .i64 (cf)), (.int .i64 (cn))] : List Value)⟩)] w fun e w' => e = .returned (.bool true) ∧ Upd [] w w' := by
 have hw9 := Z33 what 9 (by omega)
 have hnil : ([] : List Signed).length = 0 := rfl
 have hlA := SliceOf.le hA1
 unfold maxLen at hlA
 have H := Sat.start0 w
 refine Zp Tryz.func3 rfl 300 rfl (Nat.le_of_ble_eq_true rfl) ?_
 apply zsl
 refine zwd fun Kq kq => ?_
 refine zdb (Z4 y) H ?_
 intro b2 w3 H4
 refine kq _ _ ?_
 clear kq Kq
 refine zwd fun Kq kq => ?_
 refine zdb (Zf q) H4 ?_
 intro b6 w7 (H8 : Sat w [Z6 w (fun _ => False), Z0 b2 31 (Z4 y), Z0 b6 34 (Zf q)] w7)
 refine kq _ _ ?_
 clear kq Kq
 refine zwd fun Kq kq => ?_
 refine zdb (Z3 cf cn) H8 ?_
 intro b10 w11 H12
 refine kq _ _ ?_
 clear kq Kq
 refine wv 12 (.bool false) ?_
 apply Z1y
 refine wv 30 (.agg ⟨(Z7)⟩) ?_
 refine zwd fun Kq kq => ?_
 refine zda (Z2Z) H12 ?_
 intro b14 w15 (H16 : Sat w [Z6 w (fun _ => False), Z0 b2 31 (Z4 y), Z0 b6 34 (Zf q), Z0 b10 36 (Z3 cf cn), Z0 b14 36 (Z2Z)] w15)
 refine kq _ _ ?_
 clear kq Kq
 refine zwd fun Kq kq => ?_
 refine Z2k (Z7) H16 4 ?_
 intro w18 H19
 refine kq _ _ ?_
 clear kq Kq
 apply znt
 refine Z0X [14, 15, 31, 32, 33, 34] (fun G_ W_ => ∃ (b_ mb_ r_ x14 : Nat), G_ 14 = (pt x14 0) ∧ G_ 15 = (.bool true) ∧ Sat w [Z6 w (fun _ => False), Z0 b2 31 (Z4 y), Z0 b6 34 (Zf q), Z0 b10 36 (Z3 cf cn), Z0 b14 36 (Z7), Z0 b_ 110 (Zo mb_), (Zm mb_ ([])), Z0 r_ 98 ([(.slice none (([] : List Signed).length) 0)] : List Value), (Zn none (([] : List Signed)) 0), Z0 x14 40 (Zb b_ r_)] W_) ?_ ?_
 ·apply ZU
  refine zwd fun Kq kq => ?_
  refine zdc 32 (Zay w18) ?_
  rintro _ w23 ⟨b24, m25, r26, rfl, k27, p28, q29⟩
  have H30 : Sat w [Z6 w (fun _ => False), Z0 b2 31 (Z4 y), Z0 b6 34 (Zf q), Z0 b10 36 (Z3 cf cn), Z0 b14 36 (Z7), Z0c [Z0 b24 110 [.map (some m25)], (Zm m25 ([])), Z0 r26 98 [.slice none 0 0]]] w23 := H19.addU p28 k27 q29
  have H31 := H30.open 5 rfl
  have H32 : Sat w [Z6 w (fun _ => False), Z0 b2 31 (Z4 y), Z0 b6 34 (Zf q), Z0 b10 36 (Z3 cf cn), Z0 b14 36 (Z7), Z0 b24 110 (Zo m25), (Zm m25 ([])), Z0 r26 98 ([(.slice none (([] : List Signed).length) 0)] : List Value), (Zn none (([] : List Signed)) 0)] w23 := H31.addNil 114 2
  refine ⟨_, rfl, ?_⟩
  refine kq _ _ ?_
  clear kq Kq
  refine wv 31 (.tuple #[(.agg ⟨(Zb b24 r26)⟩), (.bool true)]) ?_
  refine wv 33 (.agg ⟨(Zb b24 r26)⟩) ?_
  refine wv 34 (.bool true) ?_
  refine zwd fun Kq kq => ?_
  refine zda ([(.pointer none), (.pointer none)] : List Value) H32 ?_
  intro b34 w35 H36
  refine kq _ _ ?_
  clear kq Kq
  refine zwd fun Kq kq => ?_
  refine Z2k (Zb b24 r26) H36 9 ?_
  intro w38 (H39 : Sat w [Z6 w (fun _ => False), Z0 b2 31 (Z4 y), Z0 b6 34 (Zf q), Z0 b10 36 (Z3 cf cn), Z0 b14 36 (Z7), Z0 b24 110 (Zo m25), (Zm m25 ([])), Z0 r26 98 ([(.slice none (([] : List Signed).length) 0)] : List Value), (Zn none (([] : List Signed)) 0), Z0 b34 40 (Zb b24 r26)] w38)
  refine kq _ _ ?_
  clear kq Kq
  refine wv 15 (.bool true) ?_
  apply ZQ
  have H41 := H39.pk [0, 1, 2, 3, 4, 5, 6, 7, 8, 9]
  refine ZJ ?_ ⟨b24, m25, r26, b34, rfl, rfl, H41⟩
  exact zs
 rintro f42 w43 ⟨b_, mb_, r_, x14, v45, v46, H44⟩
 refine ZF 14 _ v45 ?_
 refine ZF 15 _ v46 ?_
 apply Zt
 apply zsl
 refine wv 35 (.bool true) ?_
 refine wv 36 (.bool false) ?_
 apply znt
 refine Z3m rfl ?_
 apply ZL
 apply ztn
 apply zsl
 refine zwN 37 (Z7) (H44.at 4 rfl) ?_
 refine wv 38 (.agg ⟨([(.int .i64 (1)), (.int .i64 (3)), (.int .i64 (2)), (.slice none 0 0)] : List Value)⟩) ?_
 refine zwd fun Kq kq => ?_
 refine zdb ([(.int .i64 (1)), (.int .i64 (3)), (.int .i64 (2)), (.slice none 0 0)] : List Value) H44 ?_
 intro b48 w49 H50
 refine kq _ _ ?_
 clear kq Kq
 refine wv 16 (pt b48 0) ?_
 apply Z1y
 refine wv 17 (.slice none 0 0) ?_
 apply znt
 apply Zt
 apply Zt
 have H51 := H50.addNil 53 38
 have H52 := H51.bag0
 have H53 := H52.addNil 31 38
 have H54 : Sat w [Z6 w (fun _ => False), Z0 b2 31 (Z4 y), Z0 b6 34 (Zf q), Z0 b10 36 (Z3 cf cn), Z0 b14 36 (Z7), Z0 b_ 110 (Zo mb_), (Zm mb_ ([])), Z0 r_ 98 ([(.slice none (([] : List Signed).length) 0)] : List Value), (Zn none (([] : List Signed)) 0), Z0 x14 40 (Zb b_ r_), Z0 b48 45 ([(.int .i64 (1)), (.int .i64 (3)), (.int .i64 (2)), (.slice none (([] : List CeR).length) 0)] : List Value), (Zd none (([] : List CeR)) 0), Z0o [], (Zi none (([] : List Z5)) 0)] w49 := H53
 apply ZU
 refine wv 18 (.int .i64 (0)) ?_
 apply znt
 apply ZG
 refine Z02 ([17, 18, 19, 20, 21, 22] ++ List.range' 40 61) (fun F_ W_ m_ => ∃ (i : Nat) (Bi : List Ck) (Li : List CeR) (lai : Option Addr) (lci : Nat) (Lbi : List Signed) (rai : Option Addr) (rci : Nat) (Ai : List Z5) (aai : Option Addr) (aci : Nat), F_ 18 = (.int .i64 ((i : Int))) ∧ F_ 17 = (.slice aai Ai.length aci) ∧ (i ≤ A1.length) ∧ (i ≤ 6) ∧ (∀ c ∈ Li, CeT Bi c) ∧ (Li.length ≤ i) ∧ (Lbi.Nodup) ∧ (Lbi.length ≤ 13 * i) ∧ (SgOk Lbi) ∧ (∀ s ∈ Ai, Z8E s) ∧ (Ai.length ≤ i) ∧ (∀ c ∈ Li, c.S.length = 3) ∧ Sat w [Z6 w (fun _ => False), Z0 b2 31 (Z4 y), Z0 b6 34 (Zf q), Z0 b10 36 (Z3 cf cn), Z0 b14 36 (Z7), Z0 b_ 110 (Zo mb_), (Zm mb_ Lbi), Z0 r_ 98 (Ze rai Lbi.length rci), (Zn rai Lbi rci), Z0 x14 40 (Zb b_ r_), Z0 b48 45 (Zj lai Li.length lci), (Zd lai Li lci), Z0o Bi, (Zi aai Ai aci)] W_ ∧ m_ = A1.length + 1 - i) _ ⟨0, [], [], none, 0, [], none, 0, [], none, 0, (show ((.int .i64 (0)) : Value) = _ by first | rfl | go_num), (by first | rfl | go_num), (Nat.zero_le _), (Nat.zero_le _), (by simp), (Nat.zero_le _), List.nodup_nil, (Nat.zero_le _), SgOk.nil, (by simp), (Nat.zero_le _), (by simp), H54, rfl⟩ ?_
 rintro g55 w56 _ ⟨i, Bi, Li, lai, lci, Lbi, rai, rci, Ai, aai, aci, v58, v59, hiA, hi6, hcL, hlL, hn, hlb, hsg, hAi, hlA2, hS3, H57, rfl⟩
 refine ZF 18 _ v58 ?_
 refine ZF 17 _ v59 ?_
 apply Zt
 refine Z0X [40, 41, 42, 43, 44, 45, 46, 47] (fun G_ W_ => G_ 47 = (.bool (decide ((i : Int) < (A1.length : Int)) && decide ((i : Int) < 6))) ∧ Sat w [Z6 w (fun _ => False), Z0 b2 31 (Z4 y), Z0 b6 34 (Zf q), Z0 b10 36 (Z3 cf cn), Z0 b14 36 (Z7), Z0 b_ 110 (Zo mb_), (Zm mb_ Lbi), Z0 r_ 98 (Ze rai Lbi.length rci), (Zn rai Lbi rci), Z0 x14 40 (Zb b_ r_), Z0 b48 45 (Zj lai Li.length lci), (Zd lai Li lci), Z0o Bi, (Zi aai Ai aci)] W_) ?_ ?_
 ·apply ZU
  refine wv 40 (.int .i64 ((i : Int))) ?_
  refine wv 41 (.slice aa1 A1.length ac1) ?_
  refine wv 42 (.int .i64 ((A1.length : Int))) ?_
  refine wv 43 (.bool (decide ((i : Int) < (A1.length : Int)))) ?_
  refine wv 44 (.bool (decide ((i : Int) < (A1.length : Int)))) ?_
  refine (Zl (decide ((i : Int) < (A1.length : Int)))).elim (fun b62 => ?_) (fun b62 => ?_)
  ·have g63 := of_decide_eq_true b62
   refine ZI 44 (.bool true) (congrArg Value.bool b62) ?_
   refine wy 4 44 true 45 (.int .i64 ((i : Int))) ?_
   refine wy 4 44 true 46 (.bool (decide ((i : Int) < 6))) ?_
   refine wv 47 (.bool (decide ((i : Int) < 6))) ?_
   apply ZQ
   refine ZJ ?_ ⟨(congrArg Value.bool (show (decide ((i : Int) < 6)) = (decide ((i : Int) < (A1.length : Int)) && decide ((i : Int) < 6)) by rw [b62]; rfl)), H57⟩
   exact zs
  have g65 := of_decide_eq_false b62
  refine ZI 44 (.bool false) (congrArg Value.bool b62) ?_
  iterate 2 refine wn 4 44 true ?_
  refine wv 47 (.bool false) ?_
  apply ZQ
  refine ZJ ?_ ⟨(congrArg Value.bool (show false = (decide ((i : Int) < (A1.length : Int)) && decide ((i : Int) < 6)) by rw [b62]; rfl)), H57⟩
  exact zs
 rintro f67 w68 ⟨v70, H69⟩
 refine ZF 47 _ v70 ?_
 refine (Zl (decide ((i : Int) < (A1.length : Int)) && decide ((i : Int) < 6))).elim (fun b71 => ?_) (fun b71 => ?_)
 ·refine Z1o _ b71 ?_
  apply ZL
  apply ztn
  have hii : i < A1.length ∧ i < 6 := by have q := b71; simp only [Bool.and_eq_true, decide_eq_true_eq] at q; omega
  obtain ⟨hi1, hi2⟩ := hii
  have haL : A1.getD i ac0 ∈ A1 := Za5 hi1
  have hw3 := Z33 (A1.getD i ac0).n.cl 3 (by omega)
  have hw5 := Z33 (A1.getD i ac0).n.sq 5 (by omega)
  refine Z0X (([17, 19, 20, 21, 22, 50, 51, 52, 53, 54, 55, 56, 57, 58, 59, 60, 61, 62, 63, 64, 65, 66, 67, 68, 69, 70, 71, 72, 73, 74, 75, 76, 77, 78, 79, 80, 81, 82, 83, 84] : List Nat) ++ ([85, 86, 87, 88, 89, 90, 91, 92, 93, 94, 95, 96, 97, 98, 99, 100] : List Nat)) (fun G_ W_ => ∃ (Bj : List Ck) (Lj : List CeR) (laj : Option Addr) (lcj : Nat) (Lbj : List Signed) (raj : Option Addr) (rcj : Nat) (Aj : List Z5) (aaj : Option Addr) (acj : Nat), G_ 17 = (.slice aaj Aj.length acj) ∧ (∀ c ∈ Lj, CeT Bj c) ∧ (Lj.length ≤ i + 1) ∧ (Lbj.Nodup) ∧ (Lbj.length ≤ 13 * (i + 1)) ∧ (SgOk Lbj) ∧ (∀ s ∈ Aj, Z8E s) ∧ (Aj.length ≤ i + 1) ∧ (∀ c ∈ Lj, c.S.length = 3) ∧ Sat w [Z6 w (fun _ => False), Z0 b2 31 (Z4 y), Z0 b6 34 (Zf q), Z0 b10 36 (Z3 cf cn), Z0 b14 36 (Z7), Z0 b_ 110 (Zo mb_), (Zm mb_ Lbj), Z0 r_ 98 (Ze raj Lbj.length rcj), (Zn raj Lbj rcj), Z0 x14 40 (Zb b_ r_), Z0 b48 45 (Zj laj Lj.length lcj), (Zd laj Lj lcj), Z0o Bj, (Zi aaj Aj acj)] W_) ?_ ?_
  ·apply ZG
   refine Z0X ([19] ++ List.range' 50 16) (fun G_ W_ => ∃ (x19 : Nat), G_ 19 = (pt x19 0) ∧ Sat w [Z6 w (fun _ => False), Z0 b2 31 (Z4 y), Z0 b6 34 (Zf q), Z0 b10 36 (Z3 cf cn), Z0 b14 36 (Z7), Z0 b_ 110 (Zo mb_), (Zm mb_ Lbi), Z0 r_ 98 (Ze rai Lbi.length rci), (Zn rai Lbi rci), Z0 x14 40 (Zb b_ r_), Z0 b48 45 (Zj lai Li.length lci), (Zd lai Li lci), Z0o Bi, (Zi aai Ai aci), Z0 x19 24 (Z3 (Z8 (A1.getD i ac0).n.cl 3) (1 + Z8 (A1.getD i ac0).n.sq 5))] W_) ?_ ?_
   ·obtain ⟨g74, o75, c76, e77, R78⟩ := SliceOf.atD hA1 ac0 (show i < A1.length by omega)
    refine Z00 H69 [Z6 w (fun _ => False), Z0 b2 31 (Z4 y), Z0 b6 34 (Zf q), Z0 b10 36 (Z3 cf cn), Z0 b14 36 (Z7), Z0 x14 40 (Zb b_ r_)] 18 rfl (by kernel_rfl) (fun Hx => (Hx.pk [0, 1, 2, 3, 4, 9])) ?_
    intro w79 H80 S81
    refine hv0 0 S81 50 (.slice aa1 A1.length ac1) ?_
    refine hv0 1 S81 51 (.int .i64 ((i : Int))) ?_
    obtain ⟨g82, o83, c84, e85, R86⟩ := SliceOf.atD hA1 ac0 (show i < A1.length by omega)
    refine Z1D 2 rfl (by kernel_rfl) (by kernel_rfl) (by kernel_rfl) (fun _ _ _ h => h) S81 (Zs rfl) (d := 52) (v := (.pointer (some ⟨g82, o83 + ((i : Int)).toNat * 45, none⟩))) rfl (fun _ H' => (ZC (E := 55) (by kernel_rfl) (by kernel_rfl) (Nat.le_of_ble_eq_true rfl) rfl e85 rfl (by omega) (by omega))) ?_
    refine hv0 3 S81 53 (.pointer (some ⟨g82, o83 + ((i : Int)).toNat * 45 + 4, none⟩)) ?_
    refine hv0 4 S81 54 (.pointer (some ⟨g82, o83 + ((i : Int)).toNat * 45 + 4, none⟩)) ?_
    refine hv0 5 S81 55 (.int .i64 ((A1.getD i ac0).n.cl)) ?_ (he := fun _ H' => (Z2 rfl (by kernel_rfl) (H'.cellR 0 rfl (Z13 R86 4 (by kernel_rfl) (show o83 + ((i : Int)).toNat * 45 + 4 = o83 + i * 45 + 4 by omega)) (fun h => h))))
    refine hv0 7 S81 57 (.slice aa1 A1.length ac1) ?_
    refine hv0 8 S81 58 (.int .i64 ((i : Int))) ?_
    refine Z1D 9 rfl (by kernel_rfl) (by kernel_rfl) (by kernel_rfl) (fun _ _ _ h => h) S81 (Zs rfl) (d := 59) (v := (.pointer (some ⟨g82, o83 + ((i : Int)).toNat * 45, none⟩))) rfl (fun _ H' => (ZC (E := 55) (by kernel_rfl) (by kernel_rfl) (Nat.le_of_ble_eq_true rfl) rfl e85 rfl (by omega) (by omega))) ?_
    refine hv0 10 S81 60 (.pointer (some ⟨g82, o83 + ((i : Int)).toNat * 45 + 4, none⟩)) ?_
    refine hv0 11 S81 61 (.pointer (some ⟨g82, o83 + ((i : Int)).toNat * 45 + 4 + 1, none⟩)) ?_
    refine hv0 12 S81 62 (.int .i64 ((A1.getD i ac0).n.sq)) ?_ (he := fun _ H' => (Z2 rfl (by kernel_rfl) (H'.cellR 0 rfl (Z13 R86 5 (by kernel_rfl) (show o83 + ((i : Int)).toNat * 45 + 4 + 1 = o83 + i * 45 + 5 by omega)) (fun h => h))))
    refine Z7n 6 16 rfl rfl (by kernel_rfl) (Zs rfl) (Zs rfl) (fun Kq kq => ?_) (fun Kq kq => ?_)
    ·refine zdq 56 (Z1F w79 ((A1.getD i ac0).n.cl) 3 (by omega)) H80 ?_
     intro w88 H89
     have S91 := H89.pk [0, 1, 2, 3, 4, 9]
     refine kq _ _ S91 ?_
     clear kq Kq
     refine Z7n 13 16 rfl rfl (by kernel_rfl) (Zs rfl) (Zs rfl) (fun Kq kq => ?_) (fun Kq kq => ?_)
     ·refine zdq 63 (Z1F w88 ((A1.getD i ac0).n.sq) 5 (by omega)) H89 ?_
      intro w93 H94
      have S96 := H94.pk [0, 1, 2, 3, 4, 9]
      refine kq _ _ S96 ?_
      clear kq Kq
      refine hv0 14 S96 64 (.int .i64 (1 + (Z8 ((A1.getD i ac0).n.sq) 5))) ?_ (he := fun _ H' => (Z0I (z := 1 + (Z8 ((A1.getD i ac0).n.sq) 5)) (by kernel_rfl) (IntWalk.i64_in _ (by omega))))
      refine Z1D 15 rfl (by kernel_rfl) (by kernel_rfl) (by kernel_rfl) (fun _ _ _ h => h) S96 (Zs rfl) (d := 65) (v := (.agg ⟨(Z3 (Z8 ((A1.getD i ac0).n.cl) 3) (1 + (Z8 ((A1.getD i ac0).n.sq) 5)))⟩)) rfl (fun _ H' => (by kernel_rfl)) ?_
      refine Z09 16 fun Kq kq => ?_
      refine zda (Z2Z) H94 ?_
      intro b98 w99 H100
      have S101 := H100.pk [0, 1, 2, 3, 4, 9]
      refine kq _ _ S101 ?_
      clear kq Kq
      refine Z09 17 fun Kq kq => ?_
      refine Z2k (Z3 (Z8 ((A1.getD i ac0).n.cl) 3) (1 + (Z8 ((A1.getD i ac0).n.sq) 5))) H100 14 ?_
      intro w103 (H104 : Sat w [Z6 w (fun _ => False), Z0 b2 31 (Z4 y), Z0 b6 34 (Zf q), Z0 b10 36 (Z3 cf cn), Z0 b14 36 (Z7), Z0 b_ 110 (Zo mb_), (Zm mb_ Lbi), Z0 r_ 98 (Ze rai Lbi.length rci), (Zn rai Lbi rci), Z0 x14 40 (Zb b_ r_), Z0 b48 45 (Zj lai Li.length lci), (Zd lai Li lci), Z0o Bi, (Zi aai Ai aci), Z0 b98 24 (Z3 (Z8 ((A1.getD i ac0).n.cl) 3) (1 + (Z8 ((A1.getD i ac0).n.sq) 5)))] w103)
      have S106 := H104.pk [0, 1, 2, 3, 4, 9]
      refine kq _ _ S106 ?_
      clear kq Kq
      refine zhf ?_
      have H107 := H104.pk [0, 1, 2, 3, 4, 5, 6, 7, 8, 9, 10, 11, 12, 13, 14]
      refine ZJ ?_ ⟨b98, rfl, H107⟩
      exact zs
     refine zda (Z2Z) H89 ?_
     intro b108 w109 H110
     have S111 := H110.pk [0, 1, 2, 3, 4, 9]
     refine kq _ _ S111 ?_
     clear kq Kq
     refine Z09 13 fun Kq kq => ?_
     refine zdq 63 (Z1F w109 ((A1.getD i ac0).n.sq) 5 (by omega)) H110 ?_
     intro w113 H114
     have S116 := H114.pk [0, 1, 2, 3, 4, 9]
     refine kq _ _ S116 ?_
     clear kq Kq
     refine hv0 14 S116 64 (.int .i64 (1 + (Z8 ((A1.getD i ac0).n.sq) 5))) ?_ (he := fun _ H' => (Z0I (z := 1 + (Z8 ((A1.getD i ac0).n.sq) 5)) (by kernel_rfl) (IntWalk.i64_in _ (by omega))))
     refine Z1D 15 rfl (by kernel_rfl) (by kernel_rfl) (by kernel_rfl) (fun _ _ _ h => h) S116 (Zs rfl) (d := 65) (v := (.agg ⟨(Z3 (Z8 ((A1.getD i ac0).n.cl) 3) (1 + (Z8 ((A1.getD i ac0).n.sq) 5)))⟩)) rfl (fun _ H' => (by kernel_rfl)) ?_
     refine Z09 17 fun Kq kq => ?_
     refine Z2k (Z3 (Z8 ((A1.getD i ac0).n.cl) 3) (1 + (Z8 ((A1.getD i ac0).n.sq) 5))) H114 14 ?_
     intro w118 (H119 : Sat w [Z6 w (fun _ => False), Z0 b2 31 (Z4 y), Z0 b6 34 (Zf q), Z0 b10 36 (Z3 cf cn), Z0 b14 36 (Z7), Z0 b_ 110 (Zo mb_), (Zm mb_ Lbi), Z0 r_ 98 (Ze rai Lbi.length rci), (Zn rai Lbi rci), Z0 x14 40 (Zb b_ r_), Z0 b48 45 (Zj lai Li.length lci), (Zd lai Li lci), Z0o Bi, (Zi aai Ai aci), Z0 b108 24 (Z3 (Z8 ((A1.getD i ac0).n.cl) 3) (1 + (Z8 ((A1.getD i ac0).n.sq) 5)))] w118)
     have S121 := H119.pk [0, 1, 2, 3, 4, 9]
     refine kq _ _ S121 ?_
     clear kq Kq
     refine zhf ?_
     have H122 := H119.pk [0, 1, 2, 3, 4, 5, 6, 7, 8, 9, 10, 11, 12, 13, 14]
     refine ZJ ?_ ⟨b108, rfl, H122⟩
     exact zs
    refine zda (Z2Z) H80 ?_
    intro b123 w124 H125
    have S126 := H125.pk [0, 1, 2, 3, 4, 9]
    refine kq _ _ S126 ?_
    clear kq Kq
    refine Z09 6 fun Kq kq => ?_
    refine zdq 56 (Z1F w124 ((A1.getD i ac0).n.cl) 3 (by omega)) H125 ?_
    intro w128 H129
    have S131 := H129.pk [0, 1, 2, 3, 4, 9]
    refine kq _ _ S131 ?_
    clear kq Kq
    refine Z09 13 fun Kq kq => ?_
    refine zdq 63 (Z1F w128 ((A1.getD i ac0).n.sq) 5 (by omega)) H129 ?_
    intro w133 H134
    have S136 := H134.pk [0, 1, 2, 3, 4, 9]
    refine kq _ _ S136 ?_
    clear kq Kq
    refine hv0 14 S136 64 (.int .i64 (1 + (Z8 ((A1.getD i ac0).n.sq) 5))) ?_ (he := fun _ H' => (Z0I (z := 1 + (Z8 ((A1.getD i ac0).n.sq) 5)) (by kernel_rfl) (IntWalk.i64_in _ (by omega))))
    refine Z1D 15 rfl (by kernel_rfl) (by kernel_rfl) (by kernel_rfl) (fun _ _ _ h => h) S136 (Zs rfl) (d := 65) (v := (.agg ⟨(Z3 (Z8 ((A1.getD i ac0).n.cl) 3) (1 + (Z8 ((A1.getD i ac0).n.sq) 5)))⟩)) rfl (fun _ H' => (by kernel_rfl)) ?_
    refine Z09 17 fun Kq kq => ?_
    refine Z2k (Z3 (Z8 ((A1.getD i ac0).n.cl) 3) (1 + (Z8 ((A1.getD i ac0).n.sq) 5))) H134 14 ?_
    intro w138 (H139 : Sat w [Z6 w (fun _ => False), Z0 b2 31 (Z4 y), Z0 b6 34 (Zf q), Z0 b10 36 (Z3 cf cn), Z0 b14 36 (Z7), Z0 b_ 110 (Zo mb_), (Zm mb_ Lbi), Z0 r_ 98 (Ze rai Lbi.length rci), (Zn rai Lbi rci), Z0 x14 40 (Zb b_ r_), Z0 b48 45 (Zj lai Li.length lci), (Zd lai Li lci), Z0o Bi, (Zi aai Ai aci), Z0 b123 24 (Z3 (Z8 ((A1.getD i ac0).n.cl) 3) (1 + (Z8 ((A1.getD i ac0).n.sq) 5)))] w138)
    have S141 := H139.pk [0, 1, 2, 3, 4, 9]
    refine kq _ _ S141 ?_
    clear kq Kq
    refine zhf ?_
    have H142 := H139.pk [0, 1, 2, 3, 4, 5, 6, 7, 8, 9, 10, 11, 12, 13, 14]
    refine ZJ ?_ ⟨b123, rfl, H142⟩
    exact zs
   rintro f143 w144 ⟨x19, v146, H145⟩
   refine ZF 19 _ v146 ?_
   refine Z0X ([20] ++ List.range' 66 16) (fun G_ W_ => ∃ (x20 : Nat) (X : CeR) (L0 : List Signed) (ra0 : Option Addr) (rc0 : Nat), G_ 20 = (pt x20 0) ∧ (CeT (stC X :: Bi) X) ∧ (L0.Nodup) ∧ (L0.length ≤ Lbi.length + 12) ∧ (SgOk L0) ∧ (X.S.length = 3) ∧ Sat w [Z6 w (fun _ => False), Z0 b2 31 (Z4 y), Z0 b6 34 (Zf q), Z0 b10 36 (Z3 cf cn), Z0 b14 36 (Z7), Z0 b_ 110 (Zo mb_), (Zm mb_ L0), Z0 r_ 98 (Ze ra0 L0.length rc0), (Zn ra0 L0 rc0), Z0 x14 40 (Zb b_ r_), Z0 b48 45 (Zj lai Li.length lci), (Zd lai Li lci), Z0o (stC X :: Bi), (Zi aai Ai aci), Z0 x19 24 (Z3 (Z8 (A1.getD i ac0).n.cl 3) (1 + Z8 (A1.getD i ac0).n.sq 5)), Z0 x20 53 (Z0g X)] W_) ?_ ?_
   ·obtain ⟨g148, o149, c150, e151, R152⟩ := SliceOf.atD hA1 ac0 (show i < A1.length by omega)
    refine Z00 H145 [Z6 w (fun _ => False), Z0 b2 31 (Z4 y), Z0 b6 34 (Zf q), Z0 b10 36 (Z3 cf cn), Z0 b14 36 (Z7), Z0 x14 40 (Zb b_ r_), Z0 x19 24 (Z3 (Z8 (A1.getD i ac0).n.cl 3) (1 + Z8 (A1.getD i ac0).n.sq 5))] 18 rfl (by kernel_rfl) (fun Hx => (Hx.pk [0, 1, 2, 3, 4, 9, 14])) ?_
    intro w153 H154 S155
    refine hv0 0 S155 66 (.agg ⟨(Zb b_ r_)⟩) ?_ (he := fun _ H' => (Zc (vs := (Zb b_ r_)) rfl (by kernel_rfl) (by kernel_rfl) (by exact Nat.le_of_ble_eq_true (by kernel_rfl)) (H'.at 5 rfl) (by kernel_rfl)))
    refine hv0 1 S155 67 (.agg ⟨(Z7)⟩) ?_ (he := fun _ H' => (Zc (vs := (Z7)) rfl (by kernel_rfl) (by kernel_rfl) (by exact Nat.le_of_ble_eq_true (by kernel_rfl)) (H'.at 4 rfl) (by kernel_rfl)))
    refine hv0 2 S155 68 (.agg ⟨(Zb b_ r_)⟩) ?_ (he := fun _ H' => (Zc (vs := (Zb b_ r_)) rfl (by kernel_rfl) (by kernel_rfl) (by exact Nat.le_of_ble_eq_true (by kernel_rfl)) (H'.at 5 rfl) (by kernel_rfl)))
    refine hv0 3 S155 69 (.agg ⟨(Z3 (Z8 (A1.getD i ac0).n.cl 3) (1 + Z8 (A1.getD i ac0).n.sq 5))⟩) ?_ (he := fun _ H' => (Zc (vs := (Z3 (Z8 (A1.getD i ac0).n.cl 3) (1 + Z8 (A1.getD i ac0).n.sq 5))) rfl (by kernel_rfl) (by kernel_rfl) (by exact Nat.le_of_ble_eq_true (by kernel_rfl)) (H'.at 6 rfl) (by kernel_rfl)))
    refine hv0 5 S155 71 (.slice aa1 A1.length ac1) ?_
    refine hv0 6 S155 72 (.int .i64 ((i : Int))) ?_
    obtain ⟨g156, o157, c158, e159, R160⟩ := SliceOf.atD hA1 ac0 (show i < A1.length by omega)
    refine Z1D 7 rfl (by kernel_rfl) (by kernel_rfl) (by kernel_rfl) (fun _ _ _ h => h) S155 (Zs rfl) (d := 73) (v := (.pointer (some ⟨g156, o157 + ((i : Int)).toNat * 45, none⟩))) rfl (fun _ H' => (ZC (E := 55) (by kernel_rfl) (by kernel_rfl) (Nat.le_of_ble_eq_true rfl) rfl e159 rfl (by omega) (by omega))) ?_
    refine hv0 8 S155 74 (.pointer (some ⟨g156, o157 + ((i : Int)).toNat * 45 + 1, none⟩)) ?_
    refine hv0 9 S155 75 (.int .i64 ((A1.getD i ac0).f)) ?_ (he := fun _ H' => (Z2 rfl (by kernel_rfl) (H'.cellR 0 rfl (Z13 R160 1 (by kernel_rfl) (show o157 + ((i : Int)).toNat * 45 + 1 = o157 + i * 45 + 1 by omega)) (fun h => h))))
    refine hv0 10 S155 76 (.slice aa1 A1.length ac1) ?_
    refine hv0 11 S155 77 (.int .i64 ((i : Int))) ?_
    refine Z1D 12 rfl (by kernel_rfl) (by kernel_rfl) (by kernel_rfl) (fun _ _ _ h => h) S155 (Zs rfl) (d := 78) (v := (.pointer (some ⟨g156, o157 + ((i : Int)).toNat * 45, none⟩))) rfl (fun _ H' => (ZC (E := 55) (by kernel_rfl) (by kernel_rfl) (Nat.le_of_ble_eq_true rfl) rfl e159 rfl (by omega) (by omega))) ?_
    refine hv0 13 S155 79 (.pointer (some ⟨g156, o157 + ((i : Int)).toNat * 45 + 6, none⟩)) ?_
    refine hv0 14 S155 80 (.slice (A1.getD i ac0).ta ((A1.getD i ac0).xs.length) ((A1.getD i ac0).tc)) ?_ (he := fun _ H' => (Z2 rfl (by kernel_rfl) (H'.cellR 0 rfl (Z13 R160 6 (by kernel_rfl) (show o157 + ((i : Int)).toNat * 45 + 6 = o157 + i * 45 + 6 by omega)) (fun h => h))))
    refine Z7n 4 16 rfl rfl (by kernel_rfl) (Zs rfl) (Zs rfl) (fun Kq kq => ?_) (fun Kq kq => ?_)
    ·refine zdc 70 (Z50 w153 b_ mb_ r_ rai rci Lbi (H154.fn [5, 6, 7, 8]) (Z8 (A1.getD i ac0).n.cl 3) (1 + Z8 (A1.getD i ac0).n.sq 5) none 0 ([] : List UInt8) ListAt.nil (fun h => absurd h (Nat.lt_irrefl 0)) (Nat.le_of_ble_eq_true rfl) (by omega) (by omega) (by omega) hn) ?_
     rintro _ w162 ⟨a164, c165, rfl, T163⟩
     obtain ⟨L167, hL167⟩ : ∃ L167 : List Signed, L167 = Zk Lbi (yC (Z8 (A1.getD i ac0).n.cl 3) (1 + Z8 (A1.getD i ac0).n.sq 5) Z0d ([] : List UInt8)) := ⟨_, rfl⟩
     rw [← hL167] at T163
     have H168 := H154.tl [Z0 b_ 110 (Zo mb_), (Zm mb_ L167), Z0 r_ 98 (Ze a164 L167.length c165), (Zn a164 L167 c165)] [5, 6, 7, 8] [0, 1, 2, 3, 4, 9, 10, 11, 12, 13, 14] T163 [4, 5, 6, 7, 8, 0, 1, 2, 3, 9, 10, 11, 12, 13, 14]
     refine ⟨_, rfl, ?_⟩
     obtain ⟨Y166, hY166⟩ : ∃ Y166 : Zg, Y166 = mkC Lbi (Z8 (A1.getD i ac0).n.cl 3) (1 + Z8 (A1.getD i ac0).n.sq 5) Z0d ([] : List UInt8) := ⟨_, rfl⟩
     rw [← hY166]
     have hgY166 : ZaZ L167 Y166 := by rw [hL167, hY166]; exact Z7m _ _ _ _ _
     have ndL167 : L167.Nodup := by rw [hL167]; exact Z1S hn _
     have llL167 : L167.length ≤ Lbi.length + 1 := by rw [hL167]; exact Z20 _ _
     have clY166 : Y166.cl = Z8 (A1.getD i ac0).n.cl 3 := by rw [hY166]; rfl
     have sqY166 : Y166.seq = 1 + Z8 (A1.getD i ac0).n.sq 5 := by rw [hY166]; rfl
     have lnY166 : Y166.len = ([] : List UInt8).length := by rw [hY166]; rfl
     have S169 := H168.pk [0, 1, 2, 3, 4, 9, 14]
     refine kq _ _ S169 ?_
     clear kq Kq
     refine Z7n 15 16 rfl rfl (by kernel_rfl) (Zs rfl) (Zs rfl) (fun Kq kq => ?_) (fun Kq kq => ?_)
     ·refine zdc 81 (Z41 w162 b_ mb_ r_ a164 c165 L167 (H168.fn [5, 6, 7, 8]) 1 3 (by omega) Y166 ⟨by omega, by omega, by simp only [List.length_cons, List.length_nil] at lnY166; omega⟩ ((A1.getD i ac0).f) (by omega) ndL167 (A1.getD i ac0).ta (A1.getD i ac0).tc (A1.getD i ac0).xs (ListAt.now H168 0 rfl (hAc1 _ haL).xs) (hAc1 _ haL).b (Z5F Z27 (by decide) H168 [5, 6, 7, 8] 0 rfl rfl (by decide) (hAc1 _ haL).xs)) ?_
      rintro _ w171 ⟨a172, c173, L174, a175, c176, D177, rfl, l181, k178, n179, l180, p182, s183, T184⟩
      have H185 : Sat w [Z6 w (fun _ => False), Z0 b2 31 (Z4 y), Z0 b6 34 (Zf q), Z0 b10 36 (Z3 cf cn), Z0 b14 36 (Z7), Z0 b_ 110 (Zo mb_), (Zm mb_ L174), Z0 r_ 98 (Ze a172 L174.length c173), (Zn a172 L174 c173), Z0 x14 40 (Zb b_ r_), Z0 b48 45 (Zj lai Li.length lci), (Zd lai Li lci), Z0o Bi, (Zi aai Ai aci), Z0 x19 24 (Z3 (Z8 (A1.getD i ac0).n.cl 3) (1 + Z8 (A1.getD i ac0).n.sq 5)), (Z23 a175 D177 c176)] w171 := (Sat.turnL (L' := [Z0 b_ 110 (Zo mb_), (Zm mb_ L174), Z0 r_ 98 (Ze a172 L174.length c173), (Zn a172 L174 c173), (Z23 a175 D177 c176)]) (R := [Z6 w (fun _ => False), Z0 b2 31 (Z4 y), Z0 b6 34 (Zf q), Z0 b10 36 (Z3 cf cn), Z0 b14 36 (Z7), Z0 x14 40 (Zb b_ r_), Z0 b48 45 (Zj lai Li.length lci), (Zd lai Li lci), Z0o Bi, (Zi aai Ai aci), Z0 x19 24 (Z3 (Z8 (A1.getD i ac0).n.cl 3) (1 + Z8 (A1.getD i ac0).n.sq 5))]) H168 [5, 6, 7, 8] [0, 1, 2, 3, 4, 9, 10, 11, 12, 13, 14] (by decide) (by kernel_rfl) rfl T184).pk [5, 6, 7, 8, 9, 0, 1, 2, 3, 10, 11, 12, 13, 14, 15, 4]
      have H186 := (H185.pk [12, 15, 0, 1, 2, 3, 4, 5, 6, 7, 8, 9, 10, 11, 13, 14]).bag
      have H187 : Sat w [Z6 w (fun _ => False), Z0 b2 31 (Z4 y), Z0 b6 34 (Zf q), Z0 b10 36 (Z3 cf cn), Z0 b14 36 (Z7), Z0 b_ 110 (Zo mb_), (Zm mb_ L174), Z0 r_ 98 (Ze a172 L174.length c173), (Zn a172 L174 c173), Z0 x14 40 (Zb b_ r_), Z0 b48 45 (Zj lai Li.length lci), (Zd lai Li lci), Z0o (stC (⟨Y166, a175, c176, D177⟩ : CeR) :: Bi), (Zi aai Ai aci), Z0 x19 24 (Z3 (Z8 (A1.getD i ac0).n.cl 3) (1 + Z8 (A1.getD i ac0).n.sq 5))] w171 := H186.pk [1, 2, 3, 4, 5, 6, 7, 8, 9, 10, 11, 12, 0, 13, 14]
      have hXn : CeT (stC (⟨Y166, a175, c176, D177⟩ : CeR) :: Bi) (⟨Y166, a175, c176, D177⟩ : CeR) := ⟨Z5r (c := Y166) hgY166 (by omega) (by omega) (by simp only [List.length_cons, List.length_nil] at lnY166; omega) (by omega), (fun i hi => k178 _ (Z4J hi)), (by show D177.length ≤ 12; omega), List.mem_cons_self⟩
      have hX3n : D177.length = 3 := by omega
      have hsgC : SgOk L174 := (show SgOk L167 by rw [hL167]; exact hsg.sign (.inr ⟨by show (1000 : Int) ≤ 1000 + _; omega, by show (1000 : Int) + _ < 1003; omega⟩)).of s183
      refine ⟨_, rfl, ?_⟩
      have S188 := H187.pk [0, 1, 2, 3, 4, 9, 14]
      refine kq _ _ S188 ?_
      clear kq Kq
      refine Z09 16 fun Kq kq => ?_
      refine zda (Z1e) H187 ?_
      intro b190 w191 H192
      have S193 := H192.pk [0, 1, 2, 3, 4, 9, 14]
      refine kq _ _ S193 ?_
      clear kq Kq
      refine Z09 17 fun Kq kq => ?_
      refine Z2k (Z3a Y166 a175 D177.length c176) H192 15 ?_
      intro w195 (H196 : Sat w [Z6 w (fun _ => False), Z0 b2 31 (Z4 y), Z0 b6 34 (Zf q), Z0 b10 36 (Z3 cf cn), Z0 b14 36 (Z7), Z0 b_ 110 (Zo mb_), (Zm mb_ L174), Z0 r_ 98 (Ze a172 L174.length c173), (Zn a172 L174 c173), Z0 x14 40 (Zb b_ r_), Z0 b48 45 (Zj lai Li.length lci), (Zd lai Li lci), Z0o (stC (⟨Y166, a175, c176, D177⟩ : CeR) :: Bi), (Zi aai Ai aci), Z0 x19 24 (Z3 (Z8 (A1.getD i ac0).n.cl 3) (1 + Z8 (A1.getD i ac0).n.sq 5)), Z0 b190 53 (Z3a Y166 a175 D177.length c176)] w195)
      have S198 := H196.pk [0, 1, 2, 3, 4, 9, 14]
      refine kq _ _ S198 ?_
      clear kq Kq
      refine zhf ?_
      have H199 := H196.pk [0, 1, 2, 3, 4, 5, 6, 7, 8, 9, 10, 11, 12, 13, 14, 15]
      refine ZJ ?_ ⟨b190, (⟨Y166, a175, c176, D177⟩ : CeR), L174, a172, c173, rfl, hXn, n179, (by omega), hsgC, hX3n, H199⟩
      exact zs
     refine zda (Z1e) H168 ?_
     intro b200 w201 H202
     have S203 := H202.pk [0, 1, 2, 3, 4, 9, 14]
     refine kq _ _ S203 ?_
     clear kq Kq
     refine Z09 15 fun Kq kq => ?_
     refine zdc 81 (Z41 w201 b_ mb_ r_ a164 c165 L167 (H202.fn [5, 6, 7, 8]) 1 3 (by omega) Y166 ⟨by omega, by omega, by simp only [List.length_cons, List.length_nil] at lnY166; omega⟩ ((A1.getD i ac0).f) (by omega) ndL167 (A1.getD i ac0).ta (A1.getD i ac0).tc (A1.getD i ac0).xs (ListAt.now H202 0 rfl (hAc1 _ haL).xs) (hAc1 _ haL).b (Z5F Z27 (by decide) H202 [5, 6, 7, 8] 0 rfl rfl (by decide) (hAc1 _ haL).xs)) ?_
     rintro _ w205 ⟨a206, c207, L208, a209, c210, D211, rfl, l215, k212, n213, l214, p216, s217, T218⟩
     have H219 : Sat w [Z6 w (fun _ => False), Z0 b2 31 (Z4 y), Z0 b6 34 (Zf q), Z0 b10 36 (Z3 cf cn), Z0 b14 36 (Z7), Z0 b_ 110 (Zo mb_), (Zm mb_ L208), Z0 r_ 98 (Ze a206 L208.length c207), (Zn a206 L208 c207), Z0 x14 40 (Zb b_ r_), Z0 b48 45 (Zj lai Li.length lci), (Zd lai Li lci), Z0o Bi, (Zi aai Ai aci), Z0 x19 24 (Z3 (Z8 (A1.getD i ac0).n.cl 3) (1 + Z8 (A1.getD i ac0).n.sq 5)), Z0 b200 53 (Z1e), (Z23 a209 D211 c210)] w205 := (Sat.turnL (L' := [Z0 b_ 110 (Zo mb_), (Zm mb_ L208), Z0 r_ 98 (Ze a206 L208.length c207), (Zn a206 L208 c207), (Z23 a209 D211 c210)]) (R := [Z6 w (fun _ => False), Z0 b2 31 (Z4 y), Z0 b6 34 (Zf q), Z0 b10 36 (Z3 cf cn), Z0 b14 36 (Z7), Z0 x14 40 (Zb b_ r_), Z0 b48 45 (Zj lai Li.length lci), (Zd lai Li lci), Z0o Bi, (Zi aai Ai aci), Z0 x19 24 (Z3 (Z8 (A1.getD i ac0).n.cl 3) (1 + Z8 (A1.getD i ac0).n.sq 5)), Z0 b200 53 (Z1e)]) H202 [5, 6, 7, 8] [0, 1, 2, 3, 4, 9, 10, 11, 12, 13, 14, 15] (by decide) (by kernel_rfl) rfl T218).pk [5, 6, 7, 8, 9, 0, 1, 2, 3, 10, 11, 12, 13, 14, 15, 16, 4]
     have H220 := (H219.pk [12, 16, 0, 1, 2, 3, 4, 5, 6, 7, 8, 9, 10, 11, 13, 14, 15]).bag
     have H221 : Sat w [Z6 w (fun _ => False), Z0 b2 31 (Z4 y), Z0 b6 34 (Zf q), Z0 b10 36 (Z3 cf cn), Z0 b14 36 (Z7), Z0 b_ 110 (Zo mb_), (Zm mb_ L208), Z0 r_ 98 (Ze a206 L208.length c207), (Zn a206 L208 c207), Z0 x14 40 (Zb b_ r_), Z0 b48 45 (Zj lai Li.length lci), (Zd lai Li lci), Z0o (stC (⟨Y166, a209, c210, D211⟩ : CeR) :: Bi), (Zi aai Ai aci), Z0 x19 24 (Z3 (Z8 (A1.getD i ac0).n.cl 3) (1 + Z8 (A1.getD i ac0).n.sq 5)), Z0 b200 53 (Z1e)] w205 := H220.pk [1, 2, 3, 4, 5, 6, 7, 8, 9, 10, 11, 12, 0, 13, 14, 15]
     have hXn : CeT (stC (⟨Y166, a209, c210, D211⟩ : CeR) :: Bi) (⟨Y166, a209, c210, D211⟩ : CeR) := ⟨Z5r (c := Y166) hgY166 (by omega) (by omega) (by simp only [List.length_cons, List.length_nil] at lnY166; omega) (by omega), (fun i hi => k212 _ (Z4J hi)), (by show D211.length ≤ 12; omega), List.mem_cons_self⟩
     have hX3n : D211.length = 3 := by omega
     have hsgC : SgOk L208 := (show SgOk L167 by rw [hL167]; exact hsg.sign (.inr ⟨by show (1000 : Int) ≤ 1000 + _; omega, by show (1000 : Int) + _ < 1003; omega⟩)).of s217
     refine ⟨_, rfl, ?_⟩
     have S222 := H221.pk [0, 1, 2, 3, 4, 9, 14]
     refine kq _ _ S222 ?_
     clear kq Kq
     refine Z09 17 fun Kq kq => ?_
     refine Z2k (Z3a Y166 a209 D211.length c210) H221 15 ?_
     intro w224 H225
     have S227 := H225.pk [0, 1, 2, 3, 4, 9, 14]
     refine kq _ _ S227 ?_
     clear kq Kq
     refine zhf ?_
     have H228 := H225.pk [0, 1, 2, 3, 4, 5, 6, 7, 8, 9, 10, 11, 12, 13, 14, 15]
     refine ZJ ?_ ⟨b200, (⟨Y166, a209, c210, D211⟩ : CeR), L208, a206, c207, rfl, hXn, n213, (by omega), hsgC, hX3n, H228⟩
     exact zs
    refine zda (Z1e) H154 ?_
    intro b229 w230 (H231 : Sat w [Z6 w (fun _ => False), Z0 b2 31 (Z4 y), Z0 b6 34 (Zf q), Z0 b10 36 (Z3 cf cn), Z0 b14 36 (Z7), Z0 b_ 110 (Zo mb_), (Zm mb_ Lbi), Z0 r_ 98 (Ze rai Lbi.length rci), (Zn rai Lbi rci), Z0 x14 40 (Zb b_ r_), Z0 b48 45 (Zj lai Li.length lci), (Zd lai Li lci), Z0o Bi, (Zi aai Ai aci), Z0 x19 24 (Z3 (Z8 (A1.getD i ac0).n.cl 3) (1 + Z8 (A1.getD i ac0).n.sq 5)), Z0 b229 53 (Z1e)] w230)
    have S232 := H231.pk [0, 1, 2, 3, 4, 9, 14]
    refine kq _ _ S232 ?_
    clear kq Kq
    refine Z09 4 fun Kq kq => ?_
    refine zdc 70 (Z50 w230 b_ mb_ r_ rai rci Lbi (H231.fn [5, 6, 7, 8]) (Z8 (A1.getD i ac0).n.cl 3) (1 + Z8 (A1.getD i ac0).n.sq 5) none 0 ([] : List UInt8) ListAt.nil (fun h => absurd h (Nat.lt_irrefl 0)) (Nat.le_of_ble_eq_true rfl) (by omega) (by omega) (by omega) hn) ?_
    rintro _ w234 ⟨a236, c237, rfl, T235⟩
    obtain ⟨L239, hL239⟩ : ∃ L239 : List Signed, L239 = Zk Lbi (yC (Z8 (A1.getD i ac0).n.cl 3) (1 + Z8 (A1.getD i ac0).n.sq 5) Z0d ([] : List UInt8)) := ⟨_, rfl⟩
    rw [← hL239] at T235
    have H240 := H231.tl [Z0 b_ 110 (Zo mb_), (Zm mb_ L239), Z0 r_ 98 (Ze a236 L239.length c237), (Zn a236 L239 c237)] [5, 6, 7, 8] [0, 1, 2, 3, 4, 9, 10, 11, 12, 13, 14, 15] T235 [4, 5, 6, 7, 8, 0, 1, 2, 3, 9, 10, 11, 12, 13, 14, 15]
    refine ⟨_, rfl, ?_⟩
    obtain ⟨Y238, hY238⟩ : ∃ Y238 : Zg, Y238 = mkC Lbi (Z8 (A1.getD i ac0).n.cl 3) (1 + Z8 (A1.getD i ac0).n.sq 5) Z0d ([] : List UInt8) := ⟨_, rfl⟩
    rw [← hY238]
    have hgY238 : ZaZ L239 Y238 := by rw [hL239, hY238]; exact Z7m _ _ _ _ _
    have ndL239 : L239.Nodup := by rw [hL239]; exact Z1S hn _
    have llL239 : L239.length ≤ Lbi.length + 1 := by rw [hL239]; exact Z20 _ _
    have clY238 : Y238.cl = Z8 (A1.getD i ac0).n.cl 3 := by rw [hY238]; rfl
    have sqY238 : Y238.seq = 1 + Z8 (A1.getD i ac0).n.sq 5 := by rw [hY238]; rfl
    have lnY238 : Y238.len = ([] : List UInt8).length := by rw [hY238]; rfl
    have S241 := H240.pk [0, 1, 2, 3, 4, 9, 14]
    refine kq _ _ S241 ?_
    clear kq Kq
    refine Z09 15 fun Kq kq => ?_
    refine zdc 81 (Z41 w234 b_ mb_ r_ a236 c237 L239 (H240.fn [5, 6, 7, 8]) 1 3 (by omega) Y238 ⟨by omega, by omega, by simp only [List.length_cons, List.length_nil] at lnY238; omega⟩ ((A1.getD i ac0).f) (by omega) ndL239 (A1.getD i ac0).ta (A1.getD i ac0).tc (A1.getD i ac0).xs (ListAt.now H240 0 rfl (hAc1 _ haL).xs) (hAc1 _ haL).b (Z5F Z27 (by decide) H240 [5, 6, 7, 8] 0 rfl rfl (by decide) (hAc1 _ haL).xs)) ?_
    rintro _ w243 ⟨a244, c245, L246, a247, c248, D249, rfl, l253, k250, n251, l252, p254, s255, T256⟩
    have H257 : Sat w [Z6 w (fun _ => False), Z0 b2 31 (Z4 y), Z0 b6 34 (Zf q), Z0 b10 36 (Z3 cf cn), Z0 b14 36 (Z7), Z0 b_ 110 (Zo mb_), (Zm mb_ L246), Z0 r_ 98 (Ze a244 L246.length c245), (Zn a244 L246 c245), Z0 x14 40 (Zb b_ r_), Z0 b48 45 (Zj lai Li.length lci), (Zd lai Li lci), Z0o Bi, (Zi aai Ai aci), Z0 x19 24 (Z3 (Z8 (A1.getD i ac0).n.cl 3) (1 + Z8 (A1.getD i ac0).n.sq 5)), Z0 b229 53 (Z1e), (Z23 a247 D249 c248)] w243 := (Sat.turnL (L' := [Z0 b_ 110 (Zo mb_), (Zm mb_ L246), Z0 r_ 98 (Ze a244 L246.length c245), (Zn a244 L246 c245), (Z23 a247 D249 c248)]) (R := [Z6 w (fun _ => False), Z0 b2 31 (Z4 y), Z0 b6 34 (Zf q), Z0 b10 36 (Z3 cf cn), Z0 b14 36 (Z7), Z0 x14 40 (Zb b_ r_), Z0 b48 45 (Zj lai Li.length lci), (Zd lai Li lci), Z0o Bi, (Zi aai Ai aci), Z0 x19 24 (Z3 (Z8 (A1.getD i ac0).n.cl 3) (1 + Z8 (A1.getD i ac0).n.sq 5)), Z0 b229 53 (Z1e)]) H240 [5, 6, 7, 8] [0, 1, 2, 3, 4, 9, 10, 11, 12, 13, 14, 15] (by decide) (by kernel_rfl) rfl T256).pk [5, 6, 7, 8, 9, 0, 1, 2, 3, 10, 11, 12, 13, 14, 15, 16, 4]
    have H258 := (H257.pk [12, 16, 0, 1, 2, 3, 4, 5, 6, 7, 8, 9, 10, 11, 13, 14, 15]).bag
    have H259 : Sat w [Z6 w (fun _ => False), Z0 b2 31 (Z4 y), Z0 b6 34 (Zf q), Z0 b10 36 (Z3 cf cn), Z0 b14 36 (Z7), Z0 b_ 110 (Zo mb_), (Zm mb_ L246), Z0 r_ 98 (Ze a244 L246.length c245), (Zn a244 L246 c245), Z0 x14 40 (Zb b_ r_), Z0 b48 45 (Zj lai Li.length lci), (Zd lai Li lci), Z0o (stC (⟨Y238, a247, c248, D249⟩ : CeR) :: Bi), (Zi aai Ai aci), Z0 x19 24 (Z3 (Z8 (A1.getD i ac0).n.cl 3) (1 + Z8 (A1.getD i ac0).n.sq 5)), Z0 b229 53 (Z1e)] w243 := H258.pk [1, 2, 3, 4, 5, 6, 7, 8, 9, 10, 11, 12, 0, 13, 14, 15]
    have hXn : CeT (stC (⟨Y238, a247, c248, D249⟩ : CeR) :: Bi) (⟨Y238, a247, c248, D249⟩ : CeR) := ⟨Z5r (c := Y238) hgY238 (by omega) (by omega) (by simp only [List.length_cons, List.length_nil] at lnY238; omega) (by omega), (fun i hi => k250 _ (Z4J hi)), (by show D249.length ≤ 12; omega), List.mem_cons_self⟩
    have hX3n : D249.length = 3 := by omega
    have hsgC : SgOk L246 := (show SgOk L239 by rw [hL239]; exact hsg.sign (.inr ⟨by show (1000 : Int) ≤ 1000 + _; omega, by show (1000 : Int) + _ < 1003; omega⟩)).of s255
    refine ⟨_, rfl, ?_⟩
    have S260 := H259.pk [0, 1, 2, 3, 4, 9, 14]
    refine kq _ _ S260 ?_
    clear kq Kq
    refine Z09 17 fun Kq kq => ?_
    refine Z2k (Z3a Y238 a247 D249.length c248) H259 15 ?_
    intro w262 H263
    have S265 := H263.pk [0, 1, 2, 3, 4, 9, 14]
    refine kq _ _ S265 ?_
    clear kq Kq
    refine zhf ?_
    have H266 := H263.pk [0, 1, 2, 3, 4, 5, 6, 7, 8, 9, 10, 11, 12, 13, 14, 15]
    refine ZJ ?_ ⟨b229, (⟨Y238, a247, c248, D249⟩ : CeR), L246, a244, c245, rfl, hXn, n251, (by omega), hsgC, hX3n, H266⟩
    exact zs
   rintro f267 w268 ⟨x20, X, L0, ra0, rc0, v270, hX, hn0, hl0, hsg0, hX3, H269⟩
   refine ZF 20 _ v270 ?_
   refine Z0X [21, 22, 82, 83, 84, 85, 86, 87, 88, 89] (fun G_ W_ => ∃ (x21 : Nat) (s1 : Z5) (er : Int) (L1 : List CeR) (la1 : Option Addr) (lc1 : Nat) (L2 : List Signed) (ra2 : Option Addr) (rc2 : Nat), G_ 21 = (pt x21 0) ∧ G_ 22 = (.int .i64 (er)) ∧ (∀ c ∈ L1, CeT (stC X :: Bi) c) ∧ (L1.length ≤ i + 1) ∧ (er = 0 → L2 = Zk L0 (ackY 2 X) ∧ Z8E s1 ∧ ackY 2 X = ⟨2, Z1H s1⟩) ∧ (¬ er = 0 → L2 = L0) ∧ (∀ c ∈ L1, c.S.length = 3) ∧ Sat w [Z6 w (fun _ => False), Z0 b2 31 (Z4 y), Z0 b6 34 (Zf q), Z0 b10 36 (Z3 cf cn), Z0 b14 36 (Z7), Z0 b_ 110 (Zo mb_), (Zm mb_ L0), Z0 r_ 98 (Ze ra2 L2.length rc2), (Zn ra2 L2 rc2), Z0 x14 40 (Zb b_ r_), Z0 b48 45 (Zj la1 L1.length lc1), (Zd la1 L1 lc1), Z0o (stC X :: Bi), (Zi aai Ai aci), Z0 x19 24 (Z3 (Z8 (A1.getD i ac0).n.cl 3) (1 + Z8 (A1.getD i ac0).n.sq 5)), Z0 x20 53 (Z0g X), Z0 x21 31 (Z4 s1)] W_) ?_ ?_
   ·apply ZU
    refine wv 83 (pt b48 0) ?_
    refine wv 84 (pt x14 1) ?_
    refine zw1 85 (pt r_ 0) (H269.cell 9 rfl rfl) ?_
    refine zwN 86 (Z0g X) (H269.at 15 rfl) ?_
    refine zwd fun Kq kq => ?_
    refine zdc 87 (ZaH w268 b48 1 3 2 lai lci Li (stC X :: Bi) r_ ra0 rc0 L0 (H269.fn [10, 11, 12, 7, 8]) (by omega) (fun c hc_ => (hcL c hc_).sub (fun A hA => List.mem_cons_of_mem (stC X) hA)) (by decide) hn0 (by omega) (by decide) 0 X hX) ?_
    rintro _ w273 ⟨s274, r275, a276, c277, L278, a279, c280, L281, rfl, e282, z283, z284, d285, T286⟩
    have H287 : Sat w [Z6 w (fun _ => False), Z0 b2 31 (Z4 y), Z0 b6 34 (Zf q), Z0 b10 36 (Z3 cf cn), Z0 b14 36 (Z7), Z0 b_ 110 (Zo mb_), (Zm mb_ L0), Z0 r_ 98 (Ze a279 L281.length c280), (Zn a279 L281 c280), Z0 x14 40 (Zb b_ r_), Z0 b48 45 (Zj a276 L278.length c277), (Zd a276 L278 c277), Z0o (stC X :: Bi), (Zi aai Ai aci), Z0 x19 24 (Z3 (Z8 (A1.getD i ac0).n.cl 3) (1 + Z8 (A1.getD i ac0).n.sq 5)), Z0 x20 53 (Z0g X)] w273 := (Sat.turnL (L' := [Z0 b48 45 (Zj a276 L278.length c277), (Zd a276 L278 c277), Z0o (stC X :: Bi), Z0 r_ 98 (Ze a279 L281.length c280), (Zn a279 L281 c280)]) (R := [Z6 w (fun _ => False), Z0 b2 31 (Z4 y), Z0 b6 34 (Zf q), Z0 b10 36 (Z3 cf cn), Z0 b14 36 (Z7), Z0 b_ 110 (Zo mb_), (Zm mb_ L0), Z0 x14 40 (Zb b_ r_), (Zi aai Ai aci), Z0 x19 24 (Z3 (Z8 (A1.getD i ac0).n.cl 3) (1 + Z8 (A1.getD i ac0).n.sq 5)), Z0 x20 53 (Z0g X)]) H269 [10, 11, 12, 7, 8] [0, 1, 2, 3, 4, 5, 6, 9, 13, 14, 15] (by decide) (by kernel_rfl) rfl T286).pk [5, 6, 7, 8, 9, 10, 11, 3, 4, 12, 0, 1, 2, 13, 14, 15]
    refine ⟨_, rfl, ?_⟩
    refine kq _ _ ?_
    clear kq Kq
    refine wv 82 (.tuple #[(.agg ⟨(Z4 s274)⟩), (.int .i64 (r275))]) ?_
    refine wv 88 (.agg ⟨(Z4 s274)⟩) ?_
    refine wv 89 (.int .i64 (r275)) ?_
    refine zwd fun Kq kq => ?_
    refine zda (Z44) H287 ?_
    intro b289 w290 H291
    refine kq _ _ ?_
    clear kq Kq
    refine zwd fun Kq kq => ?_
    refine Z2k (Z4 s274) H291 16 ?_
    intro w293 (H294 : Sat w [Z6 w (fun _ => False), Z0 b2 31 (Z4 y), Z0 b6 34 (Zf q), Z0 b10 36 (Z3 cf cn), Z0 b14 36 (Z7), Z0 b_ 110 (Zo mb_), (Zm mb_ L0), Z0 r_ 98 (Ze a279 L281.length c280), (Zn a279 L281 c280), Z0 x14 40 (Zb b_ r_), Z0 b48 45 (Zj a276 L278.length c277), (Zd a276 L278 c277), Z0o (stC X :: Bi), (Zi aai Ai aci), Z0 x19 24 (Z3 (Z8 (A1.getD i ac0).n.cl 3) (1 + Z8 (A1.getD i ac0).n.sq 5)), Z0 x20 53 (Z0g X), Z0 b289 31 (Z4 s274)] w293)
    refine kq _ _ ?_
    clear kq Kq
    refine wv 22 (.int .i64 (r275)) ?_
    apply ZQ
    have H296 := H294.pk [0, 1, 2, 3, 4, 5, 6, 7, 8, 9, 10, 11, 12, 13, 14, 15, 16]
    have hxx := hX.x
    unfold CoB at hxx
    have htl := Z95 hX
    have hpb := Zbz d285 hcL hX
    have hp3 := Zcz (P := fun c => c.S.length = 3) d285 hS3 hX3
    refine ZJ ?_ ⟨b289, s274, r275, L278, a276, c277, L281, a279, c280, rfl, rfl, hpb.1, (by have q := hpb.2; omega), (fun q_ => ⟨(z283 q_).2, by rw [(z283 q_).1]; exact ⟨by show (2 : Int) ≤ _; decide, hxx.1.1, hxx.1.2.1, htl.1, htl.2⟩, by rw [(z283 q_).1]; rfl⟩), z284, hp3, H296⟩
    exact zs
   rintro f297 w298 ⟨x21, s1, er, L1, la1, lc1, L2, ra2, rc2, v300, v301, hcL1, hlL1, hk0, hk1, hS31, H299⟩
   refine ZF 21 _ v300 ?_
   refine ZF 22 _ v301 ?_
   apply zsl
   refine wv 90 (.int .i64 (er)) ?_
   refine wv 91 (.bool (decide (er = 0))) ?_
   apply znt
   refine (Zl (decide (er = 0))).elim (fun b302 => ?_) (fun b302 => ?_)
   ·have g303 := of_decide_eq_true b302
    refine Z1o _ b302 ?_
    refine Z0X [92, 93, 94, 95, 96] (fun G_ W_ => (L2.Nodup) ∧ (L2.length ≤ L0.length + 1) ∧ (SgOk L2) ∧ (Z8E s1) ∧ Sat w [Z6 w (fun _ => False), Z0 b2 31 (Z4 y), Z0 b6 34 (Zf q), Z0 b10 36 (Z3 cf cn), Z0 b14 36 (Z7), Z0 b_ 110 (Zo mb_), (Zm mb_ L2), Z0 r_ 98 (Ze ra2 L2.length rc2), (Zn ra2 L2 rc2), Z0 x14 40 (Zb b_ r_), Z0 b48 45 (Zj la1 L1.length lc1), (Zd la1 L1 lc1), Z0o (stC X :: Bi), (Zi aai Ai aci), Z0 x19 24 (Z3 (Z8 (A1.getD i ac0).n.cl 3) (1 + Z8 (A1.getD i ac0).n.sq 5)), Z0 x20 53 (Z0g X), Z0 x21 31 (Z4 s1)] W_) ?_ ?_
    ·obtain ⟨hL2a, hs1, hyA⟩ := hk0 (by omega)
     have hL2 : L2 = Zk L0 ⟨2, Z1H s1⟩ := by rw [hL2a, hyA]
     have hn2 : L2.Nodup := by rw [hL2]; exact Z1S hn0 _
     have hl2 : L2.length ≤ L0.length + 1 := by rw [hL2]; exact Z20 _ _
     have hsg2 : SgOk L2 := by rw [hL2]; exact hsg0.sign (.inl ⟨by show (0 : Int) ≤ 2; decide, by show (2 : Int) < 4; decide⟩)
     refine Z00 H299 [Z6 w (fun _ => False), Z0 b2 31 (Z4 y), Z0 b6 34 (Zf q), Z0 b10 36 (Z3 cf cn), Z0 b14 36 (Z7), Z0 x14 40 (Zb b_ r_), Z0 x19 24 (Z3 (Z8 (A1.getD i ac0).n.cl 3) (1 + Z8 (A1.getD i ac0).n.sq 5)), Z0 x20 53 (Z0g X), Z0 x21 31 (Z4 s1)] 5 rfl (by kernel_rfl) (fun Hx => (Hx.pk [0, 1, 2, 3, 4, 9, 14, 15, 16])) ?_
     intro w306 H307 S308
     refine hv0 0 S308 92 (pt x14 0) ?_
     refine hv0 1 S308 93 (pt b_ 0) ?_ (he := fun _ H' => (Z2 rfl (by kernel_rfl) (H'.cell 5 rfl rfl)))
     refine hv0 2 S308 94 (.agg ⟨(Z4 s1)⟩) ?_ (he := fun _ H' => (Zc (vs := (Z4 s1)) rfl (by kernel_rfl) (by kernel_rfl) (by exact Nat.le_of_ble_eq_true (by kernel_rfl)) (H'.at 8 rfl) (by kernel_rfl)))
     refine Z09 3 fun Kq kq => ?_
     refine zdc 95 (Z2G w306 s1 hs1) ?_
     rintro _ w310 ⟨u311, rfl, k312, p313, q314⟩
     have H315 := H307.addU p313 k312 q314
     obtain ⟨a316, c317, rfl⟩ := Z1 (H315.at 17 rfl)
     refine ⟨_, rfl, ?_⟩
     have S318 := H315.pk [0, 1, 2, 3, 4, 9, 14, 15, 16]
     refine kq _ _ S318 ?_
     clear kq Kq
     refine Z09 4 fun Kq kq => ?_
     refine zdc 96 (Z31 w310 b_ mb_ L0 (.slice a316 ((Z1H s1).length) c317) (Z1H s1) (H315.fn [5, 6, 17]) (by omega) 2) ?_
     rintro _ w320 ⟨rfl, T321⟩
     have H322 : Sat w [Z6 w (fun _ => False), Z0 b2 31 (Z4 y), Z0 b6 34 (Zf q), Z0 b10 36 (Z3 cf cn), Z0 b14 36 (Z7), Z0 b_ 110 (Zo mb_), (Zm mb_ (Zk L0 (⟨2, (Z1H s1)⟩ : Signed))), Z0 r_ 98 (Ze ra2 L2.length rc2), (Zn ra2 L2 rc2), Z0 x14 40 (Zb b_ r_), Z0 b48 45 (Zj la1 L1.length lc1), (Zd la1 L1 lc1), Z0o (stC X :: Bi), (Zi aai Ai aci), Z0 x19 24 (Z3 (Z8 (A1.getD i ac0).n.cl 3) (1 + Z8 (A1.getD i ac0).n.sq 5)), Z0 x20 53 (Z0g X), Z0 x21 31 (Z4 s1), (Z0Q a316 (Z1H s1) c317)] w320 := (Sat.turnL (L' := [Z0 b_ 110 (Zo mb_), (Zm mb_ (Zk L0 (⟨2, (Z1H s1)⟩ : Signed))), (Z0Q a316 (Z1H s1) c317)]) (R := [Z6 w (fun _ => False), Z0 b2 31 (Z4 y), Z0 b6 34 (Zf q), Z0 b10 36 (Z3 cf cn), Z0 b14 36 (Z7), Z0 r_ 98 (Ze ra2 L2.length rc2), (Zn ra2 L2 rc2), Z0 x14 40 (Zb b_ r_), Z0 b48 45 (Zj la1 L1.length lc1), (Zd la1 L1 lc1), Z0o (stC X :: Bi), (Zi aai Ai aci), Z0 x19 24 (Z3 (Z8 (A1.getD i ac0).n.cl 3) (1 + Z8 (A1.getD i ac0).n.sq 5)), Z0 x20 53 (Z0g X), Z0 x21 31 (Z4 s1)]) H315 [5, 6, 17] [0, 1, 2, 3, 4, 7, 8, 9, 10, 11, 12, 13, 14, 15, 16] (by decide) (by kernel_rfl) rfl T321).pk [3, 4, 5, 6, 7, 0, 1, 8, 9, 10, 11, 12, 13, 14, 15, 16, 17, 2]
     refine ⟨_, rfl, ?_⟩
     have S323 := H322.pk [0, 1, 2, 3, 4, 9, 14, 15, 16]
     refine kq _ _ S323 ?_
     clear kq Kq
     refine zhf ?_
     have H324 := H322.pk [0, 1, 2, 3, 4, 5, 6, 7, 8, 9, 10, 11, 12, 13, 14, 15, 16]
     have H325 : Sat w [Z6 w (fun _ => False), Z0 b2 31 (([(.int .i64 (y.r)), (.int .i64 (y.cl)), (.int .i64 (y.seq))] : List Value) ++ hc y.h ++ ([(.int .u64 (y.t)), (.int .i64 (y.sb)), (.int .i64 (y.sm))] : List Value)), Z0 b6 34 ([(.int .i64 (q.r)), (.int .i64 (q.e)), (.int .u64 (q.f)), (.slice q.ca q.C.length q.cc), (.int .i64 (q.sb)), (.int .i64 (q.sm))] : List Value), Z0 b10 36 ([(.int .i64 (cf)), (.int .i64 (cn))] : List Value), Z0 b14 36 ([(.int .i64 (1)), (.int .i64 (3))] : List Value), Z0 b_ 110 ([(.map (some mb_))] : List Value), Z3d mb_ Z0e (Value.int .i64) (Z04 L2), Z0 r_ 98 ([(.slice ra2 L2.length rc2)] : List Value), ZH 114 2 (.slice ra2 L2.length rc2) L2.length (L2.flatMap Z43), Z0 x14 40 ([(pt b_ 0), (pt r_ 0)] : List Value), Z0 b48 45 ([(.int .i64 (1)), (.int .i64 (3)), (.int .i64 (2)), (.slice la1 L1.length lc1)] : List Value), ZH 53 38 (.slice la1 L1.length lc1) L1.length (L1.flatMap Z0h), Z0o (stC X :: Bi), ZH 31 38 (.slice aai Ai.length aci) Ai.length (Ai.flatMap Z0J), Z0 x19 24 ([(.int .i64 (Z8 (A1.getD i ac0).n.cl 3)), (.int .i64 (1 + Z8 (A1.getD i ac0).n.sq 5))] : List Value), Z0 x20 53 (([(.int .i64 (X.x.cl)), (.int .i64 (X.x.seq))] : List Value) ++ hc X.x.h ++ ([(.int .i64 (X.x.len)), (.int .i64 (X.x.sb)), (.int .i64 (X.x.sm)), (.slice X.sa X.S.length X.sc)] : List Value)), Z0 x21 31 (([(.int .i64 (s1.r)), (.int .i64 (s1.cl)), (.int .i64 (s1.seq))] : List Value) ++ hc s1.h ++ ([(.int .u64 (s1.t)), (.int .i64 (s1.sb)), (.int .i64 (s1.sm))] : List Value))] w320 := by rw [hL2]; rw [hL2] at H324; exact H324
     refine ZJ ?_ ⟨hn2, hl2, hsg2, hs1, H325⟩
     exact zs
    rintro f326 w327 ⟨hn2, hl2, hsg2, hs1, H328⟩
    apply ZU
    refine wv 97 (.slice aai Ai.length aci) ?_
    refine zwN 98 (Z4 s1) (H328.at 16 rfl) ?_
    refine zwd fun Kq kq => ?_
    refine Z3o 31 38 80 (.agg ⟨(Z44)⟩) [(0, (.agg ⟨(Z4 s1)⟩))] (Z4 s1) H328 ?_
    intro b330 w331 H332
    refine kq _ _ ?_
    clear kq Kq
    refine zwd fun Kq kq => ?_
    refine Z14 (T := 46) (e := 31) (size := 38) (bytes := 80) rfl H332 (by kernel_rfl) 13 17 rfl rfl rfl rfl (by kernel_rfl) (by omega) (by omega) ?_
    intro v334 w335 (H336 : Sat w [Z6 w (fun _ => False), Z0 b2 31 (Z4 y), Z0 b6 34 (Zf q), Z0 b10 36 (Z3 cf cn), Z0 b14 36 (Z7), Z0 b_ 110 (Zo mb_), (Zm mb_ L2), Z0 r_ 98 (Ze ra2 L2.length rc2), (Zn ra2 L2 rc2), Z0 x14 40 (Zb b_ r_), Z0 b48 45 (Zj la1 L1.length lc1), (Zd la1 L1 lc1), Z0o (stC X :: Bi), ZH 31 38 v334 (Ai.length + 1) ((Ai.flatMap Z0J) ++ (Z4 s1)), Z0 x19 24 (Z3 (Z8 (A1.getD i ac0).n.cl 3) (1 + Z8 (A1.getD i ac0).n.sq 5)), Z0 x20 53 (Z0g X), Z0 x21 31 (Z4 s1), ZH 31 38 (.slice (some ⟨b330, 0, none⟩) 1 1) 1 (Z4 s1)] w335)
    have H339 := H336.ct 13 rfl (ZH 31 38 v334 ((Ai ++ [s1]).length) ((Ai ++ [s1]).flatMap Z0J)) ja
    obtain ⟨a337, c338, rfl⟩ := Z1 (H339.at 13 rfl)
    refine kq _ _ ?_
    clear kq Kq
    refine wv 17 (.slice a337 ((Ai ++ [s1]).length) c338) ?_
    apply ZQ
    apply Zq
    have H340 := H339.pk [0, 1, 2, 3, 4, 5, 6, 7, 8, 9, 10, 11, 12, 13]
    refine ZJ ?_ ⟨(stC X :: Bi), L1, la1, lc1, L2, ra2, rc2, (Ai ++ [s1]), a337, c338, rfl, hcL1, hlL1, hn2, (by omega), hsg2, (fun s_ h_ => (List.mem_append.1 h_).elim (hAi s_) (fun e_ => by rw [List.mem_singleton.1 e_]; exact hs1)), (by rw [List.length_append, List.length_cons, List.length_nil]; omega), hS31, H340⟩
    exact zs
   have g341 := of_decide_eq_false b302
   refine Z18 _ b302 ?_
   apply ZL
   apply Zq
   have H343 := H299.pk [0, 1, 2, 3, 4, 5, 6, 7, 8, 9, 10, 11, 12, 13]
   have hL20 := hk1 (by omega)
   have H344 : Sat w [Z6 w (fun _ => False), Z0 b2 31 (([(.int .i64 (y.r)), (.int .i64 (y.cl)), (.int .i64 (y.seq))] : List Value) ++ hc y.h ++ ([(.int .u64 (y.t)), (.int .i64 (y.sb)), (.int .i64 (y.sm))] : List Value)), Z0 b6 34 ([(.int .i64 (q.r)), (.int .i64 (q.e)), (.int .u64 (q.f)), (.slice q.ca q.C.length q.cc), (.int .i64 (q.sb)), (.int .i64 (q.sm))] : List Value), Z0 b10 36 ([(.int .i64 (cf)), (.int .i64 (cn))] : List Value), Z0 b14 36 ([(.int .i64 (1)), (.int .i64 (3))] : List Value), Z0 b_ 110 ([(.map (some mb_))] : List Value), Z3d mb_ Z0e (Value.int .i64) (Z04 L0), Z0 r_ 98 ([(.slice ra2 L0.length rc2)] : List Value), ZH 114 2 (.slice ra2 L0.length rc2) L0.length (L0.flatMap Z43), Z0 x14 40 ([(pt b_ 0), (pt r_ 0)] : List Value), Z0 b48 45 ([(.int .i64 (1)), (.int .i64 (3)), (.int .i64 (2)), (.slice la1 L1.length lc1)] : List Value), ZH 53 38 (.slice la1 L1.length lc1) L1.length (L1.flatMap Z0h), Z0o (stC X :: Bi), ZH 31 38 (.slice aai Ai.length aci) Ai.length (Ai.flatMap Z0J)] w298 := by rw [hL20] at H343; exact H343
   refine ZJ ?_ ⟨(stC X :: Bi), L1, la1, lc1, L0, ra2, rc2, Ai, aai, aci, rfl, hcL1, hlL1, hn0, (by omega), hsg0, hAi, (by omega), hS31, H344⟩
   exact zs
  rintro f345 w346 ⟨Bj, Lj, laj, lcj, Lbj, raj, rcj, Aj, aaj, acj, v348, hcLj, hlLj, hnj, hlbj, hsgj, hAj, hlAj, hS3j, H347⟩
  refine ZF 17 _ v348 ?_
  apply ZU
  refine wv 48 (.int .i64 ((i : Int))) ?_
  refine zwi 49 ((i : Int) + 1) ?_
  refine wv 18 (.int .i64 ((i : Int) + 1)) ?_
  apply ZQ
  refine Zw ?_ _ ⟨(i + 1), Bj, Lj, laj, lcj, Lbj, raj, rcj, Aj, aaj, acj, rfl, rfl, (by omega), (by omega), hcLj, hlLj, hnj, (by omega), hsgj, hAj, hlAj, hS3j, H347, rfl⟩ (by omega)
  exact zs
 refine Z18 _ b71 ?_
 apply zxb
 apply ztn
 refine Z0X [23, 24, 101, 102, 103, 104, 105, 106, 107] (fun G_ W_ => ∃ (x23 : Nat) (D : List CeR) (ca : Option Addr) (cc : Nat) (mk : Int) (L3 : List Signed) (ra3 : Option Addr) (rc3 : Nat), G_ 23 = (pt x23 0) ∧ (∀ c ∈ D, CeT Bi c) ∧ (D.length ≤ 6) ∧ (L3.Nodup) ∧ (L3.length ≤ 79) ∧ (SgOk L3) ∧ (L3 = Zk Lbi ⟨2, ZB (⟨2, 1, 500, ca, cc, 0, 0, D⟩ : PrR)⟩) ∧ (0 ≤ mk ∧ mk ≤ 1000) ∧ (∀ c ∈ D, c.S.length = 3) ∧ Sat w [Z6 w (fun _ => False), Z0 b2 31 (Z4 y), Z0 b6 34 (Zf q), Z0 b10 36 (Z3 cf cn), Z0 b14 36 (Z7), Z0 b_ 110 (Zo mb_), (Zm mb_ Lbi), Z0 r_ 98 (Ze ra3 L3.length rc3), (Zn ra3 L3 rc3), Z0 x14 40 (Zb b_ r_), Z0 b48 45 (Zj lai Li.length lci), (Zd lai Li lci), Z0o Bi, (Zi aai Ai aci), Z0 x23 34 (Z0a ca D.length cc mk), (Zd ca D cc)] W_) ?_ ?_
 ·apply ZU
  refine wv 102 (pt b48 0) ?_
  refine wv 103 (pt x14 1) ?_
  refine zw1 104 (pt r_ 0) (H69.cell 9 rfl rfl) ?_
  refine zwd fun Kq kq => ?_
  refine zdc 105 (Z7G w68 b48 1 3 2 lai lci Li Bi r_ rai rci Lbi (H69.fn [10, 11, 12, 7, 8]) (by omega) hcL (by decide) hn (by omega) 1 0 500 (by decide) (by decide)) ?_
  rintro _ w351 ⟨a352, c353, a354, c355, rfl, T356⟩
  have H357 : Sat w [Z6 w (fun _ => False), Z0 b2 31 (Z4 y), Z0 b6 34 (Zf q), Z0 b10 36 (Z3 cf cn), Z0 b14 36 (Z7), Z0 b_ 110 (Zo mb_), (Zm mb_ Lbi), Z0 r_ 98 (Ze a354 ((Zk Lbi (⟨2, ZB (⟨2, 1, 500, a352, c353, 0, 0, (Z05 Li 0 500)⟩ : PrR)⟩ : Signed)).length) c355), (Zn a354 (Zk Lbi (⟨2, ZB (⟨2, 1, 500, a352, c353, 0, 0, (Z05 Li 0 500)⟩ : PrR)⟩ : Signed)) c355), Z0 x14 40 (Zb b_ r_), Z0 b48 45 (Zj lai Li.length lci), (Zd lai Li lci), Z0o Bi, (Zi aai Ai aci), (Zd a352 (Z05 Li 0 500) c353)] w351 := (Sat.turnL (L' := [Z0 b48 45 (Zj lai Li.length lci), (Zd lai Li lci), Z0o Bi, Z0 r_ 98 (Ze a354 ((Zk Lbi (⟨2, ZB (⟨2, 1, 500, a352, c353, 0, 0, (Z05 Li 0 500)⟩ : PrR)⟩ : Signed)).length) c355), (Zn a354 (Zk Lbi (⟨2, ZB (⟨2, 1, 500, a352, c353, 0, 0, (Z05 Li 0 500)⟩ : PrR)⟩ : Signed)) c355), (Zd a352 (Z05 Li 0 500) c353)]) (R := [Z6 w (fun _ => False), Z0 b2 31 (Z4 y), Z0 b6 34 (Zf q), Z0 b10 36 (Z3 cf cn), Z0 b14 36 (Z7), Z0 b_ 110 (Zo mb_), (Zm mb_ Lbi), Z0 x14 40 (Zb b_ r_), (Zi aai Ai aci)]) H69 [10, 11, 12, 7, 8] [0, 1, 2, 3, 4, 5, 6, 9, 13] (by decide) (by kernel_rfl) rfl T356).pk [6, 7, 8, 9, 10, 11, 12, 3, 4, 13, 0, 1, 2, 14, 5]
  refine ⟨_, rfl, ?_⟩
  refine kq _ _ ?_
  clear kq Kq
  refine wv 101 (.tuple #[(.agg ⟨(Z0a a352 ((Z05 Li 0 500).length) c353 (Zu (Zk Lbi (⟨2, ZB (⟨2, 1, 500, a352, c353, 0, 0, (Z05 Li 0 500)⟩ : PrR)⟩ : Signed)) (⟨2, ZB (⟨2, 1, 500, a352, c353, 0, 0, (Z05 Li 0 500)⟩ : PrR)⟩ : Signed)))⟩), (.int .i64 (0))]) ?_
  refine wv 106 (.agg ⟨(Z0a a352 ((Z05 Li 0 500).length) c353 (Zu (Zk Lbi (⟨2, ZB (⟨2, 1, 500, a352, c353, 0, 0, (Z05 Li 0 500)⟩ : PrR)⟩ : Signed)) (⟨2, ZB (⟨2, 1, 500, a352, c353, 0, 0, (Z05 Li 0 500)⟩ : PrR)⟩ : Signed)))⟩) ?_
  refine wv 107 (.int .i64 (0)) ?_
  refine zwd fun Kq kq => ?_
  refine zda (Z8f) H357 ?_
  intro b359 w360 H361
  refine kq _ _ ?_
  clear kq Kq
  refine zwd fun Kq kq => ?_
  refine Z2k (Z0a a352 ((Z05 Li 0 500).length) c353 (Zu (Zk Lbi (⟨2, ZB (⟨2, 1, 500, a352, c353, 0, 0, (Z05 Li 0 500)⟩ : PrR)⟩ : Signed)) (⟨2, ZB (⟨2, 1, 500, a352, c353, 0, 0, (Z05 Li 0 500)⟩ : PrR)⟩ : Signed))) H361 15 ?_
  intro w363 (H364 : Sat w [Z6 w (fun _ => False), Z0 b2 31 (Z4 y), Z0 b6 34 (Zf q), Z0 b10 36 (Z3 cf cn), Z0 b14 36 (Z7), Z0 b_ 110 (Zo mb_), (Zm mb_ Lbi), Z0 r_ 98 (Ze a354 ((Zk Lbi (⟨2, ZB (⟨2, 1, 500, a352, c353, 0, 0, (Z05 Li 0 500)⟩ : PrR)⟩ : Signed)).length) c355), (Zn a354 (Zk Lbi (⟨2, ZB (⟨2, 1, 500, a352, c353, 0, 0, (Z05 Li 0 500)⟩ : PrR)⟩ : Signed)) c355), Z0 x14 40 (Zb b_ r_), Z0 b48 45 (Zj lai Li.length lci), (Zd lai Li lci), Z0o Bi, (Zi aai Ai aci), (Zd a352 (Z05 Li 0 500) c353), Z0 b359 34 (Z0a a352 ((Z05 Li 0 500).length) c353 (Zu (Zk Lbi (⟨2, ZB (⟨2, 1, 500, a352, c353, 0, 0, (Z05 Li 0 500)⟩ : PrR)⟩ : Signed)) (⟨2, ZB (⟨2, 1, 500, a352, c353, 0, 0, (Z05 Li 0 500)⟩ : PrR)⟩ : Signed)))] w363)
  refine kq _ _ ?_
  clear kq Kq
  refine wv 24 (.int .i64 (0)) ?_
  apply ZQ
  have H366 := H364.pk [0, 1, 2, 3, 4, 5, 6, 7, 8, 9, 10, 11, 12, 13, 15, 14]
  have hmk := Z2n (Z3y Lbi (⟨2, ZB (⟨2, 1, 500, a352, c353, 0, 0, (Z05 Li 0 500)⟩ : PrR)⟩ : Signed))
  have hl3 := Z20 Lbi (⟨2, ZB (⟨2, 1, 500, a352, c353, 0, 0, (Z05 Li 0 500)⟩ : PrR)⟩ : Signed)
  refine ZJ ?_ ⟨b359, (Z05 Li 0 500), a352, c353, Zu (Zk Lbi (⟨2, ZB (⟨2, 1, 500, a352, c353, 0, 0, (Z05 Li 0 500)⟩ : PrR)⟩ : Signed)) (⟨2, ZB (⟨2, 1, 500, a352, c353, 0, 0, (Z05 Li 0 500)⟩ : PrR)⟩ : Signed), (Zk Lbi (⟨2, ZB (⟨2, 1, 500, a352, c353, 0, 0, (Z05 Li 0 500)⟩ : PrR)⟩ : Signed)), a354, c355, rfl, (fun c_ h_ => hcL c_ (Z3Q h_)), (Nat.le_trans Z5k (by omega)), (Z1S hn _), (by omega), (hsg.sign (.inl ⟨by show (0 : Int) ≤ 2; decide, by show (2 : Int) < 4; decide⟩)), rfl, (by omega), (fun c_ h_ => hS3 c_ (Z3Q h_)), H366⟩
  exact zs
 rintro f367 w368 ⟨x23, D, ca, cc, mk, L3, ra3, rc3, v370, hcD, hDl, hn3, hl3, hsg3, hL3, hmk, hD3, H369⟩
 refine ZF 23 _ v370 ?_
 refine Z0X [108, 109, 110, 111, 112] (fun G_ W_ => True ∧ Sat w [Z6 w (fun _ => False), Z0 b2 31 (Z4 y), Z0 b6 34 (Zf q), Z0 b10 36 (Z3 cf cn), Z0 b14 36 (Z7), Z0 b_ 110 (Zo mb_), (Zm mb_ L3), Z0 r_ 98 (Ze ra3 L3.length rc3), (Zn ra3 L3 rc3), Z0 x14 40 (Zb b_ r_), Z0 b48 45 (Zj lai Li.length lci), (Zd lai Li lci), Z0o Bi, (Zi aai Ai aci), Z0 x23 34 (Z0a ca D.length cc mk), (Zd ca D cc)] W_) ?_ ?_
 ·refine Z00 H369 [Z6 w (fun _ => False), Z0 b2 31 (Z4 y), Z0 b6 34 (Zf q), Z0 b10 36 (Z3 cf cn), Z0 b14 36 (Z7), Z0 x14 40 (Zb b_ r_), Z0 x23 34 (Z0a ca D.length cc mk)] 5 rfl (by kernel_rfl) (fun Hx => (Hx.pk [0, 1, 2, 3, 4, 9, 14])) ?_
  intro w372 H373 S374
  refine hv0 0 S374 108 (pt x14 0) ?_
  refine hv0 1 S374 109 (pt b_ 0) ?_ (he := fun _ H' => (Z2 rfl (by kernel_rfl) (H'.cell 5 rfl rfl)))
  refine hv0 2 S374 110 (.agg ⟨(Z0a ca D.length cc mk)⟩) ?_ (he := fun _ H' => (Zc (vs := (Z0a ca D.length cc mk)) rfl (by kernel_rfl) (by kernel_rfl) (by exact Nat.le_of_ble_eq_true (by kernel_rfl)) (H'.at 6 rfl) (by kernel_rfl)))
  refine Z09 3 fun Kq kq => ?_
  refine zdc 111 (Z1l w372 (⟨(2 : Int), (1 : Int), (500 : Int), ca, cc, (2 : Int), mk, D⟩ : PrR) (ListAt.row ZZ (by decide) (H373.at 15 rfl)) (fun i hi => ((hcD _ (Z1r hi)).cb (H373.at 12 rfl)).big) (by show D.length ≤ 64; (first | omega | (rw [List.length_set]; omega))) ⟨by show (2 : Int) ≤ _; omega, by show (1 : Int) ≤ _; omega, by show 0 ≤ (500 : Int); omega, by show (500 : Int) < _; omega⟩) ?_
  rintro _ w376 ⟨u377, rfl, k378, p379, q380⟩
  have H381 := H373.addU p379 k378 q380
  obtain ⟨a382, c383, rfl⟩ := Z1 (H381.at 16 rfl)
  refine ⟨_, rfl, ?_⟩
  have S384 := H381.pk [0, 1, 2, 3, 4, 9, 14]
  refine kq _ _ S384 ?_
  clear kq Kq
  refine Z09 4 fun Kq kq => ?_
  refine zdc 112 (Z31 w376 b_ mb_ Lbi (.slice a382 ((ZB (⟨(2 : Int), (1 : Int), (500 : Int), ca, cc, (2 : Int), mk, D⟩ : PrR)).length) c383) (ZB (⟨(2 : Int), (1 : Int), (500 : Int), ca, cc, (2 : Int), mk, D⟩ : PrR)) (H381.fn [5, 6, 16]) (by omega) 2) ?_
  rintro _ w386 ⟨rfl, T387⟩
  have H388 : Sat w [Z6 w (fun _ => False), Z0 b2 31 (Z4 y), Z0 b6 34 (Zf q), Z0 b10 36 (Z3 cf cn), Z0 b14 36 (Z7), Z0 b_ 110 (Zo mb_), (Zm mb_ (Zk Lbi (⟨2, (ZB (⟨(2 : Int), (1 : Int), (500 : Int), ca, cc, (2 : Int), mk, D⟩ : PrR))⟩ : Signed))), Z0 r_ 98 (Ze ra3 L3.length rc3), (Zn ra3 L3 rc3), Z0 x14 40 (Zb b_ r_), Z0 b48 45 (Zj lai Li.length lci), (Zd lai Li lci), Z0o Bi, (Zi aai Ai aci), Z0 x23 34 (Z0a ca D.length cc mk), (Zd ca D cc), (Z0Q a382 (ZB (⟨(2 : Int), (1 : Int), (500 : Int), ca, cc, (2 : Int), mk, D⟩ : PrR)) c383)] w386 := (Sat.turnL (L' := [Z0 b_ 110 (Zo mb_), (Zm mb_ (Zk Lbi (⟨2, (ZB (⟨(2 : Int), (1 : Int), (500 : Int), ca, cc, (2 : Int), mk, D⟩ : PrR))⟩ : Signed))), (Z0Q a382 (ZB (⟨(2 : Int), (1 : Int), (500 : Int), ca, cc, (2 : Int), mk, D⟩ : PrR)) c383)]) (R := [Z6 w (fun _ => False), Z0 b2 31 (Z4 y), Z0 b6 34 (Zf q), Z0 b10 36 (Z3 cf cn), Z0 b14 36 (Z7), Z0 r_ 98 (Ze ra3 L3.length rc3), (Zn ra3 L3 rc3), Z0 x14 40 (Zb b_ r_), Z0 b48 45 (Zj lai Li.length lci), (Zd lai Li lci), Z0o Bi, (Zi aai Ai aci), Z0 x23 34 (Z0a ca D.length cc mk), (Zd ca D cc)]) H381 [5, 6, 16] [0, 1, 2, 3, 4, 7, 8, 9, 10, 11, 12, 13, 14, 15] (by decide) (by kernel_rfl) rfl T387).pk [3, 4, 5, 6, 7, 0, 1, 8, 9, 10, 11, 12, 13, 14, 15, 16, 2]
  refine ⟨_, rfl, ?_⟩
  have S389 := H388.pk [0, 1, 2, 3, 4, 9, 14]
  refine kq _ _ S389 ?_
  clear kq Kq
  refine zhf ?_
  have H390 := H388.pk [0, 1, 2, 3, 4, 5, 6, 7, 8, 9, 10, 11, 12, 13, 14, 15]
  have H391 : Sat w [Z6 w (fun _ => False), Z0 b2 31 (([(.int .i64 (y.r)), (.int .i64 (y.cl)), (.int .i64 (y.seq))] : List Value) ++ hc y.h ++ ([(.int .u64 (y.t)), (.int .i64 (y.sb)), (.int .i64 (y.sm))] : List Value)), Z0 b6 34 ([(.int .i64 (q.r)), (.int .i64 (q.e)), (.int .u64 (q.f)), (.slice q.ca q.C.length q.cc), (.int .i64 (q.sb)), (.int .i64 (q.sm))] : List Value), Z0 b10 36 ([(.int .i64 (cf)), (.int .i64 (cn))] : List Value), Z0 b14 36 ([(.int .i64 (1)), (.int .i64 (3))] : List Value), Z0 b_ 110 ([(.map (some mb_))] : List Value), Z3d mb_ Z0e (Value.int .i64) (Z04 L3), Z0 r_ 98 ([(.slice ra3 L3.length rc3)] : List Value), ZH 114 2 (.slice ra3 L3.length rc3) L3.length (L3.flatMap Z43), Z0 x14 40 ([(pt b_ 0), (pt r_ 0)] : List Value), Z0 b48 45 ([(.int .i64 (1)), (.int .i64 (3)), (.int .i64 (2)), (.slice lai Li.length lci)] : List Value), ZH 53 38 (.slice lai Li.length lci) Li.length (Li.flatMap Z0h), Z0o Bi, ZH 31 38 (.slice aai Ai.length aci) Ai.length (Ai.flatMap Z0J), Z0 x23 34 ([(.int .i64 (2)), (.int .i64 (1)), (.int .u64 (500)), (.slice ca D.length cc), (.int .i64 (2)), (.int .i64 (mk))] : List Value), ZH 53 38 (.slice ca D.length cc) D.length (D.flatMap Z0h)] w386 := by rw [hL3]; rw [hL3] at H390; exact H390
  refine ZJ ?_ ⟨trivial, H391⟩
  exact zs
 rintro f392 w393 ⟨_, H394⟩
 have hcV : ∀ c_ ∈ D, CeV Bi c_ := fun c_ h_ => (hcD c_ h_).v
 refine Z0X (([25, 26, 27, 113, 114, 115, 116, 117, 118, 119, 120, 121, 122, 123, 124, 125, 126, 127, 128, 129, 130, 131, 132, 133, 134, 135, 136, 137, 138, 139, 140, 141, 142, 143, 144, 145, 146, 147, 148, 149] : List Nat) ++ ([150, 151, 152, 153, 154, 155, 156, 157, 158, 159, 160, 161, 162, 163, 164, 165, 166, 167, 168, 169, 170, 171, 172, 173, 174, 175, 176, 177, 178, 179, 180, 181, 182, 183, 184, 185, 186, 187, 188, 189] : List Nat) ++ ([190, 191, 192, 193, 194, 195, 196, 197, 198, 199, 200, 201, 202, 203, 204, 205, 206, 207, 208, 209, 210, 211, 212, 213] : List Nat)) (fun G_ W_ => ∃ (r4 e4 f4 sb4 sm4 : Int) (ca4 : Option Addr) (cc4 : Nat) (C : List CeR) (L4 : List Signed) (ra4 : Option Addr) (rc4 : Nat), (0 ≤ r4 ∧ r4 ≤ 3) ∧ (0 ≤ e4 ∧ e4 ≤ 2) ∧ (0 ≤ f4 ∧ f4 ≤ 501) ∧ (∀ c_ ∈ C, CeV Bi c_) ∧ (C.length ≤ 6) ∧ (L4.Nodup) ∧ (L4.length ≤ 82) ∧ (SgOk L4) ∧ Sat w [Z6 w (fun _ => False), Z0 b2 31 (Z4 y), Z0 b6 34 (Zf q), Z0 b10 36 (Z3 cf cn), Z0 b14 36 (Z7), Z0 b_ 110 (Zo mb_), (Zm mb_ L4), Z0 r_ 98 (Ze ra4 L4.length rc4), (Zn ra4 L4 rc4), Z0 x14 40 (Zb b_ r_), Z0 b48 45 (Zj lai Li.length lci), (Zd lai Li lci), Z0o Bi, (Zi aai Ai aci), Z0 x23 34 (Z0b r4 e4 f4 ca4 C.length cc4 sb4 sm4), Z5q (.slice ca4 C.length cc4) C] W_) ?_ ?_
 ·apply zsl
  refine wv 113 (.int .i64 (what)) ?_
  refine zwd fun Kq kq => ?_
  refine zdq 114 (Z1F w393 what 9 (by omega)) H394 ?_
  intro w397 H398
  refine kq _ _ ?_
  clear kq Kq
  apply znt
  apply ZG
  apply zsl
  refine wv 116 (.bool (decide ((Z8 what 9) = 1))) ?_
  refine wv 115 (.bool (decide ((Z8 what 9) = 1))) ?_
  apply znt
  refine (Zl (decide ((Z8 what 9) = 1))).elim (fun b400 => ?_) (fun b400 => ?_)
  ·have g401 := of_decide_eq_true b400
   refine Z1o _ b400 ?_
   apply ZU
   refine wv 117 (pt x23 2) ?_
   refine zw1 118 (.int .u64 (500)) (H398.cell 14 rfl rfl) ?_
   refine wv 119 (.int .u64 (501)) ?_
   refine wv 120 (pt x23 2) ?_
   refine zwd fun Kq kq => ?_
   refine zds ([(.int .u64 (501))] : List Value) (Z5x ca D.length cc mk) H398 14 ?_
   intro w404 H405
   refine kq _ _ ?_
   clear kq Kq
   apply ZQ
   apply Zq
   have H407 : Sat w [Z6 w (fun _ => False), Z0 b2 31 (Z4 y), Z0 b6 34 (Zf q), Z0 b10 36 (Z3 cf cn), Z0 b14 36 (Z7), Z0 b_ 110 (Zo mb_), (Zm mb_ L3), Z0 r_ 98 (Ze ra3 L3.length rc3), (Zn ra3 L3 rc3), Z0 x14 40 (Zb b_ r_), Z0 b48 45 (Zj lai Li.length lci), (Zd lai Li lci), Z0o Bi, (Zi aai Ai aci), Z0 x23 34 (Z5x ca D.length cc mk), Z5q (.slice ca D.length cc) D] w404 := H405.conv 15 rfl (Z1w rfl) (fun _ hb => Z1v hb)
   have H408 := H407.pk [0, 1, 2, 3, 4, 5, 6, 7, 8, 9, 10, 11, 12, 13, 14, 15]
   refine ZJ ?_ ⟨2, 1, 501, 2, mk, ca, cc, D, L3, ra3, rc3, (by omega), (by omega), (by omega), hcV, (by omega), hn3, (by omega), hsg3, H408⟩
   exact zs
  have g409 := of_decide_eq_false b400
  refine Z18 _ b400 ?_
  apply zsl
  refine wv 122 (.bool (decide ((Z8 what 9) = 2))) ?_
  refine wv 121 (.bool (decide ((Z8 what 9) = 2))) ?_
  apply znt
  refine (Zl (decide ((Z8 what 9) = 2))).elim (fun b411 => ?_) (fun b411 => ?_)
  ·have g412 := of_decide_eq_true b411
   refine Z1o _ b411 ?_
   apply ZU
   refine wv 123 (pt x23 1) ?_
   refine zw1 124 (.int .i64 (1)) (H398.cell 14 rfl rfl) ?_
   refine wv 125 (.int .i64 (2)) ?_
   refine wv 126 (pt x23 1) ?_
   refine zwd fun Kq kq => ?_
   refine zds ([(.int .i64 (2))] : List Value) (Z5y ca D.length cc mk) H398 14 ?_
   intro w415 H416
   refine kq _ _ ?_
   clear kq Kq
   apply ZQ
   apply Zq
   have H418 : Sat w [Z6 w (fun _ => False), Z0 b2 31 (Z4 y), Z0 b6 34 (Zf q), Z0 b10 36 (Z3 cf cn), Z0 b14 36 (Z7), Z0 b_ 110 (Zo mb_), (Zm mb_ L3), Z0 r_ 98 (Ze ra3 L3.length rc3), (Zn ra3 L3 rc3), Z0 x14 40 (Zb b_ r_), Z0 b48 45 (Zj lai Li.length lci), (Zd lai Li lci), Z0o Bi, (Zi aai Ai aci), Z0 x23 34 (Z5y ca D.length cc mk), Z5q (.slice ca D.length cc) D] w415 := H416.conv 15 rfl (Z1w rfl) (fun _ hb => Z1v hb)
   have H419 := H418.pk [0, 1, 2, 3, 4, 5, 6, 7, 8, 9, 10, 11, 12, 13, 14, 15]
   refine ZJ ?_ ⟨2, 2, 500, 2, mk, ca, cc, D, L3, ra3, rc3, (by omega), (by omega), (by omega), hcV, (by omega), hn3, (by omega), hsg3, H419⟩
   exact zs
  have g420 := of_decide_eq_false b411
  refine Z18 _ b411 ?_
  apply zsl
  refine wv 128 (.bool (decide ((Z8 what 9) = 3))) ?_
  refine wv 127 (.bool (decide ((Z8 what 9) = 3))) ?_
  apply znt
  refine (Zl (decide ((Z8 what 9) = 3))).elim (fun b422 => ?_) (fun b422 => ?_)
  ·have g423 := of_decide_eq_true b422
   refine Z1o _ b422 ?_
   apply ZU
   refine wv 129 (pt x23 0) ?_
   refine zw1 130 (.int .i64 (2)) (H398.cell 14 rfl rfl) ?_
   refine wv 131 (.int .i64 (3)) ?_
   refine wv 132 (pt x23 0) ?_
   refine zwd fun Kq kq => ?_
   refine zds ([(.int .i64 (3))] : List Value) (Z5z ca D.length cc mk) H398 14 ?_
   intro w426 H427
   refine kq _ _ ?_
   clear kq Kq
   apply ZQ
   apply Zq
   have H429 : Sat w [Z6 w (fun _ => False), Z0 b2 31 (Z4 y), Z0 b6 34 (Zf q), Z0 b10 36 (Z3 cf cn), Z0 b14 36 (Z7), Z0 b_ 110 (Zo mb_), (Zm mb_ L3), Z0 r_ 98 (Ze ra3 L3.length rc3), (Zn ra3 L3 rc3), Z0 x14 40 (Zb b_ r_), Z0 b48 45 (Zj lai Li.length lci), (Zd lai Li lci), Z0o Bi, (Zi aai Ai aci), Z0 x23 34 (Z5z ca D.length cc mk), Z5q (.slice ca D.length cc) D] w426 := H427.conv 15 rfl (Z1w rfl) (fun _ hb => Z1v hb)
   have H430 := H429.pk [0, 1, 2, 3, 4, 5, 6, 7, 8, 9, 10, 11, 12, 13, 14, 15]
   refine ZJ ?_ ⟨3, 1, 500, 2, mk, ca, cc, D, L3, ra3, rc3, (by omega), (by omega), (by omega), hcV, (by omega), hn3, (by omega), hsg3, H430⟩
   exact zs
  have g431 := of_decide_eq_false b422
  refine Z18 _ b422 ?_
  apply zsl
  refine wv 134 (.bool (decide ((Z8 what 9) = 4))) ?_
  refine wv 133 (.bool (decide ((Z8 what 9) = 4))) ?_
  apply znt
  refine (Zl (decide ((Z8 what 9) = 4))).elim (fun b433 => ?_) (fun b433 => ?_)
  ·have g434 := of_decide_eq_true b433
   refine Z1o _ b433 ?_
   apply ZU
   refine wv 135 (pt x23 4) ?_
   refine wv 136 (pt x23 5) ?_
   refine zw1 137 (.int .i64 (mk)) (H398.cell 14 rfl rfl) ?_
   refine zwi 138 (mk - 1) ?_
   refine wv 139 (pt x23 4) ?_
   refine wv 140 (pt x23 5) ?_
   refine zwd fun Kq kq => ?_
   refine zds ([(.int .i64 (mk - 1))] : List Value) (Z0a ca D.length cc (mk - 1)) H398 14 ?_
   intro w437 H438
   refine kq _ _ ?_
   clear kq Kq
   apply ZQ
   apply Zq
   have H440 : Sat w [Z6 w (fun _ => False), Z0 b2 31 (Z4 y), Z0 b6 34 (Zf q), Z0 b10 36 (Z3 cf cn), Z0 b14 36 (Z7), Z0 b_ 110 (Zo mb_), (Zm mb_ L3), Z0 r_ 98 (Ze ra3 L3.length rc3), (Zn ra3 L3 rc3), Z0 x14 40 (Zb b_ r_), Z0 b48 45 (Zj lai Li.length lci), (Zd lai Li lci), Z0o Bi, (Zi aai Ai aci), Z0 x23 34 (Z0a ca D.length cc (mk - 1)), Z5q (.slice ca D.length cc) D] w437 := H438.conv 15 rfl (Z1w rfl) (fun _ hb => Z1v hb)
   have H441 := H440.pk [0, 1, 2, 3, 4, 5, 6, 7, 8, 9, 10, 11, 12, 13, 14, 15]
   refine ZJ ?_ ⟨2, 1, 500, 2, (mk - 1), ca, cc, D, L3, ra3, rc3, (by omega), (by omega), (by omega), hcV, (by omega), hn3, (by omega), hsg3, H441⟩
   exact zs
  have g442 := of_decide_eq_false b433
  refine Z18 _ b433 ?_
  apply zsl
  refine wv 142 (.bool (decide ((Z8 what 9) = 5))) ?_
  refine wv 141 (.bool (decide ((Z8 what 9) = 5))) ?_
  apply znt
  refine (Zl (decide ((Z8 what 9) = 5))).elim (fun b444 => ?_) (fun b444 => ?_)
  ·have g445 := of_decide_eq_true b444
   refine Z1o _ b444 ?_
   apply zsl
   refine wv 143 (pt x23 3) ?_
   refine zw1 144 (.slice ca D.length cc) (H398.cell 14 rfl rfl) ?_
   refine wv 145 (.int .i64 ((D.length : Int))) ?_
   refine wv 146 (.bool (decide ((D.length : Int) > 0))) ?_
   apply znt
   refine (Zl (decide ((D.length : Int) > 0))).elim (fun b447 => ?_) (fun b447 => ?_)
   ·have g448 := of_decide_eq_true b447
    refine Z1o _ b447 ?_
    apply ZU
    refine wv 147 (pt x23 3) ?_
    refine zw1 148 (.slice ca D.length cc) (H398.cell 14 rfl rfl) ?_
    refine wv 149 (.slice (if cc = 1 then ca else ca.map (·.add (1 * 38))) (D.length - 1) (cc - 1)) ?_ (hr := Z3B (E := 53) (q := 1) (by kernel_rfl) (by kernel_rfl) rfl rfl rfl (by omega))
    refine wv 150 (pt x23 3) ?_
    refine zwd fun Kq kq => ?_
    refine zds (Ze (if cc = 1 then ca else ca.map (·.add (1 * 38))) (D.length - 1) (cc - 1)) (Z0a (if cc = 1 then ca else ca.map (·.add (1 * 38))) (D.length - 1) (cc - 1) mk) H398 14 ?_
    intro w451 H452
    refine kq _ _ ?_
    clear kq Kq
    apply ZQ
    apply Zq
    have H454 : Sat w [Z6 w (fun _ => False), Z0 b2 31 (Z4 y), Z0 b6 34 (Zf q), Z0 b10 36 (Z3 cf cn), Z0 b14 36 (Z7), Z0 b_ 110 (Zo mb_), (Zm mb_ L3), Z0 r_ 98 (Ze ra3 L3.length rc3), (Zn ra3 L3 rc3), Z0 x14 40 (Zb b_ r_), Z0 b48 45 (Zj lai Li.length lci), (Zd lai Li lci), Z0o Bi, (Zi aai Ai aci), Z0 x23 34 (Z0a (if cc = 1 then ca else ca.map (·.add (1 * 38))) (D.length - 1) (cc - 1) mk), Z5q (.slice (if cc = 1 then ca else ca.map (·.add (1 * 38))) ((D.drop 1).length) (cc - 1)) (D.drop 1)] w451 := H452.conv 15 rfl (Z9e (k := 1) (by omega) rfl) (fun _ hb => Z9d hb)
    have H455 := H454.ct 14 rfl (Z0 x23 34 (Z0a (if cc = 1 then ca else ca.map (·.add (1 * 38))) ((D.drop 1).length) (cc - 1) mk)) (by simp only [List.length_set, List.length_drop])
    have H456 := H455.pk [0, 1, 2, 3, 4, 5, 6, 7, 8, 9, 10, 11, 12, 13, 14, 15]
    refine ZJ ?_ ⟨2, 1, 500, 2, mk, (if cc = 1 then ca else ca.map (·.add (1 * 38))), (cc - 1), (D.drop 1), L3, ra3, rc3, (by omega), (by omega), (by omega), (Z9O hcV), (by rw [List.length_drop]; omega), hn3, (by omega), hsg3, H456⟩
    exact zs
   have g457 := of_decide_eq_false b447
   refine Z18 _ b447 ?_
   apply ZL
   apply Zq
   have H459 : Sat w [Z6 w (fun _ => False), Z0 b2 31 (Z4 y), Z0 b6 34 (Zf q), Z0 b10 36 (Z3 cf cn), Z0 b14 36 (Z7), Z0 b_ 110 (Zo mb_), (Zm mb_ L3), Z0 r_ 98 (Ze ra3 L3.length rc3), (Zn ra3 L3 rc3), Z0 x14 40 (Zb b_ r_), Z0 b48 45 (Zj lai Li.length lci), (Zd lai Li lci), Z0o Bi, (Zi aai Ai aci), Z0 x23 34 (Z0a ca D.length cc mk), Z5q (.slice ca D.length cc) D] w397 := H398.conv 15 rfl (Z1w rfl) (fun _ hb => Z1v hb)
   have H460 := H459.pk [0, 1, 2, 3, 4, 5, 6, 7, 8, 9, 10, 11, 12, 13, 14, 15]
   refine ZJ ?_ ⟨2, 1, 500, 2, mk, ca, cc, D, L3, ra3, rc3, (by omega), (by omega), (by omega), hcV, (by omega), hn3, (by omega), hsg3, H460⟩
   exact zs
  have g461 := of_decide_eq_false b444
  refine Z18 _ b444 ?_
  apply zsl
  refine wv 152 (.bool (decide ((Z8 what 9) = 6))) ?_
  refine wv 151 (.bool (decide ((Z8 what 9) = 6))) ?_
  apply znt
  refine (Zl (decide ((Z8 what 9) = 6))).elim (fun b463 => ?_) (fun b463 => ?_)
  ·have g464 := of_decide_eq_true b463
   refine Z1o _ b463 ?_
   apply zsl
   refine wv 153 (pt x23 3) ?_
   refine zw1 154 (.slice ca D.length cc) (H398.cell 14 rfl rfl) ?_
   refine wv 155 (.int .i64 ((D.length : Int))) ?_
   refine wv 25 (.int .i64 ((D.length : Int))) ?_
   apply Z1y
   refine wv 156 (.int .i64 ((D.length : Int))) ?_
   refine wv 157 (.bool (decide ((D.length : Int) > 1))) ?_
   apply znt
   refine (Zl (decide ((D.length : Int) > 1))).elim (fun b466 => ?_) (fun b466 => ?_)
   ·have g467 := of_decide_eq_true b466
    refine Z1o _ b466 ?_
    obtain ⟨g469, c470, e471⟩ := Z1n (H398.at 15 rfl) (by omega)
    obtain rfl : ca = some ⟨g469, 0, none⟩ := Z4a e471
    have H472 := H398
    obtain ⟨x473, h474⟩ := Z2j (show (((D.length : Int) - 1).toNat) < D.length by omega)
    have h3x473 := hD3 x473 (List.mem_of_getElem? h474)
    obtain ⟨x475, h476⟩ := Z2j (show 0 < D.length by omega)
    have h3x475 := hD3 x475 (List.mem_of_getElem? h476)
    refine Z1k H472 [Z6 w (fun _ => False), Z0 b2 31 (Z4 y), Z0 b6 34 (Zf q), Z0 b10 36 (Z3 cf cn), Z0 b14 36 (Z7), Z0 x14 40 (Zb b_ r_), Z0 x23 34 (Z0K g469 D.length cc mk), (Zd (some ⟨g469, 0, none⟩) D cc)] [17, 19] 20 rfl (by kernel_rfl) (fun Hx => (Hx.pk [0, 1, 2, 3, 4, 9, 14, 15])) ?_
    intro w477 H478 S479
    refine zkp 0 S479 158 (pt x23 3) ?_
    refine zkv 1 S479 159 (.slice (some ⟨g469, 0, none⟩) D.length cc) ?_ (he := fun _ H' => (Z2 rfl (by kernel_rfl) (H'.cell 6 rfl rfl)))
    refine zkp 2 S479 160 (pt x23 3) ?_
    refine zkp 4 S479 162 (.int .i64 ((D.length : Int))) ?_
    refine zkp 5 S479 163 (.int .i64 ((D.length : Int) - 1)) ?_ (he := fun _ => (Z0I (z := (D.length : Int) - 1) (by kernel_rfl) (IntWalk.i64_in _ (by omega))))
    refine zkp 6 S479 164 (pt x23 3) ?_
    refine zkv 7 S479 165 (.slice (some ⟨g469, 0, none⟩) D.length cc) ?_ (he := fun _ H' => (Z2 rfl (by kernel_rfl) (H'.cell 6 rfl rfl)))
    refine zkp 8 S479 166 (.int .i64 ((D.length : Int))) ?_
    refine zkp 9 S479 167 (.int .i64 ((D.length : Int) - 1)) ?_ (he := fun _ => (Z0I (z := (D.length : Int) - 1) (by kernel_rfl) (IntWalk.i64_in _ (by omega))))
    refine zkp 10 S479 168 (.pointer (some ⟨g469, 0 + (((D.length : Int) - 1)).toNat * 38, none⟩)) ?_ (he := fun _ => (Z0r (E := 53) (by kernel_rfl) (by kernel_rfl) (Nat.le_of_ble_eq_true rfl) rfl rfl (by omega) (by omega)))
    refine zkv 11 S479 169 (.agg ⟨(Z0g x473)⟩) ?_ (he := fun _ H' => (Z0f (vs := (Z0g x473)) rfl (by kernel_rfl) (by kernel_rfl) (Nat.le_of_ble_eq_true (by kernel_rfl)) (Z2a (H'.at 7 rfl) rfl ZZ h474 0 (show 0 + (((D.length : Int) - 1)).toNat * 38 = (((D.length : Int) - 1).toNat) * 38 + 0 by omega) (by kernel_rfl) (by kernel_rfl))))
    refine zkp 12 S479 170 (pt x23 3) ?_
    refine k_valC [13, 14, 15, 16] 13 rfl (by kernel_rfl) (by kernel_rfl) (by kernel_rfl) (fun _ _ _ h => h) S479 (Zs rfl) rfl (by kernel_rfl) (by kernel_rfl) (d := 171) (v := (.slice (some ⟨g469, 0, none⟩) D.length cc)) rfl (fun _ H' => (Z2 rfl (by kernel_rfl) (H'.cell 6 rfl rfl))) ?_
    refine zkp 14 S479 172 (.pointer (some ⟨g469, 0 + ((0 : Int)).toNat * 38, none⟩)) ?_ (he := fun _ => (Z0r (E := 53) (by kernel_rfl) (by kernel_rfl) (Nat.le_of_ble_eq_true rfl) rfl rfl (by omega) (by omega)))
    refine zkv 15 S479 173 (.agg ⟨(Z0g x475)⟩) ?_ (he := fun _ H' => (Z0f (vs := (Z0g x475)) rfl (by kernel_rfl) (by kernel_rfl) (Nat.le_of_ble_eq_true (by kernel_rfl)) (Z2a (H'.at 7 rfl) rfl ZZ h476 0 (show 0 + ((0 : Int)).toNat * 38 = 0 * 38 + 0 by omega) (by kernel_rfl) (by kernel_rfl))))
    refine zkp 16 S479 174 (.pointer (some ⟨g469, 0 + ((0 : Int)).toNat * 38, none⟩)) ?_ (he := fun _ => (Z0r (E := 53) (by kernel_rfl) (by kernel_rfl) (Nat.le_of_ble_eq_true rfl) rfl rfl (by omega) (by omega)))
    refine k_do2B 3 17 (Sat w [Z6 w (fun _ => False), Z0 b2 31 (Z4 y), Z0 b6 34 (Zf q), Z0 b10 36 (Z3 cf cn), Z0 b14 36 (Z7), Z0 x14 40 (Zb b_ r_), Z0 x23 34 (Z0K g469 D.length cc mk)]) rfl rfl (by kernel_rfl) (Zs rfl) (Zs rfl) rfl rfl (fun Kq kq => ?_) (fun Kq kq => ?_)
    ·refine ZbN (d := 161) (v := (.slice (some ⟨g469, 0, none⟩) D.length cc)) rfl (Z2 rfl (by kernel_rfl) (H478.cell 14 rfl rfl)) ?_
     have S481 := H478.pk [0, 1, 2, 3, 4, 9, 14, 15]
     refine kq _ _ S481 ?_
     clear kq Kq
     refine Z30 17 (Sat w [Z6 w (fun _ => False), Z0 b2 31 (Z4 y), Z0 b6 34 (Zf q), Z0 b10 36 (Z3 cf cn), Z0 b14 36 (Z7), Z0 x14 40 (Zb b_ r_), Z0 x23 34 (Z0K g469 D.length cc mk)]) rfl (by kernel_rfl) (Zs rfl) rfl (fun Kq kq => ?_)
     refine Z4h (size := 38) (vs := (Z0g x473)) ZZ rfl H478 15 rfl rfl rfl rfl (by kernel_rfl) (Nat.le_of_ble_eq_true (by kernel_rfl)) (by kernel_rfl) 0 0 x473 h476 (show 0 + ((0 : Int)).toNat * 38 = 0 * 38 + 0 by omega) (Nat.le_of_ble_eq_true (by kernel_rfl)) (by kernel_rfl) ?_
     intro w483 (H484 : Sat w [Z6 w (fun _ => False), Z0 b2 31 (Z4 y), Z0 b6 34 (Zf q), Z0 b10 36 (Z3 cf cn), Z0 b14 36 (Z7), Z0 b_ 110 (Zo mb_), (Zm mb_ L3), Z0 r_ 98 (Ze ra3 L3.length rc3), (Zn ra3 L3 rc3), Z0 x14 40 (Zb b_ r_), Z0 b48 45 (Zj lai Li.length lci), (Zd lai Li lci), Z0o Bi, (Zi aai Ai aci), Z0 x23 34 (Z0K g469 D.length cc mk), ZH 53 38 (.slice (some ⟨g469, 0, none⟩) D.length cc) D.length ((D.set 0 x473).flatMap Z0h)] w483)
     have hlw483 : (D.set 0 x473).length = D.length := List.length_set
     have S485 := H484.pk [0, 1, 2, 3, 4, 9, 14]
     refine kq _ _ S485 ?_
     clear kq Kq
     obtain ⟨x486, h487⟩ := Z2j (show (((D.length : Int) - 1).toNat) < (D.set 0 x473).length by omega)
     refine hv0 18 S485 175 (.pointer (some ⟨g469, 0 + (((D.length : Int) - 1)).toNat * 38, none⟩)) ?_ (he := fun _ H' => (Z0r (E := 53) (by kernel_rfl) (by kernel_rfl) (Nat.le_of_ble_eq_true rfl) rfl rfl (by omega) (by omega)))
     refine Z09 19 fun Kq kq => ?_
     refine Z4h (size := 38) (vs := (Z0g x475)) ZZ rfl H484 15 rfl rfl rfl rfl (by kernel_rfl) (Nat.le_of_ble_eq_true (by kernel_rfl)) (by kernel_rfl) (((D.length : Int) - 1).toNat) 0 x475 h487 (show 0 + (((D.length : Int) - 1)).toNat * 38 = (((D.length : Int) - 1).toNat) * 38 + 0 by omega) (Nat.le_of_ble_eq_true (by kernel_rfl)) (by kernel_rfl) ?_
     intro w489 H490
     have hlw489 : ((D.set 0 x473).set (((D.length : Int) - 1).toNat) x475).length = (D.set 0 x473).length := List.length_set
     have S491 := H490.pk [0, 1, 2, 3, 4, 9, 14]
     refine kq _ _ S491 ?_
     clear kq Kq
     refine zhf ?_
     apply Zq
     have H492 : Sat w [Z6 w (fun _ => False), Z0 b2 31 (Z4 y), Z0 b6 34 (Zf q), Z0 b10 36 (Z3 cf cn), Z0 b14 36 (Z7), Z0 b_ 110 (Zo mb_), (Zm mb_ L3), Z0 r_ 98 (Ze ra3 L3.length rc3), (Zn ra3 L3 rc3), Z0 x14 40 (Zb b_ r_), Z0 b48 45 (Zj lai Li.length lci), (Zd lai Li lci), Z0o Bi, (Zi aai Ai aci), Z0 x23 34 (Z0K g469 D.length cc mk), Z5q (.slice (some ⟨g469, 0, none⟩) (((D.set 0 x473).set (((D.length : Int) - 1).toNat) x475).length) cc) ((D.set 0 x473).set (((D.length : Int) - 1).toNat) x475)] w489 := H490.conv 15 rfl (Z1w (by simp only [List.length_set])) (fun _ hb => Z1v hb)
     have H493 := H492.ct 14 rfl (Z0 x23 34 (Z0K g469 (((D.set 0 x473).set (((D.length : Int) - 1).toNat) x475).length) cc mk)) (by simp only [List.length_set, List.length_drop])
     have H494 := H493.pk [0, 1, 2, 3, 4, 5, 6, 7, 8, 9, 10, 11, 12, 13, 14, 15]
     refine ZJ ?_ ⟨2, 1, 500, 2, mk, (some ⟨g469, 0, none⟩), cc, ((D.set 0 x473).set (((D.length : Int) - 1).toNat) x475), L3, ra3, rc3, (by omega), (by omega), (by omega), (Z3z (Z3z hcV (hcV _ (List.mem_of_getElem? h474))) (hcV _ (List.mem_of_getElem? h476))), (by simp only [List.length_set]; omega), hn3, (by omega), hsg3, H494⟩
     exact zs
    refine Z4h (size := 38) (vs := (Z0g x473)) ZZ rfl H478 15 rfl rfl rfl rfl (by kernel_rfl) (Nat.le_of_ble_eq_true (by kernel_rfl)) (by kernel_rfl) 0 0 x473 h476 (show 0 + ((0 : Int)).toNat * 38 = 0 * 38 + 0 by omega) (Nat.le_of_ble_eq_true (by kernel_rfl)) (by kernel_rfl) ?_
    intro w495 (H496 : Sat w [Z6 w (fun _ => False), Z0 b2 31 (Z4 y), Z0 b6 34 (Zf q), Z0 b10 36 (Z3 cf cn), Z0 b14 36 (Z7), Z0 b_ 110 (Zo mb_), (Zm mb_ L3), Z0 r_ 98 (Ze ra3 L3.length rc3), (Zn ra3 L3 rc3), Z0 x14 40 (Zb b_ r_), Z0 b48 45 (Zj lai Li.length lci), (Zd lai Li lci), Z0o Bi, (Zi aai Ai aci), Z0 x23 34 (Z0K g469 D.length cc mk), ZH 53 38 (.slice (some ⟨g469, 0, none⟩) D.length cc) D.length ((D.set 0 x473).flatMap Z0h)] w495)
    have hlw495 : (D.set 0 x473).length = D.length := List.length_set
    have S497 := H496.pk [0, 1, 2, 3, 4, 9, 14]
    refine kq _ _ S497 ?_
    clear kq Kq
    refine hv0 3 S497 161 (.slice (some ⟨g469, 0, none⟩) D.length cc) ?_ (he := fun _ H' => (Z2 rfl (by kernel_rfl) (H'.cell 6 rfl rfl)))
    obtain ⟨x498, h499⟩ := Z2j (show (((D.length : Int) - 1).toNat) < (D.set 0 x473).length by omega)
    refine hv0 18 S497 175 (.pointer (some ⟨g469, 0 + (((D.length : Int) - 1)).toNat * 38, none⟩)) ?_ (he := fun _ H' => (Z0r (E := 53) (by kernel_rfl) (by kernel_rfl) (Nat.le_of_ble_eq_true rfl) rfl rfl (by omega) (by omega)))
    refine Z09 19 fun Kq kq => ?_
    refine Z4h (size := 38) (vs := (Z0g x475)) ZZ rfl H496 15 rfl rfl rfl rfl (by kernel_rfl) (Nat.le_of_ble_eq_true (by kernel_rfl)) (by kernel_rfl) (((D.length : Int) - 1).toNat) 0 x475 h499 (show 0 + (((D.length : Int) - 1)).toNat * 38 = (((D.length : Int) - 1).toNat) * 38 + 0 by omega) (Nat.le_of_ble_eq_true (by kernel_rfl)) (by kernel_rfl) ?_
    intro w501 H502
    have hlw501 : ((D.set 0 x473).set (((D.length : Int) - 1).toNat) x475).length = (D.set 0 x473).length := List.length_set
    have S503 := H502.pk [0, 1, 2, 3, 4, 9, 14]
    refine kq _ _ S503 ?_
    clear kq Kq
    refine zhf ?_
    apply Zq
    have H504 : Sat w [Z6 w (fun _ => False), Z0 b2 31 (Z4 y), Z0 b6 34 (Zf q), Z0 b10 36 (Z3 cf cn), Z0 b14 36 (Z7), Z0 b_ 110 (Zo mb_), (Zm mb_ L3), Z0 r_ 98 (Ze ra3 L3.length rc3), (Zn ra3 L3 rc3), Z0 x14 40 (Zb b_ r_), Z0 b48 45 (Zj lai Li.length lci), (Zd lai Li lci), Z0o Bi, (Zi aai Ai aci), Z0 x23 34 (Z0K g469 D.length cc mk), Z5q (.slice (some ⟨g469, 0, none⟩) (((D.set 0 x473).set (((D.length : Int) - 1).toNat) x475).length) cc) ((D.set 0 x473).set (((D.length : Int) - 1).toNat) x475)] w501 := H502.conv 15 rfl (Z1w (by simp only [List.length_set])) (fun _ hb => Z1v hb)
    have H505 := H504.ct 14 rfl (Z0 x23 34 (Z0K g469 (((D.set 0 x473).set (((D.length : Int) - 1).toNat) x475).length) cc mk)) (by simp only [List.length_set, List.length_drop])
    have H506 := H505.pk [0, 1, 2, 3, 4, 5, 6, 7, 8, 9, 10, 11, 12, 13, 14, 15]
    refine ZJ ?_ ⟨2, 1, 500, 2, mk, (some ⟨g469, 0, none⟩), cc, ((D.set 0 x473).set (((D.length : Int) - 1).toNat) x475), L3, ra3, rc3, (by omega), (by omega), (by omega), (Z3z (Z3z hcV (hcV _ (List.mem_of_getElem? h474))) (hcV _ (List.mem_of_getElem? h476))), (by simp only [List.length_set]; omega), hn3, (by omega), hsg3, H506⟩
    exact zs
   have g507 := of_decide_eq_false b466
   refine Z18 _ b466 ?_
   apply ZL
   apply Zq
   have H509 : Sat w [Z6 w (fun _ => False), Z0 b2 31 (Z4 y), Z0 b6 34 (Zf q), Z0 b10 36 (Z3 cf cn), Z0 b14 36 (Z7), Z0 b_ 110 (Zo mb_), (Zm mb_ L3), Z0 r_ 98 (Ze ra3 L3.length rc3), (Zn ra3 L3 rc3), Z0 x14 40 (Zb b_ r_), Z0 b48 45 (Zj lai Li.length lci), (Zd lai Li lci), Z0o Bi, (Zi aai Ai aci), Z0 x23 34 (Z0a ca D.length cc mk), Z5q (.slice ca D.length cc) D] w397 := H398.conv 15 rfl (Z1w rfl) (fun _ hb => Z1v hb)
   have H510 := H509.pk [0, 1, 2, 3, 4, 5, 6, 7, 8, 9, 10, 11, 12, 13, 14, 15]
   refine ZJ ?_ ⟨2, 1, 500, 2, mk, ca, cc, D, L3, ra3, rc3, (by omega), (by omega), (by omega), hcV, (by omega), hn3, (by omega), hsg3, H510⟩
   exact zs
  have g511 := of_decide_eq_false b463
  refine Z18 _ b463 ?_
  refine Z0X [176, 177, 178] (fun G_ W_ => G_ 176 = (.bool (((decide ((Z8 what 9) = 7)) || (decide ((Z8 what 9) = 8))))) ∧ Sat w [Z6 w (fun _ => False), Z0 b2 31 (Z4 y), Z0 b6 34 (Zf q), Z0 b10 36 (Z3 cf cn), Z0 b14 36 (Z7), Z0 b_ 110 (Zo mb_), (Zm mb_ L3), Z0 r_ 98 (Ze ra3 L3.length rc3), (Zn ra3 L3 rc3), Z0 x14 40 (Zb b_ r_), Z0 b48 45 (Zj lai Li.length lci), (Zd lai Li lci), Z0o Bi, (Zi aai Ai aci), Z0 x23 34 (Z0a ca D.length cc mk), (Zd ca D cc)] W_) ?_ ?_
  ·apply zsl
   refine wv 177 (.bool (decide ((Z8 what 9) = 7))) ?_
   refine wv 176 (.bool (decide ((Z8 what 9) = 7))) ?_
   apply znt
   refine (Zl (decide ((Z8 what 9) = 7))).elim (fun b514 => ?_) (fun b514 => ?_)
   ·have g515 := of_decide_eq_true b514
    refine Z1o _ b514 ?_
    apply ZL
    refine ZJ ?_ ⟨(congrArg Value.bool (show true = ((decide ((Z8 what 9) = 7)) || (decide ((Z8 what 9) = 8))) by rw [b514]; rfl)), H398⟩
    exact (Z2H rfl (Z2H rfl (Z2H rfl (Z4A))))
   have g517 := of_decide_eq_false b514
   refine Z18 _ b514 ?_
   apply ZU
   refine wv 178 (.bool (decide ((Z8 what 9) = 8))) ?_
   refine wv 176 (.bool (decide ((Z8 what 9) = 8))) ?_
   apply ZQ
   refine ZJ ?_ ⟨(congrArg Value.bool (show (decide ((Z8 what 9) = 8)) = ((decide ((Z8 what 9) = 7)) || (decide ((Z8 what 9) = 8))) by rw [b514]; rfl)), H398⟩
   exact zs
  rintro f519 w520 ⟨v522, H521⟩
  refine ZF 176 _ v522 ?_
  refine (Zl (((decide ((Z8 what 9) = 7)) || (decide ((Z8 what 9) = 8))))).elim (fun b523 => ?_) (fun b523 => ?_)
  ·refine Z1o _ b523 ?_
   apply zsl
   refine wv 179 (pt x23 3) ?_
   refine zw1 180 (.slice ca D.length cc) (H521.cell 14 rfl rfl) ?_
   refine wv 181 (.int .i64 ((D.length : Int))) ?_
   refine wv 26 (.int .i64 ((D.length : Int))) ?_
   apply Z1y
   refine wv 182 (.int .i64 ((D.length : Int))) ?_
   refine wv 183 (.bool (decide ((D.length : Int) > 0))) ?_
   apply znt
   refine (Zl (decide ((D.length : Int) > 0))).elim (fun b524 => ?_) (fun b524 => ?_)
   ·have g525 := of_decide_eq_true b524
    refine Z1o _ b524 ?_
    apply zsl
    refine wv 184 (.int .i64 (at_)) ?_
    refine wv 185 (.int .i64 ((D.length : Int))) ?_
    refine zwd fun Kq kq => ?_
    refine zdq 186 (Z1F w520 at_ (D.length : Int) (by omega)) H521 ?_
    intro w528 H529
    refine kq _ _ ?_
    clear kq Kq
    refine wv 27 (.int .i64 (Z8 at_ (D.length : Int))) ?_
    apply znt
    apply Zt
    have hwK := Z33 at_ (D.length : Int) (by omega)
    obtain ⟨K, hK⟩ : ∃ K : Nat, (K : Int) = Z8 at_ (D.length : Int) := ⟨(Z8 at_ (D.length : Int)).toNat, by omega⟩
    have hKD : K < D.length := by omega
    refine ZF 27 (.int .i64 (K : Int)) (show ((.int .i64 (Z8 at_ (D.length : Int))) : Value) = _ by rw [hK]) ?_
    obtain ⟨g531, c532, e533⟩ := Z1n (H529.at 15 rfl) (by omega)
    obtain rfl : ca = some ⟨g531, 0, none⟩ := Z4a e533
    have H534 := H529
    obtain ⟨x535, h536⟩ := Z2j (show K < D.length by omega)
    have h3x535 := hD3 x535 (List.mem_of_getElem? h536)
    refine Z1k H534 [Z6 w (fun _ => False), Z0 b2 31 (Z4 y), Z0 b6 34 (Zf q), Z0 b10 36 (Z3 cf cn), Z0 b14 36 (Z7), Z0 x14 40 (Zb b_ r_), Z0 x23 34 (Z0K g531 D.length cc mk), (Zd (some ⟨g531, 0, none⟩) D cc)] [12] 13 rfl (by kernel_rfl) (fun Hx => (Hx.pk [0, 1, 2, 3, 4, 9, 14, 15])) ?_
    intro w537 H538 S539
    refine zkp 0 S539 187 (pt x23 3) ?_
    refine zkv 1 S539 188 (.slice (some ⟨g531, 0, none⟩) D.length cc) ?_ (he := fun _ H' => (Z2 rfl (by kernel_rfl) (H'.cell 6 rfl rfl)))
    refine zkp 2 S539 189 (.int .i64 ((K : Int))) ?_
    refine zkp 3 S539 190 (pt x23 3) ?_
    refine zkv 4 S539 191 (.slice (some ⟨g531, 0, none⟩) D.length cc) ?_ (he := fun _ H' => (Z2 rfl (by kernel_rfl) (H'.cell 6 rfl rfl)))
    refine zkp 5 S539 192 (.int .i64 ((K : Int))) ?_
    refine zkp 6 S539 193 (.pointer (some ⟨g531, 0 + ((K : Int)).toNat * 38, none⟩)) ?_ (he := fun _ => (Z0r (E := 53) (by kernel_rfl) (by kernel_rfl) (Nat.le_of_ble_eq_true rfl) rfl rfl (by omega) (by omega)))
    refine zkp 7 S539 194 (.pointer (some ⟨g531, 0 + ((K : Int)).toNat * 38 + 37, none⟩)) ?_
    refine zkv 8 S539 195 (.slice x535.sa x535.S.length x535.sc) ?_ (he := fun _ H' => (Z2 rfl (by kernel_rfl) (Z2f (H'.at 7 rfl) rfl ZZ h536 37 rfl (show 0 + ((K : Int)).toNat * 38 + 37 = K * 38 + 37 by omega) (by kernel_rfl))))
    refine zkp 9 S539 196 (.slice (if x535.sc = 1 then x535.sa else x535.sa.map (·.add (1 * 38))) (x535.S.length - 1) (x535.sc - 1)) ?_ (he := fun _ => (Z3B (E := 101) (q := 1) (by kernel_rfl) (by kernel_rfl) rfl rfl rfl (by omega)))
    refine zkp 10 S539 197 (.pointer (some ⟨g531, 0 + ((K : Int)).toNat * 38, none⟩)) ?_ (he := fun _ => (Z0r (E := 53) (by kernel_rfl) (by kernel_rfl) (Nat.le_of_ble_eq_true rfl) rfl rfl (by omega) (by omega)))
    refine zkp 11 S539 198 (.pointer (some ⟨g531, 0 + ((K : Int)).toNat * 38 + 37, none⟩)) ?_
    refine Z30 12 (Sat w [Z6 w (fun _ => False), Z0 b2 31 (Z4 y), Z0 b6 34 (Zf q), Z0 b10 36 (Z3 cf cn), Z0 b14 36 (Z7), Z0 x14 40 (Zb b_ r_), Z0 x23 34 (Z0K g531 D.length cc mk)]) rfl (by kernel_rfl) (Zs rfl) rfl (fun Kq kq => ?_)
    refine Z4h (size := 38) (vs := (Ze (if x535.sc = 1 then x535.sa else x535.sa.map (·.add (1 * 38))) (x535.S.length - 1) (x535.sc - 1))) ZZ rfl H538 15 rfl rfl rfl rfl (by kernel_rfl) (Nat.le_of_ble_eq_true (by kernel_rfl)) (by kernel_rfl) K 37 (⟨x535.x, (if x535.sc = 1 then x535.sa else x535.sa.map (·.add (1 * 38))), (x535.sc - 1), (x535.S.drop 1)⟩ : CeR) h536 (show 0 + ((K : Int)).toNat * 38 + 37 = K * 38 + 37 by omega) (Nat.le_of_ble_eq_true (by kernel_rfl)) (by rw [show (x535.S.length - 1) = (x535.S.drop 1).length from List.length_drop.symm]; kernel_rfl) ?_
    intro w541 (H542 : Sat w [Z6 w (fun _ => False), Z0 b2 31 (Z4 y), Z0 b6 34 (Zf q), Z0 b10 36 (Z3 cf cn), Z0 b14 36 (Z7), Z0 b_ 110 (Zo mb_), (Zm mb_ L3), Z0 r_ 98 (Ze ra3 L3.length rc3), (Zn ra3 L3 rc3), Z0 x14 40 (Zb b_ r_), Z0 b48 45 (Zj lai Li.length lci), (Zd lai Li lci), Z0o Bi, (Zi aai Ai aci), Z0 x23 34 (Z0K g531 D.length cc mk), ZH 53 38 (.slice (some ⟨g531, 0, none⟩) D.length cc) D.length ((D.set K (⟨x535.x, (if x535.sc = 1 then x535.sa else x535.sa.map (·.add (1 * 38))), (x535.sc - 1), (x535.S.drop 1)⟩ : CeR)).flatMap Z0h)] w541)
    have hlw541 : (D.set K (⟨x535.x, (if x535.sc = 1 then x535.sa else x535.sa.map (·.add (1 * 38))), (x535.sc - 1), (x535.S.drop 1)⟩ : CeR)).length = D.length := List.length_set
    have S543 := H542.pk [0, 1, 2, 3, 4, 9, 14]
    refine kq _ _ S543 ?_
    clear kq Kq
    refine zhf ?_
    apply ztn
    have H544 : Sat w [Z6 w (fun _ => False), Z0 b2 31 (Z4 y), Z0 b6 34 (Zf q), Z0 b10 36 (Z3 cf cn), Z0 b14 36 (Z7), Z0 b_ 110 (Zo mb_), (Zm mb_ L3), Z0 r_ 98 (Ze ra3 L3.length rc3), (Zn ra3 L3 rc3), Z0 x14 40 (Zb b_ r_), Z0 b48 45 (Zj lai Li.length lci), (Zd lai Li lci), Z0o Bi, (Zi aai Ai aci), Z0 x23 34 (Z0K g531 ((D.set K (⟨x535.x, (if x535.sc = 1 then x535.sa else x535.sa.map (·.add (1 * 38))), (x535.sc - 1), (x535.S.drop 1)⟩ : CeR)).length) cc mk), (Zd (some ⟨g531, 0, none⟩) (D.set K (⟨x535.x, (if x535.sc = 1 then x535.sa else x535.sa.map (·.add (1 * 38))), (x535.sc - 1), (x535.S.drop 1)⟩ : CeR)) cc)] w541 := H542.cast (by rw [show D.length = (D.set K (⟨x535.x, (if x535.sc = 1 then x535.sa else x535.sa.map (·.add (1 * 38))), (x535.sc - 1), (x535.S.drop 1)⟩ : CeR)).length from List.length_set.symm])
    have hcW : ∀ c_ ∈ (D.set K (⟨x535.x, (if x535.sc = 1 then x535.sa else x535.sa.map (·.add (1 * 38))), (x535.sc - 1), (x535.S.drop 1)⟩ : CeR)), CeV Bi c_ := (Z3z hcV (CeV.tail (hcV _ (List.mem_of_getElem? h536)) (by omega)))
    refine Z0X [199, 200, 201, 202] (fun G_ W_ => ∃ (f3 : Int), (0 ≤ f3 ∧ f3 ≤ 500) ∧ Sat w [Z6 w (fun _ => False), Z0 b2 31 (Z4 y), Z0 b6 34 (Zf q), Z0 b10 36 (Z3 cf cn), Z0 b14 36 (Z7), Z0 b_ 110 (Zo mb_), (Zm mb_ L3), Z0 r_ 98 (Ze ra3 L3.length rc3), (Zn ra3 L3 rc3), Z0 x14 40 (Zb b_ r_), Z0 b48 45 (Zj lai Li.length lci), (Zd lai Li lci), Z0o Bi, (Zi aai Ai aci), Z0 x23 34 (Z0L f3 g531 ((D.set K (⟨x535.x, (if x535.sc = 1 then x535.sa else x535.sa.map (·.add (1 * 38))), (x535.sc - 1), (x535.S.drop 1)⟩ : CeR)).length) cc mk), (Zd (some ⟨g531, 0, none⟩) (D.set K (⟨x535.x, (if x535.sc = 1 then x535.sa else x535.sa.map (·.add (1 * 38))), (x535.sc - 1), (x535.S.drop 1)⟩ : CeR)) cc)] W_) ?_ ?_
    ·apply zsl
     refine wv 199 (.int .i64 (what)) ?_
     refine wv 200 (.int .i64 (Int.tmod what 2)) ?_ (hr := ZbP (by kernel_rfl) (by omega))
     refine wv 201 (.bool (decide ((Int.tmod what 2) = 0))) ?_
     apply znt
     refine (Zl (decide ((Int.tmod what 2) = 0))).elim (fun b546 => ?_) (fun b546 => ?_)
     ·have g547 := of_decide_eq_true b546
      refine Z1o _ b546 ?_
      apply ZU
      refine wv 202 (pt x23 2) ?_
      refine zwd fun Kq kq => ?_
      refine zds ([(.int .u64 (2))] : List Value) ([(.int .i64 (2)), (.int .i64 (1)), (.int .u64 (2)), (.slice (some ⟨g531, 0, none⟩) ((D.set K (⟨x535.x, (if x535.sc = 1 then x535.sa else x535.sa.map (·.add (1 * 38))), (x535.sc - 1), (x535.S.drop 1)⟩ : CeR)).length) cc), (.int .i64 (2)), (.int .i64 (mk))] : List Value) H544 14 ?_
      intro w550 H551
      refine kq _ _ ?_
      clear kq Kq
      apply ZQ
      refine ZJ ?_ ⟨2, (by omega), H551⟩
      exact zs
     have g553 := of_decide_eq_false b546
     refine Z18 _ b546 ?_
     apply ZL
     refine ZJ ?_ ⟨500, (by omega), H544⟩
     exact (Z2H rfl (Z2H rfl (Z2H rfl (Z2H rfl (Z4A)))))
    rintro f555 w556 ⟨f3, hf3, H557⟩
    apply Zt
    refine Z1k H557 [Z6 w (fun _ => False), Z0 b10 36 (Z3 cf cn), Z0 b14 36 (Z7), Z0 x14 40 (Zb b_ r_), Z0 x23 34 (Z0L f3 g531 ((D.set K (⟨x535.x, (if x535.sc = 1 then x535.sa else x535.sa.map (·.add (1 * 38))), (x535.sc - 1), (x535.S.drop 1)⟩ : CeR)).length) cc mk)] [6] 7 rfl (by kernel_rfl) (fun Hx => (Hx.pk [0, 3, 4, 9, 14])) ?_
    intro w558 H559 S560
    refine zkp 0 S560 203 (pt x14 1) ?_
    refine zkv 1 S560 204 (pt r_ 0) ?_ (he := fun _ H' => (Z2 rfl (by kernel_rfl) (H'.cell 3 rfl rfl)))
    refine zkv 2 S560 205 (.agg ⟨(Z0L f3 g531 ((D.set K (⟨x535.x, (if x535.sc = 1 then x535.sa else x535.sa.map (·.add (1 * 38))), (x535.sc - 1), (x535.S.drop 1)⟩ : CeR)).length) cc mk)⟩) ?_ (he := fun _ H' => (Zc (vs := (Z0L f3 g531 ((D.set K (⟨x535.x, (if x535.sc = 1 then x535.sa else x535.sa.map (·.add (1 * 38))), (x535.sc - 1), (x535.S.drop 1)⟩ : CeR)).length) cc mk)) rfl (by kernel_rfl) (by kernel_rfl) (by exact Nat.le_of_ble_eq_true (by kernel_rfl)) (H'.at 4 rfl) (by kernel_rfl)))
    refine Z3p 3 fun Kq kq => ?_
    refine zdc 206 (Z1l w558 (⟨(2 : Int), (1 : Int), f3, (some ⟨g531, 0, none⟩), cc, (2 : Int), mk, (D.set K (⟨x535.x, (if x535.sc = 1 then x535.sa else x535.sa.map (·.add (1 * 38))), (x535.sc - 1), (x535.S.drop 1)⟩ : CeR))⟩ : PrR) (ListAt.row ZZ (by decide) (H559.at 15 rfl)) (fun i hi => ((hcW _ (Z1r hi)).cb (H559.at 12 rfl)).big) (by show (D.set K (⟨x535.x, (if x535.sc = 1 then x535.sa else x535.sa.map (·.add (1 * 38))), (x535.sc - 1), (x535.S.drop 1)⟩ : CeR)).length ≤ 64; (first | omega | (rw [List.length_set]; omega))) ⟨by show (2 : Int) ≤ _; omega, by show (1 : Int) ≤ _; omega, by show 0 ≤ f3; omega, by show f3 < _; omega⟩) ?_
    rintro _ w562 ⟨u563, rfl, k564, p565, q566⟩
    have H567 : Sat w [Z6 w (fun _ => False), Z0 b2 31 (Z4 y), Z0 b6 34 (Zf q), Z0 b10 36 (Z3 cf cn), Z0 b14 36 (Z7), Z0 b_ 110 (Zo mb_), (Zm mb_ L3), Z0 r_ 98 (Ze ra3 L3.length rc3), (Zn ra3 L3 rc3), Z0 x14 40 (Zb b_ r_), Z0 b48 45 (Zj lai Li.length lci), (Zd lai Li lci), Z0o Bi, (Zi aai Ai aci), Z0 x23 34 (Z0L f3 g531 ((D.set K (⟨x535.x, (if x535.sc = 1 then x535.sa else x535.sa.map (·.add (1 * 38))), (x535.sc - 1), (x535.S.drop 1)⟩ : CeR)).length) cc mk), (Zd (some ⟨g531, 0, none⟩) (D.set K (⟨x535.x, (if x535.sc = 1 then x535.sa else x535.sa.map (·.add (1 * 38))), (x535.sc - 1), (x535.S.drop 1)⟩ : CeR)) cc), ZH 5 1 u563 ((ZB (⟨(2 : Int), (1 : Int), f3, (some ⟨g531, 0, none⟩), cc, (2 : Int), mk, (D.set K (⟨x535.x, (if x535.sc = 1 then x535.sa else x535.sa.map (·.add (1 * 38))), (x535.sc - 1), (x535.S.drop 1)⟩ : CeR))⟩ : PrR)).length) ((ZB (⟨(2 : Int), (1 : Int), f3, (some ⟨g531, 0, none⟩), cc, (2 : Int), mk, (D.set K (⟨x535.x, (if x535.sc = 1 then x535.sa else x535.sa.map (·.add (1 * 38))), (x535.sc - 1), (x535.S.drop 1)⟩ : CeR))⟩ : PrR)).flatMap ZN)] w562 := H559.addU p565 k564 q566
    obtain ⟨a568, c569, rfl⟩ := Z1 (H567.at 16 rfl)
    refine ⟨_, rfl, ?_⟩
    have S570 := H567.pk [0, 3, 4, 9, 14]
    refine kq _ _ S570 ?_
    clear kq Kq
    refine Z3p 4 fun Kq kq => ?_
    refine zdc 207 (Z26 w562 r_ ra3 rc3 L3 (.slice a568 ((ZB (⟨(2 : Int), (1 : Int), f3, (some ⟨g531, 0, none⟩), cc, (2 : Int), mk, (D.set K (⟨x535.x, (if x535.sc = 1 then x535.sa else x535.sa.map (·.add (1 * 38))), (x535.sc - 1), (x535.S.drop 1)⟩ : CeR))⟩ : PrR)).length) c569) (ZB (⟨(2 : Int), (1 : Int), f3, (some ⟨g531, 0, none⟩), cc, (2 : Int), mk, (D.set K (⟨x535.x, (if x535.sc = 1 then x535.sa else x535.sa.map (·.add (1 * 38))), (x535.sc - 1), (x535.S.drop 1)⟩ : CeR))⟩ : PrR)) (H567.fn [7, 8, 16]) (by omega) hn3 2) ?_
    rintro _ w572 ⟨a574, c575, rfl, T573⟩
    have H576 := H567.tl [Z0 r_ 98 (Ze a574 ((Zk L3 (⟨2, (ZB (⟨(2 : Int), (1 : Int), f3, (some ⟨g531, 0, none⟩), cc, (2 : Int), mk, (D.set K (⟨x535.x, (if x535.sc = 1 then x535.sa else x535.sa.map (·.add (1 * 38))), (x535.sc - 1), (x535.S.drop 1)⟩ : CeR))⟩ : PrR))⟩ : Signed)).length) c575), (Zn a574 (Zk L3 (⟨2, (ZB (⟨(2 : Int), (1 : Int), f3, (some ⟨g531, 0, none⟩), cc, (2 : Int), mk, (D.set K (⟨x535.x, (if x535.sc = 1 then x535.sa else x535.sa.map (·.add (1 * 38))), (x535.sc - 1), (x535.S.drop 1)⟩ : CeR))⟩ : PrR))⟩ : Signed)) c575), (Z0Q a568 (ZB (⟨(2 : Int), (1 : Int), f3, (some ⟨g531, 0, none⟩), cc, (2 : Int), mk, (D.set K (⟨x535.x, (if x535.sc = 1 then x535.sa else x535.sa.map (·.add (1 * 38))), (x535.sc - 1), (x535.S.drop 1)⟩ : CeR))⟩ : PrR)) c569)] [7, 8, 16] [0, 1, 2, 3, 4, 5, 6, 9, 10, 11, 12, 13, 14, 15] T573 [3, 4, 5, 6, 7, 8, 9, 0, 1, 10, 11, 12, 13, 14, 15, 16, 2]
    refine ⟨_, rfl, ?_⟩
    have S577 := H576.pk [0, 3, 4, 9, 14]
    refine kq _ _ S577 ?_
    clear kq Kq
    refine zkp 5 S577 208 (pt x23 4) ?_
    refine Z30 6 (Sat w [Z6 w (fun _ => False), Z0 b10 36 (Z3 cf cn), Z0 b14 36 (Z7), Z0 x14 40 (Zb b_ r_)]) rfl (by kernel_rfl) (Zs rfl) rfl (fun Kq kq => ?_)
    refine zds ([(.int .i64 (2)), (.int .i64 (Zu (Zk L3 (⟨2, (ZB (⟨(2 : Int), (1 : Int), f3, (some ⟨g531, 0, none⟩), cc, (2 : Int), mk, (D.set K (⟨x535.x, (if x535.sc = 1 then x535.sa else x535.sa.map (·.add (1 * 38))), (x535.sc - 1), (x535.S.drop 1)⟩ : CeR))⟩ : PrR))⟩ : Signed)) (⟨2, (ZB (⟨(2 : Int), (1 : Int), f3, (some ⟨g531, 0, none⟩), cc, (2 : Int), mk, (D.set K (⟨x535.x, (if x535.sc = 1 then x535.sa else x535.sa.map (·.add (1 * 38))), (x535.sc - 1), (x535.S.drop 1)⟩ : CeR))⟩ : PrR))⟩ : Signed)))] : List Value) (Z0L f3 g531 ((D.set K (⟨x535.x, (if x535.sc = 1 then x535.sa else x535.sa.map (·.add (1 * 38))), (x535.sc - 1), (x535.S.drop 1)⟩ : CeR)).length) cc (Zu (Zk L3 (⟨2, (ZB (⟨(2 : Int), (1 : Int), f3, (some ⟨g531, 0, none⟩), cc, (2 : Int), mk, (D.set K (⟨x535.x, (if x535.sc = 1 then x535.sa else x535.sa.map (·.add (1 * 38))), (x535.sc - 1), (x535.S.drop 1)⟩ : CeR))⟩ : PrR))⟩ : Signed)) (⟨2, (ZB (⟨(2 : Int), (1 : Int), f3, (some ⟨g531, 0, none⟩), cc, (2 : Int), mk, (D.set K (⟨x535.x, (if x535.sc = 1 then x535.sa else x535.sa.map (·.add (1 * 38))), (x535.sc - 1), (x535.S.drop 1)⟩ : CeR))⟩ : PrR))⟩ : Signed))) H576 14 ?_
    intro w579 (H580 : Sat w [Z6 w (fun _ => False), Z0 b2 31 (Z4 y), Z0 b6 34 (Zf q), Z0 b10 36 (Z3 cf cn), Z0 b14 36 (Z7), Z0 b_ 110 (Zo mb_), (Zm mb_ L3), Z0 r_ 98 (Ze a574 ((Zk L3 (⟨2, (ZB (⟨(2 : Int), (1 : Int), f3, (some ⟨g531, 0, none⟩), cc, (2 : Int), mk, (D.set K (⟨x535.x, (if x535.sc = 1 then x535.sa else x535.sa.map (·.add (1 * 38))), (x535.sc - 1), (x535.S.drop 1)⟩ : CeR))⟩ : PrR))⟩ : Signed)).length) c575), (Zn a574 (Zk L3 (⟨2, (ZB (⟨(2 : Int), (1 : Int), f3, (some ⟨g531, 0, none⟩), cc, (2 : Int), mk, (D.set K (⟨x535.x, (if x535.sc = 1 then x535.sa else x535.sa.map (·.add (1 * 38))), (x535.sc - 1), (x535.S.drop 1)⟩ : CeR))⟩ : PrR))⟩ : Signed)) c575), Z0 x14 40 (Zb b_ r_), Z0 b48 45 (Zj lai Li.length lci), (Zd lai Li lci), Z0o Bi, (Zi aai Ai aci), Z0 x23 34 (Z0L f3 g531 ((D.set K (⟨x535.x, (if x535.sc = 1 then x535.sa else x535.sa.map (·.add (1 * 38))), (x535.sc - 1), (x535.S.drop 1)⟩ : CeR)).length) cc (Zu (Zk L3 (⟨2, (ZB (⟨(2 : Int), (1 : Int), f3, (some ⟨g531, 0, none⟩), cc, (2 : Int), mk, (D.set K (⟨x535.x, (if x535.sc = 1 then x535.sa else x535.sa.map (·.add (1 * 38))), (x535.sc - 1), (x535.S.drop 1)⟩ : CeR))⟩ : PrR))⟩ : Signed)) (⟨2, (ZB (⟨(2 : Int), (1 : Int), f3, (some ⟨g531, 0, none⟩), cc, (2 : Int), mk, (D.set K (⟨x535.x, (if x535.sc = 1 then x535.sa else x535.sa.map (·.add (1 * 38))), (x535.sc - 1), (x535.S.drop 1)⟩ : CeR))⟩ : PrR))⟩ : Signed))), (Zd (some ⟨g531, 0, none⟩) (D.set K (⟨x535.x, (if x535.sc = 1 then x535.sa else x535.sa.map (·.add (1 * 38))), (x535.sc - 1), (x535.S.drop 1)⟩ : CeR)) cc), (Z0Q a568 (ZB (⟨(2 : Int), (1 : Int), f3, (some ⟨g531, 0, none⟩), cc, (2 : Int), mk, (D.set K (⟨x535.x, (if x535.sc = 1 then x535.sa else x535.sa.map (·.add (1 * 38))), (x535.sc - 1), (x535.S.drop 1)⟩ : CeR))⟩ : PrR)) c569)] w579)
    have S582 := H580.pk [0, 3, 4, 9]
    refine kq _ _ S582 ?_
    clear kq Kq
    refine zhf ?_
    apply ztn
    refine Z00 H580 [Z6 w (fun _ => False), Z0 b2 31 (Z4 y), Z0 b6 34 (Zf q), Z0 b10 36 (Z3 cf cn), Z0 b14 36 (Z7), Z0 x14 40 (Zb b_ r_), Z0 x23 34 (Z0L f3 g531 ((D.set K (⟨x535.x, (if x535.sc = 1 then x535.sa else x535.sa.map (·.add (1 * 38))), (x535.sc - 1), (x535.S.drop 1)⟩ : CeR)).length) cc (Zu (Zk L3 (⟨2, (ZB (⟨(2 : Int), (1 : Int), f3, (some ⟨g531, 0, none⟩), cc, (2 : Int), mk, (D.set K (⟨x535.x, (if x535.sc = 1 then x535.sa else x535.sa.map (·.add (1 * 38))), (x535.sc - 1), (x535.S.drop 1)⟩ : CeR))⟩ : PrR))⟩ : Signed)) (⟨2, (ZB (⟨(2 : Int), (1 : Int), f3, (some ⟨g531, 0, none⟩), cc, (2 : Int), mk, (D.set K (⟨x535.x, (if x535.sc = 1 then x535.sa else x535.sa.map (·.add (1 * 38))), (x535.sc - 1), (x535.S.drop 1)⟩ : CeR))⟩ : PrR))⟩ : Signed)))] 5 rfl (by kernel_rfl) (fun Hx => (Hx.pk [0, 1, 2, 3, 4, 9, 14])) ?_
    intro w583 H584 S585
    refine hv0 0 S585 209 (pt x14 0) ?_
    refine hv0 1 S585 210 (pt b_ 0) ?_ (he := fun _ H' => (Z2 rfl (by kernel_rfl) (H'.cell 5 rfl rfl)))
    refine hv0 2 S585 211 (.agg ⟨(Z0L f3 g531 ((D.set K (⟨x535.x, (if x535.sc = 1 then x535.sa else x535.sa.map (·.add (1 * 38))), (x535.sc - 1), (x535.S.drop 1)⟩ : CeR)).length) cc (Zu (Zk L3 (⟨2, (ZB (⟨(2 : Int), (1 : Int), f3, (some ⟨g531, 0, none⟩), cc, (2 : Int), mk, (D.set K (⟨x535.x, (if x535.sc = 1 then x535.sa else x535.sa.map (·.add (1 * 38))), (x535.sc - 1), (x535.S.drop 1)⟩ : CeR))⟩ : PrR))⟩ : Signed)) (⟨2, (ZB (⟨(2 : Int), (1 : Int), f3, (some ⟨g531, 0, none⟩), cc, (2 : Int), mk, (D.set K (⟨x535.x, (if x535.sc = 1 then x535.sa else x535.sa.map (·.add (1 * 38))), (x535.sc - 1), (x535.S.drop 1)⟩ : CeR))⟩ : PrR))⟩ : Signed)))⟩) ?_ (he := fun _ H' => (Zc (vs := (Z0L f3 g531 ((D.set K (⟨x535.x, (if x535.sc = 1 then x535.sa else x535.sa.map (·.add (1 * 38))), (x535.sc - 1), (x535.S.drop 1)⟩ : CeR)).length) cc (Zu (Zk L3 (⟨2, (ZB (⟨(2 : Int), (1 : Int), f3, (some ⟨g531, 0, none⟩), cc, (2 : Int), mk, (D.set K (⟨x535.x, (if x535.sc = 1 then x535.sa else x535.sa.map (·.add (1 * 38))), (x535.sc - 1), (x535.S.drop 1)⟩ : CeR))⟩ : PrR))⟩ : Signed)) (⟨2, (ZB (⟨(2 : Int), (1 : Int), f3, (some ⟨g531, 0, none⟩), cc, (2 : Int), mk, (D.set K (⟨x535.x, (if x535.sc = 1 then x535.sa else x535.sa.map (·.add (1 * 38))), (x535.sc - 1), (x535.S.drop 1)⟩ : CeR))⟩ : PrR))⟩ : Signed)))) rfl (by kernel_rfl) (by kernel_rfl) (by exact Nat.le_of_ble_eq_true (by kernel_rfl)) (H'.at 6 rfl) (by kernel_rfl)))
    refine Z09 3 fun Kq kq => ?_
    refine zdc 212 (Z1l w583 (⟨(2 : Int), (1 : Int), f3, (some ⟨g531, 0, none⟩), cc, (2 : Int), (Zu (Zk L3 (⟨2, (ZB (⟨(2 : Int), (1 : Int), f3, (some ⟨g531, 0, none⟩), cc, (2 : Int), mk, (D.set K (⟨x535.x, (if x535.sc = 1 then x535.sa else x535.sa.map (·.add (1 * 38))), (x535.sc - 1), (x535.S.drop 1)⟩ : CeR))⟩ : PrR))⟩ : Signed)) (⟨2, (ZB (⟨(2 : Int), (1 : Int), f3, (some ⟨g531, 0, none⟩), cc, (2 : Int), mk, (D.set K (⟨x535.x, (if x535.sc = 1 then x535.sa else x535.sa.map (·.add (1 * 38))), (x535.sc - 1), (x535.S.drop 1)⟩ : CeR))⟩ : PrR))⟩ : Signed)), (D.set K (⟨x535.x, (if x535.sc = 1 then x535.sa else x535.sa.map (·.add (1 * 38))), (x535.sc - 1), (x535.S.drop 1)⟩ : CeR))⟩ : PrR) (ListAt.row ZZ (by decide) (H584.at 15 rfl)) (fun i hi => ((hcW _ (Z1r hi)).cb (H584.at 12 rfl)).big) (by show (D.set K (⟨x535.x, (if x535.sc = 1 then x535.sa else x535.sa.map (·.add (1 * 38))), (x535.sc - 1), (x535.S.drop 1)⟩ : CeR)).length ≤ 64; (first | omega | (rw [List.length_set]; omega))) ⟨by show (2 : Int) ≤ _; omega, by show (1 : Int) ≤ _; omega, by show 0 ≤ f3; omega, by show f3 < _; omega⟩) ?_
    rintro _ w587 ⟨u588, rfl, k589, p590, q591⟩
    have H592 := H584.addU p590 k589 q591
    obtain ⟨a593, c594, rfl⟩ := Z1 (H592.at 17 rfl)
    refine ⟨_, rfl, ?_⟩
    have S595 := H592.pk [0, 1, 2, 3, 4, 9, 14]
    refine kq _ _ S595 ?_
    clear kq Kq
    refine Z09 4 fun Kq kq => ?_
    refine zdc 213 (Z31 w587 b_ mb_ L3 (.slice a593 ((ZB (⟨(2 : Int), (1 : Int), f3, (some ⟨g531, 0, none⟩), cc, (2 : Int), (Zu (Zk L3 (⟨2, (ZB (⟨(2 : Int), (1 : Int), f3, (some ⟨g531, 0, none⟩), cc, (2 : Int), mk, (D.set K (⟨x535.x, (if x535.sc = 1 then x535.sa else x535.sa.map (·.add (1 * 38))), (x535.sc - 1), (x535.S.drop 1)⟩ : CeR))⟩ : PrR))⟩ : Signed)) (⟨2, (ZB (⟨(2 : Int), (1 : Int), f3, (some ⟨g531, 0, none⟩), cc, (2 : Int), mk, (D.set K (⟨x535.x, (if x535.sc = 1 then x535.sa else x535.sa.map (·.add (1 * 38))), (x535.sc - 1), (x535.S.drop 1)⟩ : CeR))⟩ : PrR))⟩ : Signed)), (D.set K (⟨x535.x, (if x535.sc = 1 then x535.sa else x535.sa.map (·.add (1 * 38))), (x535.sc - 1), (x535.S.drop 1)⟩ : CeR))⟩ : PrR)).length) c594) (ZB (⟨(2 : Int), (1 : Int), f3, (some ⟨g531, 0, none⟩), cc, (2 : Int), (Zu (Zk L3 (⟨2, (ZB (⟨(2 : Int), (1 : Int), f3, (some ⟨g531, 0, none⟩), cc, (2 : Int), mk, (D.set K (⟨x535.x, (if x535.sc = 1 then x535.sa else x535.sa.map (·.add (1 * 38))), (x535.sc - 1), (x535.S.drop 1)⟩ : CeR))⟩ : PrR))⟩ : Signed)) (⟨2, (ZB (⟨(2 : Int), (1 : Int), f3, (some ⟨g531, 0, none⟩), cc, (2 : Int), mk, (D.set K (⟨x535.x, (if x535.sc = 1 then x535.sa else x535.sa.map (·.add (1 * 38))), (x535.sc - 1), (x535.S.drop 1)⟩ : CeR))⟩ : PrR))⟩ : Signed)), (D.set K (⟨x535.x, (if x535.sc = 1 then x535.sa else x535.sa.map (·.add (1 * 38))), (x535.sc - 1), (x535.S.drop 1)⟩ : CeR))⟩ : PrR)) (H592.fn [5, 6, 17]) (by omega) 2) ?_
    rintro _ w597 ⟨rfl, T598⟩
    have H599 : Sat w [Z6 w (fun _ => False), Z0 b2 31 (Z4 y), Z0 b6 34 (Zf q), Z0 b10 36 (Z3 cf cn), Z0 b14 36 (Z7), Z0 b_ 110 (Zo mb_), (Zm mb_ (Zk L3 (⟨2, (ZB (⟨(2 : Int), (1 : Int), f3, (some ⟨g531, 0, none⟩), cc, (2 : Int), (Zu (Zk L3 (⟨2, (ZB (⟨(2 : Int), (1 : Int), f3, (some ⟨g531, 0, none⟩), cc, (2 : Int), mk, (D.set K (⟨x535.x, (if x535.sc = 1 then x535.sa else x535.sa.map (·.add (1 * 38))), (x535.sc - 1), (x535.S.drop 1)⟩ : CeR))⟩ : PrR))⟩ : Signed)) (⟨2, (ZB (⟨(2 : Int), (1 : Int), f3, (some ⟨g531, 0, none⟩), cc, (2 : Int), mk, (D.set K (⟨x535.x, (if x535.sc = 1 then x535.sa else x535.sa.map (·.add (1 * 38))), (x535.sc - 1), (x535.S.drop 1)⟩ : CeR))⟩ : PrR))⟩ : Signed)), (D.set K (⟨x535.x, (if x535.sc = 1 then x535.sa else x535.sa.map (·.add (1 * 38))), (x535.sc - 1), (x535.S.drop 1)⟩ : CeR))⟩ : PrR))⟩ : Signed))), Z0 r_ 98 (Ze a574 ((Zk L3 (⟨2, (ZB (⟨(2 : Int), (1 : Int), f3, (some ⟨g531, 0, none⟩), cc, (2 : Int), mk, (D.set K (⟨x535.x, (if x535.sc = 1 then x535.sa else x535.sa.map (·.add (1 * 38))), (x535.sc - 1), (x535.S.drop 1)⟩ : CeR))⟩ : PrR))⟩ : Signed)).length) c575), (Zn a574 (Zk L3 (⟨2, (ZB (⟨(2 : Int), (1 : Int), f3, (some ⟨g531, 0, none⟩), cc, (2 : Int), mk, (D.set K (⟨x535.x, (if x535.sc = 1 then x535.sa else x535.sa.map (·.add (1 * 38))), (x535.sc - 1), (x535.S.drop 1)⟩ : CeR))⟩ : PrR))⟩ : Signed)) c575), Z0 x14 40 (Zb b_ r_), Z0 b48 45 (Zj lai Li.length lci), (Zd lai Li lci), Z0o Bi, (Zi aai Ai aci), Z0 x23 34 (Z0L f3 g531 ((D.set K (⟨x535.x, (if x535.sc = 1 then x535.sa else x535.sa.map (·.add (1 * 38))), (x535.sc - 1), (x535.S.drop 1)⟩ : CeR)).length) cc (Zu (Zk L3 (⟨2, (ZB (⟨(2 : Int), (1 : Int), f3, (some ⟨g531, 0, none⟩), cc, (2 : Int), mk, (D.set K (⟨x535.x, (if x535.sc = 1 then x535.sa else x535.sa.map (·.add (1 * 38))), (x535.sc - 1), (x535.S.drop 1)⟩ : CeR))⟩ : PrR))⟩ : Signed)) (⟨2, (ZB (⟨(2 : Int), (1 : Int), f3, (some ⟨g531, 0, none⟩), cc, (2 : Int), mk, (D.set K (⟨x535.x, (if x535.sc = 1 then x535.sa else x535.sa.map (·.add (1 * 38))), (x535.sc - 1), (x535.S.drop 1)⟩ : CeR))⟩ : PrR))⟩ : Signed))), (Zd (some ⟨g531, 0, none⟩) (D.set K (⟨x535.x, (if x535.sc = 1 then x535.sa else x535.sa.map (·.add (1 * 38))), (x535.sc - 1), (x535.S.drop 1)⟩ : CeR)) cc), (Z0Q a568 (ZB (⟨(2 : Int), (1 : Int), f3, (some ⟨g531, 0, none⟩), cc, (2 : Int), mk, (D.set K (⟨x535.x, (if x535.sc = 1 then x535.sa else x535.sa.map (·.add (1 * 38))), (x535.sc - 1), (x535.S.drop 1)⟩ : CeR))⟩ : PrR)) c569), (Z0Q a593 (ZB (⟨(2 : Int), (1 : Int), f3, (some ⟨g531, 0, none⟩), cc, (2 : Int), (Zu (Zk L3 (⟨2, (ZB (⟨(2 : Int), (1 : Int), f3, (some ⟨g531, 0, none⟩), cc, (2 : Int), mk, (D.set K (⟨x535.x, (if x535.sc = 1 then x535.sa else x535.sa.map (·.add (1 * 38))), (x535.sc - 1), (x535.S.drop 1)⟩ : CeR))⟩ : PrR))⟩ : Signed)) (⟨2, (ZB (⟨(2 : Int), (1 : Int), f3, (some ⟨g531, 0, none⟩), cc, (2 : Int), mk, (D.set K (⟨x535.x, (if x535.sc = 1 then x535.sa else x535.sa.map (·.add (1 * 38))), (x535.sc - 1), (x535.S.drop 1)⟩ : CeR))⟩ : PrR))⟩ : Signed)), (D.set K (⟨x535.x, (if x535.sc = 1 then x535.sa else x535.sa.map (·.add (1 * 38))), (x535.sc - 1), (x535.S.drop 1)⟩ : CeR))⟩ : PrR)) c594)] w597 := (Sat.turnL (L' := [Z0 b_ 110 (Zo mb_), (Zm mb_ (Zk L3 (⟨2, (ZB (⟨(2 : Int), (1 : Int), f3, (some ⟨g531, 0, none⟩), cc, (2 : Int), (Zu (Zk L3 (⟨2, (ZB (⟨(2 : Int), (1 : Int), f3, (some ⟨g531, 0, none⟩), cc, (2 : Int), mk, (D.set K (⟨x535.x, (if x535.sc = 1 then x535.sa else x535.sa.map (·.add (1 * 38))), (x535.sc - 1), (x535.S.drop 1)⟩ : CeR))⟩ : PrR))⟩ : Signed)) (⟨2, (ZB (⟨(2 : Int), (1 : Int), f3, (some ⟨g531, 0, none⟩), cc, (2 : Int), mk, (D.set K (⟨x535.x, (if x535.sc = 1 then x535.sa else x535.sa.map (·.add (1 * 38))), (x535.sc - 1), (x535.S.drop 1)⟩ : CeR))⟩ : PrR))⟩ : Signed)), (D.set K (⟨x535.x, (if x535.sc = 1 then x535.sa else x535.sa.map (·.add (1 * 38))), (x535.sc - 1), (x535.S.drop 1)⟩ : CeR))⟩ : PrR))⟩ : Signed))), (Z0Q a593 (ZB (⟨(2 : Int), (1 : Int), f3, (some ⟨g531, 0, none⟩), cc, (2 : Int), (Zu (Zk L3 (⟨2, (ZB (⟨(2 : Int), (1 : Int), f3, (some ⟨g531, 0, none⟩), cc, (2 : Int), mk, (D.set K (⟨x535.x, (if x535.sc = 1 then x535.sa else x535.sa.map (·.add (1 * 38))), (x535.sc - 1), (x535.S.drop 1)⟩ : CeR))⟩ : PrR))⟩ : Signed)) (⟨2, (ZB (⟨(2 : Int), (1 : Int), f3, (some ⟨g531, 0, none⟩), cc, (2 : Int), mk, (D.set K (⟨x535.x, (if x535.sc = 1 then x535.sa else x535.sa.map (·.add (1 * 38))), (x535.sc - 1), (x535.S.drop 1)⟩ : CeR))⟩ : PrR))⟩ : Signed)), (D.set K (⟨x535.x, (if x535.sc = 1 then x535.sa else x535.sa.map (·.add (1 * 38))), (x535.sc - 1), (x535.S.drop 1)⟩ : CeR))⟩ : PrR)) c594)]) (R := [Z6 w (fun _ => False), Z0 b2 31 (Z4 y), Z0 b6 34 (Zf q), Z0 b10 36 (Z3 cf cn), Z0 b14 36 (Z7), Z0 r_ 98 (Ze a574 ((Zk L3 (⟨2, (ZB (⟨(2 : Int), (1 : Int), f3, (some ⟨g531, 0, none⟩), cc, (2 : Int), mk, (D.set K (⟨x535.x, (if x535.sc = 1 then x535.sa else x535.sa.map (·.add (1 * 38))), (x535.sc - 1), (x535.S.drop 1)⟩ : CeR))⟩ : PrR))⟩ : Signed)).length) c575), (Zn a574 (Zk L3 (⟨2, (ZB (⟨(2 : Int), (1 : Int), f3, (some ⟨g531, 0, none⟩), cc, (2 : Int), mk, (D.set K (⟨x535.x, (if x535.sc = 1 then x535.sa else x535.sa.map (·.add (1 * 38))), (x535.sc - 1), (x535.S.drop 1)⟩ : CeR))⟩ : PrR))⟩ : Signed)) c575), Z0 x14 40 (Zb b_ r_), Z0 b48 45 (Zj lai Li.length lci), (Zd lai Li lci), Z0o Bi, (Zi aai Ai aci), Z0 x23 34 (Z0L f3 g531 ((D.set K (⟨x535.x, (if x535.sc = 1 then x535.sa else x535.sa.map (·.add (1 * 38))), (x535.sc - 1), (x535.S.drop 1)⟩ : CeR)).length) cc (Zu (Zk L3 (⟨2, (ZB (⟨(2 : Int), (1 : Int), f3, (some ⟨g531, 0, none⟩), cc, (2 : Int), mk, (D.set K (⟨x535.x, (if x535.sc = 1 then x535.sa else x535.sa.map (·.add (1 * 38))), (x535.sc - 1), (x535.S.drop 1)⟩ : CeR))⟩ : PrR))⟩ : Signed)) (⟨2, (ZB (⟨(2 : Int), (1 : Int), f3, (some ⟨g531, 0, none⟩), cc, (2 : Int), mk, (D.set K (⟨x535.x, (if x535.sc = 1 then x535.sa else x535.sa.map (·.add (1 * 38))), (x535.sc - 1), (x535.S.drop 1)⟩ : CeR))⟩ : PrR))⟩ : Signed))), (Zd (some ⟨g531, 0, none⟩) (D.set K (⟨x535.x, (if x535.sc = 1 then x535.sa else x535.sa.map (·.add (1 * 38))), (x535.sc - 1), (x535.S.drop 1)⟩ : CeR)) cc), (Z0Q a568 (ZB (⟨(2 : Int), (1 : Int), f3, (some ⟨g531, 0, none⟩), cc, (2 : Int), mk, (D.set K (⟨x535.x, (if x535.sc = 1 then x535.sa else x535.sa.map (·.add (1 * 38))), (x535.sc - 1), (x535.S.drop 1)⟩ : CeR))⟩ : PrR)) c569)]) H592 [5, 6, 17] [0, 1, 2, 3, 4, 7, 8, 9, 10, 11, 12, 13, 14, 15, 16] (by decide) (by kernel_rfl) rfl T598).pk [3, 4, 5, 6, 7, 0, 1, 8, 9, 10, 11, 12, 13, 14, 15, 16, 17, 2]
    refine ⟨_, rfl, ?_⟩
    have S600 := H599.pk [0, 1, 2, 3, 4, 9, 14]
    refine kq _ _ S600 ?_
    clear kq Kq
    refine zhf ?_
    apply Zq
    have H601 := H599.conv 15 rfl (Z1w (by simp only [List.length_set])) (fun _ hb => Z1v hb)
    have H602 : Sat w [Z6 w (fun _ => False), Z0 b2 31 (Z4 y), Z0 b6 34 (Zf q), Z0 b10 36 (Z3 cf cn), Z0 b14 36 (Z7), Z0 b_ 110 (Zo mb_), (Zm mb_ (Zk L3 (⟨2, (ZB (⟨(2 : Int), (1 : Int), f3, (some ⟨g531, 0, none⟩), cc, (2 : Int), mk, (D.set K (⟨x535.x, (if x535.sc = 1 then x535.sa else x535.sa.map (·.add (1 * 38))), (x535.sc - 1), (x535.S.drop 1)⟩ : CeR))⟩ : PrR))⟩ : Signed))), Z0 r_ 98 (Ze a574 ((Zk L3 (⟨2, (ZB (⟨(2 : Int), (1 : Int), f3, (some ⟨g531, 0, none⟩), cc, (2 : Int), mk, (D.set K (⟨x535.x, (if x535.sc = 1 then x535.sa else x535.sa.map (·.add (1 * 38))), (x535.sc - 1), (x535.S.drop 1)⟩ : CeR))⟩ : PrR))⟩ : Signed)).length) c575), (Zn a574 (Zk L3 (⟨2, (ZB (⟨(2 : Int), (1 : Int), f3, (some ⟨g531, 0, none⟩), cc, (2 : Int), mk, (D.set K (⟨x535.x, (if x535.sc = 1 then x535.sa else x535.sa.map (·.add (1 * 38))), (x535.sc - 1), (x535.S.drop 1)⟩ : CeR))⟩ : PrR))⟩ : Signed)) c575), Z0 x14 40 (Zb b_ r_), Z0 b48 45 (Zj lai Li.length lci), (Zd lai Li lci), Z0o Bi, (Zi aai Ai aci), Z0 x23 34 (Z0L f3 g531 ((D.set K (⟨x535.x, (if x535.sc = 1 then x535.sa else x535.sa.map (·.add (1 * 38))), (x535.sc - 1), (x535.S.drop 1)⟩ : CeR)).length) cc (Zu (Zk L3 (⟨2, (ZB (⟨(2 : Int), (1 : Int), f3, (some ⟨g531, 0, none⟩), cc, (2 : Int), mk, (D.set K (⟨x535.x, (if x535.sc = 1 then x535.sa else x535.sa.map (·.add (1 * 38))), (x535.sc - 1), (x535.S.drop 1)⟩ : CeR))⟩ : PrR))⟩ : Signed)) (⟨2, (ZB (⟨(2 : Int), (1 : Int), f3, (some ⟨g531, 0, none⟩), cc, (2 : Int), mk, (D.set K (⟨x535.x, (if x535.sc = 1 then x535.sa else x535.sa.map (·.add (1 * 38))), (x535.sc - 1), (x535.S.drop 1)⟩ : CeR))⟩ : PrR))⟩ : Signed))), Z5q (.slice (some ⟨g531, 0, none⟩) ((D.set K (⟨x535.x, (if x535.sc = 1 then x535.sa else x535.sa.map (·.add (1 * 38))), (x535.sc - 1), (x535.S.drop 1)⟩ : CeR)).length) cc) (D.set K (⟨x535.x, (if x535.sc = 1 then x535.sa else x535.sa.map (·.add (1 * 38))), (x535.sc - 1), (x535.S.drop 1)⟩ : CeR)), (Z0Q a568 (ZB (⟨(2 : Int), (1 : Int), f3, (some ⟨g531, 0, none⟩), cc, (2 : Int), mk, (D.set K (⟨x535.x, (if x535.sc = 1 then x535.sa else x535.sa.map (·.add (1 * 38))), (x535.sc - 1), (x535.S.drop 1)⟩ : CeR))⟩ : PrR)) c569), (Z0Q a593 (ZB (⟨(2 : Int), (1 : Int), f3, (some ⟨g531, 0, none⟩), cc, (2 : Int), (Zu (Zk L3 (⟨2, (ZB (⟨(2 : Int), (1 : Int), f3, (some ⟨g531, 0, none⟩), cc, (2 : Int), mk, (D.set K (⟨x535.x, (if x535.sc = 1 then x535.sa else x535.sa.map (·.add (1 * 38))), (x535.sc - 1), (x535.S.drop 1)⟩ : CeR))⟩ : PrR))⟩ : Signed)) (⟨2, (ZB (⟨(2 : Int), (1 : Int), f3, (some ⟨g531, 0, none⟩), cc, (2 : Int), mk, (D.set K (⟨x535.x, (if x535.sc = 1 then x535.sa else x535.sa.map (·.add (1 * 38))), (x535.sc - 1), (x535.S.drop 1)⟩ : CeR))⟩ : PrR))⟩ : Signed)), (D.set K (⟨x535.x, (if x535.sc = 1 then x535.sa else x535.sa.map (·.add (1 * 38))), (x535.sc - 1), (x535.S.drop 1)⟩ : CeR))⟩ : PrR)) c594)] w597 := H601
    have H603 := H602.pk [0, 1, 2, 3, 4, 5, 6, 7, 8, 9, 10, 11, 12, 13, 14, 15]
    refine ZJ ?_ ⟨2, 1, f3, 2, (Zu (Zk L3 (⟨2, (ZB (⟨(2 : Int), (1 : Int), f3, (some ⟨g531, 0, none⟩), cc, (2 : Int), mk, (D.set K (⟨x535.x, (if x535.sc = 1 then x535.sa else x535.sa.map (·.add (1 * 38))), (x535.sc - 1), (x535.S.drop 1)⟩ : CeR))⟩ : PrR))⟩ : Signed)) (⟨2, (ZB (⟨(2 : Int), (1 : Int), f3, (some ⟨g531, 0, none⟩), cc, (2 : Int), mk, (D.set K (⟨x535.x, (if x535.sc = 1 then x535.sa else x535.sa.map (·.add (1 * 38))), (x535.sc - 1), (x535.S.drop 1)⟩ : CeR))⟩ : PrR))⟩ : Signed)), (some ⟨g531, 0, none⟩), cc, (D.set K (⟨x535.x, (if x535.sc = 1 then x535.sa else x535.sa.map (·.add (1 * 38))), (x535.sc - 1), (x535.S.drop 1)⟩ : CeR)), (Zk L3 (⟨2, (ZB (⟨(2 : Int), (1 : Int), f3, (some ⟨g531, 0, none⟩), cc, (2 : Int), mk, (D.set K (⟨x535.x, (if x535.sc = 1 then x535.sa else x535.sa.map (·.add (1 * 38))), (x535.sc - 1), (x535.S.drop 1)⟩ : CeR))⟩ : PrR))⟩ : Signed)), a574, c575, (by omega), (by omega), (by omega), (Z3z hcV (CeV.tail (hcV _ (List.mem_of_getElem? h536)) (by omega))), (by simp only [List.length_set]; omega), (Z1S hn3 _), (Nat.le_trans (Z20 _ _) (by omega)), (hsg3.sign (.inl ⟨by show (0 : Int) ≤ 2; decide, by show (2 : Int) < 4; decide⟩)), H603⟩
    exact zs
   have g604 := of_decide_eq_false b524
   refine Z18 _ b524 ?_
   apply ZL
   apply Zq
   have H606 := H521.conv 15 rfl (Z1w rfl) (fun _ hb => Z1v hb)
   have H607 := H606.pk [0, 1, 2, 3, 4, 5, 6, 7, 8, 9, 10, 11, 12, 13, 14, 15]
   refine ZJ ?_ ⟨2, 1, 500, 2, mk, ca, cc, D, L3, ra3, rc3, (by omega), (by omega), (by omega), hcV, (by omega), hn3, (by omega), hsg3, H607⟩
   exact zs
  refine Z18 _ b523 ?_
  apply ZL
  apply Zq
  have H608 : Sat w [Z6 w (fun _ => False), Z0 b2 31 (Z4 y), Z0 b6 34 (Zf q), Z0 b10 36 (Z3 cf cn), Z0 b14 36 (Z7), Z0 b_ 110 (Zo mb_), (Zm mb_ L3), Z0 r_ 98 (Ze ra3 L3.length rc3), (Zn ra3 L3 rc3), Z0 x14 40 (Zb b_ r_), Z0 b48 45 (Zj lai Li.length lci), (Zd lai Li lci), Z0o Bi, (Zi aai Ai aci), Z0 x23 34 (Z0a ca D.length cc mk), Z5q (.slice ca D.length cc) D] w520 := H521.conv 15 rfl (Z1w rfl) (fun _ hb => Z1v hb)
  have H609 := H608.pk [0, 1, 2, 3, 4, 5, 6, 7, 8, 9, 10, 11, 12, 13, 14, 15]
  refine ZJ ?_ ⟨2, 1, 500, 2, mk, ca, cc, D, L3, ra3, rc3, (by omega), (by omega), (by omega), hcV, (by omega), hn3, (by omega), hsg3, H609⟩
  exact zs
 rintro f610 w611 ⟨r4, e4, f4, sb4, sm4, ca4, cc4, C, L4, ra4, rc4, hr4, he4, hf4, hC4, hl4, hn4, hll4, hsg4, H612⟩
 apply Zt
 apply zsl
 refine wv 214 (.slice aai Ai.length aci) ?_
 refine wv 215 (.int .i64 ((Ai.length : Int))) ?_
 refine wv 216 (.int .i64 (0)) ?_
 apply znt
 apply ZG
 refine Z02 ([12, 28, 29] ++ List.range' 216 27) (fun F_ W_ m_ => ∃ (j : Nat), F_ 216 = (.int .i64 ((j : Int))) ∧ (j ≤ Ai.length) ∧ Sat w [Z6 w (fun _ => False), Z0 b2 31 (Z4 y), Z0 b6 34 (Zf q), Z0 b10 36 (Z3 cf cn), Z0 b14 36 (Z7), Z0 b_ 110 (Zo mb_), (Zm mb_ L4), Z0 r_ 98 (Ze ra4 L4.length rc4), (Zn ra4 L4 rc4), Z0 x14 40 (Zb b_ r_), Z0 b48 45 (Zj lai Li.length lci), (Zd lai Li lci), Z0o Bi, (Zi aai Ai aci), Z0 x23 34 (Z0b r4 e4 f4 ca4 C.length cc4 sb4 sm4), Z5q (.slice ca4 C.length cc4) C] W_ ∧ m_ = Ai.length + 1 - j) _ ⟨0, (show ((.int .i64 (0)) : Value) = _ by first | rfl | go_num), (Nat.zero_le _), H612, rfl⟩ ?_
 rintro g613 w614 _ ⟨j, v616, hj, H615, rfl⟩
 refine ZF 216 _ v616 ?_
 apply zsl
 refine wv 217 (.bool (decide ((j : Int) < (Ai.length : Int)))) ?_
 apply znt
 apply Zt
 refine (Zl (decide ((j : Int) < (Ai.length : Int)))).elim (fun b618 => ?_) (fun b618 => ?_)
 ·have g619 := of_decide_eq_true b618
  refine Z1o _ b618 ?_
  apply ZL
  apply ztn
  apply Zt
  apply ZG
  apply zsl
  refine wv 218 (.int .i64 ((j : Int))) ?_
  refine wv 28 (.int .i64 ((j : Int))) ?_
  apply Z1y
  refine wv 219 (.slice aai Ai.length aci) ?_
  refine wv 220 (.int .i64 ((j : Int))) ?_
  obtain ⟨g621, c622, e623⟩ := Z1n (H615.at 13 rfl) (by omega)
  obtain ⟨x624, h625⟩ := Z2j (show j < Ai.length by omega)
  refine wv 221 (.pointer (some ⟨g621, 0 + ((j : Int)).toNat * 38, none⟩)) ?_ (hr := Z0t (E := 31) (by kernel_rfl) (by kernel_rfl) (Nat.le_of_ble_eq_true rfl) rfl e623 rfl (by omega) (by omega))
  refine wv 222 (.agg ⟨(Z4 x624)⟩) ?_ (hr := Z0f (vs := (Z4 x624)) rfl (by kernel_rfl) (by kernel_rfl) (Nat.le_of_ble_eq_true (by kernel_rfl)) (Z2a (H615.at 13 rfl) e623 Z2r h625 0 (show 0 + ((j : Int)).toNat * 38 = j * 38 + 0 by omega) (by kernel_rfl) (by kernel_rfl)))
  refine zwd fun Kq kq => ?_
  refine zda (Z44) H615 ?_
  intro b627 w628 H629
  refine kq _ _ ?_
  clear kq Kq
  refine zwd fun Kq kq => ?_
  refine Z2k (Z4 x624) H629 16 ?_
  intro w631 (H632 : Sat w [Z6 w (fun _ => False), Z0 b2 31 (Z4 y), Z0 b6 34 (Zf q), Z0 b10 36 (Z3 cf cn), Z0 b14 36 (Z7), Z0 b_ 110 (Zo mb_), (Zm mb_ L4), Z0 r_ 98 (Ze ra4 L4.length rc4), (Zn ra4 L4 rc4), Z0 x14 40 (Zb b_ r_), Z0 b48 45 (Zj lai Li.length lci), (Zd lai Li lci), Z0o Bi, (Zi aai Ai aci), Z0 x23 34 (Z0b r4 e4 f4 ca4 C.length cc4 sb4 sm4), Z5q (.slice ca4 C.length cc4) C, Z0 b627 31 (Z4 x624)] w631)
  refine kq _ _ ?_
  clear kq Kq
  apply znt
  apply Zt
  apply zsl
  refine wv 223 (.int .i64 (what)) ?_
  refine zwd fun Kq kq => ?_
  refine zdq 224 (Z1F w631 what 9 (by omega)) H632 ?_
  intro w635 H636
  refine kq _ _ ?_
  clear kq Kq
  refine wv 225 (.int .i64 ((j : Int))) ?_
  refine wv 226 (.bool (decide ((Z8 what 9) = (j : Int)))) ?_
  apply znt
  refine (Zl (decide ((Z8 what 9) = (j : Int)))).elim (fun b638 => ?_) (fun b638 => ?_)
  ·have g639 := of_decide_eq_true b638
   refine Z1o _ b638 ?_
   apply ZU
   refine wv 227 (pt b627 35) ?_
   refine zw1 228 (.int .u64 (x624.t)) (H636.cell 16 rfl (by kernel_rfl)) ?_
   refine wv 229 (.int .u64 (IntKind.u64.wrap (x624.t + 1))) ?_
   refine wv 230 (pt b627 35) ?_
   refine zwd fun Kq kq => ?_
   refine zds ([(.int .u64 (IntKind.u64.wrap (x624.t + 1)))] : List Value) (Z2u x624.r x624.cl x624.seq x624.h (IntKind.u64.wrap (x624.t + 1)) x624.sb x624.sm) H636 16 ?_
   intro w642 H643
   refine kq _ _ ?_
   clear kq Kq
   apply znt
   apply Zt
   refine zqs H643 ?_
   refine qv 231 (.agg ⟨(Z7)⟩) ?_ (hr := fun _ H' => (Zc (vs := (Z7)) rfl (by kernel_rfl) (by kernel_rfl) (by exact Nat.le_of_ble_eq_true (by kernel_rfl)) (H'.at 4 rfl) (by kernel_rfl)))
   refine qv 232 (pt x14 0) ?_
   refine qv 233 (pt b_ 0) ?_ (hr := fun _ H' => (Z2 rfl (by kernel_rfl) (H'.cell 9 rfl rfl)))
   refine qv 234 (.agg ⟨(Z2u x624.r x624.cl x624.seq x624.h (IntKind.u64.wrap (x624.t + 1)) x624.sb x624.sm)⟩) ?_ (hr := fun _ H' => (Zc (vs := (Z2u x624.r x624.cl x624.seq x624.h (IntKind.u64.wrap (x624.t + 1)) x624.sb x624.sm)) rfl (by kernel_rfl) (by kernel_rfl) (by exact Nat.le_of_ble_eq_true (by kernel_rfl)) (H'.at 16 rfl) (by kernel_rfl)))
   refine Z0B (Zs rfl) (d := 235) (v := (.bool (Z12 1 L4 (⟨x624.r, x624.cl, x624.seq, x624.h, IntKind.u64.wrap (x624.t + 1), x624.sb, x624.sm⟩ : Z5)))) rfl (fun _ _ => by kernel_rfl) (fun w' H' => (Z4c w' 1 3 (by omega) b_ mb_ L4 (H'.at 5 rfl) (H'.at 6 rfl) (⟨x624.r, x624.cl, x624.seq, x624.h, IntKind.u64.wrap (x624.t + 1), x624.sb, x624.sm⟩ : Z5) ⟨(hAi x624 (List.mem_of_getElem? h625)).1, (hAi x624 (List.mem_of_getElem? h625)).2.1, (hAi x624 (List.mem_of_getElem? h625)).2.2.1, (Z2K _).1, (Z2K _).2⟩).mono fun _ _ h => ⟨h.1, H'.keepU h.2⟩) ?_
   refine qv 236 (.agg ⟨(Z7)⟩) ?_ (hr := fun _ H' => (Zc (vs := (Z7)) rfl (by kernel_rfl) (by kernel_rfl) (by exact Nat.le_of_ble_eq_true (by kernel_rfl)) (H'.at 4 rfl) (by kernel_rfl)))
   refine qv 237 (pt x14 1) ?_
   refine qv 238 (pt r_ 0) ?_ (hr := fun _ H' => (Z2 rfl (by kernel_rfl) (H'.cell 9 rfl rfl)))
   refine qv 239 (.agg ⟨(Z2u x624.r x624.cl x624.seq x624.h (IntKind.u64.wrap (x624.t + 1)) x624.sb x624.sm)⟩) ?_ (hr := fun _ H' => (Zc (vs := (Z2u x624.r x624.cl x624.seq x624.h (IntKind.u64.wrap (x624.t + 1)) x624.sb x624.sm)) rfl (by kernel_rfl) (by kernel_rfl) (by exact Nat.le_of_ble_eq_true (by kernel_rfl)) (H'.at 16 rfl) (by kernel_rfl)))
   refine Z0B (Zs rfl) (d := 240) (v := (.bool (Z12 1 L4 (⟨x624.r, x624.cl, x624.seq, x624.h, IntKind.u64.wrap (x624.t + 1), x624.sb, x624.sm⟩ : Z5)))) rfl (fun _ _ => by kernel_rfl) (fun w' H' => (Z48 w' 1 3 (by omega) r_ ra4 rc4 L4 (H'.at 7 rfl) (H'.at 8 rfl) hn4 (by omega) (⟨x624.r, x624.cl, x624.seq, x624.h, IntKind.u64.wrap (x624.t + 1), x624.sb, x624.sm⟩ : Z5) ⟨(hAi x624 (List.mem_of_getElem? h625)).1, (hAi x624 (List.mem_of_getElem? h625)).2.1, (hAi x624 (List.mem_of_getElem? h625)).2.2.1, (Z2K _).1, (Z2K _).2⟩).mono fun _ _ h => ⟨h.1, H'.keepU h.2⟩) ?_
   refine qv 241 (.bool (!((Z12 1 L4 (⟨x624.r, x624.cl, x624.seq, x624.h, IntKind.u64.wrap (x624.t + 1), x624.sb, x624.sm⟩ : Z5)) == (Z12 1 L4 (⟨x624.r, x624.cl, x624.seq, x624.h, IntKind.u64.wrap (x624.t + 1), x624.sb, x624.sm⟩ : Z5))))) ?_
   refine Z0S ?_
   intro w645 H646
   apply ztn
   have b647 : (!((Z12 1 L4 (⟨x624.r, x624.cl, x624.seq, x624.h, IntKind.u64.wrap (x624.t + 1), x624.sb, x624.sm⟩ : Z5)) == (Z12 1 L4 (⟨x624.r, x624.cl, x624.seq, x624.h, IntKind.u64.wrap (x624.t + 1), x624.sb, x624.sm⟩ : Z5)))) = false := by rw [beq_self_eq_true]; rfl
   have g648 := Za b647
   refine Z18 _ b647 ?_
   apply ZL
   apply Zq
   apply ztn
   apply ZU
   refine zwi 242 ((j : Int) + 1) ?_
   refine wv 216 (.int .i64 ((j : Int) + 1)) ?_
   apply ZQ
   have H649 : Sat w [Z6 w (fun _ => False), Z0 b2 31 (Z4 y), Z0 b6 34 (Zf q), Z0 b10 36 (Z3 cf cn), Z0 b14 36 (Z7), Z0 b_ 110 (Zo mb_), (Zm mb_ L4), Z0 r_ 98 (Ze ra4 L4.length rc4), (Zn ra4 L4 rc4), Z0 x14 40 (Zb b_ r_), Z0 b48 45 (Zj lai Li.length lci), (Zd lai Li lci), Z0o Bi, (Zi aai Ai aci), Z0 x23 34 (Z0b r4 e4 f4 ca4 C.length cc4 sb4 sm4), Z5q (.slice ca4 C.length cc4) C] w645 := H646.pk [0, 1, 2, 3, 4, 5, 6, 7, 8, 9, 10, 11, 12, 13, 14, 15]
   refine Zw ?_ _ ⟨(j + 1), rfl, (by omega), H649, rfl⟩ (by omega)
   exact zs
  have g650 := of_decide_eq_false b638
  refine Z18 _ b638 ?_
  apply ZL
  apply ztn
  apply Zt
  refine zqs H636 ?_
  refine qv 231 (.agg ⟨(Z7)⟩) ?_ (hr := fun _ H' => (Zc (vs := (Z7)) rfl (by kernel_rfl) (by kernel_rfl) (by exact Nat.le_of_ble_eq_true (by kernel_rfl)) (H'.at 4 rfl) (by kernel_rfl)))
  refine qv 232 (pt x14 0) ?_
  refine qv 233 (pt b_ 0) ?_ (hr := fun _ H' => (Z2 rfl (by kernel_rfl) (H'.cell 9 rfl rfl)))
  refine qv 234 (.agg ⟨(Z4 x624)⟩) ?_ (hr := fun _ H' => (Zc (vs := (Z4 x624)) rfl (by kernel_rfl) (by kernel_rfl) (by exact Nat.le_of_ble_eq_true (by kernel_rfl)) (H'.at 16 rfl) (by kernel_rfl)))
  refine Z0B (Zs rfl) (d := 235) (v := (.bool (Z12 1 L4 x624))) rfl (fun _ _ => by kernel_rfl) (fun w' H' => (Z4c w' 1 3 (by omega) b_ mb_ L4 (H'.at 5 rfl) (H'.at 6 rfl) x624 (hAi x624 (List.mem_of_getElem? h625))).mono fun _ _ h => ⟨h.1, H'.keepU h.2⟩) ?_
  refine qv 236 (.agg ⟨(Z7)⟩) ?_ (hr := fun _ H' => (Zc (vs := (Z7)) rfl (by kernel_rfl) (by kernel_rfl) (by exact Nat.le_of_ble_eq_true (by kernel_rfl)) (H'.at 4 rfl) (by kernel_rfl)))
  refine qv 237 (pt x14 1) ?_
  refine qv 238 (pt r_ 0) ?_ (hr := fun _ H' => (Z2 rfl (by kernel_rfl) (H'.cell 9 rfl rfl)))
  refine qv 239 (.agg ⟨(Z4 x624)⟩) ?_ (hr := fun _ H' => (Zc (vs := (Z4 x624)) rfl (by kernel_rfl) (by kernel_rfl) (by exact Nat.le_of_ble_eq_true (by kernel_rfl)) (H'.at 16 rfl) (by kernel_rfl)))
  refine Z0B (Zs rfl) (d := 240) (v := (.bool (Z12 1 L4 x624))) rfl (fun _ _ => by kernel_rfl) (fun w' H' => (Z48 w' 1 3 (by omega) r_ ra4 rc4 L4 (H'.at 7 rfl) (H'.at 8 rfl) hn4 (by omega) x624 (hAi x624 (List.mem_of_getElem? h625))).mono fun _ _ h => ⟨h.1, H'.keepU h.2⟩) ?_
  refine qv 241 (.bool (!((Z12 1 L4 x624) == (Z12 1 L4 x624)))) ?_
  refine Z0S ?_
  intro w652 H653
  apply ztn
  have b654 : (!((Z12 1 L4 x624) == (Z12 1 L4 x624))) = false := by rw [beq_self_eq_true]; rfl
  have g655 := Za b654
  refine Z18 _ b654 ?_
  apply ZL
  apply Zq
  apply ztn
  apply ZU
  refine zwi 242 ((j : Int) + 1) ?_
  refine wv 216 (.int .i64 ((j : Int) + 1)) ?_
  apply ZQ
  have H656 := H653.pk [0, 1, 2, 3, 4, 5, 6, 7, 8, 9, 10, 11, 12, 13, 14, 15]
  refine Zw ?_ _ ⟨(j + 1), rfl, (by omega), H656, rfl⟩ (by omega)
  exact zs
 have g657 := of_decide_eq_false b618
 refine Z18 _ b618 ?_
 apply zxb
 apply ztn
 apply Zt
 obtain ⟨K3, hK3, hK3q, hK33⟩ : ∃ K3 : Nat, min (q.C.length : Int) 3 = (K3 : Int) ∧ K3 ≤ q.C.length ∧ K3 ≤ 3 := ⟨min q.C.length 3, by omega, by omega, by omega⟩
 have hcq := ListAt.cap hqC
 have hK3l : (q.C.take K3).length = K3 := by rw [List.length_take]; omega
 apply ZU
 refine wv 243 (pt b6 3) ?_
 refine zw1 244 (.slice q.ca q.C.length q.cc) (H615.cell 2 rfl rfl) ?_
 refine wv 245 (pt b6 3) ?_
 refine zw1 246 (.slice q.ca q.C.length q.cc) (H615.cell 2 rfl rfl) ?_
 refine wv 247 (.int .i64 ((q.C.length : Int))) ?_
 refine wv 248 (.int .i64 ((K3 : Int))) ?_ (hr := e_min (k := .i64) (a := (q.C.length : Int)) (b := 3) (z := (K3 : Int)) rfl rfl (hK3))
 refine wv 249 (.slice q.ca K3 q.cc) ?_ (hr := Z9X (E := 53) (q := K3) (by kernel_rfl) (by kernel_rfl) rfl rfl (by omega) (by omega))
 refine wv 250 (pt b6 3) ?_
 refine zwd fun Kq kq => ?_
 refine zds (Ze q.ca K3 q.cc) (Z0b q.r q.e q.f q.ca K3 q.cc q.sb q.sm) H615 2 ?_
 intro w660 (H661 : Sat w [Z6 w (fun _ => False), Z0 b2 31 (Z4 y), Z0 b6 34 (Z0b q.r q.e q.f q.ca K3 q.cc q.sb q.sm), Z0 b10 36 (Z3 cf cn), Z0 b14 36 (Z7), Z0 b_ 110 (Zo mb_), (Zm mb_ L4), Z0 r_ 98 (Ze ra4 L4.length rc4), (Zn ra4 L4 rc4), Z0 x14 40 (Zb b_ r_), Z0 b48 45 (Zj lai Li.length lci), (Zd lai Li lci), Z0o Bi, (Zi aai Ai aci), Z0 x23 34 (Z0b r4 e4 f4 ca4 C.length cc4 sb4 sm4), Z5q (.slice ca4 C.length cc4) C] w660)
 refine kq _ _ ?_
 clear kq Kq
 apply znt
 have H663 := H661.ct 2 rfl (Z0 b6 34 (Z0b q.r q.e q.f q.ca ((q.C.take K3).length) q.cc q.sb q.sm)) (by rw [hK3l])
 have hqT : ∀ c_ ∈ q.C.take K3, CeL w c_ := fun c_ h_ => hqB c_ (List.mem_of_mem_take h_)
 refine Z0X [251, 252, 253, 254, 255, 256, 257, 258, 259] (fun G_ W_ => ∃ (cf2 : Int), (-1099511627776 ≤ cf2 ∧ cf2 ≤ 1099511627776) ∧ Sat w [Z6 w (fun _ => False), Z0 b2 31 (Z4 y), Z0 b6 34 (Z0b q.r q.e q.f q.ca ((q.C.take K3).length) q.cc q.sb q.sm), Z0 b10 36 (Z3 cf2 cn), Z0 b14 36 (Z7), Z0 b_ 110 (Zo mb_), (Zm mb_ L4), Z0 r_ 98 (Ze ra4 L4.length rc4), (Zn ra4 L4 rc4), Z0 x14 40 (Zb b_ r_), Z0 b48 45 (Zj lai Li.length lci), (Zd lai Li lci), Z0o Bi, (Zi aai Ai aci), Z0 x23 34 (Z0b r4 e4 f4 ca4 C.length cc4 sb4 sm4), Z5q (.slice ca4 C.length cc4) C] W_) ?_ ?_
 ·apply zsl
  refine wv 251 (pt b10 0) ?_
  refine zw1 252 (.int .i64 (cf)) (H663.cell 3 rfl rfl) ?_
  refine wv 253 (.bool (decide (cf > 1099511627776))) ?_
  refine wv 254 (.bool (decide (cf > 1099511627776))) ?_
  refine (Zl (decide (cf > 1099511627776))).elim (fun b665 => ?_) (fun b665 => ?_)
  ·have g666 := of_decide_eq_true b665
   refine ZI 254 (.bool true) (congrArg Value.bool b665) ?_
   iterate 3 refine wn 3 254 false ?_
   refine wv 258 (.bool true) ?_
   apply znt
   refine Z0P rfl ?_
   apply ZU
   refine wv 259 (pt b10 0) ?_
   refine zwd fun Kq kq => ?_
   refine zds ([(.int .i64 (1))] : List Value) ([(.int .i64 (1)), (.int .i64 (cn))] : List Value) H663 3 ?_
   intro w669 (H670 : Sat w [Z6 w (fun _ => False), Z0 b2 31 (Z4 y), Z0 b6 34 (Z0b q.r q.e q.f q.ca ((q.C.take K3).length) q.cc q.sb q.sm), Z0 b10 36 ([(.int .i64 (1)), (.int .i64 (cn))] : List Value), Z0 b14 36 (Z7), Z0 b_ 110 (Zo mb_), (Zm mb_ L4), Z0 r_ 98 (Ze ra4 L4.length rc4), (Zn ra4 L4 rc4), Z0 x14 40 (Zb b_ r_), Z0 b48 45 (Zj lai Li.length lci), (Zd lai Li lci), Z0o Bi, (Zi aai Ai aci), Z0 x23 34 (Z0b r4 e4 f4 ca4 C.length cc4 sb4 sm4), Z5q (.slice ca4 C.length cc4) C] w669)
   refine kq _ _ ?_
   clear kq Kq
   apply ZQ
   refine ZJ ?_ ⟨1, (by omega), H670⟩
   exact zs
  have g672 := of_decide_eq_false b665
  refine ZI 254 (.bool false) (congrArg Value.bool b665) ?_
  refine wy 3 254 false 255 (pt b10 0) ?_
  refine wy 3 254 false 256 (.int .i64 (cf)) ?_ (hr := Z2 rfl (by kernel_rfl) (H663.cell 3 rfl rfl))
  refine wy 3 254 false 257 (.bool (decide (cf < (-1099511627776)))) ?_
  refine wv 258 (.bool (decide (cf < (-1099511627776)))) ?_
  apply znt
  refine (Zl (decide (cf < (-1099511627776)))).elim (fun b674 => ?_) (fun b674 => ?_)
  ·have g675 := of_decide_eq_true b674
   refine Z1o _ b674 ?_
   apply ZU
   refine wv 259 (pt b10 0) ?_
   refine zwd fun Kq kq => ?_
   refine zds ([(.int .i64 (1))] : List Value) ([(.int .i64 (1)), (.int .i64 (cn))] : List Value) H663 3 ?_
   intro w678 H679
   refine kq _ _ ?_
   clear kq Kq
   apply ZQ
   refine ZJ ?_ ⟨1, (by omega), H679⟩
   exact zs
  have g681 := of_decide_eq_false b674
  refine Z18 _ b674 ?_
  apply ZL
  refine ZJ ?_ ⟨cf, (by omega), H663⟩
  exact zs
 rintro f683 w684 ⟨cf2, hcf2, H685⟩
 apply Zt
 refine zqs H685 ?_
 refine qv 260 (.agg ⟨(Z7)⟩) ?_ (hr := fun _ H' => (Zc (vs := (Z7)) rfl (by kernel_rfl) (by kernel_rfl) (by exact Nat.le_of_ble_eq_true (by kernel_rfl)) (H'.at 4 rfl) (by kernel_rfl)))
 refine qv 261 (pt x14 0) ?_
 refine qv 262 (pt b_ 0) ?_ (hr := fun _ H' => (Z2 rfl (by kernel_rfl) (H'.cell 9 rfl rfl)))
 refine qv 263 (.agg ⟨(Z0b r4 e4 f4 ca4 C.length cc4 sb4 sm4)⟩) ?_ (hr := fun _ H' => (Zc (vs := (Z0b r4 e4 f4 ca4 C.length cc4 sb4 sm4)) rfl (by kernel_rfl) (by kernel_rfl) (by exact Nat.le_of_ble_eq_true (by kernel_rfl)) (H'.at 14 rfl) (by kernel_rfl)))
 refine Z0B (Zs rfl) (d := 264) (v := (.bool (Z0n 1 3 L4 (⟨r4, e4, f4, ca4, cc4, sb4, sm4, C⟩ : PrR)))) rfl (fun _ _ => by kernel_rfl) (fun w' H' => (Z5S w' 1 3 (by omega) b_ mb_ L4 (H'.at 5 rfl) (H'.at 6 rfl) (⟨r4, e4, f4, ca4, cc4, sb4, sm4, C⟩ : PrR) (H'.at 15 rfl) (fun i_ hi_ => ((hC4 _ (Z1r hi_)).cb (H'.at 12 rfl)).big) (fun i_ hi_ _ => (hC4 _ (Z1r hi_)).len) (by show C.length ≤ 64; omega) ⟨by show r4 ≤ _; omega, by show e4 ≤ _; omega, by show 0 ≤ f4; omega, by show f4 < _; omega⟩).mono fun _ _ h => ⟨h.1, H'.keepU h.2⟩) ?_
 refine qv 265 (.agg ⟨(Z7)⟩) ?_ (hr := fun _ H' => (Zc (vs := (Z7)) rfl (by kernel_rfl) (by kernel_rfl) (by exact Nat.le_of_ble_eq_true (by kernel_rfl)) (H'.at 4 rfl) (by kernel_rfl)))
 refine qv 266 (pt x14 1) ?_
 refine qv 267 (pt r_ 0) ?_ (hr := fun _ H' => (Z2 rfl (by kernel_rfl) (H'.cell 9 rfl rfl)))
 refine qv 268 (.agg ⟨(Z0b r4 e4 f4 ca4 C.length cc4 sb4 sm4)⟩) ?_ (hr := fun _ H' => (Zc (vs := (Z0b r4 e4 f4 ca4 C.length cc4 sb4 sm4)) rfl (by kernel_rfl) (by kernel_rfl) (by exact Nat.le_of_ble_eq_true (by kernel_rfl)) (H'.at 14 rfl) (by kernel_rfl)))
 refine Z0B (Zs rfl) (d := 269) (v := (.bool (Z0n 1 3 L4 (⟨r4, e4, f4, ca4, cc4, sb4, sm4, C⟩ : PrR)))) rfl (fun _ _ => by kernel_rfl) (fun w' H' => (Z5L w' 1 3 (by omega) r_ ra4 rc4 L4 (H'.at 7 rfl) (H'.at 8 rfl) hn4 (by omega) (⟨r4, e4, f4, ca4, cc4, sb4, sm4, C⟩ : PrR) (H'.at 15 rfl) (fun i_ hi_ => ((hC4 _ (Z1r hi_)).cb (H'.at 12 rfl)).big) (fun i_ hi_ _ => (hC4 _ (Z1r hi_)).len) (by show C.length ≤ 64; omega) ⟨by show r4 ≤ _; omega, by show e4 ≤ _; omega, by show 0 ≤ f4; omega, by show f4 < _; omega⟩).mono fun _ _ h => ⟨h.1, H'.keepU h.2⟩) ?_
 refine qv 270 (.bool ((Z0n 1 3 L4 (⟨r4, e4, f4, ca4, cc4, sb4, sm4, C⟩ : PrR)) == (Z0n 1 3 L4 (⟨r4, e4, f4, ca4, cc4, sb4, sm4, C⟩ : PrR)))) ?_
 refine qv 271 (.bool ((Z0n 1 3 L4 (⟨r4, e4, f4, ca4, cc4, sb4, sm4, C⟩ : PrR)) == (Z0n 1 3 L4 (⟨r4, e4, f4, ca4, cc4, sb4, sm4, C⟩ : PrR)))) ?_
 have b686 : ((Z0n 1 3 L4 (⟨r4, e4, f4, ca4, cc4, sb4, sm4, C⟩ : PrR)) == (Z0n 1 3 L4 (⟨r4, e4, f4, ca4, cc4, sb4, sm4, C⟩ : PrR))) = true := by exact beq_self_eq_true _
 refine Z0k 271 (.bool true) (congrArg Value.bool b686) ?_
 refine qy 11 271 true 272 (.agg ⟨(Z3 cf2 cn)⟩) ?_ (hr := fun _ H' => (Zc (vs := (Z3 cf2 cn)) rfl (by kernel_rfl) (by kernel_rfl) (by exact Nat.le_of_ble_eq_true (by kernel_rfl)) (H'.at 3 rfl) (by kernel_rfl)))
 refine qy 11 271 true 273 (pt x14 0) ?_
 refine qy 11 271 true 274 (pt b_ 0) ?_ (hr := fun _ H' => (Z2 rfl (by kernel_rfl) (H'.cell 9 rfl rfl)))
 refine qy 11 271 true 275 (.agg ⟨(Z0b q.r q.e q.f q.ca ((q.C.take K3).length) q.cc q.sb q.sm)⟩) ?_ (hr := fun _ H' => (Zc (vs := (Z0b q.r q.e q.f q.ca ((q.C.take K3).length) q.cc q.sb q.sm)) rfl (by kernel_rfl) (by kernel_rfl) (by exact Nat.le_of_ble_eq_true (by kernel_rfl)) (H'.at 2 rfl) (by kernel_rfl)))
 refine Z0B (Z01 11 271 true rfl (by kernel_rfl) rfl (by kernel_rfl)) (d := 276) (v := (.bool (Z0n cf2 cn L4 (⟨q.r, q.e, q.f, q.ca, q.cc, q.sb, q.sm, q.C.take K3⟩ : PrR)))) rfl (fun _ _ => by kernel_rfl) (fun w' H' => (Z5S w' cf2 cn (by omega) b_ mb_ L4 (H'.at 5 rfl) (H'.at 6 rfl) (⟨q.r, q.e, q.f, q.ca, q.cc, q.sb, q.sm, q.C.take K3⟩ : PrR) (show ListAt Z0h 38 _ (.slice q.ca (q.C.take K3).length q.cc) (q.C.take K3) by rw [hK3l]; exact ListAt.take (k := K3) (ListAt.now H' 0 rfl hqC) (by omega)) (fun i_ hi_ => (hqT _ (Z1r hi_)).keep H' 0 rfl) (fun i_ hi_ hr_ => Z7H hsg4 hr_) (by show (q.C.take K3).length ≤ 64; omega) hqn).mono fun _ _ h => ⟨h.1, H'.keepU h.2⟩) ?_
 refine qy 11 271 true 277 (.agg ⟨(Z3 cf2 cn)⟩) ?_ (hr := fun _ H' => (Zc (vs := (Z3 cf2 cn)) rfl (by kernel_rfl) (by kernel_rfl) (by exact Nat.le_of_ble_eq_true (by kernel_rfl)) (H'.at 3 rfl) (by kernel_rfl)))
 refine qy 11 271 true 278 (pt x14 1) ?_
 refine qy 11 271 true 279 (pt r_ 0) ?_ (hr := fun _ H' => (Z2 rfl (by kernel_rfl) (H'.cell 9 rfl rfl)))
 refine qy 11 271 true 280 (.agg ⟨(Z0b q.r q.e q.f q.ca ((q.C.take K3).length) q.cc q.sb q.sm)⟩) ?_ (hr := fun _ H' => (Zc (vs := (Z0b q.r q.e q.f q.ca ((q.C.take K3).length) q.cc q.sb q.sm)) rfl (by kernel_rfl) (by kernel_rfl) (by exact Nat.le_of_ble_eq_true (by kernel_rfl)) (H'.at 2 rfl) (by kernel_rfl)))
 refine Z0B (Z01 11 271 true rfl (by kernel_rfl) rfl (by kernel_rfl)) (d := 281) (v := (.bool (Z0n cf2 cn L4 (⟨q.r, q.e, q.f, q.ca, q.cc, q.sb, q.sm, q.C.take K3⟩ : PrR)))) rfl (fun _ _ => by kernel_rfl) (fun w' H' => (Z5L w' cf2 cn (by omega) r_ ra4 rc4 L4 (H'.at 7 rfl) (H'.at 8 rfl) hn4 (by omega) (⟨q.r, q.e, q.f, q.ca, q.cc, q.sb, q.sm, q.C.take K3⟩ : PrR) (show ListAt Z0h 38 _ (.slice q.ca (q.C.take K3).length q.cc) (q.C.take K3) by rw [hK3l]; exact ListAt.take (k := K3) (ListAt.now H' 0 rfl hqC) (by omega)) (fun i_ hi_ => (hqT _ (Z1r hi_)).keep H' 0 rfl) (fun i_ hi_ hr_ => Z7H hsg4 hr_) (by show (q.C.take K3).length ≤ 64; omega) hqn).mono fun _ _ h => ⟨h.1, H'.keepU h.2⟩) ?_
 refine qy 11 271 true 282 (.bool ((Z0n cf2 cn L4 (⟨q.r, q.e, q.f, q.ca, q.cc, q.sb, q.sm, q.C.take K3⟩ : PrR)) == (Z0n cf2 cn L4 (⟨q.r, q.e, q.f, q.ca, q.cc, q.sb, q.sm, q.C.take K3⟩ : PrR)))) ?_
 refine qv 283 (.bool ((Z0n cf2 cn L4 (⟨q.r, q.e, q.f, q.ca, q.cc, q.sb, q.sm, q.C.take K3⟩ : PrR)) == (Z0n cf2 cn L4 (⟨q.r, q.e, q.f, q.ca, q.cc, q.sb, q.sm, q.C.take K3⟩ : PrR)))) ?_
 refine qv 284 (.bool ((Z0n cf2 cn L4 (⟨q.r, q.e, q.f, q.ca, q.cc, q.sb, q.sm, q.C.take K3⟩ : PrR)) == (Z0n cf2 cn L4 (⟨q.r, q.e, q.f, q.ca, q.cc, q.sb, q.sm, q.C.take K3⟩ : PrR)))) ?_
 have b687 : ((Z0n cf2 cn L4 (⟨q.r, q.e, q.f, q.ca, q.cc, q.sb, q.sm, q.C.take K3⟩ : PrR)) == (Z0n cf2 cn L4 (⟨q.r, q.e, q.f, q.ca, q.cc, q.sb, q.sm, q.C.take K3⟩ : PrR))) = true := by exact beq_self_eq_true _
 refine Z0k 284 (.bool true) (congrArg Value.bool b687) ?_
 refine qy 24 284 true 285 (.agg ⟨(Z3 cf2 cn)⟩) ?_ (hr := fun _ H' => (Zc (vs := (Z3 cf2 cn)) rfl (by kernel_rfl) (by kernel_rfl) (by exact Nat.le_of_ble_eq_true (by kernel_rfl)) (H'.at 3 rfl) (by kernel_rfl)))
 refine qy 24 284 true 286 (pt x14 0) ?_
 refine qy 24 284 true 287 (pt b_ 0) ?_ (hr := fun _ H' => (Z2 rfl (by kernel_rfl) (H'.cell 9 rfl rfl)))
 refine qy 24 284 true 288 (.agg ⟨(Z4 y)⟩) ?_ (hr := fun _ H' => (Zc (vs := (Z4 y)) rfl (by kernel_rfl) (by kernel_rfl) (by exact Nat.le_of_ble_eq_true (by kernel_rfl)) (H'.at 1 rfl) (by kernel_rfl)))
 refine Z0B (Z01 24 284 true rfl (by kernel_rfl) rfl (by kernel_rfl)) (d := 289) (v := (.bool (Z12 cf2 L4 y))) rfl (fun _ _ => by kernel_rfl) (fun w' H' => (Z4c w' cf2 cn (by omega) b_ mb_ L4 (H'.at 5 rfl) (H'.at 6 rfl) y hy).mono fun _ _ h => ⟨h.1, H'.keepU h.2⟩) ?_
 refine qy 24 284 true 290 (.agg ⟨(Z3 cf2 cn)⟩) ?_ (hr := fun _ H' => (Zc (vs := (Z3 cf2 cn)) rfl (by kernel_rfl) (by kernel_rfl) (by exact Nat.le_of_ble_eq_true (by kernel_rfl)) (H'.at 3 rfl) (by kernel_rfl)))
 refine qy 24 284 true 291 (pt x14 1) ?_
 refine qy 24 284 true 292 (pt r_ 0) ?_ (hr := fun _ H' => (Z2 rfl (by kernel_rfl) (H'.cell 9 rfl rfl)))
 refine qy 24 284 true 293 (.agg ⟨(Z4 y)⟩) ?_ (hr := fun _ H' => (Zc (vs := (Z4 y)) rfl (by kernel_rfl) (by kernel_rfl) (by exact Nat.le_of_ble_eq_true (by kernel_rfl)) (H'.at 1 rfl) (by kernel_rfl)))
 refine Z0B (Z01 24 284 true rfl (by kernel_rfl) rfl (by kernel_rfl)) (d := 294) (v := (.bool (Z12 cf2 L4 y))) rfl (fun _ _ => by kernel_rfl) (fun w' H' => (Z48 w' cf2 cn (by omega) r_ ra4 rc4 L4 (H'.at 7 rfl) (H'.at 8 rfl) hn4 (by omega) y hy).mono fun _ _ h => ⟨h.1, H'.keepU h.2⟩) ?_
 refine qy 24 284 true 295 (.bool ((Z12 cf2 L4 y) == (Z12 cf2 L4 y))) ?_
 refine qv 296 (.bool ((Z12 cf2 L4 y) == (Z12 cf2 L4 y))) ?_
 refine qv 297 (.bool ((Z12 cf2 L4 y) == (Z12 cf2 L4 y))) ?_
 have b688 : ((Z12 cf2 L4 y) == (Z12 cf2 L4 y)) = true := by exact beq_self_eq_true _
 refine Z0k 297 (.bool true) (congrArg Value.bool b688) ?_
 refine Z0B (Z01 37 297 true rfl (by kernel_rfl) rfl (by kernel_rfl)) (d := 298) (v := (.bool true)) rfl (fun _ _ => by kernel_rfl) (fun w' H' => (Z8C w').mono fun _ _ h => ⟨h.1, H'.keepU h.2⟩) ?_
 refine qv 299 (.bool true) ?_
 refine qv 12 (.bool true) ?_
 refine Z0S ?_
 intro w689 H690
 apply ztn
 apply ZA
 refine ze1 (.bool true) ?_
 exact ⟨rfl, H690.upd 0 rfl [] (fun _ h => h.elim)⟩
end Go.Proofs.YtoaifondpohniaaGreat
