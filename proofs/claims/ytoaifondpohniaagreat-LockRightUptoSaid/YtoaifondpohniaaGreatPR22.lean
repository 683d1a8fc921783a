/- WHAT IS PROVED: contracts and plain laws of WtA, LtG. Conditions: stated with each. -/
import Derived.Test.YtoaifondpohniaaGreatPR03
import Derived.Test.YtoaifondpohniaaGreatPR04
import Derived.Test.YtoaifondpohniaaGreatPR08
import Derived.Test.YtoaifondpohniaaGreatPR15
import Derived.Test.YtoaifondpohniaaGreatPR16
import Derived.Test.YtoaifondpohniaaGreatPR17
import Derived.Test.YtoaifondpohniaaGreatPR18
import Derived.Test.YtoaifondpohniaaGreatPR19
import Derived.Test.YtoaifondpohniaaGreatPR21
set_option maxHeartbeats 4000000
set_option maxRecDepth 100000
namespace Go.Proofs.YtoaifondpohniaaGreat
open Go.RowKit
abbrev Z3X (p0 : Z5) : List Value := ([(.int .i64 p0.r), (.int .i64 p0.cl), (.int .i64 p0.seq)] : List Value) ++ hc p0.h ++ ([(.int .u64 p0.t), (.int .i64 p0.sb), (.int .i64 p0.sm)] : List Value)
abbrev Z56 (p0 : Option Addr) (p1 : List UInt8) (p2 : Nat) : Ck := ZH 5 1 (.slice p0 p1.length p2) p1.length (p1.flatMap ZN)
theorem Z7P (w : World) (s : Z5) (hs : (s.r ≤ 9223372036854775807 ∧ s.cl ≤ 9223372036854775807 ∧ s.seq ≤ 9223372036854775807 ∧ 0 ≤ s.t ∧ s.t < 18446744073709551616)) :
  Calls Tryz.prog 50 #[(.agg ⟨(([(.int .i64 (s.r)), (.int .i64 (s.cl)), (.int .i64 (s.seq))] : List Value) ++ hc s.h ++ ([(.int .u64 (s.t)), (.int .i64 (s.sb)), (.int .i64 (s.sm))] : List Value))⟩)] w fun e w' => ∃ u, e = .returned u ∧ (ZH 5 1 u (Z1H s).length ((Z1H s).flatMap ZN)).ok w' ∧ Upd [] w w' ∧ ∀ q_, (ZH 5 1 u (Z1H s).length ((Z1H s).flatMap ZN)).fp q_ → w.heap.size ≤ q_ := by
 have H := Sat.start0 w
 refine Zp Tryz.func50 rfl 20 rfl (Nat.le_of_ble_eq_true rfl) ?_
 apply zsl
 refine zwd fun Kq kq => ?_
 refine zdb (Z3X s) H ?_
 intro b2 w3 H4
 refine kq _ _ ?_
 clear kq Kq
 refine wv 2 (.slice none 0 0) ?_
 apply znt
 apply Zt
 refine Z00 H4 [Z6 w (fun _ => False), Z0 b2 31 (Z3X s)] 5 rfl (by kernel_rfl) (fun Hx => (Hx.pk [0, 1])) ?_
 intro w5 H6 S7
 refine hv0 1 S7 5 (pt b2 0) ?_
 refine hv0 2 S7 6 (.int .i64 (s.r)) ?_ (he := fun _ H' => (Z2 rfl (by kernel_rfl) (H'.cell 1 rfl (by kernel_rfl))))
 refine Z09 0 fun Kq kq => ?_
 refine zdc 4 (Z5V w5 ([97, 99, 107]) (by decide)) ?_
 rintro _ w9 ⟨r10, a11, c12, rfl, k13, p14, q15⟩
 have H16 : Sat w [Z6 w (fun _ => False), Z0 b2 31 (Z3X s), Z0c (wrL r10 a11 c12 (ZM ([97, 99, 107])))] w9 := H6.addU p14 k13 q15
 have H17 := H16.open 2 rfl
 refine ⟨_, rfl, ?_⟩
 have l18 := (show (ZM [97, 99, 107]).length ≤ 13 from Z1d _)
 have S19 := H17.pk [0, 1]
 refine kq _ _ S19 ?_
 clear kq Kq
 refine Z09 3 fun Kq kq => ?_
 have l26 := ZD s.r
 refine zdc 7 (Z0H w9 r10 a11 c12 (ZM ([97, 99, 107])) (H17.fn [2, 3]) (by omega) s.r (by omega)) ?_
 rintro _ w21 ⟨a23, c24, rfl, T22⟩
 have H27 : Sat w [Z6 w (fun _ => False), Z0 b2 31 (Z3X s), Z0 r10 174 ([(.slice a23 (((ZM ([97, 99, 107])) ++ Zh s.r).length) c24)] : List Value), (Z56 a23 ((ZM ([97, 99, 107])) ++ Zh s.r) c24)] w21 := (Sat.turnL (L' := [Z0 r10 174 ([(.slice a23 (((ZM ([97, 99, 107])) ++ Zh s.r).length) c24)] : List Value), (Z56 a23 ((ZM ([97, 99, 107])) ++ Zh s.r) c24)]) (R := [Z6 w (fun _ => False), Z0 b2 31 (Z3X s)]) H17 [2, 3] [0, 1] (by decide) (by kernel_rfl) rfl T22).pk [2, 3, 0, 1]
 refine ⟨_, rfl, ?_⟩
 have S28 := H27.pk [0, 1]
 refine kq _ _ S28 ?_
 clear kq Kq
 refine hv0 4 S28 3 (pt r10 0) ?_
 refine zhf ?_
 apply ztn
 apply zsl
 refine wv 8 (pt r10 0) ?_
 refine wv 9 (pt b2 1) ?_
 refine zwN 10 ([(.int .i64 (s.cl)), (.int .i64 (s.seq))] : List Value) (H27.at 1 rfl) ?_
 refine zwd fun Kq kq => ?_
 have l35 := Z1X s.cl s.seq
 refine zdc 11 (Z4F w21 r10 a23 c24 ((ZM ([97, 99, 107])) ++ Zh s.r) (H27.fn [2, 3]) (by simp only [List.length_append, List.length_nil]; omega) s.cl s.seq (by omega)) ?_
 rintro _ w30 ⟨a32, c33, rfl, T31⟩
 have H36 := H27.tl [Z0 r10 174 ([(.slice a32 ((((ZM ([97, 99, 107])) ++ Zh s.r) ++ ZT s.cl s.seq).length) c33)] : List Value), (Z56 a32 (((ZM ([97, 99, 107])) ++ Zh s.r) ++ ZT s.cl s.seq) c33)] [2, 3] [0, 1] T31 [2, 3, 0, 1]
 refine ⟨_, rfl, ?_⟩
 refine kq _ _ ?_
 clear kq Kq
 apply znt
 apply Zt
 refine Z00 H36 [Z6 w (fun _ => False), Z0 b2 31 (Z3X s)] 9 rfl (by kernel_rfl) (fun Hx => (Hx.pk [0, 1])) ?_
 intro w37 H38 S39
 refine hv0 0 S39 12 (pt r10 0) ?_
 refine hv0 1 S39 13 (pt b2 3) ?_
 refine hv0 2 S39 14 (.agg ⟨(hc s.h)⟩) ?_ (he := fun _ H' => (Zc (vs := (hc s.h)) rfl (by kernel_rfl) (by kernel_rfl) (by exact Nat.le_of_ble_eq_true (by kernel_rfl)) (H'.at 1 rfl) (by kernel_rfl)))
 refine hv0 4 S39 16 (pt b2 35) ?_
 refine hv0 5 S39 17 (.int .u64 (s.t)) ?_ (he := fun _ H' => (Z2 rfl (by kernel_rfl) (H'.cell 1 rfl (by kernel_rfl))))
 refine Z09 3 fun Kq kq => ?_
 have l46 := s.h.len
 refine zdc 15 (Z2x w37 r10 a32 c33 (((ZM ([97, 99, 107])) ++ Zh s.r) ++ ZT s.cl s.seq) (H38.fn [2, 3]) (by simp only [List.length_append, List.length_nil]; omega) s.h) ?_
 rintro _ w41 ⟨a43, c44, rfl, T42⟩
 have H47 : Sat w [Z6 w (fun _ => False), Z0 b2 31 (Z3X s), Z0 r10 174 ([(.slice a43 (((((ZM ([97, 99, 107])) ++ Zh s.r) ++ ZT s.cl s.seq) ++ s.h.l).length) c44)] : List Value), (Z56 a43 ((((ZM ([97, 99, 107])) ++ Zh s.r) ++ ZT s.cl s.seq) ++ s.h.l) c44)] w41 := (Sat.turnL (L' := [Z0 r10 174 ([(.slice a43 (((((ZM ([97, 99, 107])) ++ Zh s.r) ++ ZT s.cl s.seq) ++ s.h.l).length) c44)] : List Value), (Z56 a43 ((((ZM ([97, 99, 107])) ++ Zh s.r) ++ ZT s.cl s.seq) ++ s.h.l) c44)]) (R := [Z6 w (fun _ => False), Z0 b2 31 (Z3X s)]) H38 [2, 3] [0, 1] (by decide) (by kernel_rfl) rfl T42).pk [2, 3, 0, 1]
 refine ⟨_, rfl, ?_⟩
 have S48 := H47.pk [0, 1]
 refine kq _ _ S48 ?_
 clear kq Kq
 refine Z09 6 fun Kq kq => ?_
 have l55 := Z1M s.t.toNat
 refine Z2p (d := 18) rfl (by rw [show s.t = ((s.t.toNat : Nat) : Int) by omega]; kernel_rfl) (Z4G w41 r10 a43 c44 ((((ZM ([97, 99, 107])) ++ Zh s.r) ++ ZT s.cl s.seq) ++ s.h.l) (H47.fn [2, 3]) (by simp only [List.length_append, List.length_nil]; omega) s.t.toNat (by omega)) ?_
 rintro _ w50 ⟨a52, c53, rfl, T51⟩
 have H56 := H47.tl [Z0 r10 174 ([(.slice a52 ((((((ZM ([97, 99, 107])) ++ Zh s.r) ++ ZT s.cl s.seq) ++ s.h.l) ++ Z0W s.t.toNat).length) c53)] : List Value), (Z56 a52 (((((ZM ([97, 99, 107])) ++ Zh s.r) ++ ZT s.cl s.seq) ++ s.h.l) ++ Z0W s.t.toNat) c53)] [2, 3] [0, 1] T51 [2, 3, 0, 1]
 refine ⟨_, rfl, ?_⟩
 have S57 := H56.pk [0, 1]
 refine kq _ _ S57 ?_
 clear kq Kq
 refine Z09 7 fun Kq kq => ?_
 refine zdc 19 (Z2o w50 r10 a52 c53 (((((ZM ([97, 99, 107])) ++ Zh s.r) ++ ZT s.cl s.seq) ++ s.h.l) ++ Z0W s.t.toNat) (H56.fn [2, 3]) (by simp only [List.length_append, List.length_nil]; omega)) ?_
 rintro _ w59 ⟨u60, rfl, T61⟩
 have H62 : Sat w [Z6 w (fun _ => False), Z0 b2 31 (Z3X s), Z0 r10 174 ([(.slice a52 ((((((ZM ([97, 99, 107])) ++ Zh s.r) ++ ZT s.cl s.seq) ++ s.h.l) ++ Z0W s.t.toNat).length) c53)] : List Value), (Z56 a52 (((((ZM ([97, 99, 107])) ++ Zh s.r) ++ ZT s.cl s.seq) ++ s.h.l) ++ Z0W s.t.toNat) c53), ZH 5 1 u60 ((((((ZM ([97, 99, 107])) ++ Zh s.r) ++ ZT s.cl s.seq) ++ s.h.l) ++ Z0W s.t.toNat).length) ((((((ZM ([97, 99, 107])) ++ Zh s.r) ++ ZT s.cl s.seq) ++ s.h.l) ++ Z0W s.t.toNat).flatMap ZN)] w59 := (Sat.turnL (L' := [Z0 r10 174 ([(.slice a52 ((((((ZM ([97, 99, 107])) ++ Zh s.r) ++ ZT s.cl s.seq) ++ s.h.l) ++ Z0W s.t.toNat).length) c53)] : List Value), (Z56 a52 (((((ZM ([97, 99, 107])) ++ Zh s.r) ++ ZT s.cl s.seq) ++ s.h.l) ++ Z0W s.t.toNat) c53), ZH 5 1 u60 ((((((ZM ([97, 99, 107])) ++ Zh s.r) ++ ZT s.cl s.seq) ++ s.h.l) ++ Z0W s.t.toNat).length) ((((((ZM ([97, 99, 107])) ++ Zh s.r) ++ ZT s.cl s.seq) ++ s.h.l) ++ Z0W s.t.toNat).flatMap ZN)]) (R := [Z6 w (fun _ => False), Z0 b2 31 (Z3X s)]) H56 [2, 3] [0, 1] (by decide) (by kernel_rfl) rfl T61).pk [3, 4, 0, 1, 2]
 obtain ⟨a63, c64, rfl⟩ := Z1 (H62.at 4 rfl)
 refine ⟨_, rfl, ?_⟩
 have S65 := H62.pk [0, 1]
 refine kq _ _ S65 ?_
 clear kq Kq
 refine hv0 8 S65 2 (.slice a63 (((((ZM ([97, 99, 107])) ++ Zh s.r) ++ ZT s.cl s.seq) ++ s.h.l) ++ Z0W s.t.toNat).length c64) ?_
 refine zhf ?_
 apply ztn
 apply ZA
 refine ze1 (.slice a63 (((((ZM ([97, 99, 107])) ++ Zh s.r) ++ ZT s.cl s.seq) ++ s.h.l) ++ Z0W s.t.toNat).length c64) ?_
 have hX : (((((ZM ([97, 99, 107])) ++ Zh s.r) ++ ZT s.cl s.seq) ++ s.h.l) ++ Z0W s.t.toNat) = Z1H s := by simp only [Z1H, Z15, List.flatten_cons, List.flatten_nil, List.append_nil, List.append_assoc, List.nil_append]
 exact ⟨_, rfl, (by rw [← hX]; exact H62.at 4 rfl), H62.upd 0 rfl [] (fun _ h => h.elim), (by rw [← hX]; exact H62.fresh 0 rfl (fun _ h => h) 4 rfl rfl)⟩
abbrev Z5w (p0 : Int) (p1 : Int) : List Value := ([(.int .i64 p0), (.int .i64 p1)] : List Value)
abbrev Z7r (p0 : Zg) (p1 : Option Addr) (p2 : Nat) (p3 : Nat) : List Value := ([(.int .i64 p0.cl), (.int .i64 p0.seq)] : List Value) ++ hc p0.h ++ ([(.int .i64 p0.len), (.int .i64 p0.sb), (.int .i64 p0.sm), (.slice p1 p2 p3)] : List Value)
abbrev kLtG_2 : List Value := ([(.int .i64 (0)), (.int .i64 (0))] : List Value) ++ hc Z0d ++ ([(.int .i64 (0)), (.int .i64 (0)), (.int .i64 (0)), (.slice none 0 0)] : List Value)
abbrev ZbS (p0 : Int) (p1 : Int) (p2 : Int) (p3 : Nat) : List Value := ([(.int .i64 p0), (.int .i64 p1), (.int .i64 p2), (.map (some p3))] : List Value)
def Z2S (f c : Int) : Bool := decide (1 ≤ f) && decide (f ≤ 21) && decide (1 ≤ c) && decide (c ≤ 100)
def ceV (c : CeR) : Value := .agg ⟨Z0h c⟩
theorem zeroCe (w : World) : (zeroValue 53).run Tryz.prog w = .ok (ceV ce0) w := by kernel_rfl
theorem Zaq {M : List (NmD × CeR)} {a : NmD} (P : CeR → Prop) (h0 : P ce0) (h : ∀ q ∈ M, P q.2) : P ((ZV M a).getD ce0) := by
 cases e : ZV M a with
 | none => exact h0
 | some v => exact h _ (Z5G e)
theorem ZcD {w : World} : (stC ce0).ok w := ⟨rfl, .inl ⟨rfl, rfl⟩⟩
theorem Zcs {M : List (NmD × CeR)} {a : NmD} {w : World} (h : ∀ q ∈ M, (stC q.2).ok w ∧ q.2.S.length ≤ 12) : (stC ((ZV M a).getD ce0)).ok w := Zaq (fun c => (stC c).ok w) ZcD fun q hq => (h q hq).1
theorem Zbp {M : List (NmD × CeR)} {a : NmD} {w : World} (h : ∀ q ∈ M, (stC q.2).ok w ∧ q.2.S.length ≤ 12) : ((ZV M a).getD ce0).S.length ≤ 1000 := Zaq (fun c => c.S.length ≤ 1000) (by decide) fun q hq => Nat.le_trans (h q hq).2 (by decide)
theorem Z9z (w : World) (f c : Int) :
  Calls Tryz.prog 56 #[(.agg ⟨([(.int .i64 (f)), (.int .i64 (c))] : List Value)⟩)] w fun e w' => e = .returned (.bool (Z2S f c)) ∧ Upd [] w w' := by
 have H := Sat.start0 w
 refine Zp Tryz.func56 rfl 21 rfl (Nat.le_of_ble_eq_true rfl) ?_
 apply zsl
 refine zwd fun Kq kq => ?_
 refine zdb (Z5w f c) H ?_
 intro b2 w3 H4
 refine kq _ _ ?_
 clear kq Kq
 refine wv 2 (.bool false) ?_
 apply znt
 refine Z0X (List.range' 2 19) (fun G_ W_ => G_ 2 = (.bool (Z2S f c)) ∧ Sat w [Z6 w (fun _ => False), Z0 b2 36 (Z5w f c)] W_) ?_ ?_
 ·apply ZU
  refine wv 3 (pt b2 0) ?_
  refine zw1 4 (.int .i64 (f)) (H4.cell 1 rfl rfl) ?_
  refine wv 5 (.bool (decide (f ≥ 1))) ?_
  refine wv 6 (.bool (decide (f ≥ 1))) ?_
  refine (Zl (decide (f ≥ 1))).elim (fun b6 => ?_) (fun b6 => ?_)
  ·have g7 := of_decide_eq_true b6
   refine ZI 6 (.bool true) (congrArg Value.bool b6) ?_
   refine wy 3 6 true 7 (pt b2 0) ?_
   refine wy 3 6 true 8 (.int .i64 (f)) ?_ (hr := Z2 rfl (by kernel_rfl) (H4.cell 1 rfl rfl))
   refine wy 3 6 true 9 (.bool (decide (f ≤ 21))) ?_
   refine wv 10 (.bool (decide (f ≤ 21))) ?_
   refine wv 11 (.bool (decide (f ≤ 21))) ?_
   refine (Zl (decide (f ≤ 21))).elim (fun b8 => ?_) (fun b8 => ?_)
   ·have g9 := of_decide_eq_true b8
    refine ZI 11 (.bool true) (congrArg Value.bool b8) ?_
    refine wy 8 11 true 12 (pt b2 1) ?_
    refine wy 8 11 true 13 (.int .i64 (c)) ?_ (hr := Z2 rfl (by kernel_rfl) (H4.cell 1 rfl rfl))
    refine wy 8 11 true 14 (.bool (decide (c ≥ 1))) ?_
    refine wv 15 (.bool (decide (c ≥ 1))) ?_
    refine wv 16 (.bool (decide (c ≥ 1))) ?_
    refine (Zl (decide (c ≥ 1))).elim (fun b10 => ?_) (fun b10 => ?_)
    ·have g11 := of_decide_eq_true b10
     refine ZI 16 (.bool true) (congrArg Value.bool b10) ?_
     refine wy 13 16 true 17 (pt b2 1) ?_
     refine wy 13 16 true 18 (.int .i64 (c)) ?_ (hr := Z2 rfl (by kernel_rfl) (H4.cell 1 rfl rfl))
     refine wy 13 16 true 19 (.bool (decide (c ≤ 100))) ?_
     refine wv 20 (.bool (decide (c ≤ 100))) ?_
     refine wv 2 (.bool (decide (c ≤ 100))) ?_
     apply ZQ
     refine ZJ ?_ ⟨(congrArg Value.bool (show (decide (c ≤ 100)) = (Z2S f c) by simp [Z2S, b6, b8, b10])), H4⟩
     exact zs
    have g12 := of_decide_eq_false b10
    refine ZI 16 (.bool false) (congrArg Value.bool b10) ?_
    iterate 3 refine wn 13 16 true ?_
    refine wv 20 (.bool false) ?_
    refine wv 2 (.bool false) ?_
    apply ZQ
    refine ZJ ?_ ⟨(congrArg Value.bool (show false = (Z2S f c) by simp [Z2S, b6, b8, b10])), H4⟩
    exact zs
   have g13 := of_decide_eq_false b8
   refine ZI 11 (.bool false) (congrArg Value.bool b8) ?_
   iterate 3 refine wn 8 11 true ?_
   refine wv 15 (.bool false) ?_
   refine wv 16 (.bool false) ?_
   iterate 3 refine wn 13 16 true ?_
   refine wv 20 (.bool false) ?_
   refine wv 2 (.bool false) ?_
   apply ZQ
   refine ZJ ?_ ⟨(congrArg Value.bool (show false = (Z2S f c) by simp [Z2S, b6, b8])), H4⟩
   exact zs
  have g14 := of_decide_eq_false b6
  refine ZI 6 (.bool false) (congrArg Value.bool b6) ?_
  iterate 3 refine wn 3 6 true ?_
  refine wv 10 (.bool false) ?_
  refine wv 11 (.bool false) ?_
  iterate 3 refine wn 8 11 true ?_
  refine wv 15 (.bool false) ?_
  refine wv 16 (.bool false) ?_
  iterate 3 refine wn 13 16 true ?_
  refine wv 20 (.bool false) ?_
  refine wv 2 (.bool false) ?_
  apply ZQ
  refine ZJ ?_ ⟨(congrArg Value.bool (show false = (Z2S f c) by simp [Z2S, b6])), H4⟩
  exact zs
 rintro f15 w16 ⟨v18, H17⟩
 refine ZF 2 _ v18 ?_
 apply ZA
 refine ze1 (.bool (Z2S f c)) ?_
 exact ⟨rfl, H17.upd 0 rfl [] (fun _ h => h.elim)⟩
theorem Z7b (w : World) (x : Zg) (sa : Option Addr) (sc : Nat) (S : List Z5) (hrow : (ZH 101 38 (.slice sa S.length sc) S.length (S.flatMap Z0J)).ok w) (hlS : S.length ≤ 1000) :
  Calls Tryz.prog 58 #[(.agg ⟨(([(.int .i64 (x.cl)), (.int .i64 (x.seq))] : List Value) ++ hc x.h ++ ([(.int .i64 (x.len)), (.int .i64 (x.sb)), (.int .i64 (x.sm)), ((.slice sa S.length sc))] : List Value))⟩)] w fun e w' => ∃ u, e = .returned (.agg ⟨Z61 x ++ [u]⟩) ∧ (ZH 101 38 u S.length (S.flatMap Z0J)).ok w' ∧ Upd [] w w' ∧ ∀ q_, (ZH 101 38 u S.length (S.flatMap Z0J)).fp q_ → w.heap.size ≤ q_ := by
 have H := Sat.start0 w
 refine Zp Tryz.func58 rfl 8 rfl (Nat.le_of_ble_eq_true rfl) ?_
 apply zsl
 refine zwd fun Kq kq => ?_
 refine zdb (Z7r x sa S.length sc) H ?_
 intro b2 w3 H4
 refine kq _ _ ?_
 clear kq Kq
 refine zwd fun Kq kq => ?_
 refine zda (kLtG_2) H4 ?_
 intro b6 w7 H8
 refine kq _ _ ?_
 clear kq Kq
 apply Z1y
 refine wv 3 (pt b2 37) ?_
 refine zw1 4 ((.slice sa S.length sc)) (H8.cell 1 rfl (by kernel_rfl)) ?_
 refine zwd fun Kq kq => ?_
 refine zdc 5 (Z9f w7 ((.slice sa S.length sc)) S (H8.roCk 0 rfl hrow (fun _ _ h => h)) hlS) ?_
 rintro _ w10 ⟨u11, rfl, k12, p13, q14⟩
 have H15 := H8.addU p13 k12 q14
 obtain ⟨a16, c17, rfl⟩ := Z1 (H15.at 3 rfl)
 refine ⟨_, rfl, ?_⟩
 refine kq _ _ ?_
 clear kq Kq
 refine wv 6 (pt b2 37) ?_
 refine zwd fun Kq kq => ?_
 refine zds ([(.slice a16 S.length c17)] : List Value) (Z7r x a16 S.length c17) H15 1 ?_
 intro w19 H20
 refine kq _ _ ?_
 clear kq Kq
 apply Z1y
 refine zwN 7 (Z7r x a16 S.length c17) (H20.at 1 rfl) ?_
 refine zwd fun Kq kq => ?_
 refine Z2k (Z7r x a16 S.length c17) H20 2 ?_
 intro w23 H24
 refine kq _ _ ?_
 clear kq Kq
 apply znt
 apply ZA
 refine Z6E rfl (Z0i (vs := (Z7r x a16 S.length c17)) rfl (by kernel_rfl) (by kernel_rfl) (by exact Nat.le_of_ble_eq_true (by kernel_rfl)) (H24.at 2 rfl) (by kernel_rfl)) ?_
 exact ⟨_, rfl, H24.at 3 rfl, H24.upd 0 rfl [] (fun _ h => h.elim), H24.fresh 0 rfl (fun _ h => h) 3 rfl rfl⟩
theorem Zar (w : World) (F Cn rp : Int) (hF : -1099511627776 ≤ F ∧ F ≤ 1099511627776) :
  Calls Tryz.prog 22 #[(.agg ⟨([(.int .i64 (F)), (.int .i64 (Cn))] : List Value)⟩), (.int .i64 (rp))] w fun e w' => (e = .returned (.tuple #[.pointer none, .int .i64 1]) ∧ (Z2S F Cn && inB F rp) = false ∧ Upd [] w w') ∨ ∃ t tm, e = .returned (.tuple #[.pointer (some ⟨t, 0, none⟩), .int .i64 0]) ∧ (Z2S F Cn && inB F rp) = true ∧ Sat w [Z0 t 121 [.int .i64 F, .int .i64 Cn, .int .i64 rp, .map (some tm)], Z3d tm nmV ceV [], Z6 w (fun _ => False)] w' := by
 have H := Sat.start0 w
 refine Zp Tryz.func22 rfl 20 rfl (Nat.le_of_ble_eq_true rfl) ?_
 apply zsl
 refine zwd fun Kq kq => ?_
 refine zdb (Z5w F Cn) H ?_
 intro b2 w3 H4
 refine kq _ _ ?_
 clear kq Kq
 refine wv 4 (.pointer none) ?_
 refine wv 5 (.int .i64 (0)) ?_
 apply znt
 apply Zt
 apply zsl
 refine zwN 6 (Z5w F Cn) (H4.at 1 rfl) ?_
 refine zwd fun Kq kq => ?_
 refine zdq 7 (Z9z w3 F Cn) H4 ?_
 intro w6 H7
 refine kq _ _ ?_
 clear kq Kq
 refine wv 8 (.bool (!(Z2S F Cn))) ?_
 refine wv 9 (.bool (!(Z2S F Cn))) ?_
 refine (Zl (!(Z2S F Cn))).elim (fun b9 => ?_) (fun b9 => ?_)
 ·have g10 := Zy b9
  refine ZI 9 (.bool true) (congrArg Value.bool b9) ?_
  iterate 4 refine wn 3 9 false ?_
  refine wv 14 (.bool true) ?_
  apply znt
  refine Z0P rfl ?_
  apply zsl
  refine wv 4 (.pointer none) ?_
  refine wv 5 (.int .i64 (1)) ?_
  apply znt
  apply ZA
  apply Zr
  refine ze2 (.pointer none) (.int .i64 (1)) ?_
  exact .inl ⟨rfl, (by have q0_ := b9; revert q0_; generalize Z2S F Cn = p_; generalize inB F rp = q_; cases p_ <;> cases q_ <;> decide), H7.upd 0 rfl [] (fun _ h => h.elim)⟩
 have g12 := Za b9
 refine ZI 9 (.bool false) (congrArg Value.bool b9) ?_
 refine wy 3 9 false 10 (.agg ⟨(Z5w F Cn)⟩) ?_ (hr := Zc (vs := (Z5w F Cn)) rfl (by kernel_rfl) (by kernel_rfl) (by exact Nat.le_of_ble_eq_true (by kernel_rfl)) (H7.at 1 rfl) (by kernel_rfl))
 refine wy 3 9 false 11 (.int .i64 (rp)) ?_
 refine Z5d (Z01 3 9 false rfl (by kernel_rfl) rfl (by kernel_rfl)) (fun Kq kq => ?_)
 refine zdq 12 (Z74 w6 F Cn rp (by omega)) H7 ?_
 intro w15 H16
 refine kq _ _ ?_
 clear kq Kq
 refine wy 3 9 false 13 (.bool (!(inB F rp))) ?_
 refine wv 14 (.bool (!(inB F rp))) ?_
 apply znt
 refine (Zl (!(inB F rp))).elim (fun b18 => ?_) (fun b18 => ?_)
 ·have g19 := Zy b18
  refine Z1o _ b18 ?_
  apply zsl
  refine wv 4 (.pointer none) ?_
  refine wv 5 (.int .i64 (1)) ?_
  apply znt
  apply ZA
  apply Zr
  refine ze2 (.pointer none) (.int .i64 (1)) ?_
  exact .inl ⟨rfl, (by have q0_ := b9; have q1_ := b18; revert q0_ q1_; generalize Z2S F Cn = p_; generalize inB F rp = q_; cases p_ <;> cases q_ <;> decide), H16.upd 0 rfl [] (fun _ h => h.elim)⟩
 have g21 := Za b18
 refine Z18 _ b18 ?_
 apply ZL
 apply ztn
 apply zsl
 refine zwN 15 (Z5w F Cn) (H16.at 1 rfl) ?_
 refine wv 16 (.int .i64 (rp)) ?_
 refine zwd fun Kq kq => ?_
 refine Z7h nmV ceV rfl H16 ?_
 intro b24 w25 H26
 refine kq _ _ ?_
 clear kq Kq
 refine wv 18 (.agg ⟨(ZbS F Cn rp b24)⟩) ?_
 refine zwd fun Kq kq => ?_
 refine zdb (ZbS F Cn rp b24) H26 ?_
 intro b28 w29 H30
 refine kq _ _ ?_
 clear kq Kq
 refine wv 4 (pt b28 0) ?_
 refine wv 5 (.int .i64 (0)) ?_
 apply znt
 apply ZA
 refine ze2 (pt b28 0) (.int .i64 (0)) ?_
 exact .inr ⟨b28, b24, rfl, (by have q0_ := b9; have q1_ := b18; revert q0_ q1_; generalize Z2S F Cn = p_; generalize inB F rp = q_; cases p_ <;> cases q_ <;> decide), H30.pk [3, 2, 0]⟩
end Go.Proofs.YtoaifondpohniaaGreat
