/- WHAT IS PROVED: contracts and plain laws of Rt3L. Conditions: stated with each. -/
import Derived.Test.YtoaifondpohniaaGreatPR04
import Derived.Test.YtoaifondpohniaaGreatPR17
set_option maxHeartbeats 4000000
set_option maxRecDepth 100000
namespace Go.Proofs.YtoaifondpohniaaGreat
open Go.RowKit
abbrev Z3b (p0 : Option Addr) (p1 : List UInt8) (p2 : Nat) : Ck := ZH 5 1 (.slice p0 p1.length p2) p1.length (p1.flatMap ZN)
abbrev Z8g (p0 : CeR) : List Value := ([(.int .i64 p0.x.cl), (.int .i64 p0.x.seq)] : List Value) ++ hc p0.x.h ++ ([(.int .i64 p0.x.len), (.int .i64 p0.x.sb), (.int .i64 p0.x.sm), (.slice p0.sa p0.S.length p0.sc)] : List Value)
abbrev Z8h (p0 : Option Addr) (p1 : Nat) (p2 : Nat) (p3 : Option Addr) (p4 : Nat) (p5 : Nat) : List Value := ([(.slice p0 p1 p2), (.slice p3 p4 p5)] : List Value)
abbrev Zaf (p0 : Z5) : List Value := ([(.int .i64 p0.r), (.int .i64 p0.cl), (.int .i64 p0.seq)] : List Value) ++ hc p0.h ++ ([(.int .u64 p0.t), (.int .i64 p0.sb), (.int .i64 p0.sm)] : List Value)
abbrev Z45 (p0 : PrR) : List Value := ([(.int .i64 p0.r), (.int .i64 p0.e), (.int .u64 p0.f), (.slice p0.ca p0.C.length p0.cc), (.int .i64 p0.sb), (.int .i64 p0.sm)] : List Value)
abbrev Zag (p0 : Option Addr) (p1 : Nat) (p2 : Nat) (p3 : Option Addr) (p4 : Nat) (p5 : Nat) (p6 : Option Addr) (p7 : Nat) (p8 : Nat) (p9 : Option Addr) (p10 : Nat) (p11 : Nat) : List Value := ([(.slice p0 p1 p2), (.slice p3 p4 p5), (.slice p6 p7 p8), (.slice p9 p10 p11)] : List Value)
abbrev Zah (p0 : Zg) (p1 : CeR) (p2 : Nat) : List Value := ([(.int .i64 p0.cl), (.int .i64 p0.seq)] : List Value) ++ hc p0.h ++ ([(.int .i64 p0.len), (.int .i64 p0.sb), (.int .i64 p0.sm), (.slice p1.sa p2 p1.sc)] : List Value)
abbrev Zai : List Value := ([(.int .u8 (112)), (.int .u8 (114)), (.int .u8 (111)), (.int .u8 (109)), (.int .u8 (105)), (.int .u8 (115)), (.int .u8 (101))] : List Value)
structure CeL (w : World) (c : CeR) : Prop where
 x : CoB c.x
 at_ : ListAt Z0J 38 w (.slice c.sa c.S.length c.sc) c.S
 S : ∀ i, i < c.S.length → StB (c.S.getD i Z9)
 len : c.S.length ≤ 1000000
theorem CeL.keep {w w0 w' : World} {G : List Ck} {c : CeR} (h : CeL w c) (H : Sat w0 G w') (j : Nat) (hj : G[j]? = some (Z6 w fun _ => False)) : CeL w' c := ⟨h.x, ListAt.now H j hj h.at_, h.S, h.len⟩
theorem Z3w {c : CeR} (h : c.S.length ≤ 1000000) : (ZO c).length ≤ 96469100 := by
 have h1 := Z1J c.x; have h2 := ZD (c.S.length : Int); have h3 := Z5Q c.S
 simp only [ZO, List.flatten_cons, List.flatten_nil, List.length_append, List.length_nil]; omega
theorem Z9c {C : List CeR} (h : ∀ c ∈ C, c.S.length ≤ 1000000) : (Z7c C).length ≤ C.length * 96469100 := Z2W C fun c hc => Z3w (h c hc)
theorem Z7W {p : PrR} (h : ∀ c ∈ p.C, c.S.length ≤ 1000000) (hl : p.C.length ≤ 64) : (Z1i p).length ≤ 7000000000 := by
 have h1 := ZD p.r; have h2 := ZD p.e; have h3 := Z1M p.f.toNat; have h4 := ZD (p.C.length : Int); have h5 := Z9c h
 simp only [Z1i, List.flatten_cons, List.flatten_nil, List.length_append, List.length_nil]; omega
theorem Z4V (w : World) (v : Value) (vs : List Value) (ss : List (List UInt8)) (hv : ListAt Z7T 1 w v vs) (hs : Parts w vs ss) (hl : ss.flatten.length ≤ 10000000000) (hk : vs.length ≤ 1000) :
  Calls Tryz.prog 44 #[v] w fun e w' => ∃ u, e = .returned u ∧ (ZH 5 1 u ss.flatten.length (ss.flatten.flatMap ZN)).ok w' ∧ Upd [] w w' ∧ ∀ q_, (ZH 5 1 u ss.flatten.length (ss.flatten.flatMap ZN)).fp q_ → w.heap.size ≤ q_ := by
 have H := Sat.start0 w
 obtain ⟨a0, c0, rfl⟩ := ListAt.len hv
 have hsl := hs.len
 refine Zp Tryz.func44 rfl 18 rfl (Nat.le_of_ble_eq_true rfl) ?_
 apply zsl
 refine wv 2 (.slice none 0 0) ?_
 apply Z1y
 refine wv 3 (.slice none 0 0) ?_
 apply znt
 apply Zt
 apply zsl
 refine wv 5 (.slice a0 vs.length c0) ?_
 refine wv 6 (.int .i64 ((vs.length : Int))) ?_
 refine wv 7 (.int .i64 (0)) ?_
 apply znt
 apply ZG
 have H1 := H.addNil 5 1
 refine Z02 ([3, 4] ++ List.range' 7 10) (fun F_ W_ m_ => ∃ (i : Nat) (a : Option Addr) (c : Nat) (D : List UInt8), F_ 7 = (.int .i64 ((i : Int))) ∧ F_ 3 = (.slice a D.length c) ∧ (i ≤ vs.length) ∧ (D = (ss.take i).flatten) ∧ Sat w [Z6 w (fun _ => False), (Z3b a D c)] W_ ∧ m_ = vs.length - i) _ ⟨0, none, 0, [], (show ((.int .i64 (0)) : Value) = _ by first | rfl | go_num), (by first | rfl | go_num), (Nat.zero_le _), rfl, H1, rfl⟩ ?_
 rintro g2 w3 _ ⟨i, a, c, D, v5, v6, hi, hD, H4, rfl⟩
 refine ZF 7 _ v5 ?_
 refine ZF 3 _ v6 ?_
 apply zsl
 refine wv 8 (.bool (decide ((i : Int) < (vs.length : Int)))) ?_
 apply znt
 apply Zt
 refine (Zl (decide ((i : Int) < (vs.length : Int)))).elim (fun b8 => ?_) (fun b8 => ?_)
 ·have g9 := of_decide_eq_true b8
  refine Z1o _ b8 ?_
  apply ZL
  apply ztn
  apply Zt
  apply ZG
  apply zsl
  refine wv 9 (.int .i64 ((i : Int))) ?_
  refine wv 4 (.int .i64 ((i : Int))) ?_
  apply znt
  apply ZU
  refine wv 10 (.slice a D.length c) ?_
  refine wv 11 (.slice a0 vs.length c0) ?_
  refine wv 12 (.int .i64 ((i : Int))) ?_
  obtain ⟨g11, o12, c13, e14, R15⟩ := SliceOf.atD hv undef (show i < vs.length by omega)
  refine wv 13 (.pointer (some ⟨g11, o12 + ((i : Int)).toNat * 1, none⟩)) ?_ (hr := ZC (E := 62) (by kernel_rfl) (by kernel_rfl) (Nat.le_of_ble_eq_true rfl) rfl e14 rfl (by omega) (by omega))
  refine zw1 14 (vs.getD i undef) (H4.cellR 0 rfl (Z13 R15 0 (by kernel_rfl) (show o12 + ((i : Int)).toNat * 1 = o12 + i * 1 + 0 by omega)) (fun h => h)) ?_
  refine zwd fun Kq kq => ?_
  refine Z2T (T := 62) (e := 5) (size := 1) (bytes := 1) rfl H4 (by kernel_rfl) ZE Z1h 1 rfl (ListAt.now H4 0 rfl (hs.get i (by have := hs.len; omega))) rfl rfl (by have := Z6F ss (i := i) (by omega); rw [hD]; omega) (by have := Z6F ss (i := i) (by omega); rw [hD]; omega) ?_
  intro v17 w18 H20
  have H19 := H20.ct 1 rfl (ZH 5 1 v17 ((D ++ (ss.getD i [])).length) ((D ++ (ss.getD i [])).flatMap ZN)) (by simp only [List.length_append, List.flatMap_append])
  obtain ⟨a21, c22, rfl⟩ := Z1 (H19.at 1 rfl)
  refine kq _ _ ?_
  clear kq Kq
  refine wv 3 (.slice a21 ((D ++ (ss.getD i [])).length) c22) ?_
  apply ZQ
  apply Zq
  apply ztn
  apply ZU
  refine zwi 16 ((i : Int) + 1) ?_
  refine wv 7 (.int .i64 ((i : Int) + 1)) ?_
  apply ZQ
  refine Zw ?_ _ ⟨(i + 1), a21, c22, (D ++ (ss.getD i [])), rfl, (show ((.slice a21 ((D ++ (ss.getD i [])).length) c22) : Value) = _ by first | rfl | go_num), (by omega), (by rw [hD, Z5u ss (by omega)]), H19, rfl⟩ (by omega)
  exact zs
 have g23 := of_decide_eq_false b8
 refine Z18 _ b8 ?_
 apply zxb
 apply ztn
 apply zsl
 refine wv 17 (.slice a D.length c) ?_
 refine wv 2 (.slice a D.length c) ?_
 apply znt
 apply ZA
 refine ze1 (.slice a D.length c) ?_
 have hX : D = ss.flatten := by rw [hD, List.take_of_length_le (by omega)]
 exact ⟨_, rfl, (by rw [← hX]; exact H4.at 1 rfl), H4.upd 0 rfl [] (fun _ h => h.elim), (by rw [← hX]; exact H4.fresh 0 rfl (fun _ h => h) 1 rfl rfl)⟩
theorem Z6Y (w : World) (c : CeR) (hB : CeL w c) :
  Calls Tryz.prog 79 #[(.agg ⟨(([(.int .i64 (c.x.cl)), (.int .i64 (c.x.seq))] : List Value) ++ hc c.x.h ++ ([(.int .i64 (c.x.len)), (.int .i64 (c.x.sb)), (.int .i64 (c.x.sm)), (.slice c.sa c.S.length c.sc)] : List Value))⟩)] w fun e w' => ∃ u, e = .returned u ∧ (ZH 5 1 u (ZO c).length ((ZO c).flatMap ZN)).ok w' ∧ Upd [] w w' ∧ ∀ q_, (ZH 5 1 u (ZO c).length ((ZO c).flatMap ZN)).fp q_ → w.heap.size ≤ q_ := by
 have hS := hB.at_
 have hlS := hB.len
 have hx := hB.x
 unfold CoB at hx
 have H := Sat.start0 w
 refine Zp Tryz.func79 rfl 30 rfl (Nat.le_of_ble_eq_true rfl) ?_
 apply zsl
 refine zwd fun Kq kq => ?_
 refine zdb (Z8g c) H ?_
 intro b2 w3 H4
 refine kq _ _ ?_
 clear kq Kq
 refine wv 2 (.slice none 0 0) ?_
 apply znt
 apply Zt
 refine Z00 H4 [Z6 w (fun _ => False), Z0 b2 53 (Z8g c)] 10 rfl (by kernel_rfl) (fun Hx => (Hx.pk [0, 1])) ?_
 intro w5 H6 S7
 refine Z1D 0 rfl (by kernel_rfl) (by kernel_rfl) (by kernel_rfl) (fun _ _ _ h => h) S7 (Zs rfl) (d := 5) (v := (.pointer (some ⟨b2, 0, none⟩))) rfl (fun _ H' => (by kernel_rfl)) ?_
 refine hv0 1 S7 6 (.agg ⟨(([(.int .i64 (c.x.cl)), (.int .i64 (c.x.seq))] : List Value) ++ hc c.x.h ++ ([(.int .i64 (c.x.len)), (.int .i64 (c.x.sb)), (.int .i64 (c.x.sm))] : List Value))⟩) ?_ (he := fun _ H' => (Zc (vs := (([(.int .i64 (c.x.cl)), (.int .i64 (c.x.seq))] : List Value) ++ hc c.x.h ++ ([(.int .i64 (c.x.len)), (.int .i64 (c.x.sb)), (.int .i64 (c.x.sm))] : List Value))) rfl (by kernel_rfl) (by kernel_rfl) (by exact Nat.le_of_ble_eq_true (by kernel_rfl)) (H'.at 1 rfl) (by kernel_rfl)))
 refine Z1D 3 rfl (by kernel_rfl) (by kernel_rfl) (by kernel_rfl) (fun _ _ _ h => h) S7 (Zs rfl) (d := 8) (v := (.pointer (some ⟨b2, 37, none⟩))) rfl (fun _ H' => (by kernel_rfl)) ?_
 refine hv0 4 S7 9 (.slice c.sa c.S.length c.sc) ?_ (he := fun _ H' => (Z2 rfl (by kernel_rfl) (H'.cell 1 rfl (by kernel_rfl))))
 refine Z1D 5 rfl (by kernel_rfl) (by kernel_rfl) (by kernel_rfl) (fun _ _ _ h => h) S7 (Zs rfl) (d := 10) (v := (.int .i64 ((c.S.length : Int)))) rfl (fun _ H' => (by kernel_rfl)) ?_
 refine Z09 2 fun Kq kq => ?_
 refine zdc 7 (Z65 w5 c.x hB.x) ?_
 rintro _ w9 ⟨u10, rfl, k11, p12, q13⟩
 have H14 := H6.addU p12 k11 q13
 obtain ⟨a15, c16, rfl⟩ := Z1 (H14.at 2 rfl)
 refine ⟨_, rfl, ?_⟩
 have S17 := H14.pk [0, 1]
 refine kq _ _ S17 ?_
 clear kq Kq
 refine Z09 6 fun Kq kq => ?_
 refine zdc 11 (Z1c w9 (c.S.length : Int) (by omega)) ?_
 rintro _ w19 ⟨u20, rfl, k21, p22, q23⟩
 have H24 := H14.addU p22 k21 q23
 obtain ⟨a25, c26, rfl⟩ := Z1 (H24.at 3 rfl)
 refine ⟨_, rfl, ?_⟩
 have S27 := H24.pk [0, 1]
 refine kq _ _ S27 ?_
 clear kq Kq
 refine Z09 7 fun Kq kq => ?_
 refine Z3o 62 1 24 (.slice none 0 0) [(0, (.slice a15 ((ZS c.x).length) c16)), (1, (.slice a25 ((Zh (c.S.length : Int)).length) c26))] (Z8h a15 ((ZS c.x).length) c16 a25 ((Zh (c.S.length : Int)).length) c26) H24 ?_
 intro b29 w30 H31
 have S32 := H31.pk [0, 1]
 refine kq _ _ S32 ?_
 clear kq Kq
 refine Z09 8 fun Kq kq => ?_
 have l34 := Z1J c.x
 have l35 := ZD (c.S.length : Int)
 refine zdc 13 (Z4V w30 (.slice (some ⟨b29, 0, none⟩) 2 2) [(.slice a15 ((ZS c.x).length) c16), (.slice a25 ((Zh (c.S.length : Int)).length) c26)] [(ZS c.x), (Zh (c.S.length : Int))] (ListAt.row (enc := Z7T) (sz := 1) (xs := [(.slice a15 ((ZS c.x).length) c16), (.slice a25 ((Zh (c.S.length : Int)).length) c26)]) Z1B (by decide) (H31.at 4 rfl)) (Parts.cons (ListAt.row (enc := ZN) (sz := 1) ZE (by decide) (H31.at 2 rfl)) (Parts.cons (ListAt.row (enc := ZN) (sz := 1) ZE (by decide) (H31.at 3 rfl)) Parts.nil)) (by simp only [List.flatten_cons, List.flatten_nil, List.length_append, List.length_nil]; omega) (by simp)) ?_
 rintro _ w36 ⟨u37, rfl, k38, p39, q40⟩
 have H41 := H31.addU p39 k38 q40
 obtain ⟨a42, c43, rfl⟩ := Z1 (H41.at 5 rfl)
 refine ⟨_, rfl, ?_⟩
 have S44 := H41.pk [0, 1]
 refine kq _ _ S44 ?_
 clear kq Kq
 refine hv0 9 S44 3 (.slice a42 (([(ZS c.x), (Zh (c.S.length : Int))].flatten).length) c43) ?_
 refine zhf ?_
 apply ztn
 apply Zt
 apply zsl
 refine wv 14 (pt b2 37) ?_
 refine zw1 15 (.slice c.sa c.S.length c.sc) (H41.cell 1 rfl (by kernel_rfl)) ?_
 refine wv 16 (.int .i64 ((c.S.length : Int))) ?_
 refine wv 17 (.int .i64 (0)) ?_
 apply znt
 apply ZG
 obtain ⟨hd, hhd⟩ : ∃ hd, hd = ([(ZS c.x), (Zh (c.S.length : Int))].flatten) := ⟨_, rfl⟩
 have hdl : hd.length ≤ 200 := by rw [hhd]; have q1 := Z1J c.x; have q2 := ZD (c.S.length : Int); simp only [List.flatten_cons, List.flatten_nil, List.length_append, List.length_nil]; omega
 refine Z02 ([3, 4] ++ List.range' 17 12) (fun F_ W_ m_ => ∃ (i : Nat) (a : Option Addr) (c_ : Nat) (D : List UInt8), F_ 17 = (.int .i64 ((i : Int))) ∧ F_ 3 = (.slice a D.length c_) ∧ (i ≤ c.S.length) ∧ (D = hd ++ (c.S.take i).flatMap ZW) ∧ Sat w [Z6 w (fun _ => False), Z0 b2 53 (Z8g c), (Z3b a15 (ZS c.x) c16), (Z3b a25 (Zh (c.S.length : Int)) c26), ZH 62 1 (.slice (some ⟨b29, 0, none⟩) 2 2) 2 (Z8h a15 ((ZS c.x).length) c16 a25 ((Zh (c.S.length : Int)).length) c26), (Z3b a D c_)] W_ ∧ m_ = c.S.length - i) _ ⟨0, a42, c43, ([(ZS c.x), (Zh (c.S.length : Int))].flatten), (show ((.int .i64 (0)) : Value) = _ by first | rfl | go_num), (by first | rfl | go_num), (Nat.zero_le _), (by rw [hhd]; simp), H41, rfl⟩ ?_
 rintro g45 w46 _ ⟨i, a, c_, D, v48, v49, hi, hD, H47, rfl⟩
 refine ZF 17 _ v48 ?_
 refine ZF 3 _ v49 ?_
 have hDl : D.length ≤ 96470000 := by rw [hD, List.length_append]; have q1 := Z4n Z1q (c.S.take i); rw [List.length_take] at q1; omega
 have q2 := Z1q (c.S.getD i Z9)
 apply zsl
 refine wv 18 (.bool (decide ((i : Int) < (c.S.length : Int)))) ?_
 apply znt
 apply Zt
 refine (Zl (decide ((i : Int) < (c.S.length : Int)))).elim (fun b51 => ?_) (fun b51 => ?_)
 ·have g52 := of_decide_eq_true b51
  refine Z1o _ b51 ?_
  apply ZL
  apply ztn
  apply Zt
  apply ZG
  apply zsl
  refine wv 19 (.int .i64 ((i : Int))) ?_
  refine wv 4 (.int .i64 ((i : Int))) ?_
  apply znt
  apply ZU
  refine wv 20 (.slice a D.length c_) ?_
  refine wv 21 (pt b2 37) ?_
  refine zw1 22 (.slice c.sa c.S.length c.sc) (H47.cell 1 rfl (by kernel_rfl)) ?_
  refine wv 23 (.int .i64 ((i : Int))) ?_
  obtain ⟨g54, o55, c56, e57, R58⟩ := SliceOf.atD hS Z9 (show i < c.S.length by omega)
  refine wv 24 (.pointer (some ⟨g54, o55 + ((i : Int)).toNat * 38, none⟩)) ?_ (hr := ZC (E := 101) (by kernel_rfl) (by kernel_rfl) (Nat.le_of_ble_eq_true rfl) rfl e57 rfl (by omega) (by omega))
  refine wv 25 (.agg ⟨(Zaf (c.S.getD i Z9))⟩) ?_ (hr := Z0f (vs := (Zaf (c.S.getD i Z9))) rfl (by kernel_rfl) (by kernel_rfl) (Nat.le_of_ble_eq_true (by kernel_rfl)) (H47.runR 0 rfl (Z10 R58 0 (by kernel_rfl) (show o55 + ((i : Int)).toNat * 38 = o55 + i * 38 + 0 by omega)) (fun h => h)))
  refine zwd fun Kq kq => ?_
  refine zdc 26 (Z6Z w46 (c.S.getD i Z9) (hB.S i (by omega))) ?_
  rintro _ w60 ⟨u61, rfl, k62, p63, q64⟩
  have H65 := H47.addU p63 k62 q64
  obtain ⟨a66, c67, rfl⟩ := Z1 (H65.at 6 rfl)
  refine ⟨_, rfl, ?_⟩
  refine kq _ _ ?_
  clear kq Kq
  refine zwd fun Kq kq => ?_
  refine Z14 (T := 62) (e := 5) (size := 1) (bytes := 1) rfl H65 (by kernel_rfl) 5 6 rfl rfl rfl rfl (Z0U ZN Z1h (ZW (c.S.getD i Z9))) (by omega) (by omega) ?_
  intro v69 w70 H71
  have H74 := H71.ct 5 rfl (ZH 5 1 v69 ((D ++ (ZW (c.S.getD i Z9))).length) ((D ++ (ZW (c.S.getD i Z9))).flatMap ZN)) ja
  obtain ⟨a72, c73, rfl⟩ := Z1 (H74.at 5 rfl)
  refine kq _ _ ?_
  clear kq Kq
  refine wv 3 (.slice a72 ((D ++ (ZW (c.S.getD i Z9))).length) c73) ?_
  apply ZQ
  apply Zq
  apply ztn
  apply ZU
  refine zwi 28 ((i : Int) + 1) ?_
  refine wv 17 (.int .i64 ((i : Int) + 1)) ?_
  apply ZQ
  have H75 := H74.pk [0, 1, 2, 3, 4, 5]
  refine Zw ?_ _ ⟨(i + 1), a72, c73, (D ++ (ZW (c.S.getD i Z9))), rfl, (show ((.slice a72 ((D ++ (ZW (c.S.getD i Z9))).length) c73) : Value) = _ by first | rfl | go_num), (by omega), (by rw [hD, Z3C c.S Z9 (by omega), List.append_assoc]), H75, rfl⟩ (by omega)
  exact zs
 have g76 := of_decide_eq_false b51
 refine Z18 _ b51 ?_
 apply zxb
 apply ztn
 apply zsl
 refine wv 29 (.slice a D.length c_) ?_
 refine wv 2 (.slice a D.length c_) ?_
 apply znt
 apply ZA
 refine ze1 (.slice a D.length c_) ?_
 have hX : D = ZO c := by unfold ZO Z73; rw [hD, hhd, List.take_of_length_le (by omega)]
 exact ⟨_, rfl, (by rw [← hX]; exact H47.at 5 rfl), H47.upd 0 rfl [] (fun _ h => h.elim), (by rw [← hX]; exact H47.fresh 0 rfl (fun _ h => h) 5 rfl rfl)⟩
theorem Z8J {w : World} {C : List CeR} (h : ∀ i, i < C.length → CeL w (C.getD i ce0)) : ∀ c ∈ C, c.S.length ≤ 1000000 := fun c hm => by
 obtain ⟨i, hi, e⟩ := List.mem_iff_getElem.1 hm
 have q := (h i hi).len
 rw [List.getD_eq_getElem?_getD, List.getElem?_eq_getElem hi] at q
 rw [← e]; exact q
theorem Z4U (w : World) (p : PrR) (hC : ListAt Z0h 38 w (.slice p.ca p.C.length p.cc) p.C) (hB : ∀ i, i < p.C.length → CeL w (p.C.getD i ce0)) (hl : p.C.length ≤ 64) (hn : p.r ≤ 9223372036854775807 ∧ p.e ≤ 9223372036854775807 ∧ 0 ≤ p.f ∧ p.f < 18446744073709551616) :
  Calls Tryz.prog 47 #[(.agg ⟨([(.int .i64 (p.r)), (.int .i64 (p.e)), (.int .u64 (p.f)), (.slice p.ca p.C.length p.cc), (.int .i64 (p.sb)), (.int .i64 (p.sm))] : List Value)⟩)] w fun e w' => ∃ u, e = .returned u ∧ (ZH 5 1 u (Z1i p).length ((Z1i p).flatMap ZN)).ok w' ∧ Upd [] w w' ∧ ∀ q_, (ZH 5 1 u (Z1i p).length ((Z1i p).flatMap ZN)).fp q_ → w.heap.size ≤ q_ := by
 have H := Sat.start0 w
 refine Zp Tryz.func47 rfl 36 rfl (Nat.le_of_ble_eq_true rfl) ?_
 apply zsl
 refine zwd fun Kq kq => ?_
 refine zdb (Z45 p) H ?_
 intro b2 w3 H4
 refine kq _ _ ?_
 clear kq Kq
 refine wv 2 (.slice none 0 0) ?_
 apply znt
 apply Zt
 refine Z00 H4 [Z6 w (fun _ => False), Z0 b2 34 (Z45 p)] 16 rfl (by kernel_rfl) (fun Hx => (Hx.pk [0, 1])) ?_
 intro w5 H6 S7
 refine hv0 0 S7 5 (pt b2 0) ?_
 refine hv0 1 S7 6 (.int .i64 (p.r)) ?_ (he := fun _ H' => (Z2 rfl (by kernel_rfl) (H'.cell 1 rfl rfl)))
 refine hv0 3 S7 8 (pt b2 1) ?_
 refine hv0 4 S7 9 (.int .i64 (p.e)) ?_ (he := fun _ H' => (Z2 rfl (by kernel_rfl) (H'.cell 1 rfl rfl)))
 refine hv0 6 S7 11 (pt b2 2) ?_
 refine hv0 7 S7 12 (.int .u64 (p.f)) ?_ (he := fun _ H' => (Z2 rfl (by kernel_rfl) (H'.cell 1 rfl rfl)))
 refine hv0 9 S7 14 (pt b2 3) ?_
 refine hv0 10 S7 15 (.slice p.ca p.C.length p.cc) ?_ (he := fun _ H' => (Z2 rfl (by kernel_rfl) (H'.cell 1 rfl rfl)))
 refine Z1D 11 rfl (by kernel_rfl) (by kernel_rfl) (by kernel_rfl) (fun _ _ _ h => h) S7 (Zs rfl) (d := 16) (v := (.int .i64 ((p.C.length : Int)))) rfl (fun _ H' => (by kernel_rfl)) ?_
 refine Z09 2 fun Kq kq => ?_
 refine zdc 7 (Z1c w5 p.r (by omega)) ?_
 rintro _ w9 ⟨u10, rfl, k11, p12, q13⟩
 have H14 := H6.addU p12 k11 q13
 obtain ⟨a15, c16, rfl⟩ := Z1 (H14.at 2 rfl)
 refine ⟨_, rfl, ?_⟩
 have S17 := H14.pk [0, 1]
 refine kq _ _ S17 ?_
 clear kq Kq
 refine Z09 5 fun Kq kq => ?_
 refine zdc 10 (Z1c w9 p.e (by omega)) ?_
 rintro _ w19 ⟨u20, rfl, k21, p22, q23⟩
 have H24 := H14.addU p22 k21 q23
 obtain ⟨a25, c26, rfl⟩ := Z1 (H24.at 3 rfl)
 refine ⟨_, rfl, ?_⟩
 have S27 := H24.pk [0, 1]
 refine kq _ _ S27 ?_
 clear kq Kq
 refine Z09 8 fun Kq kq => ?_
 refine Z2p (d := 13) rfl (by rw [show p.f = ((p.f.toNat : Nat) : Int) by omega]; kernel_rfl) (Z5j w19 p.f.toNat (by omega)) ?_
 rintro _ w29 ⟨u30, rfl, k31, p32, q33⟩
 have H34 := H24.addU p32 k31 q33
 obtain ⟨a35, c36, rfl⟩ := Z1 (H34.at 4 rfl)
 refine ⟨_, rfl, ?_⟩
 have S37 := H34.pk [0, 1]
 refine kq _ _ S37 ?_
 clear kq Kq
 refine Z09 12 fun Kq kq => ?_
 refine zdc 17 (Z1c w29 (p.C.length : Int) (by omega)) ?_
 rintro _ w39 ⟨u40, rfl, k41, p42, q43⟩
 have H44 := H34.addU p42 k41 q43
 obtain ⟨a45, c46, rfl⟩ := Z1 (H44.at 5 rfl)
 refine ⟨_, rfl, ?_⟩
 have S47 := H44.pk [0, 1]
 refine kq _ _ S47 ?_
 clear kq Kq
 refine Z09 13 fun Kq kq => ?_
 refine Z3o 62 1 24 (.slice none 0 0) [(0, (.slice a15 ((Zh p.r).length) c16)), (1, (.slice a25 ((Zh p.e).length) c26)), (2, (.slice a35 ((Z0W p.f.toNat).length) c36)), (3, (.slice a45 ((Zh (p.C.length : Int)).length) c46))] (Zag a15 ((Zh p.r).length) c16 a25 ((Zh p.e).length) c26 a35 ((Z0W p.f.toNat).length) c36 a45 ((Zh (p.C.length : Int)).length) c46) H44 ?_
 intro b49 w50 H51
 have S52 := H51.pk [0, 1]
 refine kq _ _ S52 ?_
 clear kq Kq
 refine Z09 14 fun Kq kq => ?_
 have l54 := ZD p.r
 have l55 := ZD p.e
 have l56 := Z1M p.f.toNat
 have l57 := ZD (p.C.length : Int)
 refine zdc 19 (Z4V w50 (.slice (some ⟨b49, 0, none⟩) 4 4) [(.slice a15 ((Zh p.r).length) c16), (.slice a25 ((Zh p.e).length) c26), (.slice a35 ((Z0W p.f.toNat).length) c36), (.slice a45 ((Zh (p.C.length : Int)).length) c46)] [(Zh p.r), (Zh p.e), (Z0W p.f.toNat), (Zh (p.C.length : Int))] (ListAt.row (enc := Z7T) (sz := 1) (xs := [(.slice a15 ((Zh p.r).length) c16), (.slice a25 ((Zh p.e).length) c26), (.slice a35 ((Z0W p.f.toNat).length) c36), (.slice a45 ((Zh (p.C.length : Int)).length) c46)]) Z1B (by decide) (H51.at 6 rfl)) (Parts.cons (ListAt.row (enc := ZN) (sz := 1) ZE (by decide) (H51.at 2 rfl)) (Parts.cons (ListAt.row (enc := ZN) (sz := 1) ZE (by decide) (H51.at 3 rfl)) (Parts.cons (ListAt.row (enc := ZN) (sz := 1) ZE (by decide) (H51.at 4 rfl)) (Parts.cons (ListAt.row (enc := ZN) (sz := 1) ZE (by decide) (H51.at 5 rfl)) Parts.nil)))) (by simp only [List.flatten_cons, List.flatten_nil, List.length_append, List.length_nil]; omega) (by simp)) ?_
 rintro _ w58 ⟨u59, rfl, k60, p61, q62⟩
 have H63 := H51.addU p61 k60 q62
 obtain ⟨a64, c65, rfl⟩ := Z1 (H63.at 7 rfl)
 refine ⟨_, rfl, ?_⟩
 have S66 := H63.pk [0, 1]
 refine kq _ _ S66 ?_
 clear kq Kq
 refine hv0 15 S66 3 (.slice a64 (([(Zh p.r), (Zh p.e), (Z0W p.f.toNat), (Zh (p.C.length : Int))].flatten).length) c65) ?_
 refine zhf ?_
 apply ztn
 apply Zt
 apply zsl
 refine wv 20 (pt b2 3) ?_
 refine zw1 21 (.slice p.ca p.C.length p.cc) (H63.cell 1 rfl rfl) ?_
 refine wv 22 (.int .i64 ((p.C.length : Int))) ?_
 refine wv 23 (.int .i64 (0)) ?_
 apply znt
 apply ZG
 obtain ⟨hd, hhd⟩ : ∃ hd, hd = ([(Zh p.r), (Zh p.e), (Z0W p.f.toNat), (Zh (p.C.length : Int))].flatten) := ⟨_, rfl⟩
 have hdl : hd.length ≤ 200 := by rw [hhd]; have q1 := ZD p.r; have q2 := ZD p.e; have q3 := Z1M p.f.toNat; have q4 := ZD (p.C.length : Int); simp only [List.flatten_cons, List.flatten_nil, List.length_append, List.length_nil]; omega
 refine Z02 ([3, 4] ++ List.range' 23 12) (fun F_ W_ m_ => ∃ (i : Nat) (a : Option Addr) (c_ : Nat) (D : List UInt8), F_ 23 = (.int .i64 ((i : Int))) ∧ F_ 3 = (.slice a D.length c_) ∧ (i ≤ p.C.length) ∧ (D = hd ++ (p.C.take i).flatMap ZO) ∧ Sat w [Z6 w (fun _ => False), Z0 b2 34 (Z45 p), (Z3b a15 (Zh p.r) c16), (Z3b a25 (Zh p.e) c26), (Z3b a35 (Z0W p.f.toNat) c36), (Z3b a45 (Zh (p.C.length : Int)) c46), ZH 62 1 (.slice (some ⟨b49, 0, none⟩) 4 4) 4 (Zag a15 ((Zh p.r).length) c16 a25 ((Zh p.e).length) c26 a35 ((Z0W p.f.toNat).length) c36 a45 ((Zh (p.C.length : Int)).length) c46), (Z3b a D c_)] W_ ∧ m_ = p.C.length - i) _ ⟨0, a64, c65, ([(Zh p.r), (Zh p.e), (Z0W p.f.toNat), (Zh (p.C.length : Int))].flatten), (show ((.int .i64 (0)) : Value) = _ by first | rfl | go_num), (by first | rfl | go_num), (Nat.zero_le _), (by rw [hhd]; simp), H63, rfl⟩ ?_
 rintro g67 w68 _ ⟨i, a, c_, D, v70, v71, hi, hD, H69, rfl⟩
 refine ZF 23 _ v70 ?_
 refine ZF 3 _ v71 ?_
 have hDl : D.length ≤ 7000000000 := by rw [hD, List.length_append]; have q1 := Z2W (g := ZO) (p.C.take i) (fun c hc => Z3w (Z8J hB c (List.mem_of_mem_take hc))); rw [List.length_take] at q1; omega
 have q2 := fun h : i < p.C.length => Z3w (hB i h).len
 apply zsl
 refine wv 24 (.bool (decide ((i : Int) < (p.C.length : Int)))) ?_
 apply znt
 apply Zt
 refine (Zl (decide ((i : Int) < (p.C.length : Int)))).elim (fun b73 => ?_) (fun b73 => ?_)
 ·have g74 := of_decide_eq_true b73
  refine Z1o _ b73 ?_
  apply ZL
  apply ztn
  apply Zt
  apply ZG
  apply zsl
  refine wv 25 (.int .i64 ((i : Int))) ?_
  refine wv 4 (.int .i64 ((i : Int))) ?_
  apply znt
  apply ZU
  refine wv 26 (.slice a D.length c_) ?_
  refine wv 27 (pt b2 3) ?_
  refine zw1 28 (.slice p.ca p.C.length p.cc) (H69.cell 1 rfl rfl) ?_
  refine wv 29 (.int .i64 ((i : Int))) ?_
  obtain ⟨g76, o77, c78, e79, R80⟩ := SliceOf.atD hC ce0 (show i < p.C.length by omega)
  refine wv 30 (.pointer (some ⟨g76, o77 + ((i : Int)).toNat * 38, none⟩)) ?_ (hr := ZC (E := 53) (by kernel_rfl) (by kernel_rfl) (Nat.le_of_ble_eq_true rfl) rfl e79 rfl (by omega) (by omega))
  refine wv 31 (.agg ⟨(Zah ((p.C.getD i ce0).x) (p.C.getD i ce0) (((p.C.getD i ce0).S).length))⟩) ?_ (hr := Z0f (vs := (Zah ((p.C.getD i ce0).x) (p.C.getD i ce0) (((p.C.getD i ce0).S).length))) rfl (by kernel_rfl) (by kernel_rfl) (Nat.le_of_ble_eq_true (by kernel_rfl)) (H69.runR 0 rfl (Z10 R80 0 (by kernel_rfl) (show o77 + ((i : Int)).toNat * 38 = o77 + i * 38 + 0 by omega)) (fun h => h)))
  refine zwd fun Kq kq => ?_
  refine zdc 32 (Z6Y w68 (p.C.getD i ce0) ((hB i (by omega)).keep H69 0 rfl)) ?_
  rintro _ w82 ⟨u83, rfl, k84, p85, q86⟩
  have H87 := H69.addU p85 k84 q86
  obtain ⟨a88, c89, rfl⟩ := Z1 (H87.at 8 rfl)
  refine ⟨_, rfl, ?_⟩
  refine kq _ _ ?_
  clear kq Kq
  refine zwd fun Kq kq => ?_
  refine Z14 (T := 62) (e := 5) (size := 1) (bytes := 1) rfl H87 (by kernel_rfl) 7 8 rfl rfl rfl rfl (Z0U ZN Z1h (ZO (p.C.getD i ce0))) (by omega) (by omega) ?_
  intro v91 w92 H93
  have H96 := H93.ct 7 rfl (ZH 5 1 v91 ((D ++ (ZO (p.C.getD i ce0))).length) ((D ++ (ZO (p.C.getD i ce0))).flatMap ZN)) ja
  obtain ⟨a94, c95, rfl⟩ := Z1 (H96.at 7 rfl)
  refine kq _ _ ?_
  clear kq Kq
  refine wv 3 (.slice a94 ((D ++ (ZO (p.C.getD i ce0))).length) c95) ?_
  apply ZQ
  apply Zq
  apply ztn
  apply ZU
  refine zwi 34 ((i : Int) + 1) ?_
  refine wv 23 (.int .i64 ((i : Int) + 1)) ?_
  apply ZQ
  have H97 := H96.pk [0, 1, 2, 3, 4, 5, 6, 7]
  refine Zw ?_ _ ⟨(i + 1), a94, c95, (D ++ (ZO (p.C.getD i ce0))), rfl, (show ((.slice a94 ((D ++ (ZO (p.C.getD i ce0))).length) c95) : Value) = _ by first | rfl | go_num), (by omega), (by rw [hD, Z3C p.C ce0 (by omega), List.append_assoc]), H97, rfl⟩ (by omega)
  exact zs
 have g98 := of_decide_eq_false b73
 refine Z18 _ b73 ?_
 apply zxb
 apply ztn
 apply zsl
 refine wv 35 (.slice a D.length c_) ?_
 refine wv 2 (.slice a D.length c_) ?_
 apply znt
 apply ZA
 refine ze1 (.slice a D.length c_) ?_
 have hX : D = Z1i p := by unfold Z1i Z7c; rw [hD, hhd, List.take_of_length_le (by omega)]
 exact ⟨_, rfl, (by rw [← hX]; exact H69.at 7 rfl), H69.upd 0 rfl [] (fun _ h => h.elim), (by rw [← hX]; exact H69.fresh 0 rfl (fun _ h => h) 7 rfl rfl)⟩
theorem Z1l (w : World) (p : PrR) (hC : ListAt Z0h 38 w (.slice p.ca p.C.length p.cc) p.C) (hB : ∀ i, i < p.C.length → CeL w (p.C.getD i ce0)) (hl : p.C.length ≤ 64) (hn : p.r ≤ 9223372036854775807 ∧ p.e ≤ 9223372036854775807 ∧ 0 ≤ p.f ∧ p.f < 18446744073709551616) :
  Calls Tryz.prog 15 #[(.agg ⟨([(.int .i64 (p.r)), (.int .i64 (p.e)), (.int .u64 (p.f)), (.slice p.ca p.C.length p.cc), (.int .i64 (p.sb)), (.int .i64 (p.sm))] : List Value)⟩)] w fun e w' => ∃ u, e = .returned u ∧ (ZH 5 1 u (ZB p).length ((ZB p).flatMap ZN)).ok w' ∧ Upd [] w w' ∧ ∀ q_, (ZH 5 1 u (ZB p).length ((ZB p).flatMap ZN)).fp q_ → w.heap.size ≤ q_ := by
 have hp := Z7W (Z8J hB) hl
 have H := Sat.start0 w
 refine Zp Tryz.func15 rfl 10 rfl (Nat.le_of_ble_eq_true rfl) ?_
 apply zsl
 refine zwd fun Kq kq => ?_
 refine zdb (Z45 p) H ?_
 intro b2 w3 H4
 refine kq _ _ ?_
 clear kq Kq
 refine wv 2 (.slice none 0 0) ?_
 apply znt
 apply Zt
 refine Z00 H4 [Z6 w (fun _ => False), Z0 b2 34 (Z45 p)] 8 rfl (by kernel_rfl) (fun Hx => (Hx.pk [0, 1])) ?_
 intro w5 H6 S7
 refine hv0 3 S7 6 (.agg ⟨(Z45 p)⟩) ?_ (he := fun _ H' => (Zc (vs := (Z45 p)) rfl (by kernel_rfl) (by kernel_rfl) (by exact Nat.le_of_ble_eq_true (by kernel_rfl)) (H'.at 1 rfl) (by kernel_rfl)))
 refine Z09 0 fun Kq kq => ?_
 refine Z3o 5 1 1 (.int .u8 (0)) [(0, (.int .u8 (112))), (1, (.int .u8 (114))), (2, (.int .u8 (111))), (3, (.int .u8 (109))), (4, (.int .u8 (105))), (5, (.int .u8 (115))), (6, (.int .u8 (101)))] (Zai) H6 ?_
 intro b9 w10 H11
 have H12 := H11.ct 2 rfl (ZH 5 1 (.slice (some ⟨b9, 0, none⟩) 7 7) 7 ([112, 114, 111, 109, 105, 115, 101].flatMap ZN)) (by rw [show ((Zai) : List Value) = [112, 114, 111, 109, 105, 115, 101].flatMap ZN from rfl])
 have S13 := H12.pk [0, 1]
 refine kq _ _ S13 ?_
 clear kq Kq
 refine Z09 1 fun Kq kq => ?_
 refine Z1T (e := 5) (s := [112, 114, 111, 109, 105, 115, 101]) rfl H12 2 rfl (by kernel_rfl) (by kernel_rfl) rfl ?_
 intro w15 H16
 have S17 := H16.pk [0, 1]
 refine kq _ _ S17 ?_
 clear kq Kq
 refine Z09 2 fun Kq kq => ?_
 refine zdc 5 (Z3M w15 (.slice (some ⟨b9, 0, none⟩) 7 7) ([112, 114, 111, 109, 105, 115, 101]) (ListAt.ofTxt (H16.at 2 rfl)) (by simp)) ?_
 rintro _ w19 ⟨u20, rfl, k21, p22, q23⟩
 have H24 := H16.addU p22 k21 q23
 obtain ⟨a25, c26, rfl⟩ := Z1 (H24.at 3 rfl)
 refine ⟨_, rfl, ?_⟩
 have S27 := H24.pk [0, 1]
 refine kq _ _ S27 ?_
 clear kq Kq
 refine Z09 4 fun Kq kq => ?_
 refine zdc 7 (Z4U w19 p (ListAt.now H24 0 rfl hC) (fun i hi => (hB i hi).keep H24 0 rfl) hl hn) ?_
 rintro _ w29 ⟨u30, rfl, k31, p32, q33⟩
 have H34 := H24.addU p32 k31 q33
 obtain ⟨a35, c36, rfl⟩ := Z1 (H34.at 4 rfl)
 refine ⟨_, rfl, ?_⟩
 have S37 := H34.pk [0, 1]
 refine kq _ _ S37 ?_
 clear kq Kq
 refine Z09 5 fun Kq kq => ?_
 refine Z3o 62 1 24 (.slice none 0 0) [(0, (.slice a25 ((ZM ([112, 114, 111, 109, 105, 115, 101])).length) c26)), (1, (.slice a35 ((Z1i p).length) c36))] (Z8h a25 ((ZM ([112, 114, 111, 109, 105, 115, 101])).length) c26 a35 ((Z1i p).length) c36) H34 ?_
 intro b39 w40 H41
 have S42 := H41.pk [0, 1]
 refine kq _ _ S42 ?_
 clear kq Kq
 refine Z09 6 fun Kq kq => ?_
 have l44 := Z1d ([112, 114, 111, 109, 105, 115, 101])
 simp only [List.length_cons, List.length_nil] at l44
 have l45 := hp
 refine zdc 9 (Z4V w40 (.slice (some ⟨b39, 0, none⟩) 2 2) [(.slice a25 ((ZM ([112, 114, 111, 109, 105, 115, 101])).length) c26), (.slice a35 ((Z1i p).length) c36)] [(ZM ([112, 114, 111, 109, 105, 115, 101])), (Z1i p)] (ListAt.row (enc := Z7T) (sz := 1) (xs := [(.slice a25 ((ZM ([112, 114, 111, 109, 105, 115, 101])).length) c26), (.slice a35 ((Z1i p).length) c36)]) Z1B (by decide) (H41.at 5 rfl)) (Parts.cons (ListAt.row (enc := ZN) (sz := 1) ZE (by decide) (H41.at 3 rfl)) (Parts.cons (ListAt.row (enc := ZN) (sz := 1) ZE (by decide) (H41.at 4 rfl)) Parts.nil)) (by simp only [List.flatten_cons, List.flatten_nil, List.length_append, List.length_nil]; omega) (by simp)) ?_
 rintro _ w46 ⟨u47, rfl, k48, p49, q50⟩
 have H51 := H41.addU p49 k48 q50
 obtain ⟨a52, c53, rfl⟩ := Z1 (H51.at 6 rfl)
 refine ⟨_, rfl, ?_⟩
 have S54 := H51.pk [0, 1]
 refine kq _ _ S54 ?_
 clear kq Kq
 refine hv0 7 S54 2 (.slice a52 (([(ZM ([112, 114, 111, 109, 105, 115, 101])), (Z1i p)].flatten).length) c53) ?_
 refine zhf ?_
 apply ztn
 apply ZA
 refine ze1 (.slice a52 (([(ZM ([112, 114, 111, 109, 105, 115, 101])), (Z1i p)].flatten).length) c53) ?_
 have hX : ([(ZM ([112, 114, 111, 109, 105, 115, 101])), (Z1i p)].flatten) = ZB p := by rfl
 exact ⟨_, rfl, (by rw [← hX]; exact H51.at 6 rfl), H51.upd 0 rfl [] (fun _ h => h.elim), (by rw [← hX]; exact H51.fresh 0 rfl (fun _ h => h) 6 rfl rfl)⟩
theorem CeB.big {w : World} {c : CeR} (h : CeB w c) : CeL w c := ⟨h.x, h.at_, h.S, by have q := h.len; omega⟩
theorem CeL.small {w : World} {c : CeR} (h : CeL w c) (h12 : c.S.length ≤ 12) : CeB w c := ⟨h.x, h.at_, h.S, by omega⟩
end Go.Proofs.YtoaifondpohniaaGreat
