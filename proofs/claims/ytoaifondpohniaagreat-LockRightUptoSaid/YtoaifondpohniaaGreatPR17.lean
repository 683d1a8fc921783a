/- WHAT IS PROVED: contracts and plain laws of Rt3, TabM. Conditions: stated with each. -/
import Derived.Test.YtoaifondpohniaaGreatPR04
import Derived.Test.YtoaifondpohniaaGreatPR14
import Derived.Test.YtoaifondpohniaaGreatPR15
import Derived.Test.YtoaifondpohniaaGreatPR16
set_option maxHeartbeats 4000000
set_option maxRecDepth 100000
namespace Go.Proofs.YtoaifondpohniaaGreat
open Go.RowKit
abbrev Z3U (p0 : Int) (p1 : Int) : List Value := ([(.int .i64 p0), (.int .i64 p1)] : List Value)
abbrev Zaj (p0 : Option Addr) (p1 : Nat) (p2 : Nat) (p3 : Option Addr) (p4 : Nat) (p5 : Nat) : List Value := ([(.slice p0 p1 p2), (.slice p3 p4 p5)] : List Value)
abbrev Z3V (p0 : Z5) : List Value := ([(.int .i64 p0.r), (.int .i64 p0.cl), (.int .i64 p0.seq)] : List Value) ++ hc p0.h ++ ([(.int .u64 p0.t), (.int .i64 p0.sb), (.int .i64 p0.sm)] : List Value)
abbrev Zc3 (p0 : Zg) : List Value := ([(.int .i64 p0.cl), (.int .i64 p0.seq)] : List Value) ++ hc p0.h ++ ([(.int .i64 p0.len), (.int .i64 p0.sb), (.int .i64 p0.sm)] : List Value)
def StB (s : Z5) : Prop := (s.r ≤ 9223372036854775807 ∧ s.cl ≤ 9223372036854775807 ∧ s.seq ≤ 9223372036854775807 ∧ 0 ≤ s.t ∧ s.t < 18446744073709551616) ∧ s.sb ≤ 9223372036854775807 ∧ s.sm ≤ 9223372036854775807
def CoB (x : Zg) : Prop := (x.cl ≤ 9223372036854775807 ∧ x.seq ≤ 9223372036854775807 ∧ x.len ≤ 9223372036854775807) ∧ x.sb ≤ 9223372036854775807 ∧ x.sm ≤ 9223372036854775807
structure CeB (w : World) (c : CeR) : Prop where
 x : CoB c.x
 at_ : ListAt Z0J 38 w (.slice c.sa c.S.length c.sc) c.S
 S : ∀ i, i < c.S.length → StB (c.S.getD i Z9)
 len : c.S.length ≤ 100
theorem CeB.keep {w w0 w' : World} {G : List Ck} {c : CeR} (h : CeB w c) (H : Sat w0 G w') (j : Nat) (hj : G[j]? = some (Z6 w fun _ => False)) : CeB w' c := ⟨h.x, ListAt.now H j hj h.at_, h.S, h.len⟩
theorem Z8Z (w : World) (a b : Int) (hs : a ≤ 9223372036854775807 ∧ b ≤ 9223372036854775807) :
  Calls Tryz.prog 125 #[(.agg ⟨([(.int .i64 (a)), (.int .i64 (b))] : List Value)⟩)] w fun e w' => ∃ u, e = .returned u ∧ (ZH 5 1 u (Z3n a b).length ((Z3n a b).flatMap ZN)).ok w' ∧ Upd [] w w' ∧ ∀ q_, (ZH 5 1 u (Z3n a b).length ((Z3n a b).flatMap ZN)).fp q_ → w.heap.size ≤ q_ := by
 have H := Sat.start0 w
 refine Zp Tryz.func125 rfl 11 rfl (Nat.le_of_ble_eq_true rfl) ?_
 apply zsl
 refine zwd fun Kq kq => ?_
 refine zdb (Z3U a b) H ?_
 intro b2 w3 H4
 refine kq _ _ ?_
 clear kq Kq
 refine wv 2 (.slice none 0 0) ?_
 apply znt
 apply Zt
 refine Z00 H4 [Z6 w (fun _ => False), Z0 b2 29 (Z3U a b)] 9 rfl (by kernel_rfl) (fun Hx => (Hx.pk [0, 1])) ?_
 intro w5 H6 S7
 refine hv0 0 S7 3 (pt b2 0) ?_
 refine hv0 1 S7 4 (.int .i64 (a)) ?_ (he := fun _ H' => (Z2 rfl (by kernel_rfl) (H'.cell 1 rfl rfl)))
 refine hv0 3 S7 6 (pt b2 1) ?_
 refine hv0 4 S7 7 (.int .i64 (b)) ?_ (he := fun _ H' => (Z2 rfl (by kernel_rfl) (H'.cell 1 rfl rfl)))
 refine Z09 2 fun Kq kq => ?_
 refine zdc 5 (Z1c w5 a (by omega)) ?_
 rintro _ w9 ⟨u10, rfl, k11, p12, q13⟩
 have H14 := H6.addU p12 k11 q13
 obtain ⟨a15, c16, rfl⟩ := Z1 (H14.at 2 rfl)
 refine ⟨_, rfl, ?_⟩
 have S17 := H14.pk [0, 1]
 refine kq _ _ S17 ?_
 clear kq Kq
 refine Z09 5 fun Kq kq => ?_
 refine zdc 8 (Z1c w9 b (by omega)) ?_
 rintro _ w19 ⟨u20, rfl, k21, p22, q23⟩
 have H24 := H14.addU p22 k21 q23
 obtain ⟨a25, c26, rfl⟩ := Z1 (H24.at 3 rfl)
 refine ⟨_, rfl, ?_⟩
 have S27 := H24.pk [0, 1]
 refine kq _ _ S27 ?_
 clear kq Kq
 refine Z09 6 fun Kq kq => ?_
 refine Z3o 62 1 24 (.slice none 0 0) [(0, (.slice a15 ((Zh a).length) c16)), (1, (.slice a25 ((Zh b).length) c26))] (Zaj a15 ((Zh a).length) c16 a25 ((Zh b).length) c26) H24 ?_
 intro b29 w30 H31
 have S32 := H31.pk [0, 1]
 refine kq _ _ S32 ?_
 clear kq Kq
 refine Z09 7 fun Kq kq => ?_
 have l34 := ZD a
 have l35 := ZD b
 refine zdc 10 (Z1K w30 (.slice (some ⟨b29, 0, none⟩) 2 2) [(.slice a15 ((Zh a).length) c16), (.slice a25 ((Zh b).length) c26)] [(Zh a), (Zh b)] (ListAt.row (enc := Z7T) (sz := 1) (xs := [(.slice a15 ((Zh a).length) c16), (.slice a25 ((Zh b).length) c26)]) Z1B (by decide) (H31.at 4 rfl)) (Parts.cons (ListAt.row (enc := ZN) (sz := 1) ZE (by decide) (H31.at 2 rfl)) (Parts.cons (ListAt.row (enc := ZN) (sz := 1) ZE (by decide) (H31.at 3 rfl)) Parts.nil)) (by simp only [List.flatten_cons, List.flatten_nil, List.length_append, List.length_nil]; omega) (by simp)) ?_
 rintro _ w36 ⟨u37, rfl, k38, p39, q40⟩
 have H41 := H31.addU p39 k38 q40
 obtain ⟨a42, c43, rfl⟩ := Z1 (H41.at 5 rfl)
 refine ⟨_, rfl, ?_⟩
 have S44 := H41.pk [0, 1]
 refine kq _ _ S44 ?_
 clear kq Kq
 refine hv0 8 S44 2 (.slice a42 (([(Zh a), (Zh b)].flatten).length) c43) ?_
 refine zhf ?_
 apply ztn
 apply ZA
 refine ze1 (.slice a42 (([(Zh a), (Zh b)].flatten).length) c43) ?_
 have hX : ([(Zh a), (Zh b)].flatten) = Z3n a b := by rfl
 exact ⟨_, rfl, (by rw [← hX]; exact H41.at 5 rfl), H41.upd 0 rfl [] (fun _ h => h.elim), (by rw [← hX]; exact H41.fresh 0 rfl (fun _ h => h) 5 rfl rfl)⟩
theorem Z6Z (w : World) (s : Z5) (hs : StB s) :
  Calls Tryz.prog 106 #[(.agg ⟨(([(.int .i64 (s.r)), (.int .i64 (s.cl)), (.int .i64 (s.seq))] : List Value) ++ hc s.h ++ ([(.int .u64 (s.t)), (.int .i64 (s.sb)), (.int .i64 (s.sm))] : List Value))⟩)] w fun e w' => ∃ u, e = .returned u ∧ (ZH 5 1 u (ZW s).length ((ZW s).flatMap ZN)).ok w' ∧ Upd [] w w' ∧ ∀ q_, (ZH 5 1 u (ZW s).length ((ZW s).flatMap ZN)).fp q_ → w.heap.size ≤ q_ := by
 unfold StB at hs
 have H := Sat.start0 w
 refine Zp Tryz.func106 rfl 10 rfl (Nat.le_of_ble_eq_true rfl) ?_
 apply zsl
 refine zwd fun Kq kq => ?_
 refine zdb (Z3V s) H ?_
 intro b2 w3 H4
 refine kq _ _ ?_
 clear kq Kq
 refine wv 2 (.slice none 0 0) ?_
 apply znt
 apply Zt
 refine Z00 H4 [Z6 w (fun _ => False), Z0 b2 101 (Z3V s)] 8 rfl (by kernel_rfl) (fun Hx => (Hx.pk [0, 1])) ?_
 intro w5 H6 S7
 refine hv0 0 S7 3 (.agg ⟨(Z3V s)⟩) ?_ (he := fun _ H' => (Zc (vs := (Z3V s)) rfl (by kernel_rfl) (by kernel_rfl) (by exact Nat.le_of_ble_eq_true (by kernel_rfl)) (H'.at 1 rfl) (by kernel_rfl)))
 refine hv0 2 S7 5 (pt b2 36) ?_
 refine hv0 3 S7 6 (.agg ⟨(Z3U s.sb s.sm)⟩) ?_ (he := fun _ H' => (Zc (vs := (Z3U s.sb s.sm)) rfl (by kernel_rfl) (by kernel_rfl) (by exact Nat.le_of_ble_eq_true (by kernel_rfl)) (H'.at 1 rfl) (by kernel_rfl)))
 refine Z09 1 fun Kq kq => ?_
 refine zdc 4 (Z7E w5 s hs.1) ?_
 rintro _ w9 ⟨u10, rfl, k11, p12, q13⟩
 have H14 := H6.addU p12 k11 q13
 obtain ⟨a15, c16, rfl⟩ := Z1 (H14.at 2 rfl)
 refine ⟨_, rfl, ?_⟩
 have S17 := H14.pk [0, 1]
 refine kq _ _ S17 ?_
 clear kq Kq
 refine Z09 4 fun Kq kq => ?_
 refine zdc 7 (Z8Z w9 s.sb s.sm (by omega)) ?_
 rintro _ w19 ⟨u20, rfl, k21, p22, q23⟩
 have H24 := H14.addU p22 k21 q23
 obtain ⟨a25, c26, rfl⟩ := Z1 (H24.at 3 rfl)
 refine ⟨_, rfl, ?_⟩
 have S27 := H24.pk [0, 1]
 refine kq _ _ S27 ?_
 clear kq Kq
 refine Z09 5 fun Kq kq => ?_
 refine Z3o 62 1 24 (.slice none 0 0) [(0, (.slice a15 ((Z15 s).length) c16)), (1, (.slice a25 ((Z3n s.sb s.sm).length) c26))] (Zaj a15 ((Z15 s).length) c16 a25 ((Z3n s.sb s.sm).length) c26) H24 ?_
 intro b29 w30 H31
 have S32 := H31.pk [0, 1]
 refine kq _ _ S32 ?_
 clear kq Kq
 refine Z09 6 fun Kq kq => ?_
 have l34 := Z3q s
 have l35 := Z3P s.sb s.sm
 refine zdc 9 (Z1K w30 (.slice (some ⟨b29, 0, none⟩) 2 2) [(.slice a15 ((Z15 s).length) c16), (.slice a25 ((Z3n s.sb s.sm).length) c26)] [(Z15 s), (Z3n s.sb s.sm)] (ListAt.row (enc := Z7T) (sz := 1) (xs := [(.slice a15 ((Z15 s).length) c16), (.slice a25 ((Z3n s.sb s.sm).length) c26)]) Z1B (by decide) (H31.at 4 rfl)) (Parts.cons (ListAt.row (enc := ZN) (sz := 1) ZE (by decide) (H31.at 2 rfl)) (Parts.cons (ListAt.row (enc := ZN) (sz := 1) ZE (by decide) (H31.at 3 rfl)) Parts.nil)) (by simp only [List.flatten_cons, List.flatten_nil, List.length_append, List.length_nil]; omega) (by simp)) ?_
 rintro _ w36 ⟨u37, rfl, k38, p39, q40⟩
 have H41 := H31.addU p39 k38 q40
 obtain ⟨a42, c43, rfl⟩ := Z1 (H41.at 5 rfl)
 refine ⟨_, rfl, ?_⟩
 have S44 := H41.pk [0, 1]
 refine kq _ _ S44 ?_
 clear kq Kq
 refine hv0 7 S44 2 (.slice a42 (([(Z15 s), (Z3n s.sb s.sm)].flatten).length) c43) ?_
 refine zhf ?_
 apply ztn
 apply ZA
 refine ze1 (.slice a42 (([(Z15 s), (Z3n s.sb s.sm)].flatten).length) c43) ?_
 have hX : ([(Z15 s), (Z3n s.sb s.sm)].flatten) = ZW s := by rfl
 exact ⟨_, rfl, (by rw [← hX]; exact H41.at 5 rfl), H41.upd 0 rfl [] (fun _ h => h.elim), (by rw [← hX]; exact H41.fresh 0 rfl (fun _ h => h) 5 rfl rfl)⟩
theorem Z65 (w : World) (s : Zg) (hs : CoB s) :
  Calls Tryz.prog 105 #[(.agg ⟨(([(.int .i64 (s.cl)), (.int .i64 (s.seq))] : List Value) ++ hc s.h ++ ([(.int .i64 (s.len)), (.int .i64 (s.sb)), (.int .i64 (s.sm))] : List Value))⟩)] w fun e w' => ∃ u, e = .returned u ∧ (ZH 5 1 u (ZS s).length ((ZS s).flatMap ZN)).ok w' ∧ Upd [] w w' ∧ ∀ q_, (ZH 5 1 u (ZS s).length ((ZS s).flatMap ZN)).fp q_ → w.heap.size ≤ q_ := by
 unfold CoB at hs
 have H := Sat.start0 w
 refine Zp Tryz.func105 rfl 16 rfl (Nat.le_of_ble_eq_true rfl) ?_
 apply zsl
 refine zwd fun Kq kq => ?_
 refine zdb (Zc3 s) H ?_
 intro b2 w3 H4
 refine kq _ _ ?_
 clear kq Kq
 refine wv 2 (.slice none 0 0) ?_
 apply znt
 apply Zt
 refine Z00 H4 [Z6 w (fun _ => False), Z0 b2 50 (Zc3 s)] 14 rfl (by kernel_rfl) (fun Hx => (Hx.pk [0, 1])) ?_
 intro w5 H6 S7
 refine hv0 0 S7 3 (pt b2 0) ?_
 refine hv0 1 S7 4 (.agg ⟨(Z3U s.cl s.seq)⟩) ?_ (he := fun _ H' => (Zc (vs := (Z3U s.cl s.seq)) rfl (by kernel_rfl) (by kernel_rfl) (by exact Nat.le_of_ble_eq_true (by kernel_rfl)) (H'.at 1 rfl) (by kernel_rfl)))
 refine hv0 3 S7 6 (pt b2 2) ?_
 refine hv0 4 S7 7 (.slice (some ⟨b2, 2, none⟩) 32 32) ?_
 refine hv0 5 S7 8 (pt b2 34) ?_
 refine hv0 6 S7 9 (.int .i64 (s.len)) ?_ (he := fun _ H' => (Z2 rfl (by kernel_rfl) (H'.cell 1 rfl (by kernel_rfl))))
 refine hv0 8 S7 11 (pt b2 35) ?_
 refine hv0 9 S7 12 (.agg ⟨(Z3U s.sb s.sm)⟩) ?_ (he := fun _ H' => (Zc (vs := (Z3U s.sb s.sm)) rfl (by kernel_rfl) (by kernel_rfl) (by exact Nat.le_of_ble_eq_true (by kernel_rfl)) (H'.at 1 rfl) (by kernel_rfl)))
 refine Z09 2 fun Kq kq => ?_
 refine zdc 5 (Z5K w5 s.cl s.seq (by omega)) ?_
 rintro _ w9 ⟨u10, rfl, k11, p12, q13⟩
 have H14 := H6.addU p12 k11 q13
 obtain ⟨a15, c16, rfl⟩ := Z1 (H14.at 2 rfl)
 refine ⟨_, rfl, ?_⟩
 have S17 := H14.pk [0, 1]
 refine kq _ _ S17 ?_
 clear kq Kq
 refine Z09 7 fun Kq kq => ?_
 refine zdc 10 (Z1c w9 s.len (by omega)) ?_
 rintro _ w19 ⟨u20, rfl, k21, p22, q23⟩
 have H24 := H14.addU p22 k21 q23
 obtain ⟨a25, c26, rfl⟩ := Z1 (H24.at 3 rfl)
 refine ⟨_, rfl, ?_⟩
 have S27 := H24.pk [0, 1]
 refine kq _ _ S27 ?_
 clear kq Kq
 refine Z09 10 fun Kq kq => ?_
 refine zdc 13 (Z8Z w19 s.sb s.sm (by omega)) ?_
 rintro _ w29 ⟨u30, rfl, k31, p32, q33⟩
 have H34 := H24.addU p32 k31 q33
 obtain ⟨a35, c36, rfl⟩ := Z1 (H34.at 4 rfl)
 refine ⟨_, rfl, ?_⟩
 have S37 := H34.pk [0, 1]
 refine kq _ _ S37 ?_
 clear kq Kq
 refine Z09 11 fun Kq kq => ?_
 refine Z3o 62 1 24 (.slice none 0 0) [(0, (.slice a15 ((ZT s.cl s.seq).length) c16)), (1, (.slice (some ⟨b2, 2, none⟩) 32 32)), (2, (.slice a25 ((Zh s.len).length) c26)), (3, (.slice a35 ((Z3n s.sb s.sm).length) c36))] ([(.slice a15 ((ZT s.cl s.seq).length) c16), (.slice (some ⟨b2, 2, none⟩) 32 32), (.slice a25 ((Zh s.len).length) c26), (.slice a35 ((Z3n s.sb s.sm).length) c36)] : List Value) H34 ?_
 intro b39 w40 H41
 have S42 := H41.pk [0, 1]
 refine kq _ _ S42 ?_
 clear kq Kq
 refine Z09 12 fun Kq kq => ?_
 have l44 := Z1X s.cl s.seq
 have l45 := s.h.len
 have l46 := ZD s.len
 have l47 := Z3P s.sb s.sm
 refine zdc 15 (Z1K w40 (.slice (some ⟨b39, 0, none⟩) 4 4) [(.slice a15 ((ZT s.cl s.seq).length) c16), (.slice (some ⟨b2, 2, none⟩) 32 32), (.slice a25 ((Zh s.len).length) c26), (.slice a35 ((Z3n s.sb s.sm).length) c36)] [(ZT s.cl s.seq), s.h.l, (Zh s.len), (Z3n s.sb s.sm)] (ListAt.row (enc := Z7T) (sz := 1) (xs := [(.slice a15 ((ZT s.cl s.seq).length) c16), (.slice (some ⟨b2, 2, none⟩) 32 32), (.slice a25 ((Zh s.len).length) c26), (.slice a35 ((Z3n s.sb s.sm).length) c36)]) Z1B (by decide) (H41.at 5 rfl)) (Parts.cons (ListAt.row (enc := ZN) (sz := 1) ZE (by decide) (H41.at 2 rfl)) (Parts.cons (ListAt.ofHash (Z2R (H41.at 1 rfl) (by kernel_rfl)) (by decide)) (Parts.cons (ListAt.row (enc := ZN) (sz := 1) ZE (by decide) (H41.at 3 rfl)) (Parts.cons (ListAt.row (enc := ZN) (sz := 1) ZE (by decide) (H41.at 4 rfl)) Parts.nil)))) (by simp only [List.flatten_cons, List.flatten_nil, List.length_append, List.length_nil]; omega) (by simp)) ?_
 rintro _ w48 ⟨u49, rfl, k50, p51, q52⟩
 have H53 := H41.addU p51 k50 q52
 obtain ⟨a54, c55, rfl⟩ := Z1 (H53.at 6 rfl)
 refine ⟨_, rfl, ?_⟩
 have S56 := H53.pk [0, 1]
 refine kq _ _ S56 ?_
 clear kq Kq
 refine hv0 13 S56 2 (.slice a54 (([(ZT s.cl s.seq), s.h.l, (Zh s.len), (Z3n s.sb s.sm)].flatten).length) c55) ?_
 refine zhf ?_
 apply ztn
 apply ZA
 refine ze1 (.slice a54 (([(ZT s.cl s.seq), s.h.l, (Zh s.len), (Z3n s.sb s.sm)].flatten).length) c55) ?_
 have hX : ([(ZT s.cl s.seq), s.h.l, (Zh s.len), (Z3n s.sb s.sm)].flatten) = ZS s := by rfl
 exact ⟨_, rfl, (by rw [← hX]; exact H53.at 6 rfl), H53.upd 0 rfl [] (fun _ h => h.elim), (by rw [← hX]; exact H53.fresh 0 rfl (fun _ h => h) 6 rfl rfl)⟩
theorem Z7D (w : World) (s : Z5) (hs : (s.r ≤ 9223372036854775807 ∧ s.cl ≤ 9223372036854775807 ∧ s.seq ≤ 9223372036854775807 ∧ 0 ≤ s.t ∧ s.t < 18446744073709551616)) :
  Calls Tryz.prog 46 #[(.agg ⟨(([(.int .i64 (s.r)), (.int .i64 (s.cl)), (.int .i64 (s.seq))] : List Value) ++ hc s.h ++ ([(.int .u64 (s.t)), (.int .i64 (s.sb)), (.int .i64 (s.sm))] : List Value))⟩)] w fun e w' => ∃ u, e = .returned u ∧ (ZH 5 1 u (Z15 s).length ((Z15 s).flatMap ZN)).ok w' ∧ Upd [] w w' ∧ ∀ q_, (ZH 5 1 u (Z15 s).length ((Z15 s).flatMap ZN)).fp q_ → w.heap.size ≤ q_ := by
 have H := Sat.start0 w
 refine Zp Tryz.func46 rfl 16 rfl (Nat.le_of_ble_eq_true rfl) ?_
 apply zsl
 refine zwd fun Kq kq => ?_
 refine zdb (Z3V s) H ?_
 intro b2 w3 H4
 refine kq _ _ ?_
 clear kq Kq
 refine wv 2 (.slice none 0 0) ?_
 apply znt
 apply Zt
 refine Z00 H4 [Z6 w (fun _ => False), Z0 b2 31 (Z3V s)] 14 rfl (by kernel_rfl) (fun Hx => (Hx.pk [0, 1])) ?_
 intro w5 H6 S7
 refine hv0 0 S7 3 (pt b2 0) ?_
 refine hv0 1 S7 4 (.int .i64 (s.r)) ?_ (he := fun _ H' => (Z2 rfl (by kernel_rfl) (H'.cell 1 rfl (by kernel_rfl))))
 refine hv0 3 S7 6 (pt b2 1) ?_
 refine hv0 4 S7 7 (.agg ⟨(Z3U s.cl s.seq)⟩) ?_ (he := fun _ H' => (Zc (vs := (Z3U s.cl s.seq)) rfl (by kernel_rfl) (by kernel_rfl) (by exact Nat.le_of_ble_eq_true (by kernel_rfl)) (H'.at 1 rfl) (by kernel_rfl)))
 refine hv0 6 S7 9 (pt b2 3) ?_
 refine hv0 7 S7 10 (.slice (some ⟨b2, 3, none⟩) 32 32) ?_
 refine hv0 8 S7 11 (pt b2 35) ?_
 refine hv0 9 S7 12 (.int .u64 (s.t)) ?_ (he := fun _ H' => (Z2 rfl (by kernel_rfl) (H'.cell 1 rfl (by kernel_rfl))))
 refine Z09 2 fun Kq kq => ?_
 refine zdc 5 (Z1c w5 s.r (by omega)) ?_
 rintro _ w9 ⟨u10, rfl, k11, p12, q13⟩
 have H14 := H6.addU p12 k11 q13
 obtain ⟨a15, c16, rfl⟩ := Z1 (H14.at 2 rfl)
 refine ⟨_, rfl, ?_⟩
 have S17 := H14.pk [0, 1]
 refine kq _ _ S17 ?_
 clear kq Kq
 refine Z09 5 fun Kq kq => ?_
 refine zdc 8 (Z5K w9 s.cl s.seq (by omega)) ?_
 rintro _ w19 ⟨u20, rfl, k21, p22, q23⟩
 have H24 := H14.addU p22 k21 q23
 obtain ⟨a25, c26, rfl⟩ := Z1 (H24.at 3 rfl)
 refine ⟨_, rfl, ?_⟩
 have S27 := H24.pk [0, 1]
 refine kq _ _ S27 ?_
 clear kq Kq
 refine Z09 10 fun Kq kq => ?_
 refine Z2p (d := 13) rfl (by rw [show s.t = ((s.t.toNat : Nat) : Int) by omega]; kernel_rfl) (Z5j w19 s.t.toNat (by omega)) ?_
 rintro _ w29 ⟨u30, rfl, k31, p32, q33⟩
 have H34 := H24.addU p32 k31 q33
 obtain ⟨a35, c36, rfl⟩ := Z1 (H34.at 4 rfl)
 refine ⟨_, rfl, ?_⟩
 have S37 := H34.pk [0, 1]
 refine kq _ _ S37 ?_
 clear kq Kq
 refine Z09 11 fun Kq kq => ?_
 refine Z3o 62 1 24 (.slice none 0 0) [(0, (.slice a15 ((Zh s.r).length) c16)), (1, (.slice a25 ((ZT s.cl s.seq).length) c26)), (2, (.slice (some ⟨b2, 3, none⟩) 32 32)), (3, (.slice a35 ((Z0W s.t.toNat).length) c36))] ([(.slice a15 ((Zh s.r).length) c16), (.slice a25 ((ZT s.cl s.seq).length) c26), (.slice (some ⟨b2, 3, none⟩) 32 32), (.slice a35 ((Z0W s.t.toNat).length) c36)] : List Value) H34 ?_
 intro b39 w40 H41
 have S42 := H41.pk [0, 1]
 refine kq _ _ S42 ?_
 clear kq Kq
 refine Z09 12 fun Kq kq => ?_
 have l44 := ZD s.r
 have l45 := Z1X s.cl s.seq
 have l46 := s.h.len
 have l47 := Z1M s.t.toNat
 refine zdc 15 (Z1K w40 (.slice (some ⟨b39, 0, none⟩) 4 4) [(.slice a15 ((Zh s.r).length) c16), (.slice a25 ((ZT s.cl s.seq).length) c26), (.slice (some ⟨b2, 3, none⟩) 32 32), (.slice a35 ((Z0W s.t.toNat).length) c36)] [(Zh s.r), (ZT s.cl s.seq), s.h.l, (Z0W s.t.toNat)] (ListAt.row (enc := Z7T) (sz := 1) (xs := [(.slice a15 ((Zh s.r).length) c16), (.slice a25 ((ZT s.cl s.seq).length) c26), (.slice (some ⟨b2, 3, none⟩) 32 32), (.slice a35 ((Z0W s.t.toNat).length) c36)]) Z1B (by decide) (H41.at 5 rfl)) (Parts.cons (ListAt.row (enc := ZN) (sz := 1) ZE (by decide) (H41.at 2 rfl)) (Parts.cons (ListAt.row (enc := ZN) (sz := 1) ZE (by decide) (H41.at 3 rfl)) (Parts.cons (ListAt.ofHash (Z2R (H41.at 1 rfl) (by kernel_rfl)) (by decide)) (Parts.cons (ListAt.row (enc := ZN) (sz := 1) ZE (by decide) (H41.at 4 rfl)) Parts.nil)))) (by simp only [List.flatten_cons, List.flatten_nil, List.length_append, List.length_nil]; omega) (by simp)) ?_
 rintro _ w48 ⟨u49, rfl, k50, p51, q52⟩
 have H53 := H41.addU p51 k50 q52
 obtain ⟨a54, c55, rfl⟩ := Z1 (H53.at 6 rfl)
 refine ⟨_, rfl, ?_⟩
 have S56 := H53.pk [0, 1]
 refine kq _ _ S56 ?_
 clear kq Kq
 refine hv0 13 S56 2 (.slice a54 (([(Zh s.r), (ZT s.cl s.seq), s.h.l, (Z0W s.t.toNat)].flatten).length) c55) ?_
 refine zhf ?_
 apply ztn
 apply ZA
 refine ze1 (.slice a54 (([(Zh s.r), (ZT s.cl s.seq), s.h.l, (Z0W s.t.toNat)].flatten).length) c55) ?_
 have hX : ([(Zh s.r), (ZT s.cl s.seq), s.h.l, (Z0W s.t.toNat)].flatten) = Z15 s := by rfl
 exact ⟨_, rfl, (by rw [← hX]; exact H53.at 6 rfl), H53.upd 0 rfl [] (fun _ h => h.elim), (by rw [← hX]; exact H53.fresh 0 rfl (fun _ h => h) 6 rfl rfl)⟩
theorem Z2G (w : World) (s : Z5) (hs : (s.r ≤ 9223372036854775807 ∧ s.cl ≤ 9223372036854775807 ∧ s.seq ≤ 9223372036854775807 ∧ 0 ≤ s.t ∧ s.t < 18446744073709551616)) :
  Calls Tryz.prog 13 #[(.agg ⟨(([(.int .i64 (s.r)), (.int .i64 (s.cl)), (.int .i64 (s.seq))] : List Value) ++ hc s.h ++ ([(.int .u64 (s.t)), (.int .i64 (s.sb)), (.int .i64 (s.sm))] : List Value))⟩)] w fun e w' => ∃ u, e = .returned u ∧ (ZH 5 1 u (Z1H s).length ((Z1H s).flatMap ZN)).ok w' ∧ Upd [] w w' ∧ ∀ q_, (ZH 5 1 u (Z1H s).length ((Z1H s).flatMap ZN)).fp q_ → w.heap.size ≤ q_ := by
 have H := Sat.start0 w
 refine Zp Tryz.func13 rfl 10 rfl (Nat.le_of_ble_eq_true rfl) ?_
 apply zsl
 refine zwd fun Kq kq => ?_
 refine zdb (Z3V s) H ?_
 intro b2 w3 H4
 refine kq _ _ ?_
 clear kq Kq
 refine wv 2 (.slice none 0 0) ?_
 apply znt
 apply Zt
 refine Z00 H4 [Z6 w (fun _ => False), Z0 b2 31 (Z3V s)] 8 rfl (by kernel_rfl) (fun Hx => (Hx.pk [0, 1])) ?_
 intro w5 H6 S7
 refine hv0 3 S7 6 (.agg ⟨(Z3V s)⟩) ?_ (he := fun _ H' => (Zc (vs := (Z3V s)) rfl (by kernel_rfl) (by kernel_rfl) (by exact Nat.le_of_ble_eq_true (by kernel_rfl)) (H'.at 1 rfl) (by kernel_rfl)))
 refine Z09 0 fun Kq kq => ?_
 refine Z3o 5 1 1 (.int .u8 (0)) [(0, (.int .u8 (97))), (1, (.int .u8 (99))), (2, (.int .u8 (107)))] ([(.int .u8 (97)), (.int .u8 (99)), (.int .u8 (107))] : List Value) H6 ?_
 intro b9 w10 H11
 have H12 := H11.ct 2 rfl (ZH 5 1 (.slice (some ⟨b9, 0, none⟩) 3 3) 3 ([97, 99, 107].flatMap ZN)) (by rw [show (([(.int .u8 (97)), (.int .u8 (99)), (.int .u8 (107))] : List Value) : List Value) = [97, 99, 107].flatMap ZN from rfl])
 have S13 := H12.pk [0, 1]
 refine kq _ _ S13 ?_
 clear kq Kq
 refine Z09 1 fun Kq kq => ?_
 refine Z1T (e := 5) (s := [97, 99, 107]) rfl H12 2 rfl (by kernel_rfl) (by kernel_rfl) rfl ?_
 intro w15 H16
 have S17 := H16.pk [0, 1]
 refine kq _ _ S17 ?_
 clear kq Kq
 refine Z09 2 fun Kq kq => ?_
 refine zdc 5 (Z3M w15 (.slice (some ⟨b9, 0, none⟩) 3 3) ([97, 99, 107]) (ListAt.ofTxt (H16.at 2 rfl)) (by simp)) ?_
 rintro _ w19 ⟨u20, rfl, k21, p22, q23⟩
 have H24 := H16.addU p22 k21 q23
 obtain ⟨a25, c26, rfl⟩ := Z1 (H24.at 3 rfl)
 refine ⟨_, rfl, ?_⟩
 have S27 := H24.pk [0, 1]
 refine kq _ _ S27 ?_
 clear kq Kq
 refine Z09 4 fun Kq kq => ?_
 refine zdc 7 (Z7D w19 s hs) ?_
 rintro _ w29 ⟨u30, rfl, k31, p32, q33⟩
 have H34 := H24.addU p32 k31 q33
 obtain ⟨a35, c36, rfl⟩ := Z1 (H34.at 4 rfl)
 refine ⟨_, rfl, ?_⟩
 have S37 := H34.pk [0, 1]
 refine kq _ _ S37 ?_
 clear kq Kq
 refine Z09 5 fun Kq kq => ?_
 refine Z3o 62 1 24 (.slice none 0 0) [(0, (.slice a25 ((ZM ([97, 99, 107])).length) c26)), (1, (.slice a35 ((Z15 s).length) c36))] (Zaj a25 ((ZM ([97, 99, 107])).length) c26 a35 ((Z15 s).length) c36) H34 ?_
 intro b39 w40 H41
 have S42 := H41.pk [0, 1]
 refine kq _ _ S42 ?_
 clear kq Kq
 refine Z09 6 fun Kq kq => ?_
 have l44 := Z1d ([97, 99, 107])
 simp only [List.length_cons, List.length_nil] at l44
 have l45 := Z3q s
 refine zdc 9 (Z1K w40 (.slice (some ⟨b39, 0, none⟩) 2 2) [(.slice a25 ((ZM ([97, 99, 107])).length) c26), (.slice a35 ((Z15 s).length) c36)] [(ZM ([97, 99, 107])), (Z15 s)] (ListAt.row (enc := Z7T) (sz := 1) (xs := [(.slice a25 ((ZM ([97, 99, 107])).length) c26), (.slice a35 ((Z15 s).length) c36)]) Z1B (by decide) (H41.at 5 rfl)) (Parts.cons (ListAt.row (enc := ZN) (sz := 1) ZE (by decide) (H41.at 3 rfl)) (Parts.cons (ListAt.row (enc := ZN) (sz := 1) ZE (by decide) (H41.at 4 rfl)) Parts.nil)) (by simp only [List.flatten_cons, List.flatten_nil, List.length_append, List.length_nil]; omega) (by simp)) ?_
 rintro _ w46 ⟨u47, rfl, k48, p49, q50⟩
 have H51 := H41.addU p49 k48 q50
 obtain ⟨a52, c53, rfl⟩ := Z1 (H51.at 6 rfl)
 refine ⟨_, rfl, ?_⟩
 have S54 := H51.pk [0, 1]
 refine kq _ _ S54 ?_
 clear kq Kq
 refine hv0 7 S54 2 (.slice a52 (([(ZM ([97, 99, 107])), (Z15 s)].flatten).length) c53) ?_
 refine zhf ?_
 apply ztn
 apply ZA
 refine ze1 (.slice a52 (([(ZM ([97, 99, 107])), (Z15 s)].flatten).length) c53) ?_
 have hX : ([(ZM ([97, 99, 107])), (Z15 s)].flatten) = Z1H s := by rfl
 exact ⟨_, rfl, (by rw [← hX]; exact H51.at 6 rfl), H51.upd 0 rfl [] (fun _ h => h.elim), (by rw [← hX]; exact H51.fresh 0 rfl (fun _ h => h) 6 rfl rfl)⟩
theorem Z81 {w : World} {C : List CeR} (h : ∀ i, i < C.length → CeB w (C.getD i ce0)) : ∀ c ∈ C, c.S.length ≤ 100 := fun c hm => by
 obtain ⟨i, hi, e⟩ := List.mem_iff_getElem.1 hm
 have q := (h i hi).len
 rw [List.getD_eq_getElem?_getD, List.getElem?_eq_getElem hi] at q
 rw [← e]; exact q
def ZR (L : List CeR) (a b : Int) : Option CeR := L.find? fun c => decide (c.x.cl = a ∧ c.x.seq = b)
section
variable {L : List CeR} {a b : Int} {i : Nat} {x : CeR} {B : List Ck} {w : World}
theorem Zba (hno : ∀ j, j < i → ∀ y, L[j]? = some y → ¬ (y.x.cl = a ∧ y.x.seq = b)) (hx : L[i]? = some x) (h : decide (x.x.cl = a ∧ x.x.seq = b) = true) : ZR L a b = some x := by
 unfold ZR
 rw [List.find?_eq_some_iff_getElem]
 obtain ⟨hi, e⟩ := List.getElem?_eq_some_iff.1 hx
 refine ⟨h, i, hi, e, fun j hj => ?_⟩
 have := hno j hj _ (List.getElem?_eq_getElem (by omega))
 rw [show (decide (L[j].x.cl = a ∧ L[j].x.seq = b)) = false from decide_eq_false this]; rfl
theorem Za0 (hno : ∀ j, j < i → ∀ y, L[j]? = some y → ¬ (y.x.cl = a ∧ y.x.seq = b)) (hi : L.length ≤ i) : ZR L a b = none := by
 unfold ZR
 rw [List.find?_eq_none]
 intro y hy
 obtain ⟨j, hj, e⟩ := List.mem_iff_getElem.1 hy
 have := hno j (by omega) y (by rw [List.getElem?_eq_getElem hj, e])
 simpa using this
theorem Za2 (hno : ∀ j, j < i → ∀ y, L[j]? = some y → ¬ (y.x.cl = a ∧ y.x.seq = b)) (hx : L[i]? = some x) (h : decide (x.x.cl = a ∧ x.x.seq = b) = false) : ∀ j, j < i + 1 → ∀ y, L[j]? = some y → ¬ (y.x.cl = a ∧ y.x.seq = b) := fun j hj y hy => by
 rcases Nat.lt_or_ge j i with q | q
 ·exact hno j q y hy
 ·have e : j = i := by omega
  subst e
  rw [hx] at hy
  obtain rfl := Option.some.inj hy
  exact of_decide_eq_false h
structure CeT (B : List Ck) (c : CeR) : Prop where
 x : CoB c.x
 S : ∀ i, i < c.S.length → StB (c.S.getD i Z9)
 len : c.S.length ≤ 12
 bag : stC c ∈ B
theorem CeT.cb (h : CeT B x) (hb : (Z0o B).ok w) : CeB w x := ⟨h.x, Z3S hb h.bag, h.S, Nat.le_trans h.len (by decide)⟩
noncomputable def Z05 (L : List CeR) (last tm : Int) : List CeR := L.filter fun c => decide (ZK c.S > last) && decide (ZK c.S ≤ tm)
variable {last tm : Int}
theorem Z93 {D : List CeR} (hD : D = Z05 (L.take i) last tm) (hx : L[i]? = some x) (h1 : decide (ZK x.S > last) = true) (h2 : decide (ZK x.S ≤ tm) = true) : D ++ [x] = Z05 (L.take (i + 1)) last tm := by
 unfold Z05 at hD ⊢
 rw [List.take_add_one, hx, Option.toList_some, List.filter_append, ← hD, List.filter_cons, h1, h2]; rfl
theorem Z91 {D : List CeR} (hD : D = Z05 (L.take i) last tm) (hx : L[i]? = some x) (h1 : decide (ZK x.S > last) = false) : D = Z05 (L.take (i + 1)) last tm := by
 unfold Z05 at hD ⊢
 rw [List.take_add_one, hx, Option.toList_some, List.filter_append, ← hD, List.filter_cons, h1]; simp
theorem Z92 {D : List CeR} (hD : D = Z05 (L.take i) last tm) (hx : L[i]? = some x) (h2 : decide (ZK x.S ≤ tm) = false) : D = Z05 (L.take (i + 1)) last tm := by
 unfold Z05 at hD ⊢
 rw [List.take_add_one, hx, Option.toList_some, List.filter_append, ← hD, List.filter_cons, h2]; simp
theorem Z3Q {c : CeR} (h : c ∈ Z05 L last tm) : c ∈ L := (List.mem_filter.1 h).1
theorem Z5k : (Z05 L last tm).length ≤ L.length := List.length_filter_le ..
theorem Z7l (h : (ZR L a b).isSome = true) : (ZR L a b).getD ce0 ∈ L := by
 obtain ⟨v, hv⟩ := Option.isSome_iff_exists.1 h
 rw [hv]
 exact List.mem_of_find?_eq_some (show L.find? (fun c => decide (c.x.cl = a ∧ c.x.seq = b)) = some v from hv)
noncomputable def Z4b (F Cn floor : Int) (Lb : List Signed) (L : List CeR) (x : CeR) : Int :=
 if Z06 F Cn Lb x.x x.S = true then
  if (ZR L x.x.cl x.x.seq).isSome = true then
   if ((ZR L x.x.cl x.x.seq).getD ce0).x.h = x.x.h ∧ ZK ((ZR L x.x.cl x.x.seq).getD ce0).S = ZK x.S then 0 else 5
  else if ZK x.S ≤ floor then 4 else if 64 ≤ L.length then 7 else 0
 else 3
noncomputable def ackT (rp : Int) (x : CeR) : Z5 := ⟨rp, x.x.cl, x.x.seq, x.x.h, ZK x.S, 0, 0⟩
noncomputable def ackY (rp : Int) (x : CeR) : Signed := ⟨rp, Z1H (ackT rp x)⟩
noncomputable def ackS (rp : Int) (Lb : List Signed) (x : CeR) : Z5 := ⟨rp, x.x.cl, x.x.seq, x.x.h, ZK x.S, rp, Zu (Zk Lb (ackY rp x)) (ackY rp x)⟩
def Z3J (x y : CeR) : Bool := decide (x.x.cl < y.x.cl) || (decide (x.x.cl = y.x.cl) && decide (x.x.seq < y.x.seq))
structure Z7U (L : List CeR) (x : CeR) (k : Nat) : Prop where
 le : k ≤ L.length
 up : ∀ j, k ≤ j → ∀ y, L[j]? = some y → Z3J x y = true
 stop : k = 0 ∨ ∃ y, L[k - 1]? = some y ∧ Z3J x y = false
variable {F Cn floor rp : Int} {Lb : List Signed} {y : CeR} {k : Nat}
theorem tk3 (h : Z06 F Cn Lb x.x x.S = false) : Z4b F Cn floor Lb L x = 3 := by unfold Z4b; rw [if_neg (by rw [h]; decide)]
theorem tk5 (h : Z06 F Cn Lb x.x x.S = true) (h1 : (ZR L x.x.cl x.x.seq).isSome = true) (h2 : ¬ (((ZR L x.x.cl x.x.seq).getD ce0).x.h = x.x.h ∧ ZK ((ZR L x.x.cl x.x.seq).getD ce0).S = ZK x.S)) : Z4b F Cn floor Lb L x = 5 := by unfold Z4b; rw [if_pos h, if_pos h1, if_neg h2]
theorem tk0 (h : Z06 F Cn Lb x.x x.S = true) (h1 : (ZR L x.x.cl x.x.seq).isSome = true) (h2 : ((ZR L x.x.cl x.x.seq).getD ce0).x.h = x.x.h) (h3 : ZK ((ZR L x.x.cl x.x.seq).getD ce0).S = ZK x.S) : Z4b F Cn floor Lb L x = 0 := by unfold Z4b; rw [if_pos h, if_pos h1, if_pos ⟨h2, h3⟩]
theorem tk4 (h : Z06 F Cn Lb x.x x.S = true) (h1 : (ZR L x.x.cl x.x.seq).isSome = false) (h2 : ZK x.S ≤ floor) : Z4b F Cn floor Lb L x = 4 := by unfold Z4b; rw [if_pos h, if_neg (by rw [h1]; decide), if_pos h2]
theorem tk7 (h : Z06 F Cn Lb x.x x.S = true) (h1 : (ZR L x.x.cl x.x.seq).isSome = false) (h2 : ¬ ZK x.S ≤ floor) (h3 : 64 ≤ L.length) : Z4b F Cn floor Lb L x = 7 := by unfold Z4b; rw [if_pos h, if_neg (by rw [h1]; decide), if_neg h2, if_pos h3]
theorem tkn (h : Z06 F Cn Lb x.x x.S = true) (h1 : (ZR L x.x.cl x.x.seq).isSome = false) (h2 : ¬ ZK x.S ≤ floor) (h3 : ¬ 64 ≤ L.length) : Z4b F Cn floor Lb L x = 0 := by unfold Z4b; rw [if_pos h, if_neg (by rw [h1]; decide), if_neg h2, if_neg h3]
theorem ZbJ : ∀ j, L.length ≤ j → ∀ y, L[j]? = some y → Z3J x y = true := fun j hj y hy => by
 have := (List.getElem?_eq_some_iff.1 hy).1; omega
theorem ZcF (h : ∀ j, k ≤ j → ∀ y, L[j]? = some y → Z3J x y = true) (hy : L[k - 1]? = some y) (hl : Z3J x y = true) : ∀ j, k - 1 ≤ j → ∀ y, L[j]? = some y → Z3J x y = true := fun j hj z hz => by
 by_cases e : j = k - 1
 ·subst e
  rw [hy] at hz
  obtain rfl := Option.some.inj hz
  exact hl
 ·exact h j (by omega) z hz
theorem Z95 {c : CeR} (h : CeT B c) : 0 ≤ ZK c.S ∧ ZK c.S < 18446744073709551616 := by
 unfold ZK
 rcases Nat.mod_two_eq_zero_or_one (Z32 c.S).length with e | e
 ·rw [Z3u e]; decide
 ·have hm := (Z8V e).mem
  unfold Z32 at hm
  obtain ⟨s, hs, he⟩ := List.mem_map.1 hm
  obtain ⟨i, hi, hsi⟩ := List.mem_iff_getElem.1 hs
  have q := (h.S i hi).1
  rw [List.getD_eq_getElem?_getD, List.getElem?_eq_getElem hi, Option.getD_some, hsi] at q
  unfold Z32
  rw [← he]; exact ⟨q.2.2.2.1, q.2.2.2.2⟩
end
end Go.Proofs.YtoaifondpohniaaGreat
