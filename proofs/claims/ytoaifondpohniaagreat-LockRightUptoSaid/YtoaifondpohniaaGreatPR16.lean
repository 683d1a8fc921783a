/- WHAT IS PROVED: contracts and plain laws of Rt2, TxtP. Conditions: stated with each. -/
import Derived.Test.YtoaifondpohniaaGreatPR04
import Derived.Test.YtoaifondpohniaaGreatPR06
import Derived.Test.YtoaifondpohniaaGreatPR07
import Derived.Test.YtoaifondpohniaaGreatPR14
set_option maxHeartbeats 4000000
set_option maxRecDepth 100000
namespace Go.Proofs.YtoaifondpohniaaGreat
open Go.RowKit
abbrev Z8S (p0 : Int) (p1 : Int) : List Value := ([(.int .i64 p0), (.int .i64 p1)] : List Value)
abbrev Z6k (p0 : Z5) : List Value := ([(.int .i64 p0.r), (.int .i64 p0.cl), (.int .i64 p0.seq)] : List Value) ++ hc p0.h ++ ([(.int .u64 p0.t), (.int .i64 p0.sb), (.int .i64 p0.sm)] : List Value)
abbrev Zc0 : List Value := ([(.int .u8 (115)), (.int .u8 (116)), (.int .u8 (97)), (.int .u8 (109)), (.int .u8 (112))] : List Value)
abbrev Zc1 (p0 : Zg) : List Value := ([(.int .i64 p0.cl), (.int .i64 p0.seq)] : List Value) ++ hc p0.h ++ ([(.int .i64 p0.len), (.int .i64 p0.sb), (.int .i64 p0.sm)] : List Value)
abbrev Zc2 : List Value := ([(.int .u8 (114)), (.int .u8 (101)), (.int .u8 (113)), (.int .u8 (117)), (.int .u8 (101)), (.int .u8 (115)), (.int .u8 (116))] : List Value)
theorem Z5K (w : World) (a b : Int) (hs : a ≤ 9223372036854775807 ∧ b ≤ 9223372036854775807) :
  Calls Tryz.prog 77 #[(.agg ⟨([(.int .i64 (a)), (.int .i64 (b))] : List Value)⟩)] w fun e w' => ∃ u, e = .returned u ∧ (ZH 5 1 u (ZT a b).length ((ZT a b).flatMap ZN)).ok w' ∧ Upd [] w w' ∧ ∀ q_, (ZH 5 1 u (ZT a b).length ((ZT a b).flatMap ZN)).fp q_ → w.heap.size ≤ q_ := by
 have H := Sat.start0 w
 refine Zp Tryz.func77 rfl 11 rfl (Nat.le_of_ble_eq_true rfl) ?_
 apply zsl
 refine zwd fun Kq kq => ?_
 refine zdb (Z8S a b) H ?_
 intro b2 w3 H4
 refine kq _ _ ?_
 clear kq Kq
 refine wv 2 (.slice none 0 0) ?_
 apply znt
 apply Zt
 refine Z00 H4 [Z6 w (fun _ => False), Z0 b2 24 (Z8S a b)] 9 rfl (by kernel_rfl) (fun Hx => (Hx.pk [0, 1])) ?_
 intro w5 H6 S7
 refine hv0 0 S7 3 (pt b2 0) ?_
 refine hv0 1 S7 4 (.int .i64 (a)) ?_ (he := fun _ H' => (Z2 rfl (by kernel_rfl) (H'.cell 1 rfl rfl)))
 refine hv0 3 S7 6 (pt b2 1) ?_
 refine hv0 4 S7 7 (.int .i64 (b)) ?_ (he := fun _ H' => (Z2 rfl (by kernel_rfl) (H'.cell 1 rfl rfl)))
 refine Z09 2 fun Kq kq => ?_
 refine zdc 5 (Z1c w5 a (by omega)) ?_
 rintro _ w9 ⟨u10, rfl, k11, p12, q13⟩
 have H14 := H6.addU p12 k11 q13
 obtain ⟨a15, c16, rfl⟩ := Z1 (H14.at 2 rfl)
 refine ⟨_, rfl, ?_⟩
 have S17 := H14.pk [0, 1]
 refine kq _ _ S17 ?_
 clear kq Kq
 refine Z09 5 fun Kq kq => ?_
 refine zdc 8 (Z1c w9 b (by omega)) ?_
 rintro _ w19 ⟨u20, rfl, k21, p22, q23⟩
 have H24 := H14.addU p22 k21 q23
 obtain ⟨a25, c26, rfl⟩ := Z1 (H24.at 3 rfl)
 refine ⟨_, rfl, ?_⟩
 have S27 := H24.pk [0, 1]
 refine kq _ _ S27 ?_
 clear kq Kq
 refine Z09 6 fun Kq kq => ?_
 refine Z3o 62 1 24 (.slice none 0 0) [(0, (.slice a15 ((Zh a).length) c16)), (1, (.slice a25 ((Zh b).length) c26))] ([(.slice a15 ((Zh a).length) c16), (.slice a25 ((Zh b).length) c26)] : List Value) H24 ?_
 intro b29 w30 H31
 have S32 := H31.pk [0, 1]
 refine kq _ _ S32 ?_
 clear kq Kq
 refine Z09 7 fun Kq kq => ?_
 have l34 := ZD a
 have l35 := ZD b
 refine zdc 10 (Z1K w30 (.slice (some ⟨b29, 0, none⟩) 2 2) [(.slice a15 ((Zh a).length) c16), (.slice a25 ((Zh b).length) c26)] [(Zh a), (Zh b)] (ListAt.row (enc := Z7T) (sz := 1) (xs := [(.slice a15 ((Zh a).length) c16), (.slice a25 ((Zh b).length) c26)]) Z1B (by decide) (H31.at 4 rfl)) (Parts.cons (ListAt.row (enc := ZN) (sz := 1) ZE (by decide) (H31.at 2 rfl)) (Parts.cons (ListAt.row (enc := ZN) (sz := 1) ZE (by decide) (H31.at 3 rfl)) Parts.nil)) (by simp only [List.flatten_cons, List.flatten_nil, List.length_append, List.length_nil]; omega) (by simp)) ?_
 rintro _ w36 ⟨u37, rfl, k38, p39, q40⟩
 have H41 := H31.addU p39 k38 q40
 obtain ⟨a42, c43, rfl⟩ := Z1 (H41.at 5 rfl)
 refine ⟨_, rfl, ?_⟩
 have S44 := H41.pk [0, 1]
 refine kq _ _ S44 ?_
 clear kq Kq
 refine hv0 8 S44 2 (.slice a42 (([(Zh a), (Zh b)].flatten).length) c43) ?_
 refine zhf ?_
 apply ztn
 apply ZA
 refine ze1 (.slice a42 (([(Zh a), (Zh b)].flatten).length) c43) ?_
 have hX : ([(Zh a), (Zh b)].flatten) = ZT a b := by rfl
 exact ⟨_, rfl, (by rw [← hX]; exact H41.at 5 rfl), H41.upd 0 rfl [] (fun _ h => h.elim), (by rw [← hX]; exact H41.fresh 0 rfl (fun _ h => h) 5 rfl rfl)⟩
theorem Z7E (w : World) (s : Z5) (hs : (s.r ≤ 9223372036854775807 ∧ s.cl ≤ 9223372036854775807 ∧ s.seq ≤ 9223372036854775807 ∧ 0 ≤ s.t ∧ s.t < 18446744073709551616)) :
  Calls Tryz.prog 95 #[(.agg ⟨(([(.int .i64 (s.r)), (.int .i64 (s.cl)), (.int .i64 (s.seq))] : List Value) ++ hc s.h ++ ([(.int .u64 (s.t)), (.int .i64 (s.sb)), (.int .i64 (s.sm))] : List Value))⟩)] w fun e w' => ∃ u, e = .returned u ∧ (ZH 5 1 u (Z15 s).length ((Z15 s).flatMap ZN)).ok w' ∧ Upd [] w w' ∧ ∀ q_, (ZH 5 1 u (Z15 s).length ((Z15 s).flatMap ZN)).fp q_ → w.heap.size ≤ q_ := by
 have H := Sat.start0 w
 refine Zp Tryz.func95 rfl 16 rfl (Nat.le_of_ble_eq_true rfl) ?_
 apply zsl
 refine zwd fun Kq kq => ?_
 refine zdb (Z6k s) H ?_
 intro b2 w3 H4
 refine kq _ _ ?_
 clear kq Kq
 refine wv 2 (.slice none 0 0) ?_
 apply znt
 apply Zt
 refine Z00 H4 [Z6 w (fun _ => False), Z0 b2 101 (Z6k s)] 14 rfl (by kernel_rfl) (fun Hx => (Hx.pk [0, 1])) ?_
 intro w5 H6 S7
 refine hv0 0 S7 3 (pt b2 0) ?_
 refine hv0 1 S7 4 (.int .i64 (s.r)) ?_ (he := fun _ H' => (Z2 rfl (by kernel_rfl) (H'.cell 1 rfl (by kernel_rfl))))
 refine hv0 3 S7 6 (pt b2 1) ?_
 refine hv0 4 S7 7 (.agg ⟨(Z8S s.cl s.seq)⟩) ?_ (he := fun _ H' => (Zc (vs := (Z8S s.cl s.seq)) rfl (by kernel_rfl) (by kernel_rfl) (by exact Nat.le_of_ble_eq_true (by kernel_rfl)) (H'.at 1 rfl) (by kernel_rfl)))
 refine hv0 6 S7 9 (pt b2 3) ?_
 refine hv0 7 S7 10 (.slice (some ⟨b2, 3, none⟩) 32 32) ?_
 refine hv0 8 S7 11 (pt b2 35) ?_
 refine hv0 9 S7 12 (.int .u64 (s.t)) ?_ (he := fun _ H' => (Z2 rfl (by kernel_rfl) (H'.cell 1 rfl (by kernel_rfl))))
 refine Z09 2 fun Kq kq => ?_
 refine zdc 5 (Z1c w5 s.r (by omega)) ?_
 rintro _ w9 ⟨u10, rfl, k11, p12, q13⟩
 have H14 := H6.addU p12 k11 q13
 obtain ⟨a15, c16, rfl⟩ := Z1 (H14.at 2 rfl)
 refine ⟨_, rfl, ?_⟩
 have S17 := H14.pk [0, 1]
 refine kq _ _ S17 ?_
 clear kq Kq
 refine Z09 5 fun Kq kq => ?_
 refine zdc 8 (Z5K w9 s.cl s.seq (by omega)) ?_
 rintro _ w19 ⟨u20, rfl, k21, p22, q23⟩
 have H24 := H14.addU p22 k21 q23
 obtain ⟨a25, c26, rfl⟩ := Z1 (H24.at 3 rfl)
 refine ⟨_, rfl, ?_⟩
 have S27 := H24.pk [0, 1]
 refine kq _ _ S27 ?_
 clear kq Kq
 refine Z09 10 fun Kq kq => ?_
 refine Z2p (d := 13) rfl (by rw [show s.t = ((s.t.toNat : Nat) : Int) by omega]; kernel_rfl) (Z5j w19 s.t.toNat (by omega)) ?_
 rintro _ w29 ⟨u30, rfl, k31, p32, q33⟩
 have H34 := H24.addU p32 k31 q33
 obtain ⟨a35, c36, rfl⟩ := Z1 (H34.at 4 rfl)
 refine ⟨_, rfl, ?_⟩
 have S37 := H34.pk [0, 1]
 refine kq _ _ S37 ?_
 clear kq Kq
 refine Z09 11 fun Kq kq => ?_
 refine Z3o 62 1 24 (.slice none 0 0) [(0, (.slice a15 ((Zh s.r).length) c16)), (1, (.slice a25 ((ZT s.cl s.seq).length) c26)), (2, (.slice (some ⟨b2, 3, none⟩) 32 32)), (3, (.slice a35 ((Z0W s.t.toNat).length) c36))] ([(.slice a15 ((Zh s.r).length) c16), (.slice a25 ((ZT s.cl s.seq).length) c26), (.slice (some ⟨b2, 3, none⟩) 32 32), (.slice a35 ((Z0W s.t.toNat).length) c36)] : List Value) H34 ?_
 intro b39 w40 H41
 have S42 := H41.pk [0, 1]
 refine kq _ _ S42 ?_
 clear kq Kq
 refine Z09 12 fun Kq kq => ?_
 have l44 := ZD s.r
 have l45 := Z1X s.cl s.seq
 have l46 := s.h.len
 have l47 := Z1M s.t.toNat
 refine zdc 15 (Z1K w40 (.slice (some ⟨b39, 0, none⟩) 4 4) [(.slice a15 ((Zh s.r).length) c16), (.slice a25 ((ZT s.cl s.seq).length) c26), (.slice (some ⟨b2, 3, none⟩) 32 32), (.slice a35 ((Z0W s.t.toNat).length) c36)] [(Zh s.r), (ZT s.cl s.seq), s.h.l, (Z0W s.t.toNat)] (ListAt.row (enc := Z7T) (sz := 1) (xs := [(.slice a15 ((Zh s.r).length) c16), (.slice a25 ((ZT s.cl s.seq).length) c26), (.slice (some ⟨b2, 3, none⟩) 32 32), (.slice a35 ((Z0W s.t.toNat).length) c36)]) Z1B (by decide) (H41.at 5 rfl)) (Parts.cons (ListAt.row (enc := ZN) (sz := 1) ZE (by decide) (H41.at 2 rfl)) (Parts.cons (ListAt.row (enc := ZN) (sz := 1) ZE (by decide) (H41.at 3 rfl)) (Parts.cons (ListAt.ofHash (Z2R (H41.at 1 rfl) (by kernel_rfl)) (by decide)) (Parts.cons (ListAt.row (enc := ZN) (sz := 1) ZE (by decide) (H41.at 4 rfl)) Parts.nil)))) (by simp only [List.flatten_cons, List.flatten_nil, List.length_append, List.length_nil]; omega) (by simp)) ?_
 rintro _ w48 ⟨u49, rfl, k50, p51, q52⟩
 have H53 := H41.addU p51 k50 q52
 obtain ⟨a54, c55, rfl⟩ := Z1 (H53.at 6 rfl)
 refine ⟨_, rfl, ?_⟩
 have S56 := H53.pk [0, 1]
 refine kq _ _ S56 ?_
 clear kq Kq
 refine hv0 13 S56 2 (.slice a54 (([(Zh s.r), (ZT s.cl s.seq), s.h.l, (Z0W s.t.toNat)].flatten).length) c55) ?_
 refine zhf ?_
 apply ztn
 apply ZA
 refine ze1 (.slice a54 (([(Zh s.r), (ZT s.cl s.seq), s.h.l, (Z0W s.t.toNat)].flatten).length) c55) ?_
 have hX : ([(Zh s.r), (ZT s.cl s.seq), s.h.l, (Z0W s.t.toNat)].flatten) = Z15 s := by rfl
 exact ⟨_, rfl, (by rw [← hX]; exact H53.at 6 rfl), H53.upd 0 rfl [] (fun _ h => h.elim), (by rw [← hX]; exact H53.fresh 0 rfl (fun _ h => h) 6 rfl rfl)⟩
theorem Z2N (w : World) (s : Z5) (hs : (s.r ≤ 9223372036854775807 ∧ s.cl ≤ 9223372036854775807 ∧ s.seq ≤ 9223372036854775807 ∧ 0 ≤ s.t ∧ s.t < 18446744073709551616)) :
  Calls Tryz.prog 59 #[(.agg ⟨(([(.int .i64 (s.r)), (.int .i64 (s.cl)), (.int .i64 (s.seq))] : List Value) ++ hc s.h ++ ([(.int .u64 (s.t)), (.int .i64 (s.sb)), (.int .i64 (s.sm))] : List Value))⟩)] w fun e w' => ∃ u, e = .returned u ∧ (ZH 5 1 u (Zz s).length ((Zz s).flatMap ZN)).ok w' ∧ Upd [] w w' ∧ ∀ q_, (ZH 5 1 u (Zz s).length ((Zz s).flatMap ZN)).fp q_ → w.heap.size ≤ q_ := by
 have H := Sat.start0 w
 refine Zp Tryz.func59 rfl 10 rfl (Nat.le_of_ble_eq_true rfl) ?_
 apply zsl
 refine zwd fun Kq kq => ?_
 refine zdb (Z6k s) H ?_
 intro b2 w3 H4
 refine kq _ _ ?_
 clear kq Kq
 refine wv 2 (.slice none 0 0) ?_
 apply znt
 apply Zt
 refine Z00 H4 [Z6 w (fun _ => False), Z0 b2 101 (Z6k s)] 8 rfl (by kernel_rfl) (fun Hx => (Hx.pk [0, 1])) ?_
 intro w5 H6 S7
 refine hv0 3 S7 6 (.agg ⟨(Z6k s)⟩) ?_ (he := fun _ H' => (Zc (vs := (Z6k s)) rfl (by kernel_rfl) (by kernel_rfl) (by exact Nat.le_of_ble_eq_true (by kernel_rfl)) (H'.at 1 rfl) (by kernel_rfl)))
 refine Z09 0 fun Kq kq => ?_
 refine Z3o 5 1 1 (.int .u8 (0)) [(0, (.int .u8 (115))), (1, (.int .u8 (116))), (2, (.int .u8 (97))), (3, (.int .u8 (109))), (4, (.int .u8 (112)))] (Zc0) H6 ?_
 intro b9 w10 H11
 have H12 := H11.ct 2 rfl (ZH 5 1 (.slice (some ⟨b9, 0, none⟩) 5 5) 5 ([115, 116, 97, 109, 112].flatMap ZN)) (by rw [show ((Zc0) : List Value) = [115, 116, 97, 109, 112].flatMap ZN from rfl])
 have S13 := H12.pk [0, 1]
 refine kq _ _ S13 ?_
 clear kq Kq
 refine Z09 1 fun Kq kq => ?_
 refine Z1T (e := 5) (s := [115, 116, 97, 109, 112]) rfl H12 2 rfl (by kernel_rfl) (by kernel_rfl) rfl ?_
 intro w15 H16
 have S17 := H16.pk [0, 1]
 refine kq _ _ S17 ?_
 clear kq Kq
 refine Z09 2 fun Kq kq => ?_
 refine zdc 5 (Z3M w15 (.slice (some ⟨b9, 0, none⟩) 5 5) ([115, 116, 97, 109, 112]) (ListAt.ofTxt (H16.at 2 rfl)) (by simp)) ?_
 rintro _ w19 ⟨u20, rfl, k21, p22, q23⟩
 have H24 := H16.addU p22 k21 q23
 obtain ⟨a25, c26, rfl⟩ := Z1 (H24.at 3 rfl)
 refine ⟨_, rfl, ?_⟩
 have S27 := H24.pk [0, 1]
 refine kq _ _ S27 ?_
 clear kq Kq
 refine Z09 4 fun Kq kq => ?_
 refine zdc 7 (Z7E w19 s hs) ?_
 rintro _ w29 ⟨u30, rfl, k31, p32, q33⟩
 have H34 := H24.addU p32 k31 q33
 obtain ⟨a35, c36, rfl⟩ := Z1 (H34.at 4 rfl)
 refine ⟨_, rfl, ?_⟩
 have S37 := H34.pk [0, 1]
 refine kq _ _ S37 ?_
 clear kq Kq
 refine Z09 5 fun Kq kq => ?_
 refine Z3o 62 1 24 (.slice none 0 0) [(0, (.slice a25 ((ZM ([115, 116, 97, 109, 112])).length) c26)), (1, (.slice a35 ((Z15 s).length) c36))] ([(.slice a25 ((ZM ([115, 116, 97, 109, 112])).length) c26), (.slice a35 ((Z15 s).length) c36)] : List Value) H34 ?_
 intro b39 w40 H41
 have S42 := H41.pk [0, 1]
 refine kq _ _ S42 ?_
 clear kq Kq
 refine Z09 6 fun Kq kq => ?_
 have l44 := Z1d ([115, 116, 97, 109, 112])
 simp only [List.length_cons, List.length_nil] at l44
 have l45 := Z3q s
 refine zdc 9 (Z1K w40 (.slice (some ⟨b39, 0, none⟩) 2 2) [(.slice a25 ((ZM ([115, 116, 97, 109, 112])).length) c26), (.slice a35 ((Z15 s).length) c36)] [(ZM ([115, 116, 97, 109, 112])), (Z15 s)] (ListAt.row (enc := Z7T) (sz := 1) (xs := [(.slice a25 ((ZM ([115, 116, 97, 109, 112])).length) c26), (.slice a35 ((Z15 s).length) c36)]) Z1B (by decide) (H41.at 5 rfl)) (Parts.cons (ListAt.row (enc := ZN) (sz := 1) ZE (by decide) (H41.at 3 rfl)) (Parts.cons (ListAt.row (enc := ZN) (sz := 1) ZE (by decide) (H41.at 4 rfl)) Parts.nil)) (by simp only [List.flatten_cons, List.flatten_nil, List.length_append, List.length_nil]; omega) (by simp)) ?_
 rintro _ w46 ⟨u47, rfl, k48, p49, q50⟩
 have H51 := H41.addU p49 k48 q50
 obtain ⟨a52, c53, rfl⟩ := Z1 (H51.at 6 rfl)
 refine ⟨_, rfl, ?_⟩
 have S54 := H51.pk [0, 1]
 refine kq _ _ S54 ?_
 clear kq Kq
 refine hv0 7 S54 2 (.slice a52 (([(ZM ([115, 116, 97, 109, 112])), (Z15 s)].flatten).length) c53) ?_
 refine zhf ?_
 apply ztn
 apply ZA
 refine ze1 (.slice a52 (([(ZM ([115, 116, 97, 109, 112])), (Z15 s)].flatten).length) c53) ?_
 have hX : ([(ZM ([115, 116, 97, 109, 112])), (Z15 s)].flatten) = Zz s := by rfl
 exact ⟨_, rfl, (by rw [← hX]; exact H51.at 6 rfl), H51.upd 0 rfl [] (fun _ h => h.elim), (by rw [← hX]; exact H51.fresh 0 rfl (fun _ h => h) 6 rfl rfl)⟩
theorem Z1Y (w : World) (s : Zg) (hs : (s.cl ≤ 9223372036854775807 ∧ s.seq ≤ 9223372036854775807 ∧ s.len ≤ 9223372036854775807)) :
  Calls Tryz.prog 40 #[(.agg ⟨(([(.int .i64 (s.cl)), (.int .i64 (s.seq))] : List Value) ++ hc s.h ++ ([(.int .i64 (s.len)), (.int .i64 (s.sb)), (.int .i64 (s.sm))] : List Value))⟩)] w fun e w' => ∃ u, e = .returned u ∧ (ZH 5 1 u (Zv s).length ((Zv s).flatMap ZN)).ok w' ∧ Upd [] w w' ∧ ∀ q_, (ZH 5 1 u (Zv s).length ((Zv s).flatMap ZN)).fp q_ → w.heap.size ≤ q_ := by
 have H := Sat.start0 w
 refine Zp Tryz.func40 rfl 21 rfl (Nat.le_of_ble_eq_true rfl) ?_
 apply zsl
 refine zwd fun Kq kq => ?_
 refine zdb (Zc1 s) H ?_
 intro b2 w3 H4
 refine kq _ _ ?_
 clear kq Kq
 refine wv 2 (.slice none 0 0) ?_
 apply znt
 apply Zt
 refine Z00 H4 [Z6 w (fun _ => False), Z0 b2 50 (Zc1 s)] 19 rfl (by kernel_rfl) (fun Hx => (Hx.pk [0, 1])) ?_
 intro w5 H6 S7
 refine hv0 3 S7 6 (pt b2 0) ?_
 refine hv0 4 S7 7 (pt b2 0) ?_
 refine hv0 5 S7 8 (.int .i64 (s.cl)) ?_ (he := fun _ H' => (Z2 rfl (by kernel_rfl) (H'.cell 1 rfl (by kernel_rfl))))
 refine hv0 7 S7 10 (pt b2 0) ?_
 refine hv0 8 S7 11 (pt b2 1) ?_
 refine hv0 9 S7 12 (.int .i64 (s.seq)) ?_ (he := fun _ H' => (Z2 rfl (by kernel_rfl) (H'.cell 1 rfl (by kernel_rfl))))
 refine hv0 11 S7 14 (pt b2 2) ?_
 refine hv0 12 S7 15 (.slice (some ⟨b2, 2, none⟩) 32 32) ?_
 refine hv0 13 S7 16 (pt b2 34) ?_
 refine hv0 14 S7 17 (.int .i64 (s.len)) ?_ (he := fun _ H' => (Z2 rfl (by kernel_rfl) (H'.cell 1 rfl (by kernel_rfl))))
 refine Z09 0 fun Kq kq => ?_
 refine Z3o 5 1 1 (.int .u8 (0)) [(0, (.int .u8 (114))), (1, (.int .u8 (101))), (2, (.int .u8 (113))), (3, (.int .u8 (117))), (4, (.int .u8 (101))), (5, (.int .u8 (115))), (6, (.int .u8 (116)))] (Zc2) H6 ?_
 intro b9 w10 H11
 have H12 := H11.ct 2 rfl (ZH 5 1 (.slice (some ⟨b9, 0, none⟩) 7 7) 7 ([114, 101, 113, 117, 101, 115, 116].flatMap ZN)) (by rw [show ((Zc2) : List Value) = [114, 101, 113, 117, 101, 115, 116].flatMap ZN from rfl])
 have S13 := H12.pk [0, 1]
 refine kq _ _ S13 ?_
 clear kq Kq
 refine Z09 1 fun Kq kq => ?_
 refine Z1T (e := 5) (s := [114, 101, 113, 117, 101, 115, 116]) rfl H12 2 rfl (by kernel_rfl) (by kernel_rfl) rfl ?_
 intro w15 H16
 have S17 := H16.pk [0, 1]
 refine kq _ _ S17 ?_
 clear kq Kq
 refine Z09 2 fun Kq kq => ?_
 refine zdc 5 (Z3M w15 (.slice (some ⟨b9, 0, none⟩) 7 7) ([114, 101, 113, 117, 101, 115, 116]) (ListAt.ofTxt (H16.at 2 rfl)) (by simp)) ?_
 rintro _ w19 ⟨u20, rfl, k21, p22, q23⟩
 have H24 := H16.addU p22 k21 q23
 obtain ⟨a25, c26, rfl⟩ := Z1 (H24.at 3 rfl)
 refine ⟨_, rfl, ?_⟩
 have S27 := H24.pk [0, 1]
 refine kq _ _ S27 ?_
 clear kq Kq
 refine Z09 6 fun Kq kq => ?_
 refine zdc 9 (Z1c w19 s.cl (by omega)) ?_
 rintro _ w29 ⟨u30, rfl, k31, p32, q33⟩
 have H34 := H24.addU p32 k31 q33
 obtain ⟨a35, c36, rfl⟩ := Z1 (H34.at 4 rfl)
 refine ⟨_, rfl, ?_⟩
 have S37 := H34.pk [0, 1]
 refine kq _ _ S37 ?_
 clear kq Kq
 refine Z09 10 fun Kq kq => ?_
 refine zdc 13 (Z1c w29 s.seq (by omega)) ?_
 rintro _ w39 ⟨u40, rfl, k41, p42, q43⟩
 have H44 := H34.addU p42 k41 q43
 obtain ⟨a45, c46, rfl⟩ := Z1 (H44.at 5 rfl)
 refine ⟨_, rfl, ?_⟩
 have S47 := H44.pk [0, 1]
 refine kq _ _ S47 ?_
 clear kq Kq
 refine Z09 15 fun Kq kq => ?_
 refine zdc 18 (Z1c w39 s.len (by omega)) ?_
 rintro _ w49 ⟨u50, rfl, k51, p52, q53⟩
 have H54 := H44.addU p52 k51 q53
 obtain ⟨a55, c56, rfl⟩ := Z1 (H54.at 6 rfl)
 refine ⟨_, rfl, ?_⟩
 have S57 := H54.pk [0, 1]
 refine kq _ _ S57 ?_
 clear kq Kq
 refine Z09 16 fun Kq kq => ?_
 refine Z3o 62 1 24 (.slice none 0 0) [(0, (.slice a25 ((ZM ([114, 101, 113, 117, 101, 115, 116])).length) c26)), (1, (.slice a35 ((Zh s.cl).length) c36)), (2, (.slice a45 ((Zh s.seq).length) c46)), (3, (.slice (some ⟨b2, 2, none⟩) 32 32)), (4, (.slice a55 ((Zh s.len).length) c56))] ([(.slice a25 ((ZM ([114, 101, 113, 117, 101, 115, 116])).length) c26), (.slice a35 ((Zh s.cl).length) c36), (.slice a45 ((Zh s.seq).length) c46), (.slice (some ⟨b2, 2, none⟩) 32 32), (.slice a55 ((Zh s.len).length) c56)] : List Value) H54 ?_
 intro b59 w60 H61
 have S62 := H61.pk [0, 1]
 refine kq _ _ S62 ?_
 clear kq Kq
 refine Z09 17 fun Kq kq => ?_
 have l64 := Z1d ([114, 101, 113, 117, 101, 115, 116])
 simp only [List.length_cons, List.length_nil] at l64
 have l65 := ZD s.cl
 have l66 := ZD s.seq
 have l67 := s.h.len
 have l68 := ZD s.len
 refine zdc 20 (Z1K w60 (.slice (some ⟨b59, 0, none⟩) 5 5) [(.slice a25 ((ZM ([114, 101, 113, 117, 101, 115, 116])).length) c26), (.slice a35 ((Zh s.cl).length) c36), (.slice a45 ((Zh s.seq).length) c46), (.slice (some ⟨b2, 2, none⟩) 32 32), (.slice a55 ((Zh s.len).length) c56)] [(ZM ([114, 101, 113, 117, 101, 115, 116])), (Zh s.cl), (Zh s.seq), s.h.l, (Zh s.len)] (ListAt.row (enc := Z7T) (sz := 1) (xs := [(.slice a25 ((ZM ([114, 101, 113, 117, 101, 115, 116])).length) c26), (.slice a35 ((Zh s.cl).length) c36), (.slice a45 ((Zh s.seq).length) c46), (.slice (some ⟨b2, 2, none⟩) 32 32), (.slice a55 ((Zh s.len).length) c56)]) Z1B (by decide) (H61.at 7 rfl)) (Parts.cons (ListAt.row (enc := ZN) (sz := 1) ZE (by decide) (H61.at 3 rfl)) (Parts.cons (ListAt.row (enc := ZN) (sz := 1) ZE (by decide) (H61.at 4 rfl)) (Parts.cons (ListAt.row (enc := ZN) (sz := 1) ZE (by decide) (H61.at 5 rfl)) (Parts.cons (ListAt.ofHash (Z2R (H61.at 1 rfl) (by kernel_rfl)) (by decide)) (Parts.cons (ListAt.row (enc := ZN) (sz := 1) ZE (by decide) (H61.at 6 rfl)) Parts.nil))))) (by simp only [List.flatten_cons, List.flatten_nil, List.length_append, List.length_nil]; omega) (by simp)) ?_
 rintro _ w69 ⟨u70, rfl, k71, p72, q73⟩
 have H74 := H61.addU p72 k71 q73
 obtain ⟨a75, c76, rfl⟩ := Z1 (H74.at 8 rfl)
 refine ⟨_, rfl, ?_⟩
 have S77 := H74.pk [0, 1]
 refine kq _ _ S77 ?_
 clear kq Kq
 refine hv0 18 S77 2 (.slice a75 (([(ZM ([114, 101, 113, 117, 101, 115, 116])), (Zh s.cl), (Zh s.seq), s.h.l, (Zh s.len)].flatten).length) c76) ?_
 refine zhf ?_
 apply ztn
 apply ZA
 refine ze1 (.slice a75 (([(ZM ([114, 101, 113, 117, 101, 115, 116])), (Zh s.cl), (Zh s.seq), s.h.l, (Zh s.len)].flatten).length) c76) ?_
 have hX : ([(ZM ([114, 101, 113, 117, 101, 115, 116])), (Zh s.cl), (Zh s.seq), s.h.l, (Zh s.len)].flatten) = Zv s := by rfl
 exact ⟨_, rfl, (by rw [← hX]; exact H74.at 8 rfl), H74.upd 0 rfl [] (fun _ h => h.elim), (by rw [← hX]; exact H74.fresh 0 rfl (fun _ h => h) 8 rfl rfl)⟩
def Z3n (a b : Int) : List UInt8 := [Zh a, Zh b].flatten
def ZW (s : Z5) : List UInt8 := [Z15 s, Z3n s.sb s.sm].flatten
def ZS (x : Zg) : List UInt8 := [ZT x.cl x.seq, x.h.l, Zh x.len, Z3n x.sb x.sm].flatten
def Z73 (S : List Z5) : List UInt8 := S.flatMap ZW
def ZO (c : CeR) : List UInt8 := [ZS c.x, Zh (c.S.length : Int)].flatten ++ Z73 c.S
def Z7c (C : List CeR) : List UInt8 := C.flatMap ZO
def Z1i (p : PrR) : List UInt8 := [Zh p.r, Zh p.e, Z0W p.f.toNat, Zh (p.C.length : Int)].flatten ++ Z7c p.C
def ZB (p : PrR) : List UInt8 := [ZM [112, 114, 111, 109, 105, 115, 101], Z1i p].flatten
def Z1H (s : Z5) : List UInt8 := [ZM [97, 99, 107], Z15 s].flatten
theorem Z3P (a b : Int) : (Z3n a b).length ≤ 20 := by
 have h1 := ZD a; have h2 := ZD b
 simp only [Z3n, List.flatten_cons, List.flatten_nil, List.length_append, List.length_nil]; omega
theorem Z1q (s : Z5) : (ZW s).length ≤ 92 := by
 have h1 := Z3q s; have h2 := Z3P s.sb s.sm
 simp only [ZW, List.flatten_cons, List.flatten_nil, List.length_append, List.length_nil]; omega
theorem Z1J (x : Zg) : (ZS x).length ≤ 82 := by
 have h1 := Z1X x.cl x.seq; have h2 := x.h.len; have h3 := ZD x.len; have h4 := Z3P x.sb x.sm
 simp only [ZS, List.flatten_cons, List.flatten_nil, List.length_append, List.length_nil]; omega
theorem Z8F (s : Z5) : (Z1H s).length ≤ 100 := by
 have h1 := Z3q s; have h2 := Z1d [97, 99, 107]
 simp only [List.length_cons, List.length_nil] at h2
 simp only [Z1H, List.flatten_cons, List.flatten_nil, List.length_append, List.length_nil]; omega
section
variable {α : Type} {g : α → List UInt8} {k : Nat}
theorem Z4n (hg : ∀ x, (g x).length ≤ k) : ∀ (L : List α), (L.flatMap g).length ≤ L.length * k
 | [] => by simp
 | x :: L => by
  have h1 := hg x; have h2 := Z4n hg L
  rw [List.flatMap_cons, List.length_append, List.length_cons, Nat.succ_mul]; omega
theorem Z2W : ∀ (L : List α), (∀ x ∈ L, (g x).length ≤ k) → (L.flatMap g).length ≤ L.length * k
 | [], _ => by simp
 | x :: L, hg => by
  have h1 := hg x (by simp); have h2 := Z2W L fun y hy => hg y (by simp [hy])
  rw [List.flatMap_cons, List.length_append, List.length_cons, Nat.succ_mul]; omega
theorem Z3C (L : List α) (d : α) {i : Nat} (h : i < L.length) : (L.take (i + 1)).flatMap g = (L.take i).flatMap g ++ g (L.getD i d) := by
 have e : L.take (i + 1) = L.take i ++ [L.getD i d] := by
  rw [List.take_add_one, List.getElem?_eq_getElem h, List.getD_eq_getElem?_getD, List.getElem?_eq_getElem h]; rfl
 rw [e, List.flatMap_append]; simp only [List.flatMap_cons, List.flatMap_nil, List.append_nil]
end
theorem Z5Q (S : List Z5) : (Z73 S).length ≤ S.length * 92 := Z4n Z1q S
theorem Z2c {c : CeR} (h : c.S.length ≤ 100) : (ZO c).length ≤ 9292 := by
 have h1 := Z1J c.x; have h2 := ZD (c.S.length : Int); have h3 := Z5Q c.S
 simp only [ZO, List.flatten_cons, List.flatten_nil, List.length_append, List.length_nil]; omega
theorem Z9b {C : List CeR} (h : ∀ c ∈ C, c.S.length ≤ 100) : (Z7c C).length ≤ C.length * 9292 := Z2W C fun c hc => Z2c (h c hc)
theorem Z5o {p : PrR} (h : ∀ c ∈ p.C, c.S.length ≤ 100) (hl : p.C.length ≤ 64) : (Z1i p).length ≤ 600000 := by
 have h1 := ZD p.r; have h2 := ZD p.e; have h3 := Z1M p.f.toNat; have h4 := ZD (p.C.length : Int); have h5 := Z9b h
 simp only [Z1i, List.flatten_cons, List.flatten_nil, List.length_append, List.length_nil]; omega
theorem Z7C {p : PrR} (h : ∀ c ∈ p.C, c.S.length ≤ 100) (hl : p.C.length ≤ 64) : (ZB p).length ≤ 600100 := by
 have h1 := Z5o h hl; have h2 := Z1d [112, 114, 111, 109, 105, 115, 101]
 simp only [List.length_cons, List.length_nil] at h2
 simp only [ZB, List.flatten_cons, List.flatten_nil, List.length_append, List.length_nil]; omega
end Go.Proofs.YtoaifondpohniaaGreat
