/- WHAT IS PROVED: contracts and plain laws of Rt3. Conditions: stated with each. -/
import Derived.Test.YtoaifondpohniaaGreatPL04
import Derived.Test.YtoaifondpohniaaGreatPL19
import Derived.Test.YtoaifondpohniaaGreatPL20
set_option maxHeartbeats 4000000
set_option maxRecDepth 100000
namespace Go.Proofs.YtoaifondpohniaaGreat
open Go.RowKit
abbrev Z47 (p0 : Int) (p1 : Int) : List Value := ([(.int .i64 p0), (.int .i64 p1)] : List Value)
abbrev Z56 (p0 : Option Addr) (p1 : List UInt8) (p2 : Nat) : Ck := Zk 5 1 (.slice p0 p1.length p2) p1.length (p1.flatMap ZE)
abbrev Z6y (p0 : Option Addr) (p1 : Nat) (p2 : Nat) (p3 : Option Addr) (p4 : Nat) (p5 : Nat) : List Value := ([(.slice p0 p1 p2), (.slice p3 p4 p5)] : List Value)
abbrev Z3p (p0 : Za) : List Value := ([(.int .i64 p0.r), (.int .i64 p0.cl), (.int .i64 p0.seq)] : List Value) ++ hc p0.h ++ ([(.int .u64 p0.t), (.int .i64 p0.sb), (.int .i64 p0.sm)] : List Value)
abbrev Z90 (p0 : Zg) : List Value := ([(.int .i64 p0.cl), (.int .i64 p0.seq)] : List Value) ++ hc p0.h ++ ([(.int .i64 p0.len), (.int .i64 p0.sb), (.int .i64 p0.sm)] : List Value)
abbrev ZaA (p0 : CeR) : List Value := ([(.int .i64 p0.x.cl), (.int .i64 p0.x.seq)] : List Value) ++ hc p0.x.h ++ ([(.int .i64 p0.x.len), (.int .i64 p0.x.sb), (.int .i64 p0.x.sm), (.slice p0.sa p0.S.length p0.sc)] : List Value)
abbrev Z5H (p0 : PrR) : List Value := ([(.int .i64 p0.r), (.int .i64 p0.e), (.int .u64 p0.f), (.slice p0.ca p0.C.length p0.cc), (.int .i64 p0.sb), (.int .i64 p0.sm)] : List Value)
abbrev Zcf (p0 : Option Addr) (p1 : Nat) (p2 : Nat) (p3 : Option Addr) (p4 : Nat) (p5 : Nat) (p6 : Option Addr) (p7 : Nat) (p8 : Nat) (p9 : Option Addr) (p10 : Nat) (p11 : Nat) : List Value := ([(.slice p0 p1 p2), (.slice p3 p4 p5), (.slice p6 p7 p8), (.slice p9 p10 p11)] : List Value)
abbrev Zcg (p0 : Zg) (p1 : CeR) (p2 : Nat) : List Value := ([(.int .i64 p0.cl), (.int .i64 p0.seq)] : List Value) ++ hc p0.h ++ ([(.int .i64 p0.len), (.int .i64 p0.sb), (.int .i64 p0.sm), (.slice p1.sa p2 p1.sc)] : List Value)
abbrev Zch : List Value := ([(.int .u8 (112)), (.int .u8 (114)), (.int .u8 (111)), (.int .u8 (109)), (.int .u8 (105)), (.int .u8 (115)), (.int .u8 (101))] : List Value)
def StB (s : Za) : Prop := (s.r ≤ 9223372036854775807 ∧ s.cl ≤ 9223372036854775807 ∧ s.seq ≤ 9223372036854775807 ∧ 0 ≤ s.t ∧ s.t < 18446744073709551616) ∧ s.sb ≤ 9223372036854775807 ∧ s.sm ≤ 9223372036854775807
def CoB (x : Zg) : Prop := (x.cl ≤ 9223372036854775807 ∧ x.seq ≤ 9223372036854775807 ∧ x.len ≤ 9223372036854775807) ∧ x.sb ≤ 9223372036854775807 ∧ x.sm ≤ 9223372036854775807
structure CeB (w : World) (c : CeR) : Prop where
 x : CoB c.x
 at_ : ListAt Z0q 38 w (.slice c.sa c.S.length c.sc) c.S
 S : ∀ i, i < c.S.length → StB (c.S.getD i Ze)
 len : c.S.length ≤ 100
theorem CeB.keep {w w0 w' : World} {G : List Ck} {c : CeR} (h : CeB w c) (H : Sat w0 G w') (j : Nat) (hj : G[j]? = some (Z7 w fun _ => False)) : CeB w' c := ⟨h.x, ListAt.now H j hj h.at_, h.S, h.len⟩
theorem Z9a (w : World) (a b : Int) (hs : a ≤ 9223372036854775807 ∧ b ≤ 9223372036854775807) :
  Calls Tryz.prog 125 #[(.agg ⟨([(.int .i64 (a)), (.int .i64 (b))] : List Value)⟩)] w fun e w' => ∃ u, e = .returned u ∧ (Zk 5 1 u (Z3t a b).length ((Z3t a b).flatMap ZE)).ok w' ∧ Upd [] w w' ∧ ∀ q_, (Zk 5 1 u (Z3t a b).length ((Z3t a b).flatMap ZE)).fp q_ → w.heap.size ≤ q_ := by
 have H := Sat.start0 w
 refine Zh Tryz.func125 rfl 11 rfl (Nat.le_of_ble_eq_true rfl) ?_
 apply zsl
 refine zwd fun Kq kq => ?_
 refine zdb (Z47 a b) H ?_
 intro b2 w3 H4
 refine kq _ _ ?_
 clear kq Kq
 refine wv 2 (.slice none 0 0) ?_
 apply znt
 apply Zd
 refine Z08 H4 [Z7 w (fun _ => False), Z0 b2 29 (Z47 a b)] 9 rfl (by kernel_rfl) (fun Hx => (Hx.pk [0, 1])) ?_
 intro w5 H6 S7
 refine hv0 0 S7 3 (pt b2 0) ?_
 refine hv0 1 S7 4 (.int .i64 (a)) ?_ (he := fun _ H' => (Z8 rfl (by kernel_rfl) (H'.cell 1 rfl rfl)))
 refine hv0 3 S7 6 (pt b2 1) ?_
 refine hv0 4 S7 7 (.int .i64 (b)) ?_ (he := fun _ H' => (Z8 rfl (by kernel_rfl) (H'.cell 1 rfl rfl)))
 refine Z0j 2 fun Kq kq => ?_
 refine zdc 5 (Z17 w5 a (by omega)) ?_
 rintro _ w9 ⟨u10, rfl, k11, p12, q13⟩
 have H14 := H6.addU p12 k11 q13
 obtain ⟨a15, c16, rfl⟩ := Z6 (H14.at 2 rfl)
 refine ⟨_, rfl, ?_⟩
 have S17 := H14.pk [0, 1]
 refine kq _ _ S17 ?_
 clear kq Kq
 refine Z0j 5 fun Kq kq => ?_
 refine zdc 8 (Z17 w9 b (by omega)) ?_
 rintro _ w19 ⟨u20, rfl, k21, p22, q23⟩
 have H24 := H14.addU p22 k21 q23
 obtain ⟨a25, c26, rfl⟩ := Z6 (H24.at 3 rfl)
 refine ⟨_, rfl, ?_⟩
 have S27 := H24.pk [0, 1]
 refine kq _ _ S27 ?_
 clear kq Kq
 refine Z0j 6 fun Kq kq => ?_
 refine Z45 62 1 24 (.slice none 0 0) [(0, (.slice a15 ((Zf a).length) c16)), (1, (.slice a25 ((Zf b).length) c26))] (Z6y a15 ((Zf a).length) c16 a25 ((Zf b).length) c26) H24 ?_
 intro b29 w30 H31
 have S32 := H31.pk [0, 1]
 refine kq _ _ S32 ?_
 clear kq Kq
 refine Z0j 7 fun Kq kq => ?_
 have l34 := ZO a
 have l35 := ZO b
 refine zdc 10 (Z1f w30 (.slice (some ⟨b29, 0, none⟩) 2 2) [(.slice a15 ((Zf a).length) c16), (.slice a25 ((Zf b).length) c26)] [(Zf a), (Zf b)] (ListAt.row (enc := Z8f) (sz := 1) (xs := [(.slice a15 ((Zf a).length) c16), (.slice a25 ((Zf b).length) c26)]) Z1I (by decide) (H31.at 4 rfl)) (Parts.cons (ListAt.row (enc := ZE) (sz := 1) ZR (by decide) (H31.at 2 rfl)) (Parts.cons (ListAt.row (enc := ZE) (sz := 1) ZR (by decide) (H31.at 3 rfl)) Parts.nil)) (by simp only [List.flatten_cons, List.flatten_nil, List.length_append, List.length_nil]; omega) (by simp)) ?_
 rintro _ w36 ⟨u37, rfl, k38, p39, q40⟩
 have H41 := H31.addU p39 k38 q40
 obtain ⟨a42, c43, rfl⟩ := Z6 (H41.at 5 rfl)
 refine ⟨_, rfl, ?_⟩
 have S44 := H41.pk [0, 1]
 refine kq _ _ S44 ?_
 clear kq Kq
 refine hv0 8 S44 2 (.slice a42 (([(Zf a), (Zf b)].flatten).length) c43) ?_
 refine zhf ?_
 apply ztn
 apply ZI
 refine ze1 (.slice a42 (([(Zf a), (Zf b)].flatten).length) c43) ?_
 have hX : ([(Zf a), (Zf b)].flatten) = Z3t a b := by rfl
 exact ⟨_, rfl, (by rw [← hX]; exact H41.at 5 rfl), H41.upd 0 rfl [] (fun _ h => h.elim), (by rw [← hX]; exact H41.fresh 0 rfl (fun _ h => h) 5 rfl rfl)⟩
theorem Z77 (w : World) (s : Za) (hs : StB s) :
  Calls Tryz.prog 106 #[(.agg ⟨(([(.int .i64 (s.r)), (.int .i64 (s.cl)), (.int .i64 (s.seq))] : List Value) ++ hc s.h ++ ([(.int .u64 (s.t)), (.int .i64 (s.sb)), (.int .i64 (s.sm))] : List Value))⟩)] w fun e w' => ∃ u, e = .returned u ∧ (Zk 5 1 u (Z05 s).length ((Z05 s).flatMap ZE)).ok w' ∧ Upd [] w w' ∧ ∀ q_, (Zk 5 1 u (Z05 s).length ((Z05 s).flatMap ZE)).fp q_ → w.heap.size ≤ q_ := by
 unfold StB at hs
 have H := Sat.start0 w
 refine Zh Tryz.func106 rfl 10 rfl (Nat.le_of_ble_eq_true rfl) ?_
 apply zsl
 refine zwd fun Kq kq => ?_
 refine zdb (Z3p s) H ?_
 intro b2 w3 H4
 refine kq _ _ ?_
 clear kq Kq
 refine wv 2 (.slice none 0 0) ?_
 apply znt
 apply Zd
 refine Z08 H4 [Z7 w (fun _ => False), Z0 b2 101 (Z3p s)] 8 rfl (by kernel_rfl) (fun Hx => (Hx.pk [0, 1])) ?_
 intro w5 H6 S7
 refine hv0 0 S7 3 (.agg ⟨(Z3p s)⟩) ?_ (he := fun _ H' => (Zi (vs := (Z3p s)) rfl (by kernel_rfl) (by kernel_rfl) (by exact Nat.le_of_ble_eq_true (by kernel_rfl)) (H'.at 1 rfl) (by kernel_rfl)))
 refine hv0 2 S7 5 (pt b2 36) ?_
 refine hv0 3 S7 6 (.agg ⟨(Z47 s.sb s.sm)⟩) ?_ (he := fun _ H' => (Zi (vs := (Z47 s.sb s.sm)) rfl (by kernel_rfl) (by kernel_rfl) (by exact Nat.le_of_ble_eq_true (by kernel_rfl)) (H'.at 1 rfl) (by kernel_rfl)))
 refine Z0j 1 fun Kq kq => ?_
 refine zdc 4 (Z7P w5 s hs.1) ?_
 rintro _ w9 ⟨u10, rfl, k11, p12, q13⟩
 have H14 := H6.addU p12 k11 q13
 obtain ⟨a15, c16, rfl⟩ := Z6 (H14.at 2 rfl)
 refine ⟨_, rfl, ?_⟩
 have S17 := H14.pk [0, 1]
 refine kq _ _ S17 ?_
 clear kq Kq
 refine Z0j 4 fun Kq kq => ?_
 refine zdc 7 (Z9a w9 s.sb s.sm (by omega)) ?_
 rintro _ w19 ⟨u20, rfl, k21, p22, q23⟩
 have H24 := H14.addU p22 k21 q23
 obtain ⟨a25, c26, rfl⟩ := Z6 (H24.at 3 rfl)
 refine ⟨_, rfl, ?_⟩
 have S27 := H24.pk [0, 1]
 refine kq _ _ S27 ?_
 clear kq Kq
 refine Z0j 5 fun Kq kq => ?_
 refine Z45 62 1 24 (.slice none 0 0) [(0, (.slice a15 ((Z12 s).length) c16)), (1, (.slice a25 ((Z3t s.sb s.sm).length) c26))] (Z6y a15 ((Z12 s).length) c16 a25 ((Z3t s.sb s.sm).length) c26) H24 ?_
 intro b29 w30 H31
 have S32 := H31.pk [0, 1]
 refine kq _ _ S32 ?_
 clear kq Kq
 refine Z0j 6 fun Kq kq => ?_
 have l34 := Z3u s
 have l35 := Z41 s.sb s.sm
 refine zdc 9 (Z1f w30 (.slice (some ⟨b29, 0, none⟩) 2 2) [(.slice a15 ((Z12 s).length) c16), (.slice a25 ((Z3t s.sb s.sm).length) c26)] [(Z12 s), (Z3t s.sb s.sm)] (ListAt.row (enc := Z8f) (sz := 1) (xs := [(.slice a15 ((Z12 s).length) c16), (.slice a25 ((Z3t s.sb s.sm).length) c26)]) Z1I (by decide) (H31.at 4 rfl)) (Parts.cons (ListAt.row (enc := ZE) (sz := 1) ZR (by decide) (H31.at 2 rfl)) (Parts.cons (ListAt.row (enc := ZE) (sz := 1) ZR (by decide) (H31.at 3 rfl)) Parts.nil)) (by simp only [List.flatten_cons, List.flatten_nil, List.length_append, List.length_nil]; omega) (by simp)) ?_
 rintro _ w36 ⟨u37, rfl, k38, p39, q40⟩
 have H41 := H31.addU p39 k38 q40
 obtain ⟨a42, c43, rfl⟩ := Z6 (H41.at 5 rfl)
 refine ⟨_, rfl, ?_⟩
 have S44 := H41.pk [0, 1]
 refine kq _ _ S44 ?_
 clear kq Kq
 refine hv0 7 S44 2 (.slice a42 (([(Z12 s), (Z3t s.sb s.sm)].flatten).length) c43) ?_
 refine zhf ?_
 apply ztn
 apply ZI
 refine ze1 (.slice a42 (([(Z12 s), (Z3t s.sb s.sm)].flatten).length) c43) ?_
 have hX : ([(Z12 s), (Z3t s.sb s.sm)].flatten) = Z05 s := by rfl
 exact ⟨_, rfl, (by rw [← hX]; exact H41.at 5 rfl), H41.upd 0 rfl [] (fun _ h => h.elim), (by rw [← hX]; exact H41.fresh 0 rfl (fun _ h => h) 5 rfl rfl)⟩
theorem Z6d (w : World) (s : Zg) (hs : CoB s) :
  Calls Tryz.prog 105 #[(.agg ⟨(([(.int .i64 (s.cl)), (.int .i64 (s.seq))] : List Value) ++ hc s.h ++ ([(.int .i64 (s.len)), (.int .i64 (s.sb)), (.int .i64 (s.sm))] : List Value))⟩)] w fun e w' => ∃ u, e = .returned u ∧ (Zk 5 1 u (Z02 s).length ((Z02 s).flatMap ZE)).ok w' ∧ Upd [] w w' ∧ ∀ q_, (Zk 5 1 u (Z02 s).length ((Z02 s).flatMap ZE)).fp q_ → w.heap.size ≤ q_ := by
 unfold CoB at hs
 have H := Sat.start0 w
 refine Zh Tryz.func105 rfl 16 rfl (Nat.le_of_ble_eq_true rfl) ?_
 apply zsl
 refine zwd fun Kq kq => ?_
 refine zdb (Z90 s) H ?_
 intro b2 w3 H4
 refine kq _ _ ?_
 clear kq Kq
 refine wv 2 (.slice none 0 0) ?_
 apply znt
 apply Zd
 refine Z08 H4 [Z7 w (fun _ => False), Z0 b2 50 (Z90 s)] 14 rfl (by kernel_rfl) (fun Hx => (Hx.pk [0, 1])) ?_
 intro w5 H6 S7
 refine hv0 0 S7 3 (pt b2 0) ?_
 refine hv0 1 S7 4 (.agg ⟨(Z47 s.cl s.seq)⟩) ?_ (he := fun _ H' => (Zi (vs := (Z47 s.cl s.seq)) rfl (by kernel_rfl) (by kernel_rfl) (by exact Nat.le_of_ble_eq_true (by kernel_rfl)) (H'.at 1 rfl) (by kernel_rfl)))
 refine hv0 3 S7 6 (pt b2 2) ?_
 refine hv0 4 S7 7 (.slice (some ⟨b2, 2, none⟩) 32 32) ?_
 refine hv0 5 S7 8 (pt b2 34) ?_
 refine hv0 6 S7 9 (.int .i64 (s.len)) ?_ (he := fun _ H' => (Z8 rfl (by kernel_rfl) (H'.cell 1 rfl (by kernel_rfl))))
 refine hv0 8 S7 11 (pt b2 35) ?_
 refine hv0 9 S7 12 (.agg ⟨(Z47 s.sb s.sm)⟩) ?_ (he := fun _ H' => (Zi (vs := (Z47 s.sb s.sm)) rfl (by kernel_rfl) (by kernel_rfl) (by exact Nat.le_of_ble_eq_true (by kernel_rfl)) (H'.at 1 rfl) (by kernel_rfl)))
 refine Z0j 2 fun Kq kq => ?_
 refine zdc 5 (Z5P w5 s.cl s.seq (by omega)) ?_
 rintro _ w9 ⟨u10, rfl, k11, p12, q13⟩
 have H14 := H6.addU p12 k11 q13
 obtain ⟨a15, c16, rfl⟩ := Z6 (H14.at 2 rfl)
 refine ⟨_, rfl, ?_⟩
 have S17 := H14.pk [0, 1]
 refine kq _ _ S17 ?_
 clear kq Kq
 refine Z0j 7 fun Kq kq => ?_
 refine zdc 10 (Z17 w9 s.len (by omega)) ?_
 rintro _ w19 ⟨u20, rfl, k21, p22, q23⟩
 have H24 := H14.addU p22 k21 q23
 obtain ⟨a25, c26, rfl⟩ := Z6 (H24.at 3 rfl)
 refine ⟨_, rfl, ?_⟩
 have S27 := H24.pk [0, 1]
 refine kq _ _ S27 ?_
 clear kq Kq
 refine Z0j 10 fun Kq kq => ?_
 refine zdc 13 (Z9a w19 s.sb s.sm (by omega)) ?_
 rintro _ w29 ⟨u30, rfl, k31, p32, q33⟩
 have H34 := H24.addU p32 k31 q33
 obtain ⟨a35, c36, rfl⟩ := Z6 (H34.at 4 rfl)
 refine ⟨_, rfl, ?_⟩
 have S37 := H34.pk [0, 1]
 refine kq _ _ S37 ?_
 clear kq Kq
 refine Z0j 11 fun Kq kq => ?_
 refine Z45 62 1 24 (.slice none 0 0) [(0, (.slice a15 ((Z00 s.cl s.seq).length) c16)), (1, (.slice (some ⟨b2, 2, none⟩) 32 32)), (2, (.slice a25 ((Zf s.len).length) c26)), (3, (.slice a35 ((Z3t s.sb s.sm).length) c36))] ([(.slice a15 ((Z00 s.cl s.seq).length) c16), (.slice (some ⟨b2, 2, none⟩) 32 32), (.slice a25 ((Zf s.len).length) c26), (.slice a35 ((Z3t s.sb s.sm).length) c36)] : List Value) H34 ?_
 intro b39 w40 H41
 have S42 := H41.pk [0, 1]
 refine kq _ _ S42 ?_
 clear kq Kq
 refine Z0j 12 fun Kq kq => ?_
 have l44 := Z27 s.cl s.seq
 have l45 := s.h.len
 have l46 := ZO s.len
 have l47 := Z41 s.sb s.sm
 refine zdc 15 (Z1f w40 (.slice (some ⟨b39, 0, none⟩) 4 4) [(.slice a15 ((Z00 s.cl s.seq).length) c16), (.slice (some ⟨b2, 2, none⟩) 32 32), (.slice a25 ((Zf s.len).length) c26), (.slice a35 ((Z3t s.sb s.sm).length) c36)] [(Z00 s.cl s.seq), s.h.l, (Zf s.len), (Z3t s.sb s.sm)] (ListAt.row (enc := Z8f) (sz := 1) (xs := [(.slice a15 ((Z00 s.cl s.seq).length) c16), (.slice (some ⟨b2, 2, none⟩) 32 32), (.slice a25 ((Zf s.len).length) c26), (.slice a35 ((Z3t s.sb s.sm).length) c36)]) Z1I (by decide) (H41.at 5 rfl)) (Parts.cons (ListAt.row (enc := ZE) (sz := 1) ZR (by decide) (H41.at 2 rfl)) (Parts.cons (ListAt.ofHash (Z33 (H41.at 1 rfl) (by kernel_rfl)) (by decide)) (Parts.cons (ListAt.row (enc := ZE) (sz := 1) ZR (by decide) (H41.at 3 rfl)) (Parts.cons (ListAt.row (enc := ZE) (sz := 1) ZR (by decide) (H41.at 4 rfl)) Parts.nil)))) (by simp only [List.flatten_cons, List.flatten_nil, List.length_append, List.length_nil]; omega) (by simp)) ?_
 rintro _ w48 ⟨u49, rfl, k50, p51, q52⟩
 have H53 := H41.addU p51 k50 q52
 obtain ⟨a54, c55, rfl⟩ := Z6 (H53.at 6 rfl)
 refine ⟨_, rfl, ?_⟩
 have S56 := H53.pk [0, 1]
 refine kq _ _ S56 ?_
 clear kq Kq
 refine hv0 13 S56 2 (.slice a54 (([(Z00 s.cl s.seq), s.h.l, (Zf s.len), (Z3t s.sb s.sm)].flatten).length) c55) ?_
 refine zhf ?_
 apply ztn
 apply ZI
 refine ze1 (.slice a54 (([(Z00 s.cl s.seq), s.h.l, (Zf s.len), (Z3t s.sb s.sm)].flatten).length) c55) ?_
 have hX : ([(Z00 s.cl s.seq), s.h.l, (Zf s.len), (Z3t s.sb s.sm)].flatten) = Z02 s := by rfl
 exact ⟨_, rfl, (by rw [← hX]; exact H53.at 6 rfl), H53.upd 0 rfl [] (fun _ h => h.elim), (by rw [← hX]; exact H53.fresh 0 rfl (fun _ h => h) 6 rfl rfl)⟩
theorem Z7O (w : World) (s : Za) (hs : (s.r ≤ 9223372036854775807 ∧ s.cl ≤ 9223372036854775807 ∧ s.seq ≤ 9223372036854775807 ∧ 0 ≤ s.t ∧ s.t < 18446744073709551616)) :
  Calls Tryz.prog 46 #[(.agg ⟨(([(.int .i64 (s.r)), (.int .i64 (s.cl)), (.int .i64 (s.seq))] : List Value) ++ hc s.h ++ ([(.int .u64 (s.t)), (.int .i64 (s.sb)), (.int .i64 (s.sm))] : List Value))⟩)] w fun e w' => ∃ u, e = .returned u ∧ (Zk 5 1 u (Z12 s).length ((Z12 s).flatMap ZE)).ok w' ∧ Upd [] w w' ∧ ∀ q_, (Zk 5 1 u (Z12 s).length ((Z12 s).flatMap ZE)).fp q_ → w.heap.size ≤ q_ := by
 have H := Sat.start0 w
 refine Zh Tryz.func46 rfl 16 rfl (Nat.le_of_ble_eq_true rfl) ?_
 apply zsl
 refine zwd fun Kq kq => ?_
 refine zdb (Z3p s) H ?_
 intro b2 w3 H4
 refine kq _ _ ?_
 clear kq Kq
 refine wv 2 (.slice none 0 0) ?_
 apply znt
 apply Zd
 refine Z08 H4 [Z7 w (fun _ => False), Z0 b2 31 (Z3p s)] 14 rfl (by kernel_rfl) (fun Hx => (Hx.pk [0, 1])) ?_
 intro w5 H6 S7
 refine hv0 0 S7 3 (pt b2 0) ?_
 refine hv0 1 S7 4 (.int .i64 (s.r)) ?_ (he := fun _ H' => (Z8 rfl (by kernel_rfl) (H'.cell 1 rfl (by kernel_rfl))))
 refine hv0 3 S7 6 (pt b2 1) ?_
 refine hv0 4 S7 7 (.agg ⟨(Z47 s.cl s.seq)⟩) ?_ (he := fun _ H' => (Zi (vs := (Z47 s.cl s.seq)) rfl (by kernel_rfl) (by kernel_rfl) (by exact Nat.le_of_ble_eq_true (by kernel_rfl)) (H'.at 1 rfl) (by kernel_rfl)))
 refine hv0 6 S7 9 (pt b2 3) ?_
 refine hv0 7 S7 10 (.slice (some ⟨b2, 3, none⟩) 32 32) ?_
 refine hv0 8 S7 11 (pt b2 35) ?_
 refine hv0 9 S7 12 (.int .u64 (s.t)) ?_ (he := fun _ H' => (Z8 rfl (by kernel_rfl) (H'.cell 1 rfl (by kernel_rfl))))
 refine Z0j 2 fun Kq kq => ?_
 refine zdc 5 (Z17 w5 s.r (by omega)) ?_
 rintro _ w9 ⟨u10, rfl, k11, p12, q13⟩
 have H14 := H6.addU p12 k11 q13
 obtain ⟨a15, c16, rfl⟩ := Z6 (H14.at 2 rfl)
 refine ⟨_, rfl, ?_⟩
 have S17 := H14.pk [0, 1]
 refine kq _ _ S17 ?_
 clear kq Kq
 refine Z0j 5 fun Kq kq => ?_
 refine zdc 8 (Z5P w9 s.cl s.seq (by omega)) ?_
 rintro _ w19 ⟨u20, rfl, k21, p22, q23⟩
 have H24 := H14.addU p22 k21 q23
 obtain ⟨a25, c26, rfl⟩ := Z6 (H24.at 3 rfl)
 refine ⟨_, rfl, ?_⟩
 have S27 := H24.pk [0, 1]
 refine kq _ _ S27 ?_
 clear kq Kq
 refine Z0j 10 fun Kq kq => ?_
 refine Z0g (d := 13) rfl (by rw [show s.t = ((s.t.toNat : Nat) : Int) by omega]; kernel_rfl) (Z5q w19 s.t.toNat (by omega)) ?_
 rintro _ w29 ⟨u30, rfl, k31, p32, q33⟩
 have H34 := H24.addU p32 k31 q33
 obtain ⟨a35, c36, rfl⟩ := Z6 (H34.at 4 rfl)
 refine ⟨_, rfl, ?_⟩
 have S37 := H34.pk [0, 1]
 refine kq _ _ S37 ?_
 clear kq Kq
 refine Z0j 11 fun Kq kq => ?_
 refine Z45 62 1 24 (.slice none 0 0) [(0, (.slice a15 ((Zf s.r).length) c16)), (1, (.slice a25 ((Z00 s.cl s.seq).length) c26)), (2, (.slice (some ⟨b2, 3, none⟩) 32 32)), (3, (.slice a35 ((Z0H s.t.toNat).length) c36))] ([(.slice a15 ((Zf s.r).length) c16), (.slice a25 ((Z00 s.cl s.seq).length) c26), (.slice (some ⟨b2, 3, none⟩) 32 32), (.slice a35 ((Z0H s.t.toNat).length) c36)] : List Value) H34 ?_
 intro b39 w40 H41
 have S42 := H41.pk [0, 1]
 refine kq _ _ S42 ?_
 clear kq Kq
 refine Z0j 12 fun Kq kq => ?_
 have l44 := ZO s.r
 have l45 := Z27 s.cl s.seq
 have l46 := s.h.len
 have l47 := Z2b s.t.toNat
 refine zdc 15 (Z1f w40 (.slice (some ⟨b39, 0, none⟩) 4 4) [(.slice a15 ((Zf s.r).length) c16), (.slice a25 ((Z00 s.cl s.seq).length) c26), (.slice (some ⟨b2, 3, none⟩) 32 32), (.slice a35 ((Z0H s.t.toNat).length) c36)] [(Zf s.r), (Z00 s.cl s.seq), s.h.l, (Z0H s.t.toNat)] (ListAt.row (enc := Z8f) (sz := 1) (xs := [(.slice a15 ((Zf s.r).length) c16), (.slice a25 ((Z00 s.cl s.seq).length) c26), (.slice (some ⟨b2, 3, none⟩) 32 32), (.slice a35 ((Z0H s.t.toNat).length) c36)]) Z1I (by decide) (H41.at 5 rfl)) (Parts.cons (ListAt.row (enc := ZE) (sz := 1) ZR (by decide) (H41.at 2 rfl)) (Parts.cons (ListAt.row (enc := ZE) (sz := 1) ZR (by decide) (H41.at 3 rfl)) (Parts.cons (ListAt.ofHash (Z33 (H41.at 1 rfl) (by kernel_rfl)) (by decide)) (Parts.cons (ListAt.row (enc := ZE) (sz := 1) ZR (by decide) (H41.at 4 rfl)) Parts.nil)))) (by simp only [List.flatten_cons, List.flatten_nil, List.length_append, List.length_nil]; omega) (by simp)) ?_
 rintro _ w48 ⟨u49, rfl, k50, p51, q52⟩
 have H53 := H41.addU p51 k50 q52
 obtain ⟨a54, c55, rfl⟩ := Z6 (H53.at 6 rfl)
 refine ⟨_, rfl, ?_⟩
 have S56 := H53.pk [0, 1]
 refine kq _ _ S56 ?_
 clear kq Kq
 refine hv0 13 S56 2 (.slice a54 (([(Zf s.r), (Z00 s.cl s.seq), s.h.l, (Z0H s.t.toNat)].flatten).length) c55) ?_
 refine zhf ?_
 apply ztn
 apply ZI
 refine ze1 (.slice a54 (([(Zf s.r), (Z00 s.cl s.seq), s.h.l, (Z0H s.t.toNat)].flatten).length) c55) ?_
 have hX : ([(Zf s.r), (Z00 s.cl s.seq), s.h.l, (Z0H s.t.toNat)].flatten) = Z12 s := by rfl
 exact ⟨_, rfl, (by rw [← hX]; exact H53.at 6 rfl), H53.upd 0 rfl [] (fun _ h => h.elim), (by rw [← hX]; exact H53.fresh 0 rfl (fun _ h => h) 6 rfl rfl)⟩
theorem Z5a (w : World) (s : Za) (hs : (s.r ≤ 9223372036854775807 ∧ s.cl ≤ 9223372036854775807 ∧ s.seq ≤ 9223372036854775807 ∧ 0 ≤ s.t ∧ s.t < 18446744073709551616)) :
  Calls Tryz.prog 13 #[(.agg ⟨(([(.int .i64 (s.r)), (.int .i64 (s.cl)), (.int .i64 (s.seq))] : List Value) ++ hc s.h ++ ([(.int .u64 (s.t)), (.int .i64 (s.sb)), (.int .i64 (s.sm))] : List Value))⟩)] w fun e w' => ∃ u, e = .returned u ∧ (Zk 5 1 u (Z1q s).length ((Z1q s).flatMap ZE)).ok w' ∧ Upd [] w w' ∧ ∀ q_, (Zk 5 1 u (Z1q s).length ((Z1q s).flatMap ZE)).fp q_ → w.heap.size ≤ q_ := by
 have H := Sat.start0 w
 refine Zh Tryz.func13 rfl 10 rfl (Nat.le_of_ble_eq_true rfl) ?_
 apply zsl
 refine zwd fun Kq kq => ?_
 refine zdb (Z3p s) H ?_
 intro b2 w3 H4
 refine kq _ _ ?_
 clear kq Kq
 refine wv 2 (.slice none 0 0) ?_
 apply znt
 apply Zd
 refine Z08 H4 [Z7 w (fun _ => False), Z0 b2 31 (Z3p s)] 8 rfl (by kernel_rfl) (fun Hx => (Hx.pk [0, 1])) ?_
 intro w5 H6 S7
 refine hv0 3 S7 6 (.agg ⟨(Z3p s)⟩) ?_ (he := fun _ H' => (Zi (vs := (Z3p s)) rfl (by kernel_rfl) (by kernel_rfl) (by exact Nat.le_of_ble_eq_true (by kernel_rfl)) (H'.at 1 rfl) (by kernel_rfl)))
 refine Z0j 0 fun Kq kq => ?_
 refine Z45 5 1 1 (.int .u8 (0)) [(0, (.int .u8 (97))), (1, (.int .u8 (99))), (2, (.int .u8 (107)))] ([(.int .u8 (97)), (.int .u8 (99)), (.int .u8 (107))] : List Value) H6 ?_
 intro b9 w10 H11
 have H12 := H11.ct 2 rfl (Zk 5 1 (.slice (some ⟨b9, 0, none⟩) 3 3) 3 ([97, 99, 107].flatMap ZE)) (by rw [show (([(.int .u8 (97)), (.int .u8 (99)), (.int .u8 (107))] : List Value) : List Value) = [97, 99, 107].flatMap ZE from rfl])
 have S13 := H12.pk [0, 1]
 refine kq _ _ S13 ?_
 clear kq Kq
 refine Z0j 1 fun Kq kq => ?_
 refine Z22 (e := 5) (s := [97, 99, 107]) rfl H12 2 rfl (by kernel_rfl) (by kernel_rfl) rfl ?_
 intro w15 H16
 have S17 := H16.pk [0, 1]
 refine kq _ _ S17 ?_
 clear kq Kq
 refine Z0j 2 fun Kq kq => ?_
 refine zdc 5 (Z3Y w15 (.slice (some ⟨b9, 0, none⟩) 3 3) ([97, 99, 107]) (ListAt.ofTxt (H16.at 2 rfl)) (by simp)) ?_
 rintro _ w19 ⟨u20, rfl, k21, p22, q23⟩
 have H24 := H16.addU p22 k21 q23
 obtain ⟨a25, c26, rfl⟩ := Z6 (H24.at 3 rfl)
 refine ⟨_, rfl, ?_⟩
 have S27 := H24.pk [0, 1]
 refine kq _ _ S27 ?_
 clear kq Kq
 refine Z0j 4 fun Kq kq => ?_
 refine zdc 7 (Z7O w19 s hs) ?_
 rintro _ w29 ⟨u30, rfl, k31, p32, q33⟩
 have H34 := H24.addU p32 k31 q33
 obtain ⟨a35, c36, rfl⟩ := Z6 (H34.at 4 rfl)
 refine ⟨_, rfl, ?_⟩
 have S37 := H34.pk [0, 1]
 refine kq _ _ S37 ?_
 clear kq Kq
 refine Z0j 5 fun Kq kq => ?_
 refine Z45 62 1 24 (.slice none 0 0) [(0, (.slice a25 ((ZK ([97, 99, 107])).length) c26)), (1, (.slice a35 ((Z12 s).length) c36))] (Z6y a25 ((ZK ([97, 99, 107])).length) c26 a35 ((Z12 s).length) c36) H34 ?_
 intro b39 w40 H41
 have S42 := H41.pk [0, 1]
 refine kq _ _ S42 ?_
 clear kq Kq
 refine Z0j 6 fun Kq kq => ?_
 have l44 := Z18 ([97, 99, 107])
 simp only [List.length_cons, List.length_nil] at l44
 have l45 := Z3u s
 refine zdc 9 (Z1f w40 (.slice (some ⟨b39, 0, none⟩) 2 2) [(.slice a25 ((ZK ([97, 99, 107])).length) c26), (.slice a35 ((Z12 s).length) c36)] [(ZK ([97, 99, 107])), (Z12 s)] (ListAt.row (enc := Z8f) (sz := 1) (xs := [(.slice a25 ((ZK ([97, 99, 107])).length) c26), (.slice a35 ((Z12 s).length) c36)]) Z1I (by decide) (H41.at 5 rfl)) (Parts.cons (ListAt.row (enc := ZE) (sz := 1) ZR (by decide) (H41.at 3 rfl)) (Parts.cons (ListAt.row (enc := ZE) (sz := 1) ZR (by decide) (H41.at 4 rfl)) Parts.nil)) (by simp only [List.flatten_cons, List.flatten_nil, List.length_append, List.length_nil]; omega) (by simp)) ?_
 rintro _ w46 ⟨u47, rfl, k48, p49, q50⟩
 have H51 := H41.addU p49 k48 q50
 obtain ⟨a52, c53, rfl⟩ := Z6 (H51.at 6 rfl)
 refine ⟨_, rfl, ?_⟩
 have S54 := H51.pk [0, 1]
 refine kq _ _ S54 ?_
 clear kq Kq
 refine hv0 7 S54 2 (.slice a52 (([(ZK ([97, 99, 107])), (Z12 s)].flatten).length) c53) ?_
 refine zhf ?_
 apply ztn
 apply ZI
 refine ze1 (.slice a52 (([(ZK ([97, 99, 107])), (Z12 s)].flatten).length) c53) ?_
 have hX : ([(ZK ([97, 99, 107])), (Z12 s)].flatten) = Z1q s := by rfl
 exact ⟨_, rfl, (by rw [← hX]; exact H51.at 6 rfl), H51.upd 0 rfl [] (fun _ h => h.elim), (by rw [← hX]; exact H51.fresh 0 rfl (fun _ h => h) 6 rfl rfl)⟩
theorem Z7R (w : World) (c : CeR) (hB : CeB w c) :
  Calls Tryz.prog 79 #[(.agg ⟨(([(.int .i64 (c.x.cl)), (.int .i64 (c.x.seq))] : List Value) ++ hc c.x.h ++ ([(.int .i64 (c.x.len)), (.int .i64 (c.x.sb)), (.int .i64 (c.x.sm)), (.slice c.sa c.S.length c.sc)] : List Value))⟩)] w fun e w' => ∃ u, e = .returned u ∧ (Zk 5 1 u (Z01 c).length ((Z01 c).flatMap ZE)).ok w' ∧ Upd [] w w' ∧ ∀ q_, (Zk 5 1 u (Z01 c).length ((Z01 c).flatMap ZE)).fp q_ → w.heap.size ≤ q_ := by
 have hS := hB.at_
 have hlS := hB.len
 have hx := hB.x
 unfold CoB at hx
 have H := Sat.start0 w
 refine Zh Tryz.func79 rfl 30 rfl (Nat.le_of_ble_eq_true rfl) ?_
 apply zsl
 refine zwd fun Kq kq => ?_
 refine zdb (ZaA c) H ?_
 intro b2 w3 H4
 refine kq _ _ ?_
 clear kq Kq
 refine wv 2 (.slice none 0 0) ?_
 apply znt
 apply Zd
 refine Z08 H4 [Z7 w (fun _ => False), Z0 b2 53 (ZaA c)] 10 rfl (by kernel_rfl) (fun Hx => (Hx.pk [0, 1])) ?_
 intro w5 H6 S7
 refine hv0 0 S7 5 (pt b2 0) ?_
 refine hv0 1 S7 6 (.agg ⟨(Z90 c.x)⟩) ?_ (he := fun _ H' => (Zi (vs := (Z90 c.x)) rfl (by kernel_rfl) (by kernel_rfl) (by exact Nat.le_of_ble_eq_true (by kernel_rfl)) (H'.at 1 rfl) (by kernel_rfl)))
 refine hv0 3 S7 8 (pt b2 37) ?_
 refine hv0 4 S7 9 (.slice c.sa c.S.length c.sc) ?_ (he := fun _ H' => (Z8 rfl (by kernel_rfl) (H'.cell 1 rfl (by kernel_rfl))))
 refine Z09 5 rfl (by kernel_rfl) (by kernel_rfl) (by kernel_rfl) (fun _ _ _ h => h) S7 (Z1 rfl) (d := 10) (v := (.int .i64 ((c.S.length : Int)))) rfl (fun _ H' => (by kernel_rfl)) ?_
 refine Z0j 2 fun Kq kq => ?_
 refine zdc 7 (Z6d w5 c.x hB.x) ?_
 rintro _ w9 ⟨u10, rfl, k11, p12, q13⟩
 have H14 := H6.addU p12 k11 q13
 obtain ⟨a15, c16, rfl⟩ := Z6 (H14.at 2 rfl)
 refine ⟨_, rfl, ?_⟩
 have S17 := H14.pk [0, 1]
 refine kq _ _ S17 ?_
 clear kq Kq
 refine Z0j 6 fun Kq kq => ?_
 refine zdc 11 (Z17 w9 (c.S.length : Int) (by omega)) ?_
 rintro _ w19 ⟨u20, rfl, k21, p22, q23⟩
 have H24 := H14.addU p22 k21 q23
 obtain ⟨a25, c26, rfl⟩ := Z6 (H24.at 3 rfl)
 refine ⟨_, rfl, ?_⟩
 have S27 := H24.pk [0, 1]
 refine kq _ _ S27 ?_
 clear kq Kq
 refine Z0j 7 fun Kq kq => ?_
 refine Z45 62 1 24 (.slice none 0 0) [(0, (.slice a15 ((Z02 c.x).length) c16)), (1, (.slice a25 ((Zf (c.S.length : Int)).length) c26))] (Z6y a15 ((Z02 c.x).length) c16 a25 ((Zf (c.S.length : Int)).length) c26) H24 ?_
 intro b29 w30 H31
 have S32 := H31.pk [0, 1]
 refine kq _ _ S32 ?_
 clear kq Kq
 refine Z0j 8 fun Kq kq => ?_
 have l34 := Z2j c.x
 have l35 := ZO (c.S.length : Int)
 refine zdc 13 (Z1f w30 (.slice (some ⟨b29, 0, none⟩) 2 2) [(.slice a15 ((Z02 c.x).length) c16), (.slice a25 ((Zf (c.S.length : Int)).length) c26)] [(Z02 c.x), (Zf (c.S.length : Int))] (ListAt.row (enc := Z8f) (sz := 1) (xs := [(.slice a15 ((Z02 c.x).length) c16), (.slice a25 ((Zf (c.S.length : Int)).length) c26)]) Z1I (by decide) (H31.at 4 rfl)) (Parts.cons (ListAt.row (enc := ZE) (sz := 1) ZR (by decide) (H31.at 2 rfl)) (Parts.cons (ListAt.row (enc := ZE) (sz := 1) ZR (by decide) (H31.at 3 rfl)) Parts.nil)) (by simp only [List.flatten_cons, List.flatten_nil, List.length_append, List.length_nil]; omega) (by simp)) ?_
 rintro _ w36 ⟨u37, rfl, k38, p39, q40⟩
 have H41 := H31.addU p39 k38 q40
 obtain ⟨a42, c43, rfl⟩ := Z6 (H41.at 5 rfl)
 refine ⟨_, rfl, ?_⟩
 have S44 := H41.pk [0, 1]
 refine kq _ _ S44 ?_
 clear kq Kq
 refine hv0 9 S44 3 (.slice a42 (([(Z02 c.x), (Zf (c.S.length : Int))].flatten).length) c43) ?_
 refine zhf ?_
 apply ztn
 apply Zd
 apply zsl
 refine wv 14 (pt b2 37) ?_
 refine zw1 15 (.slice c.sa c.S.length c.sc) (H41.cell 1 rfl (by kernel_rfl)) ?_
 refine wv 16 (.int .i64 ((c.S.length : Int))) ?_
 refine wv 17 (.int .i64 (0)) ?_
 apply znt
 apply ZM
 obtain ⟨hd, hhd⟩ : ∃ hd, hd = ([(Z02 c.x), (Zf (c.S.length : Int))].flatten) := ⟨_, rfl⟩
 have hdl : hd.length ≤ 200 := by rw [hhd]; have q1 := Z2j c.x; have q2 := ZO (c.S.length : Int); simp only [List.flatten_cons, List.flatten_nil, List.length_append, List.length_nil]; omega
 refine Z0b ([3, 4] ++ List.range' 17 12) (fun F_ W_ m_ => ∃ (i : Nat) (a : Option Addr) (c_ : Nat) (D : List UInt8), F_ 17 = (.int .i64 ((i : Int))) ∧ F_ 3 = (.slice a D.length c_) ∧ (i ≤ c.S.length) ∧ (D = hd ++ (c.S.take i).flatMap Z05) ∧ Sat w [Z7 w (fun _ => False), Z0 b2 53 (ZaA c), (Z56 a15 (Z02 c.x) c16), (Z56 a25 (Zf (c.S.length : Int)) c26), Zk 62 1 (.slice (some ⟨b29, 0, none⟩) 2 2) 2 (Z6y a15 ((Z02 c.x).length) c16 a25 ((Zf (c.S.length : Int)).length) c26), (Z56 a D c_)] W_ ∧ m_ = c.S.length - i) _ ⟨0, a42, c43, ([(Z02 c.x), (Zf (c.S.length : Int))].flatten), (show ((.int .i64 (0)) : Value) = _ by first | rfl | go_num), (by first | rfl | go_num), (Nat.zero_le _), (by rw [hhd]; simp), H41, rfl⟩ ?_
 rintro g45 w46 _ ⟨i, a, c_, D, v48, v49, hi, hD, H47, rfl⟩
 refine Zl 17 _ v48 ?_
 refine Zl 3 _ v49 ?_
 have hDl : D.length ≤ 9500 := by rw [hD, List.length_append]; have q1 := Z4s Z1p (c.S.take i); rw [List.length_take] at q1; omega
 have q2 := Z1p (c.S.getD i Ze)
 apply zsl
 refine wv 18 (.bool (decide ((i : Int) < (c.S.length : Int)))) ?_
 apply znt
 apply Zd
 refine (Zr (decide ((i : Int) < (c.S.length : Int)))).elim (fun b51 => ?_) (fun b51 => ?_)
 ·have g52 := of_decide_eq_true b51
  refine Z1V _ b51 ?_
  apply ZW
  apply ztn
  apply Zd
  apply ZM
  apply zsl
  refine wv 19 (.int .i64 ((i : Int))) ?_
  refine wv 4 (.int .i64 ((i : Int))) ?_
  apply znt
  apply Zq
  refine wv 20 (.slice a D.length c_) ?_
  refine wv 21 (pt b2 37) ?_
  refine zw1 22 (.slice c.sa c.S.length c.sc) (H47.cell 1 rfl (by kernel_rfl)) ?_
  refine wv 23 (.int .i64 ((i : Int))) ?_
  obtain ⟨g54, o55, c56, e57, R58⟩ := SliceOf.atD hS Ze (show i < c.S.length by omega)
  refine wv 24 (.pointer (some ⟨g54, o55 + ((i : Int)).toNat * 38, none⟩)) ?_ (hr := ZV (E := 101) (by kernel_rfl) (by kernel_rfl) (Nat.le_of_ble_eq_true rfl) rfl e57 rfl (by omega) (by omega))
  refine wv 25 (.agg ⟨(Z3p (c.S.getD i Ze))⟩) ?_ (hr := Z0k (vs := (Z3p (c.S.getD i Ze))) rfl (by kernel_rfl) (by kernel_rfl) (Nat.le_of_ble_eq_true (by kernel_rfl)) (H47.runR 0 rfl (Z16 R58 0 (by kernel_rfl) (show o55 + ((i : Int)).toNat * 38 = o55 + i * 38 + 0 by omega)) (fun h => h)))
  refine zwd fun Kq kq => ?_
  refine zdc 26 (Z77 w46 (c.S.getD i Ze) (hB.S i (by omega))) ?_
  rintro _ w60 ⟨u61, rfl, k62, p63, q64⟩
  have H65 := H47.addU p63 k62 q64
  obtain ⟨a66, c67, rfl⟩ := Z6 (H65.at 6 rfl)
  refine ⟨_, rfl, ?_⟩
  refine kq _ _ ?_
  clear kq Kq
  refine zwd fun Kq kq => ?_
  refine Z11 (T := 62) (e := 5) (size := 1) (bytes := 1) rfl H65 (by kernel_rfl) 5 6 rfl rfl rfl rfl (Z0Q ZE Z1m (Z05 (c.S.getD i Ze))) (by omega) (by omega) ?_
  intro v69 w70 H71
  have H74 := H71.ct 5 rfl (Zk 5 1 v69 ((D ++ (Z05 (c.S.getD i Ze))).length) ((D ++ (Z05 (c.S.getD i Ze))).flatMap ZE)) ja
  obtain ⟨a72, c73, rfl⟩ := Z6 (H74.at 5 rfl)
  refine kq _ _ ?_
  clear kq Kq
  refine wv 3 (.slice a72 ((D ++ (Z05 (c.S.getD i Ze))).length) c73) ?_
  apply Zn
  apply Zw
  apply ztn
  apply Zq
  refine zwi 28 ((i : Int) + 1) ?_
  refine wv 17 (.int .i64 ((i : Int) + 1)) ?_
  apply Zn
  have H75 := H74.pk [0, 1, 2, 3, 4, 5]
  refine ZF ?_ _ ⟨(i + 1), a72, c73, (D ++ (Z05 (c.S.getD i Ze))), rfl, (show ((.slice a72 ((D ++ (Z05 (c.S.getD i Ze))).length) c73) : Value) = _ by first | rfl | go_num), (by omega), (by rw [hD, Z3P c.S Ze (by omega), List.append_assoc]), H75, rfl⟩ (by omega)
  exact zs
 have g76 := of_decide_eq_false b51
 refine Z1w _ b51 ?_
 apply zxb
 apply ztn
 apply zsl
 refine wv 29 (.slice a D.length c_) ?_
 refine wv 2 (.slice a D.length c_) ?_
 apply znt
 apply ZI
 refine ze1 (.slice a D.length c_) ?_
 have hX : D = Z01 c := by unfold Z01 Z5Y; rw [hD, hhd, List.take_of_length_le (by omega)]
 exact ⟨_, rfl, (by rw [← hX]; exact H47.at 5 rfl), H47.upd 0 rfl [] (fun _ h => h.elim), (by rw [← hX]; exact H47.fresh 0 rfl (fun _ h => h) 5 rfl rfl)⟩
theorem Z5v {w : World} {C : List CeR} (h : ∀ i, i < C.length → CeB w (C.getD i ce0)) : ∀ c ∈ C, c.S.length ≤ 100 := fun c hm => by
 obtain ⟨i, hi, e⟩ := List.mem_iff_getElem.1 hm
 have q := (h i hi).len
 rw [List.getD_eq_getElem?_getD, List.getElem?_eq_getElem hi] at q
 rw [← e]; exact q
theorem Z5e (w : World) (p : PrR) (hC : ListAt Z03 38 w (.slice p.ca p.C.length p.cc) p.C) (hB : ∀ i, i < p.C.length → CeB w (p.C.getD i ce0)) (hl : p.C.length ≤ 64) (hn : p.r ≤ 9223372036854775807 ∧ p.e ≤ 9223372036854775807 ∧ 0 ≤ p.f ∧ p.f < 18446744073709551616) :
  Calls Tryz.prog 47 #[(.agg ⟨([(.int .i64 (p.r)), (.int .i64 (p.e)), (.int .u64 (p.f)), (.slice p.ca p.C.length p.cc), (.int .i64 (p.sb)), (.int .i64 (p.sm))] : List Value)⟩)] w fun e w' => ∃ u, e = .returned u ∧ (Zk 5 1 u (Z1l p).length ((Z1l p).flatMap ZE)).ok w' ∧ Upd [] w w' ∧ ∀ q_, (Zk 5 1 u (Z1l p).length ((Z1l p).flatMap ZE)).fp q_ → w.heap.size ≤ q_ := by
 have H := Sat.start0 w
 refine Zh Tryz.func47 rfl 36 rfl (Nat.le_of_ble_eq_true rfl) ?_
 apply zsl
 refine zwd fun Kq kq => ?_
 refine zdb (Z5H p) H ?_
 intro b2 w3 H4
 refine kq _ _ ?_
 clear kq Kq
 refine wv 2 (.slice none 0 0) ?_
 apply znt
 apply Zd
 refine Z08 H4 [Z7 w (fun _ => False), Z0 b2 34 (Z5H p)] 16 rfl (by kernel_rfl) (fun Hx => (Hx.pk [0, 1])) ?_
 intro w5 H6 S7
 refine hv0 0 S7 5 (pt b2 0) ?_
 refine hv0 1 S7 6 (.int .i64 (p.r)) ?_ (he := fun _ H' => (Z8 rfl (by kernel_rfl) (H'.cell 1 rfl rfl)))
 refine hv0 3 S7 8 (pt b2 1) ?_
 refine hv0 4 S7 9 (.int .i64 (p.e)) ?_ (he := fun _ H' => (Z8 rfl (by kernel_rfl) (H'.cell 1 rfl rfl)))
 refine hv0 6 S7 11 (pt b2 2) ?_
 refine hv0 7 S7 12 (.int .u64 (p.f)) ?_ (he := fun _ H' => (Z8 rfl (by kernel_rfl) (H'.cell 1 rfl rfl)))
 refine hv0 9 S7 14 (pt b2 3) ?_
 refine hv0 10 S7 15 (.slice p.ca p.C.length p.cc) ?_ (he := fun _ H' => (Z8 rfl (by kernel_rfl) (H'.cell 1 rfl rfl)))
 refine Z09 11 rfl (by kernel_rfl) (by kernel_rfl) (by kernel_rfl) (fun _ _ _ h => h) S7 (Z1 rfl) (d := 16) (v := (.int .i64 ((p.C.length : Int)))) rfl (fun _ H' => (by kernel_rfl)) ?_
 refine Z0j 2 fun Kq kq => ?_
 refine zdc 7 (Z17 w5 p.r (by omega)) ?_
 rintro _ w9 ⟨u10, rfl, k11, p12, q13⟩
 have H14 := H6.addU p12 k11 q13
 obtain ⟨a15, c16, rfl⟩ := Z6 (H14.at 2 rfl)
 refine ⟨_, rfl, ?_⟩
 have S17 := H14.pk [0, 1]
 refine kq _ _ S17 ?_
 clear kq Kq
 refine Z0j 5 fun Kq kq => ?_
 refine zdc 10 (Z17 w9 p.e (by omega)) ?_
 rintro _ w19 ⟨u20, rfl, k21, p22, q23⟩
 have H24 := H14.addU p22 k21 q23
 obtain ⟨a25, c26, rfl⟩ := Z6 (H24.at 3 rfl)
 refine ⟨_, rfl, ?_⟩
 have S27 := H24.pk [0, 1]
 refine kq _ _ S27 ?_
 clear kq Kq
 refine Z0j 8 fun Kq kq => ?_
 refine Z0g (d := 13) rfl (by rw [show p.f = ((p.f.toNat : Nat) : Int) by omega]; kernel_rfl) (Z5q w19 p.f.toNat (by omega)) ?_
 rintro _ w29 ⟨u30, rfl, k31, p32, q33⟩
 have H34 := H24.addU p32 k31 q33
 obtain ⟨a35, c36, rfl⟩ := Z6 (H34.at 4 rfl)
 refine ⟨_, rfl, ?_⟩
 have S37 := H34.pk [0, 1]
 refine kq _ _ S37 ?_
 clear kq Kq
 refine Z0j 12 fun Kq kq => ?_
 refine zdc 17 (Z17 w29 (p.C.length : Int) (by omega)) ?_
 rintro _ w39 ⟨u40, rfl, k41, p42, q43⟩
 have H44 := H34.addU p42 k41 q43
 obtain ⟨a45, c46, rfl⟩ := Z6 (H44.at 5 rfl)
 refine ⟨_, rfl, ?_⟩
 have S47 := H44.pk [0, 1]
 refine kq _ _ S47 ?_
 clear kq Kq
 refine Z0j 13 fun Kq kq => ?_
 refine Z45 62 1 24 (.slice none 0 0) [(0, (.slice a15 ((Zf p.r).length) c16)), (1, (.slice a25 ((Zf p.e).length) c26)), (2, (.slice a35 ((Z0H p.f.toNat).length) c36)), (3, (.slice a45 ((Zf (p.C.length : Int)).length) c46))] (Zcf a15 ((Zf p.r).length) c16 a25 ((Zf p.e).length) c26 a35 ((Z0H p.f.toNat).length) c36 a45 ((Zf (p.C.length : Int)).length) c46) H44 ?_
 intro b49 w50 H51
 have S52 := H51.pk [0, 1]
 refine kq _ _ S52 ?_
 clear kq Kq
 refine Z0j 14 fun Kq kq => ?_
 have l54 := ZO p.r
 have l55 := ZO p.e
 have l56 := Z2b p.f.toNat
 have l57 := ZO (p.C.length : Int)
 refine zdc 19 (Z1f w50 (.slice (some ⟨b49, 0, none⟩) 4 4) [(.slice a15 ((Zf p.r).length) c16), (.slice a25 ((Zf p.e).length) c26), (.slice a35 ((Z0H p.f.toNat).length) c36), (.slice a45 ((Zf (p.C.length : Int)).length) c46)] [(Zf p.r), (Zf p.e), (Z0H p.f.toNat), (Zf (p.C.length : Int))] (ListAt.row (enc := Z8f) (sz := 1) (xs := [(.slice a15 ((Zf p.r).length) c16), (.slice a25 ((Zf p.e).length) c26), (.slice a35 ((Z0H p.f.toNat).length) c36), (.slice a45 ((Zf (p.C.length : Int)).length) c46)]) Z1I (by decide) (H51.at 6 rfl)) (Parts.cons (ListAt.row (enc := ZE) (sz := 1) ZR (by decide) (H51.at 2 rfl)) (Parts.cons (ListAt.row (enc := ZE) (sz := 1) ZR (by decide) (H51.at 3 rfl)) (Parts.cons (ListAt.row (enc := ZE) (sz := 1) ZR (by decide) (H51.at 4 rfl)) (Parts.cons (ListAt.row (enc := ZE) (sz := 1) ZR (by decide) (H51.at 5 rfl)) Parts.nil)))) (by simp only [List.flatten_cons, List.flatten_nil, List.length_append, List.length_nil]; omega) (by simp)) ?_
 rintro _ w58 ⟨u59, rfl, k60, p61, q62⟩
 have H63 := H51.addU p61 k60 q62
 obtain ⟨a64, c65, rfl⟩ := Z6 (H63.at 7 rfl)
 refine ⟨_, rfl, ?_⟩
 have S66 := H63.pk [0, 1]
 refine kq _ _ S66 ?_
 clear kq Kq
 refine hv0 15 S66 3 (.slice a64 (([(Zf p.r), (Zf p.e), (Z0H p.f.toNat), (Zf (p.C.length : Int))].flatten).length) c65) ?_
 refine zhf ?_
 apply ztn
 apply Zd
 apply zsl
 refine wv 20 (pt b2 3) ?_
 refine zw1 21 (.slice p.ca p.C.length p.cc) (H63.cell 1 rfl rfl) ?_
 refine wv 22 (.int .i64 ((p.C.length : Int))) ?_
 refine wv 23 (.int .i64 (0)) ?_
 apply znt
 apply ZM
 obtain ⟨hd, hhd⟩ : ∃ hd, hd = ([(Zf p.r), (Zf p.e), (Z0H p.f.toNat), (Zf (p.C.length : Int))].flatten) := ⟨_, rfl⟩
 have hdl : hd.length ≤ 200 := by rw [hhd]; have q1 := ZO p.r; have q2 := ZO p.e; have q3 := Z2b p.f.toNat; have q4 := ZO (p.C.length : Int); simp only [List.flatten_cons, List.flatten_nil, List.length_append, List.length_nil]; omega
 refine Z0b ([3, 4] ++ List.range' 23 12) (fun F_ W_ m_ => ∃ (i : Nat) (a : Option Addr) (c_ : Nat) (D : List UInt8), F_ 23 = (.int .i64 ((i : Int))) ∧ F_ 3 = (.slice a D.length c_) ∧ (i ≤ p.C.length) ∧ (D = hd ++ (p.C.take i).flatMap Z01) ∧ Sat w [Z7 w (fun _ => False), Z0 b2 34 (Z5H p), (Z56 a15 (Zf p.r) c16), (Z56 a25 (Zf p.e) c26), (Z56 a35 (Z0H p.f.toNat) c36), (Z56 a45 (Zf (p.C.length : Int)) c46), Zk 62 1 (.slice (some ⟨b49, 0, none⟩) 4 4) 4 (Zcf a15 ((Zf p.r).length) c16 a25 ((Zf p.e).length) c26 a35 ((Z0H p.f.toNat).length) c36 a45 ((Zf (p.C.length : Int)).length) c46), (Z56 a D c_)] W_ ∧ m_ = p.C.length - i) _ ⟨0, a64, c65, ([(Zf p.r), (Zf p.e), (Z0H p.f.toNat), (Zf (p.C.length : Int))].flatten), (show ((.int .i64 (0)) : Value) = _ by first | rfl | go_num), (by first | rfl | go_num), (Nat.zero_le _), (by rw [hhd]; simp), H63, rfl⟩ ?_
 rintro g67 w68 _ ⟨i, a, c_, D, v70, v71, hi, hD, H69, rfl⟩
 refine Zl 23 _ v70 ?_
 refine Zl 3 _ v71 ?_
 have hDl : D.length ≤ 600000 := by rw [hD, List.length_append]; have q1 := Z3B (g := Z01) (p.C.take i) (fun c hc => Z1C (Z5v hB c (List.mem_of_mem_take hc))); rw [List.length_take] at q1; omega
 have q2 := fun h : i < p.C.length => Z1C (hB i h).len
 apply zsl
 refine wv 24 (.bool (decide ((i : Int) < (p.C.length : Int)))) ?_
 apply znt
 apply Zd
 refine (Zr (decide ((i : Int) < (p.C.length : Int)))).elim (fun b73 => ?_) (fun b73 => ?_)
 ·have g74 := of_decide_eq_true b73
  refine Z1V _ b73 ?_
  apply ZW
  apply ztn
  apply Zd
  apply ZM
  apply zsl
  refine wv 25 (.int .i64 ((i : Int))) ?_
  refine wv 4 (.int .i64 ((i : Int))) ?_
  apply znt
  apply Zq
  refine wv 26 (.slice a D.length c_) ?_
  refine wv 27 (pt b2 3) ?_
  refine zw1 28 (.slice p.ca p.C.length p.cc) (H69.cell 1 rfl rfl) ?_
  refine wv 29 (.int .i64 ((i : Int))) ?_
  obtain ⟨g76, o77, c78, e79, R80⟩ := SliceOf.atD hC ce0 (show i < p.C.length by omega)
  refine wv 30 (.pointer (some ⟨g76, o77 + ((i : Int)).toNat * 38, none⟩)) ?_ (hr := ZV (E := 53) (by kernel_rfl) (by kernel_rfl) (Nat.le_of_ble_eq_true rfl) rfl e79 rfl (by omega) (by omega))
  refine wv 31 (.agg ⟨(Zcg ((p.C.getD i ce0).x) (p.C.getD i ce0) (((p.C.getD i ce0).S).length))⟩) ?_ (hr := Z0k (vs := (Zcg ((p.C.getD i ce0).x) (p.C.getD i ce0) (((p.C.getD i ce0).S).length))) rfl (by kernel_rfl) (by kernel_rfl) (Nat.le_of_ble_eq_true (by kernel_rfl)) (H69.runR 0 rfl (Z16 R80 0 (by kernel_rfl) (show o77 + ((i : Int)).toNat * 38 = o77 + i * 38 + 0 by omega)) (fun h => h)))
  refine zwd fun Kq kq => ?_
  refine zdc 32 (Z7R w68 (p.C.getD i ce0) ((hB i (by omega)).keep H69 0 rfl)) ?_
  rintro _ w82 ⟨u83, rfl, k84, p85, q86⟩
  have H87 := H69.addU p85 k84 q86
  obtain ⟨a88, c89, rfl⟩ := Z6 (H87.at 8 rfl)
  refine ⟨_, rfl, ?_⟩
  refine kq _ _ ?_
  clear kq Kq
  refine zwd fun Kq kq => ?_
  refine Z11 (T := 62) (e := 5) (size := 1) (bytes := 1) rfl H87 (by kernel_rfl) 7 8 rfl rfl rfl rfl (Z0Q ZE Z1m (Z01 (p.C.getD i ce0))) (by omega) (by omega) ?_
  intro v91 w92 H93
  have H96 := H93.ct 7 rfl (Zk 5 1 v91 ((D ++ (Z01 (p.C.getD i ce0))).length) ((D ++ (Z01 (p.C.getD i ce0))).flatMap ZE)) ja
  obtain ⟨a94, c95, rfl⟩ := Z6 (H96.at 7 rfl)
  refine kq _ _ ?_
  clear kq Kq
  refine wv 3 (.slice a94 ((D ++ (Z01 (p.C.getD i ce0))).length) c95) ?_
  apply Zn
  apply Zw
  apply ztn
  apply Zq
  refine zwi 34 ((i : Int) + 1) ?_
  refine wv 23 (.int .i64 ((i : Int) + 1)) ?_
  apply Zn
  have H97 := H96.pk [0, 1, 2, 3, 4, 5, 6, 7]
  refine ZF ?_ _ ⟨(i + 1), a94, c95, (D ++ (Z01 (p.C.getD i ce0))), rfl, (show ((.slice a94 ((D ++ (Z01 (p.C.getD i ce0))).length) c95) : Value) = _ by first | rfl | go_num), (by omega), (by rw [hD, Z3P p.C ce0 (by omega), List.append_assoc]), H97, rfl⟩ (by omega)
  exact zs
 have g98 := of_decide_eq_false b73
 refine Z1w _ b73 ?_
 apply zxb
 apply ztn
 apply zsl
 refine wv 35 (.slice a D.length c_) ?_
 refine wv 2 (.slice a D.length c_) ?_
 apply znt
 apply ZI
 refine ze1 (.slice a D.length c_) ?_
 have hX : D = Z1l p := by unfold Z1l Z4X; rw [hD, hhd, List.take_of_length_le (by omega)]
 exact ⟨_, rfl, (by rw [← hX]; exact H69.at 7 rfl), H69.upd 0 rfl [] (fun _ h => h.elim), (by rw [← hX]; exact H69.fresh 0 rfl (fun _ h => h) 7 rfl rfl)⟩
theorem Z5f (w : World) (p : PrR) (hC : ListAt Z03 38 w (.slice p.ca p.C.length p.cc) p.C) (hB : ∀ i, i < p.C.length → CeB w (p.C.getD i ce0)) (hl : p.C.length ≤ 64) (hn : p.r ≤ 9223372036854775807 ∧ p.e ≤ 9223372036854775807 ∧ 0 ≤ p.f ∧ p.f < 18446744073709551616) :
  Calls Tryz.prog 15 #[(.agg ⟨([(.int .i64 (p.r)), (.int .i64 (p.e)), (.int .u64 (p.f)), (.slice p.ca p.C.length p.cc), (.int .i64 (p.sb)), (.int .i64 (p.sm))] : List Value)⟩)] w fun e w' => ∃ u, e = .returned u ∧ (Zk 5 1 u (Z0f p).length ((Z0f p).flatMap ZE)).ok w' ∧ Upd [] w w' ∧ ∀ q_, (Zk 5 1 u (Z0f p).length ((Z0f p).flatMap ZE)).fp q_ → w.heap.size ≤ q_ := by
 have hp := Z4e (Z5v hB) hl
 have H := Sat.start0 w
 refine Zh Tryz.func15 rfl 10 rfl (Nat.le_of_ble_eq_true rfl) ?_
 apply zsl
 refine zwd fun Kq kq => ?_
 refine zdb (Z5H p) H ?_
 intro b2 w3 H4
 refine kq _ _ ?_
 clear kq Kq
 refine wv 2 (.slice none 0 0) ?_
 apply znt
 apply Zd
 refine Z08 H4 [Z7 w (fun _ => False), Z0 b2 34 (Z5H p)] 8 rfl (by kernel_rfl) (fun Hx => (Hx.pk [0, 1])) ?_
 intro w5 H6 S7
 refine hv0 3 S7 6 (.agg ⟨(Z5H p)⟩) ?_ (he := fun _ H' => (Zi (vs := (Z5H p)) rfl (by kernel_rfl) (by kernel_rfl) (by exact Nat.le_of_ble_eq_true (by kernel_rfl)) (H'.at 1 rfl) (by kernel_rfl)))
 refine Z0j 0 fun Kq kq => ?_
 refine Z45 5 1 1 (.int .u8 (0)) [(0, (.int .u8 (112))), (1, (.int .u8 (114))), (2, (.int .u8 (111))), (3, (.int .u8 (109))), (4, (.int .u8 (105))), (5, (.int .u8 (115))), (6, (.int .u8 (101)))] (Zch) H6 ?_
 intro b9 w10 H11
 have H12 := H11.ct 2 rfl (Zk 5 1 (.slice (some ⟨b9, 0, none⟩) 7 7) 7 ([112, 114, 111, 109, 105, 115, 101].flatMap ZE)) (by rw [show ((Zch) : List Value) = [112, 114, 111, 109, 105, 115, 101].flatMap ZE from rfl])
 have S13 := H12.pk [0, 1]
 refine kq _ _ S13 ?_
 clear kq Kq
 refine Z0j 1 fun Kq kq => ?_
 refine Z22 (e := 5) (s := [112, 114, 111, 109, 105, 115, 101]) rfl H12 2 rfl (by kernel_rfl) (by kernel_rfl) rfl ?_
 intro w15 H16
 have S17 := H16.pk [0, 1]
 refine kq _ _ S17 ?_
 clear kq Kq
 refine Z0j 2 fun Kq kq => ?_
 refine zdc 5 (Z3Y w15 (.slice (some ⟨b9, 0, none⟩) 7 7) ([112, 114, 111, 109, 105, 115, 101]) (ListAt.ofTxt (H16.at 2 rfl)) (by simp)) ?_
 rintro _ w19 ⟨u20, rfl, k21, p22, q23⟩
 have H24 := H16.addU p22 k21 q23
 obtain ⟨a25, c26, rfl⟩ := Z6 (H24.at 3 rfl)
 refine ⟨_, rfl, ?_⟩
 have S27 := H24.pk [0, 1]
 refine kq _ _ S27 ?_
 clear kq Kq
 refine Z0j 4 fun Kq kq => ?_
 refine zdc 7 (Z5e w19 p (ListAt.now H24 0 rfl hC) (fun i hi => (hB i hi).keep H24 0 rfl) hl hn) ?_
 rintro _ w29 ⟨u30, rfl, k31, p32, q33⟩
 have H34 := H24.addU p32 k31 q33
 obtain ⟨a35, c36, rfl⟩ := Z6 (H34.at 4 rfl)
 refine ⟨_, rfl, ?_⟩
 have S37 := H34.pk [0, 1]
 refine kq _ _ S37 ?_
 clear kq Kq
 refine Z0j 5 fun Kq kq => ?_
 refine Z45 62 1 24 (.slice none 0 0) [(0, (.slice a25 ((ZK ([112, 114, 111, 109, 105, 115, 101])).length) c26)), (1, (.slice a35 ((Z1l p).length) c36))] (Z6y a25 ((ZK ([112, 114, 111, 109, 105, 115, 101])).length) c26 a35 ((Z1l p).length) c36) H34 ?_
 intro b39 w40 H41
 have S42 := H41.pk [0, 1]
 refine kq _ _ S42 ?_
 clear kq Kq
 refine Z0j 6 fun Kq kq => ?_
 have l44 := Z18 ([112, 114, 111, 109, 105, 115, 101])
 simp only [List.length_cons, List.length_nil] at l44
 have l45 := hp
 refine zdc 9 (Z1f w40 (.slice (some ⟨b39, 0, none⟩) 2 2) [(.slice a25 ((ZK ([112, 114, 111, 109, 105, 115, 101])).length) c26), (.slice a35 ((Z1l p).length) c36)] [(ZK ([112, 114, 111, 109, 105, 115, 101])), (Z1l p)] (ListAt.row (enc := Z8f) (sz := 1) (xs := [(.slice a25 ((ZK ([112, 114, 111, 109, 105, 115, 101])).length) c26), (.slice a35 ((Z1l p).length) c36)]) Z1I (by decide) (H41.at 5 rfl)) (Parts.cons (ListAt.row (enc := ZE) (sz := 1) ZR (by decide) (H41.at 3 rfl)) (Parts.cons (ListAt.row (enc := ZE) (sz := 1) ZR (by decide) (H41.at 4 rfl)) Parts.nil)) (by simp only [List.flatten_cons, List.flatten_nil, List.length_append, List.length_nil]; omega) (by simp)) ?_
 rintro _ w46 ⟨u47, rfl, k48, p49, q50⟩
 have H51 := H41.addU p49 k48 q50
 obtain ⟨a52, c53, rfl⟩ := Z6 (H51.at 6 rfl)
 refine ⟨_, rfl, ?_⟩
 have S54 := H51.pk [0, 1]
 refine kq _ _ S54 ?_
 clear kq Kq
 refine hv0 7 S54 2 (.slice a52 (([(ZK ([112, 114, 111, 109, 105, 115, 101])), (Z1l p)].flatten).length) c53) ?_
 refine zhf ?_
 apply ztn
 apply ZI
 refine ze1 (.slice a52 (([(ZK ([112, 114, 111, 109, 105, 115, 101])), (Z1l p)].flatten).length) c53) ?_
 have hX : ([(ZK ([112, 114, 111, 109, 105, 115, 101])), (Z1l p)].flatten) = Z0f p := by rfl
 exact ⟨_, rfl, (by rw [← hX]; exact H51.at 6 rfl), H51.upd 0 rfl [] (fun _ h => h.elim), (by rw [← hX]; exact H51.fresh 0 rfl (fun _ h => h) 6 rfl rfl)⟩
end Go.Proofs.YtoaifondpohniaaGreat
