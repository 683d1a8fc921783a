/- WHAT IS PROVED: contracts and plain laws of Rt2, EntD, TxtP. Conditions: stated with each. -/
import Derived.Test.YtenihpghfdcpkaaGreatT05
import Derived.Test.YtenihpghfdcpkaaGreatT06
import Derived.Test.YtenihpghfdcpkaaGreatT07
set_option maxHeartbeats 4000000
set_option maxRecDepth 100000
namespace Go.Proofs.YtenihpghfdcpkaaGreat
open Go.RowKit
abbrev kRt2_0 (p0 : Int) (p1 : Int) : List Value := ([(.int .i64 p0), (.int .i64 p1)] : List Value)
abbrev kRt2_2 (p0 : StampD) : List Value := ([(.int .i64 p0.r), (.int .i64 p0.cl), (.int .i64 p0.seq)] : List Value) ++ hc p0.h ++ ([(.int .u64 p0.t), (.int .i64 p0.sb), (.int .i64 p0.sm)] : List Value)
abbrev kRt2_3 : List Value := ([(.int .u8 (115)), (.int .u8 (116)), (.int .u8 (97)), (.int .u8 (109)), (.int .u8 (112))] : List Value)
abbrev kRt2_4 (p0 : CommitD) : List Value := ([(.int .i64 p0.cl), (.int .i64 p0.seq)] : List Value) ++ hc p0.h ++ ([(.int .i64 p0.len), (.int .i64 p0.sb), (.int .i64 p0.sm)] : List Value)
abbrev kRt2_5 : List Value := ([(.int .u8 (114)), (.int .u8 (101)), (.int .u8 (113)), (.int .u8 (117)), (.int .u8 (101)), (.int .u8 (115)), (.int .u8 (116))] : List Value)
theorem rName_any (w : World) (a b : Int) (hs : a ≤ 9223372036854775807 ∧ b ≤ 9223372036854775807) :
  Calls Tryz.prog 117 #[(.agg ⟨([(.int .i64 (a)), (.int .i64 (b))] : List Value)⟩)] w fun e w' => ∃ u, e = .returned u ∧ (rowC 5 1 u (nameB a b).length ((nameB a b).flatMap encB)).ok w' ∧ Upd [] w w' ∧ ∀ q_, (rowC 5 1 u (nameB a b).length ((nameB a b).flatMap encB)).fp q_ → w.heap.size ≤ q_ := by
 have H := Sat.start0 w
 refine calls_fr Tryz.func117 rfl 11 rfl (Nat.le_of_ble_eq_true rfl) ?_
 refine zsl <| zwd fun Kq kq => zdb (kRt2_0 a b) H fun b2 w3 H4 => ?_
 refine kq _ _ <| wv 2 (.slice none 0 0) <| znt <| w_seq <| h_start H4 [restC w (fun _ => False), cellC b2 59 (kRt2_0 a b)] 9 rfl (by kernel_rfl) (fun Hx => (Hx.pk [0, 1])) fun w5 H6 S7 => ?_
 refine hv0 0 S7 3 (pt b2 0) <| hv0 1 S7 4 (.int .i64 (a)) ?_ (he := fun _ H' => (zl1 (H'.cell 1 rfl rfl)))
 refine hv0 3 S7 6 (pt b2 1) <| hv0 4 S7 7 (.int .i64 (b)) ?_ (he := fun _ H' => (zl1 (H'.cell 1 rfl rfl)))
 refine zhd0 2 fun Kq kq => ?_
 refine zdc 5 (rInt_any w5 a (by omega)) ?_
 rintro _ w9 ⟨u10, rfl, k11, p12, q13⟩
 have H14 := H6.addU p12 k11 q13
 obtain ⟨a15, c16, rfl⟩ := ownsRow_shape (H14.at 2 rfl)
 refine ⟨_, rfl, ?_⟩
 have S17 := H14.pk [0, 1]
 refine kq _ _ S17 <| zhd0 5 fun Kq kq => ?_
 refine zdc 8 (rInt_any w9 b (by omega)) ?_
 rintro _ w19 ⟨u20, rfl, k21, p22, q23⟩
 have H24 := H14.addU p22 k21 q23
 obtain ⟨a25, c26, rfl⟩ := ownsRow_shape (H24.at 3 rfl)
 refine ⟨_, rfl, ?_⟩
 have S27 := H24.pk [0, 1]
 refine kq _ _ S27 <| zhd0 6 fun Kq kq => ?_
 refine zdbs 84 1 24 (.slice none 0 0) [(0, (.slice a15 ((intB a).length) c16)), (1, (.slice a25 ((intB b).length) c26))] ([(.slice a15 ((intB a).length) c16), (.slice a25 ((intB b).length) c26)] : List Value) H24 ?_
 intro b29 w30 H31
 have S32 := H31.pk [0, 1]
 refine kq _ _ S32 <| zhd0 7 fun Kq kq => ?_
 have l34 := intB_len a
 have l35 := intB_len b
 refine zdc 10 (rJoin_any w30 (.slice (some ⟨b29, 0, none⟩) 2 2) [(.slice a15 ((intB a).length) c16), (.slice a25 ((intB b).length) c26)] [(intB a), (intB b)] (ListAt.row (enc := encW) (sz := 1) (xs := [(.slice a15 ((intB a).length) c16), (.slice a25 ((intB b).length) c26)]) encW_len (by decide) (H31.at 4 rfl)) (Parts.cons (ListAt.row (enc := encB) (sz := 1) encB_len (by decide) (H31.at 2 rfl)) (Parts.cons (ListAt.row (enc := encB) (sz := 1) encB_len (by decide) (H31.at 3 rfl)) Parts.nil)) (by simp only [List.flatten_cons, List.flatten_nil, List.length_append, List.length_nil]; omega) (by simp)) ?_
 rintro _ w36 ⟨u37, rfl, k38, p39, q40⟩
 have H41 := H31.addU p39 k38 q40
 obtain ⟨a42, c43, rfl⟩ := ownsRow_shape (H41.at 5 rfl)
 refine ⟨_, rfl, ?_⟩
 have S44 := H41.pk [0, 1]
 refine kq _ _ S44 <| hv0 8 S44 2 (.slice a42 (([(intB a), (intB b)].flatten).length) c43) <| zhf <| ztn <| w_ret <| ze1 (.slice a42 (([(intB a), (intB b)].flatten).length) c43) ?_
 have hX : ([(intB a), (intB b)].flatten) = nameB a b := by rfl
 exact ⟨_, rfl, (by rw [← hX]; exact H41.at 5 rfl), H41.upd 0 rfl [] (fun _ h => h.elim), (by rw [← hX]; exact H41.fresh 0 rfl (fun _ h => h) 5 rfl rfl)⟩
theorem rBare_any (w : World) (s : StampD) (hs : (s.r ≤ 9223372036854775807 ∧ s.cl ≤ 9223372036854775807 ∧ s.seq ≤ 9223372036854775807 ∧ 0 ≤ s.t ∧ s.t < 18446744073709551616)) :
  Calls Tryz.prog 145 #[(.agg ⟨(([(.int .i64 (s.r)), (.int .i64 (s.cl)), (.int .i64 (s.seq))] : List Value) ++ hc s.h ++ ([(.int .u64 (s.t)), (.int .i64 (s.sb)), (.int .i64 (s.sm))] : List Value))⟩)] w fun e w' => ∃ u, e = .returned u ∧ (rowC 5 1 u (bareB s).length ((bareB s).flatMap encB)).ok w' ∧ Upd [] w w' ∧ ∀ q_, (rowC 5 1 u (bareB s).length ((bareB s).flatMap encB)).fp q_ → w.heap.size ≤ q_ := by
 have H := Sat.start0 w
 refine calls_fr Tryz.func145 rfl 16 rfl (Nat.le_of_ble_eq_true rfl) ?_
 refine zsl <| zwd fun Kq kq => zdb (kRt2_2 s) H fun b2 w3 H4 => ?_
 refine kq _ _ <| wv 2 (.slice none 0 0) <| znt <| w_seq <| h_start H4 [restC w (fun _ => False), cellC b2 149 (kRt2_2 s)] 14 rfl (by kernel_rfl) (fun Hx => (Hx.pk [0, 1])) fun w5 H6 S7 => ?_
 refine hv0 0 S7 3 (pt b2 0) <| hv0 1 S7 4 (.int .i64 (s.r)) ?_ (he := fun _ H' => (zl1 (H'.cell 1 rfl (by kernel_rfl))))
 refine hv0 3 S7 6 (pt b2 1) <| hv0 4 S7 7 (.agg ⟨(kRt2_0 s.cl s.seq)⟩) ?_ (he := fun _ H' => (zlN (vs := (kRt2_0 s.cl s.seq)) (H'.at 1 rfl)))
 refine hv0 6 S7 9 (pt b2 3) <| hv0 7 S7 10 (.slice (some ⟨b2, 3, none⟩) 32 32) <| hv0 8 S7 11 (pt b2 35) <| hv0 9 S7 12 (.int .u64 (s.t)) ?_ (he := fun _ H' => (zl1 (H'.cell 1 rfl (by kernel_rfl))))
 refine zhd0 2 fun Kq kq => ?_
 refine zdc 5 (rInt_any w5 s.r (by omega)) ?_
 rintro _ w9 ⟨u10, rfl, k11, p12, q13⟩
 have H14 := H6.addU p12 k11 q13
 obtain ⟨a15, c16, rfl⟩ := ownsRow_shape (H14.at 2 rfl)
 refine ⟨_, rfl, ?_⟩
 have S17 := H14.pk [0, 1]
 refine kq _ _ S17 <| zhd0 5 fun Kq kq => ?_
 refine zdc 8 (rName_any w9 s.cl s.seq (by omega)) ?_
 rintro _ w19 ⟨u20, rfl, k21, p22, q23⟩
 have H24 := H14.addU p22 k21 q23
 obtain ⟨a25, c26, rfl⟩ := ownsRow_shape (H24.at 3 rfl)
 refine ⟨_, rfl, ?_⟩
 have S27 := H24.pk [0, 1]
 refine kq _ _ S27 <| zhd0 10 fun Kq kq => ?_
 refine d_call (d := 13) rfl (by rw [show s.t = ((s.t.toNat : Nat) : Int) by omega]; kernel_rfl) (rNum_any w19 s.t.toNat (by omega)) ?_
 rintro _ w29 ⟨u30, rfl, k31, p32, q33⟩
 have H34 := H24.addU p32 k31 q33
 obtain ⟨a35, c36, rfl⟩ := ownsRow_shape (H34.at 4 rfl)
 refine ⟨_, rfl, ?_⟩
 have S37 := H34.pk [0, 1]
 refine kq _ _ S37 <| zhd0 11 fun Kq kq => ?_
 refine zdbs 84 1 24 (.slice none 0 0) [(0, (.slice a15 ((intB s.r).length) c16)), (1, (.slice a25 ((nameB s.cl s.seq).length) c26)), (2, (.slice (some ⟨b2, 3, none⟩) 32 32)), (3, (.slice a35 ((varB s.t.toNat).length) c36))] ([(.slice a15 ((intB s.r).length) c16), (.slice a25 ((nameB s.cl s.seq).length) c26), (.slice (some ⟨b2, 3, none⟩) 32 32), (.slice a35 ((varB s.t.toNat).length) c36)] : List Value) H34 ?_
 intro b39 w40 H41
 have S42 := H41.pk [0, 1]
 refine kq _ _ S42 <| zhd0 12 fun Kq kq => ?_
 have l44 := intB_len s.r
 have l45 := nameB_len s.cl s.seq
 have l46 := s.h.len
 have l47 := varB_len s.t.toNat
 refine zdc 15 (rJoin_any w40 (.slice (some ⟨b39, 0, none⟩) 4 4) [(.slice a15 ((intB s.r).length) c16), (.slice a25 ((nameB s.cl s.seq).length) c26), (.slice (some ⟨b2, 3, none⟩) 32 32), (.slice a35 ((varB s.t.toNat).length) c36)] [(intB s.r), (nameB s.cl s.seq), s.h.l, (varB s.t.toNat)] (ListAt.row (enc := encW) (sz := 1) (xs := [(.slice a15 ((intB s.r).length) c16), (.slice a25 ((nameB s.cl s.seq).length) c26), (.slice (some ⟨b2, 3, none⟩) 32 32), (.slice a35 ((varB s.t.toNat).length) c36)]) encW_len (by decide) (H41.at 5 rfl)) (Parts.cons (ListAt.row (enc := encB) (sz := 1) encB_len (by decide) (H41.at 2 rfl)) (Parts.cons (ListAt.row (enc := encB) (sz := 1) encB_len (by decide) (H41.at 3 rfl)) (Parts.cons (ListAt.ofHash (cell_runT (H41.at 1 rfl) (by kernel_rfl)) (by decide)) (Parts.cons (ListAt.row (enc := encB) (sz := 1) encB_len (by decide) (H41.at 4 rfl)) Parts.nil)))) (by simp only [List.flatten_cons, List.flatten_nil, List.length_append, List.length_nil]; omega) (by simp)) ?_
 rintro _ w48 ⟨u49, rfl, k50, p51, q52⟩
 have H53 := H41.addU p51 k50 q52
 obtain ⟨a54, c55, rfl⟩ := ownsRow_shape (H53.at 6 rfl)
 refine ⟨_, rfl, ?_⟩
 have S56 := H53.pk [0, 1]
 refine kq _ _ S56 <| hv0 13 S56 2 (.slice a54 (([(intB s.r), (nameB s.cl s.seq), s.h.l, (varB s.t.toNat)].flatten).length) c55) <| zhf <| ztn <| w_ret <| ze1 (.slice a54 (([(intB s.r), (nameB s.cl s.seq), s.h.l, (varB s.t.toNat)].flatten).length) c55) ?_
 have hX : ([(intB s.r), (nameB s.cl s.seq), s.h.l, (varB s.t.toNat)].flatten) = bareB s := by rfl
 exact ⟨_, rfl, (by rw [← hX]; exact H53.at 6 rfl), H53.upd 0 rfl [] (fun _ h => h.elim), (by rw [← hX]; exact H53.fresh 0 rfl (fun _ h => h) 6 rfl rfl)⟩
theorem rStampText_any (w : World) (s : StampD) (hs : (s.r ≤ 9223372036854775807 ∧ s.cl ≤ 9223372036854775807 ∧ s.seq ≤ 9223372036854775807 ∧ 0 ≤ s.t ∧ s.t < 18446744073709551616)) :
  Calls Tryz.prog 114 #[(.agg ⟨(([(.int .i64 (s.r)), (.int .i64 (s.cl)), (.int .i64 (s.seq))] : List Value) ++ hc s.h ++ ([(.int .u64 (s.t)), (.int .i64 (s.sb)), (.int .i64 (s.sm))] : List Value))⟩)] w fun e w' => ∃ u, e = .returned u ∧ (rowC 5 1 u (stampB s).length ((stampB s).flatMap encB)).ok w' ∧ Upd [] w w' ∧ ∀ q_, (rowC 5 1 u (stampB s).length ((stampB s).flatMap encB)).fp q_ → w.heap.size ≤ q_ := by
 have H := Sat.start0 w
 refine calls_fr Tryz.func114 rfl 10 rfl (Nat.le_of_ble_eq_true rfl) ?_
 refine zsl <| zwd fun Kq kq => zdb (kRt2_2 s) H fun b2 w3 H4 => ?_
 refine kq _ _ <| wv 2 (.slice none 0 0) <| znt <| w_seq <| h_start H4 [restC w (fun _ => False), cellC b2 149 (kRt2_2 s)] 8 rfl (by kernel_rfl) (fun Hx => (Hx.pk [0, 1])) fun w5 H6 S7 => ?_
 refine hv0 3 S7 6 (.agg ⟨(kRt2_2 s)⟩) ?_ (he := fun _ H' => (zlN (vs := (kRt2_2 s)) (H'.at 1 rfl)))
 refine zhd0 0 fun Kq kq => ?_
 refine zdbs 5 1 1 (.int .u8 (0)) [(0, (.int .u8 (115))), (1, (.int .u8 (116))), (2, (.int .u8 (97))), (3, (.int .u8 (109))), (4, (.int .u8 (112)))] (kRt2_3) H6 ?_
 intro b9 w10 (H11 : Sat w [restC w (fun _ => False), cellC b2 149 (kRt2_2 s), rowC 5 1 (.slice (some ⟨b9, 0, none⟩) 5 5) 5 (kRt2_3)] w10)
 have H12 : Sat w [restC w (fun _ => False), cellC b2 149 (kRt2_2 s), rowC 5 1 (.slice (some ⟨b9, 0, none⟩) 5 5) 5 ([115, 116, 97, 109, 112].flatMap encB)] w10 := H11.cast (by rw [show ((kRt2_3) : List Value) = [115, 116, 97, 109, 112].flatMap encB from rfl])
 have S13 := H12.pk [0, 1]
 refine kq _ _ S13 <| zhd0 1 fun Kq kq => ?_
 refine d_convMark (e := 5) (s := [115, 116, 97, 109, 112]) rfl H12 2 rfl (by kernel_rfl) (by kernel_rfl) rfl ?_
 intro w15 H16
 have S17 := H16.pk [0, 1]
 refine kq _ _ S17 <| zhd0 2 fun Kq kq => ?_
 refine zdc 5 (rRow_any w15 (.slice (some ⟨b9, 0, none⟩) 5 5) ([115, 116, 97, 109, 112]) (ListAt.ofTxt (H16.at 2 rfl)) (by simp)) ?_
 rintro _ w19 ⟨u20, rfl, k21, p22, q23⟩
 have H24 := H16.addU p22 k21 q23
 obtain ⟨a25, c26, rfl⟩ := ownsRow_shape (H24.at 3 rfl)
 refine ⟨_, rfl, ?_⟩
 have S27 := H24.pk [0, 1]
 refine kq _ _ S27 <| zhd0 4 fun Kq kq => ?_
 refine zdc 7 (rBare_any w19 s hs) ?_
 rintro _ w29 ⟨u30, rfl, k31, p32, q33⟩
 have H34 := H24.addU p32 k31 q33
 obtain ⟨a35, c36, rfl⟩ := ownsRow_shape (H34.at 4 rfl)
 refine ⟨_, rfl, ?_⟩
 have S37 := H34.pk [0, 1]
 refine kq _ _ S37 <| zhd0 5 fun Kq kq => ?_
 refine zdbs 84 1 24 (.slice none 0 0) [(0, (.slice a25 ((rowB ([115, 116, 97, 109, 112])).length) c26)), (1, (.slice a35 ((bareB s).length) c36))] ([(.slice a25 ((rowB ([115, 116, 97, 109, 112])).length) c26), (.slice a35 ((bareB s).length) c36)] : List Value) H34 ?_
 intro b39 w40 H41
 have S42 := H41.pk [0, 1]
 refine kq _ _ S42 <| zhd0 6 fun Kq kq => ?_
 have l44 := rowB_len ([115, 116, 97, 109, 112])
 simp only [List.length_cons, List.length_nil] at l44
 have l45 := bareB_len s
 refine zdc 9 (rJoin_any w40 (.slice (some ⟨b39, 0, none⟩) 2 2) [(.slice a25 ((rowB ([115, 116, 97, 109, 112])).length) c26), (.slice a35 ((bareB s).length) c36)] [(rowB ([115, 116, 97, 109, 112])), (bareB s)] (ListAt.row (enc := encW) (sz := 1) (xs := [(.slice a25 ((rowB ([115, 116, 97, 109, 112])).length) c26), (.slice a35 ((bareB s).length) c36)]) encW_len (by decide) (H41.at 5 rfl)) (Parts.cons (ListAt.row (enc := encB) (sz := 1) encB_len (by decide) (H41.at 3 rfl)) (Parts.cons (ListAt.row (enc := encB) (sz := 1) encB_len (by decide) (H41.at 4 rfl)) Parts.nil)) (by simp only [List.flatten_cons, List.flatten_nil, List.length_append, List.length_nil]; omega) (by simp)) ?_
 rintro _ w46 ⟨u47, rfl, k48, p49, q50⟩
 have H51 := H41.addU p49 k48 q50
 obtain ⟨a52, c53, rfl⟩ := ownsRow_shape (H51.at 6 rfl)
 refine ⟨_, rfl, ?_⟩
 have S54 := H51.pk [0, 1]
 refine kq _ _ S54 <| hv0 7 S54 2 (.slice a52 (([(rowB ([115, 116, 97, 109, 112])), (bareB s)].flatten).length) c53) <| zhf <| ztn <| w_ret <| ze1 (.slice a52 (([(rowB ([115, 116, 97, 109, 112])), (bareB s)].flatten).length) c53) ?_
 have hX : ([(rowB ([115, 116, 97, 109, 112])), (bareB s)].flatten) = stampB s := by rfl
 exact ⟨_, rfl, (by rw [← hX]; exact H51.at 6 rfl), H51.upd 0 rfl [] (fun _ h => h.elim), (by rw [← hX]; exact H51.fresh 0 rfl (fun _ h => h) 6 rfl rfl)⟩
theorem rCommitText_any (w : World) (s : CommitD) (hs : (s.cl ≤ 9223372036854775807 ∧ s.seq ≤ 9223372036854775807 ∧ s.len ≤ 9223372036854775807)) :
  Calls Tryz.prog 84 #[(.agg ⟨(([(.int .i64 (s.cl)), (.int .i64 (s.seq))] : List Value) ++ hc s.h ++ ([(.int .i64 (s.len)), (.int .i64 (s.sb)), (.int .i64 (s.sm))] : List Value))⟩)] w fun e w' => ∃ u, e = .returned u ∧ (rowC 5 1 u (commitB s).length ((commitB s).flatMap encB)).ok w' ∧ Upd [] w w' ∧ ∀ q_, (rowC 5 1 u (commitB s).length ((commitB s).flatMap encB)).fp q_ → w.heap.size ≤ q_ := by
 have H := Sat.start0 w
 refine calls_fr Tryz.func84 rfl 21 rfl (Nat.le_of_ble_eq_true rfl) ?_
 refine zsl <| zwd fun Kq kq => zdb (kRt2_4 s) H fun b2 w3 H4 => ?_
 refine kq _ _ <| wv 2 (.slice none 0 0) <| znt <| w_seq <| h_start H4 [restC w (fun _ => False), cellC b2 73 (kRt2_4 s)] 19 rfl (by kernel_rfl) (fun Hx => (Hx.pk [0, 1])) fun w5 H6 S7 => ?_
 refine hv0 3 S7 6 (pt b2 0) <| hv0 4 S7 7 (pt b2 0) <| hv0 5 S7 8 (.int .i64 (s.cl)) ?_ (he := fun _ H' => (zl1 (H'.cell 1 rfl (by kernel_rfl))))
 refine hv0 7 S7 10 (pt b2 0) <| hv0 8 S7 11 (pt b2 1) <| hv0 9 S7 12 (.int .i64 (s.seq)) ?_ (he := fun _ H' => (zl1 (H'.cell 1 rfl (by kernel_rfl))))
 refine hv0 11 S7 14 (pt b2 2) <| hv0 12 S7 15 (.slice (some ⟨b2, 2, none⟩) 32 32) <| hv0 13 S7 16 (pt b2 34) <| hv0 14 S7 17 (.int .i64 (s.len)) ?_ (he := fun _ H' => (zl1 (H'.cell 1 rfl (by kernel_rfl))))
 refine zhd0 0 fun Kq kq => ?_
 refine zdbs 5 1 1 (.int .u8 (0)) [(0, (.int .u8 (114))), (1, (.int .u8 (101))), (2, (.int .u8 (113))), (3, (.int .u8 (117))), (4, (.int .u8 (101))), (5, (.int .u8 (115))), (6, (.int .u8 (116)))] (kRt2_5) H6 ?_
 intro b9 w10 (H11 : Sat w [restC w (fun _ => False), cellC b2 73 (kRt2_4 s), rowC 5 1 (.slice (some ⟨b9, 0, none⟩) 7 7) 7 (kRt2_5)] w10)
 have H12 : Sat w [restC w (fun _ => False), cellC b2 73 (kRt2_4 s), rowC 5 1 (.slice (some ⟨b9, 0, none⟩) 7 7) 7 ([114, 101, 113, 117, 101, 115, 116].flatMap encB)] w10 := H11.cast (by rw [show ((kRt2_5) : List Value) = [114, 101, 113, 117, 101, 115, 116].flatMap encB from rfl])
 have S13 := H12.pk [0, 1]
 refine kq _ _ S13 <| zhd0 1 fun Kq kq => ?_
 refine d_convMark (e := 5) (s := [114, 101, 113, 117, 101, 115, 116]) rfl H12 2 rfl (by kernel_rfl) (by kernel_rfl) rfl ?_
 intro w15 H16
 have S17 := H16.pk [0, 1]
 refine kq _ _ S17 <| zhd0 2 fun Kq kq => ?_
 refine zdc 5 (rRow_any w15 (.slice (some ⟨b9, 0, none⟩) 7 7) ([114, 101, 113, 117, 101, 115, 116]) (ListAt.ofTxt (H16.at 2 rfl)) (by simp)) ?_
 rintro _ w19 ⟨u20, rfl, k21, p22, q23⟩
 have H24 := H16.addU p22 k21 q23
 obtain ⟨a25, c26, rfl⟩ := ownsRow_shape (H24.at 3 rfl)
 refine ⟨_, rfl, ?_⟩
 have S27 := H24.pk [0, 1]
 refine kq _ _ S27 <| zhd0 6 fun Kq kq => ?_
 refine zdc 9 (rInt_any w19 s.cl (by omega)) ?_
 rintro _ w29 ⟨u30, rfl, k31, p32, q33⟩
 have H34 := H24.addU p32 k31 q33
 obtain ⟨a35, c36, rfl⟩ := ownsRow_shape (H34.at 4 rfl)
 refine ⟨_, rfl, ?_⟩
 have S37 := H34.pk [0, 1]
 refine kq _ _ S37 <| zhd0 10 fun Kq kq => ?_
 refine zdc 13 (rInt_any w29 s.seq (by omega)) ?_
 rintro _ w39 ⟨u40, rfl, k41, p42, q43⟩
 have H44 := H34.addU p42 k41 q43
 obtain ⟨a45, c46, rfl⟩ := ownsRow_shape (H44.at 5 rfl)
 refine ⟨_, rfl, ?_⟩
 have S47 := H44.pk [0, 1]
 refine kq _ _ S47 <| zhd0 15 fun Kq kq => ?_
 refine zdc 18 (rInt_any w39 s.len (by omega)) ?_
 rintro _ w49 ⟨u50, rfl, k51, p52, q53⟩
 have H54 := H44.addU p52 k51 q53
 obtain ⟨a55, c56, rfl⟩ := ownsRow_shape (H54.at 6 rfl)
 refine ⟨_, rfl, ?_⟩
 have S57 := H54.pk [0, 1]
 refine kq _ _ S57 <| zhd0 16 fun Kq kq => ?_
 refine zdbs 84 1 24 (.slice none 0 0) [(0, (.slice a25 ((rowB ([114, 101, 113, 117, 101, 115, 116])).length) c26)), (1, (.slice a35 ((intB s.cl).length) c36)), (2, (.slice a45 ((intB s.seq).length) c46)), (3, (.slice (some ⟨b2, 2, none⟩) 32 32)), (4, (.slice a55 ((intB s.len).length) c56))] ([(.slice a25 ((rowB ([114, 101, 113, 117, 101, 115, 116])).length) c26), (.slice a35 ((intB s.cl).length) c36), (.slice a45 ((intB s.seq).length) c46), (.slice (some ⟨b2, 2, none⟩) 32 32), (.slice a55 ((intB s.len).length) c56)] : List Value) H54 ?_
 intro b59 w60 H61
 have S62 := H61.pk [0, 1]
 refine kq _ _ S62 <| zhd0 17 fun Kq kq => ?_
 have l64 := rowB_len ([114, 101, 113, 117, 101, 115, 116])
 simp only [List.length_cons, List.length_nil] at l64
 have l65 := intB_len s.cl
 have l66 := intB_len s.seq
 have l67 := s.h.len
 have l68 := intB_len s.len
 refine zdc 20 (rJoin_any w60 (.slice (some ⟨b59, 0, none⟩) 5 5) [(.slice a25 ((rowB ([114, 101, 113, 117, 101, 115, 116])).length) c26), (.slice a35 ((intB s.cl).length) c36), (.slice a45 ((intB s.seq).length) c46), (.slice (some ⟨b2, 2, none⟩) 32 32), (.slice a55 ((intB s.len).length) c56)] [(rowB ([114, 101, 113, 117, 101, 115, 116])), (intB s.cl), (intB s.seq), s.h.l, (intB s.len)] (ListAt.row (enc := encW) (sz := 1) (xs := [(.slice a25 ((rowB ([114, 101, 113, 117, 101, 115, 116])).length) c26), (.slice a35 ((intB s.cl).length) c36), (.slice a45 ((intB s.seq).length) c46), (.slice (some ⟨b2, 2, none⟩) 32 32), (.slice a55 ((intB s.len).length) c56)]) encW_len (by decide) (H61.at 7 rfl)) (Parts.cons (ListAt.row (enc := encB) (sz := 1) encB_len (by decide) (H61.at 3 rfl)) (Parts.cons (ListAt.row (enc := encB) (sz := 1) encB_len (by decide) (H61.at 4 rfl)) (Parts.cons (ListAt.row (enc := encB) (sz := 1) encB_len (by decide) (H61.at 5 rfl)) (Parts.cons (ListAt.ofHash (cell_runT (H61.at 1 rfl) (by kernel_rfl)) (by decide)) (Parts.cons (ListAt.row (enc := encB) (sz := 1) encB_len (by decide) (H61.at 6 rfl)) Parts.nil))))) (by simp only [List.flatten_cons, List.flatten_nil, List.length_append, List.length_nil]; omega) (by simp)) ?_
 rintro _ w69 ⟨u70, rfl, k71, p72, q73⟩
 have H74 := H61.addU p72 k71 q73
 obtain ⟨a75, c76, rfl⟩ := ownsRow_shape (H74.at 8 rfl)
 refine ⟨_, rfl, ?_⟩
 have S77 := H74.pk [0, 1]
 refine kq _ _ S77 <| hv0 18 S77 2 (.slice a75 (([(rowB ([114, 101, 113, 117, 101, 115, 116])), (intB s.cl), (intB s.seq), s.h.l, (intB s.len)].flatten).length) c76) <| zhf <| ztn <| w_ret <| ze1 (.slice a75 (([(rowB ([114, 101, 113, 117, 101, 115, 116])), (intB s.cl), (intB s.seq), s.h.l, (intB s.len)].flatten).length) c76) ?_
 have hX : ([(rowB ([114, 101, 113, 117, 101, 115, 116])), (intB s.cl), (intB s.seq), s.h.l, (intB s.len)].flatten) = commitB s := by rfl
 exact ⟨_, rfl, (by rw [← hX]; exact H74.at 8 rfl), H74.upd 0 rfl [] (fun _ h => h.elim), (by rw [← hX]; exact H74.fresh 0 rfl (fun _ h => h) 8 rfl rfl)⟩
structure CeR where
 x : CommitD
 sa : Option Addr
 sc : Nat
 S : List StampD
def encCe (c : CeR) : List Value := encCo c.x ++ [.slice c.sa c.S.length c.sc]
theorem encCe_len (c : CeR) : (encCe c).length = 38 := by simp [encCe, encCo, hc_len]
theorem encCe_one (c : CeR) : (encCe c).all (·.oneCell') = true := by
 simp only [encCe, encCo, List.all_append, hc_eq]
 simp [Value.oneCell', byteV]
def ce0 : CeR := ⟨⟨0, 0, hash0, 0, 0, 0⟩, none, 0, []⟩
structure PrR where
 r : Int
 e : Int
 f : Int
 ca : Option Addr
 cc : Nat
 sb : Int
 sm : Int
 C : List CeR
def encPr (p : PrR) : List Value := [.int .i64 p.r, .int .i64 p.e, .int .u64 p.f, .slice p.ca p.C.length p.cc, .int .i64 p.sb, .int .i64 p.sm]
theorem encPr_len (p : PrR) : (encPr p).length = 6 := rfl
theorem encPr_one (p : PrR) : (encPr p).all (·.oneCell') = true := rfl
def pr0 : PrR := ⟨0, 0, 0, none, 0, 0, 0, []⟩
def CeOk (w : World) (c : CeR) : Prop := ListAt encSt 38 w (.slice c.sa c.S.length c.sc) c.S
def PrOk (w : World) (p : PrR) : Prop := ListAt encCe 38 w (.slice p.ca p.C.length p.cc) p.C ∧ ∀ c ∈ p.C, CeOk w c
def sigB (a b : Int) : List UInt8 := [intB a, intB b].flatten
def putStampB (s : StampD) : List UInt8 := [bareB s, sigB s.sb s.sm].flatten
def putCommitB (x : CommitD) : List UInt8 := [nameB x.cl x.seq, x.h.l, intB x.len, sigB x.sb x.sm].flatten
def stampsB (S : List StampD) : List UInt8 := S.flatMap putStampB
def putCertB (c : CeR) : List UInt8 := [putCommitB c.x, intB (c.S.length : Int)].flatten ++ stampsB c.S
def certsB (C : List CeR) : List UInt8 := C.flatMap putCertB
def barePrB (p : PrR) : List UInt8 := [intB p.r, intB p.e, varB p.f.toNat, intB (p.C.length : Int)].flatten ++ certsB p.C
def promB (p : PrR) : List UInt8 := [rowB [112, 114, 111, 109, 105, 115, 101], barePrB p].flatten
def ackB (s : StampD) : List UInt8 := [rowB [97, 99, 107], bareB s].flatten
theorem sigB_len (a b : Int) : (sigB a b).length ≤ 20 := by
 have h1 := intB_len a; have h2 := intB_len b
 simp only [sigB, List.flatten_cons, List.flatten_nil, List.length_append, List.length_nil]; omega
theorem putStampB_len (s : StampD) : (putStampB s).length ≤ 92 := by
 have h1 := bareB_len s; have h2 := sigB_len s.sb s.sm
 simp only [putStampB, List.flatten_cons, List.flatten_nil, List.length_append, List.length_nil]; omega
theorem putCommitB_len (x : CommitD) : (putCommitB x).length ≤ 82 := by
 have h1 := nameB_len x.cl x.seq; have h2 := x.h.len; have h3 := intB_len x.len; have h4 := sigB_len x.sb x.sm
 simp only [putCommitB, List.flatten_cons, List.flatten_nil, List.length_append, List.length_nil]; omega
theorem ackB_len (s : StampD) : (ackB s).length ≤ 100 := by
 have h1 := bareB_len s; have h2 := rowB_len [97, 99, 107]
 simp only [List.length_cons, List.length_nil] at h2
 simp only [ackB, List.flatten_cons, List.flatten_nil, List.length_append, List.length_nil]; omega
section
variable {α : Type} {g : α → List UInt8} {k : Nat}
theorem flatB_le (hg : ∀ x, (g x).length ≤ k) : ∀ (L : List α), (L.flatMap g).length ≤ L.length * k
 | [] => by simp
 | x :: L => by
  have h1 := hg x; have h2 := flatB_le hg L
  rw [List.flatMap_cons, List.length_append, List.length_cons, Nat.succ_mul]; omega
theorem flatB_leM : ∀ (L : List α), (∀ x ∈ L, (g x).length ≤ k) → (L.flatMap g).length ≤ L.length * k
 | [], _ => by simp
 | x :: L, hg => by
  have h1 := hg x (by simp); have h2 := flatB_leM L fun y hy => hg y (by simp [hy])
  rw [List.flatMap_cons, List.length_append, List.length_cons, Nat.succ_mul]; omega
theorem flatB_step (L : List α) (d : α) {i : Nat} (h : i < L.length) : (L.take (i + 1)).flatMap g = (L.take i).flatMap g ++ g (L.getD i d) := by
 have e : L.take (i + 1) = L.take i ++ [L.getD i d] := by
  rw [List.take_add_one, List.getElem?_eq_getElem h, List.getD_eq_getElem?_getD, List.getElem?_eq_getElem h]; rfl
 rw [e, List.flatMap_append]; simp only [List.flatMap_cons, List.flatMap_nil, List.append_nil]
end
theorem stampsB_len (S : List StampD) : (stampsB S).length ≤ S.length * 92 := flatB_le putStampB_len S
theorem putCertB_len {c : CeR} (h : c.S.length ≤ 100) : (putCertB c).length ≤ 9292 := by
 have h1 := putCommitB_len c.x; have h2 := intB_len (c.S.length : Int); have h3 := stampsB_len c.S
 simp only [putCertB, List.flatten_cons, List.flatten_nil, List.length_append, List.length_nil]; omega
theorem certsB_len {C : List CeR} (h : ∀ c ∈ C, c.S.length ≤ 100) : (certsB C).length ≤ C.length * 9292 := flatB_leM C fun c hc => putCertB_len (h c hc)
theorem barePrB_len {p : PrR} (h : ∀ c ∈ p.C, c.S.length ≤ 100) (hl : p.C.length ≤ 64) : (barePrB p).length ≤ 600000 := by
 have h1 := intB_len p.r; have h2 := intB_len p.e; have h3 := varB_len p.f.toNat; have h4 := intB_len (p.C.length : Int); have h5 := certsB_len h
 simp only [barePrB, List.flatten_cons, List.flatten_nil, List.length_append, List.length_nil]; omega
theorem promB_len {p : PrR} (h : ∀ c ∈ p.C, c.S.length ≤ 100) (hl : p.C.length ≤ 64) : (promB p).length ≤ 600100 := by
 have h1 := barePrB_len h hl; have h2 := rowB_len [112, 114, 111, 109, 105, 115, 101]
 simp only [List.length_cons, List.length_nil] at h2
 simp only [promB, List.flatten_cons, List.flatten_nil, List.length_append, List.length_nil]; omega
end Go.Proofs.YtenihpghfdcpkaaGreat
