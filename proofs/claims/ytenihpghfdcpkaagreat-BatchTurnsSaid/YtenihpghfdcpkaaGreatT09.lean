/- WHAT IS PROVED: contracts and plain laws of Rt3. Conditions: stated with each. -/
import Derived.Test.YtenihpghfdcpkaaGreatT05
import Derived.Test.YtenihpghfdcpkaaGreatT08
set_option maxHeartbeats 4000000
set_option maxRecDepth 100000
namespace Go.Proofs.YtenihpghfdcpkaaGreat
open Go.RowKit
abbrev kRt3_0 (p0 : Int) (p1 : Int) : List Value := ([(.int .i64 p0), (.int .i64 p1)] : List Value)
abbrev kRt3_1 (p0 : Option Addr) (p1 : List UInt8) (p2 : Nat) : Ck := rowC 5 1 (.slice p0 p1.length p2) p1.length (p1.flatMap encB)
abbrev kRt3_2 (p0 : Option Addr) (p1 : Nat) (p2 : Nat) (p3 : Option Addr) (p4 : Nat) (p5 : Nat) : List Value := ([(.slice p0 p1 p2), (.slice p3 p4 p5)] : List Value)
abbrev kRt3_3 (p0 : StampD) : List Value := ([(.int .i64 p0.r), (.int .i64 p0.cl), (.int .i64 p0.seq)] : List Value) ++ hc p0.h ++ ([(.int .u64 p0.t), (.int .i64 p0.sb), (.int .i64 p0.sm)] : List Value)
abbrev kRt3_4 (p0 : CommitD) : List Value := ([(.int .i64 p0.cl), (.int .i64 p0.seq)] : List Value) ++ hc p0.h ++ ([(.int .i64 p0.len), (.int .i64 p0.sb), (.int .i64 p0.sm)] : List Value)
abbrev kRt3_5 (p0 : CeR) : List Value := ([(.int .i64 p0.x.cl), (.int .i64 p0.x.seq)] : List Value) ++ hc p0.x.h ++ ([(.int .i64 p0.x.len), (.int .i64 p0.x.sb), (.int .i64 p0.x.sm), (.slice p0.sa p0.S.length p0.sc)] : List Value)
abbrev kRt3_6 (p0 : PrR) : List Value := ([(.int .i64 p0.r), (.int .i64 p0.e), (.int .u64 p0.f), (.slice p0.ca p0.C.length p0.cc), (.int .i64 p0.sb), (.int .i64 p0.sm)] : List Value)
abbrev kRt3_7 (p0 : Option Addr) (p1 : Nat) (p2 : Nat) (p3 : Option Addr) (p4 : Nat) (p5 : Nat) (p6 : Option Addr) (p7 : Nat) (p8 : Nat) (p9 : Option Addr) (p10 : Nat) (p11 : Nat) : List Value := ([(.slice p0 p1 p2), (.slice p3 p4 p5), (.slice p6 p7 p8), (.slice p9 p10 p11)] : List Value)
abbrev kRt3_8 (p0 : CommitD) (p1 : CeR) (p2 : Nat) : List Value := ([(.int .i64 p0.cl), (.int .i64 p0.seq)] : List Value) ++ hc p0.h ++ ([(.int .i64 p0.len), (.int .i64 p0.sb), (.int .i64 p0.sm), (.slice p1.sa p2 p1.sc)] : List Value)
abbrev kRt3_9 : List Value := ([(.int .u8 (112)), (.int .u8 (114)), (.int .u8 (111)), (.int .u8 (109)), (.int .u8 (105)), (.int .u8 (115)), (.int .u8 (101))] : List Value)
def StB (s : StampD) : Prop := (s.r ≤ 9223372036854775807 ∧ s.cl ≤ 9223372036854775807 ∧ s.seq ≤ 9223372036854775807 ∧ 0 ≤ s.t ∧ s.t < 18446744073709551616) ∧ s.sb ≤ 9223372036854775807 ∧ s.sm ≤ 9223372036854775807
def CoB (x : CommitD) : Prop := (x.cl ≤ 9223372036854775807 ∧ x.seq ≤ 9223372036854775807 ∧ x.len ≤ 9223372036854775807) ∧ x.sb ≤ 9223372036854775807 ∧ x.sm ≤ 9223372036854775807
structure CeB (w : World) (c : CeR) : Prop where
 x : CoB c.x
 at_ : ListAt encSt 38 w (.slice c.sa c.S.length c.sc) c.S
 S : ∀ i, i < c.S.length → StB (c.S.getD i stamp0)
 len : c.S.length ≤ 100
theorem CeB.keep {w w0 w' : World} {G : List Ck} {c : CeR} (h : CeB w c) (H : Sat w0 G w') (j : Nat) (hj : G[j]? = some (restC w fun _ => False)) : CeB w' c := ⟨h.x, ListAt.now H j hj h.at_, h.S, h.len⟩
theorem rSig_any (w : World) (a b : Int) (hs : a ≤ 9223372036854775807 ∧ b ≤ 9223372036854775807) :
  Calls Tryz.prog 192 #[(.agg ⟨([(.int .i64 (a)), (.int .i64 (b))] : List Value)⟩)] w fun e w' => ∃ u, e = .returned u ∧ (rowC 5 1 u (sigB a b).length ((sigB a b).flatMap encB)).ok w' ∧ Upd [] w w' ∧ ∀ q_, (rowC 5 1 u (sigB a b).length ((sigB a b).flatMap encB)).fp q_ → w.heap.size ≤ q_ := by
 have H := Sat.start0 w
 refine calls_fr Tryz.func192 rfl 11 rfl (Nat.le_of_ble_eq_true rfl) ?_
 refine zsl <| zwd fun Kq kq => zdb (kRt3_0 a b) H fun b2 w3 H4 => ?_
 refine kq _ _ <| wv 2 (.slice none 0 0) <| znt <| w_seq <| h_start H4 [restC w (fun _ => False), cellC b2 69 (kRt3_0 a b)] 9 rfl (by kernel_rfl) (fun Hx => (Hx.pk [0, 1])) fun w5 H6 S7 => ?_
 refine hv0 0 S7 3 (pt b2 0) <| hv0 1 S7 4 (.int .i64 (a)) ?_ (he := fun _ H' => (zl1 (H'.cell 1 rfl rfl)))
 refine hv0 3 S7 6 (pt b2 1) <| hv0 4 S7 7 (.int .i64 (b)) ?_ (he := fun _ H' => (zl1 (H'.cell 1 rfl rfl)))
 refine zhd0 2 fun Kq kq => ?_
 refine zdc 5 (rInt_any w5 a (by omega)) ?_
 rintro _ w9 ⟨u10, rfl, k11, p12, q13⟩
 have H14 := H6.addU p12 k11 q13
 obtain ⟨a15, c16, rfl⟩ := ownsRow_shape (H14.at 2 rfl)
 refine ⟨_, rfl, ?_⟩
 have S17 := H14.pk [0, 1]
 refine kq _ _ S17 <| zhd0 5 fun Kq kq => ?_
 refine zdc 8 (rInt_any w9 b (by omega)) ?_
 rintro _ w19 ⟨u20, rfl, k21, p22, q23⟩
 have H24 := H14.addU p22 k21 q23
 obtain ⟨a25, c26, rfl⟩ := ownsRow_shape (H24.at 3 rfl)
 refine ⟨_, rfl, ?_⟩
 have S27 := H24.pk [0, 1]
 refine kq _ _ S27 <| zhd0 6 fun Kq kq => ?_
 refine zdbs 84 1 24 (.slice none 0 0) [(0, (.slice a15 ((intB a).length) c16)), (1, (.slice a25 ((intB b).length) c26))] (kRt3_2 a15 ((intB a).length) c16 a25 ((intB b).length) c26) H24 ?_
 intro b29 w30 H31
 have S32 := H31.pk [0, 1]
 refine kq _ _ S32 <| zhd0 7 fun Kq kq => ?_
 have l34 := intB_len a
 have l35 := intB_len b
 refine zdc 10 (rJoin_any w30 (.slice (some ⟨b29, 0, none⟩) 2 2) [(.slice a15 ((intB a).length) c16), (.slice a25 ((intB b).length) c26)] [(intB a), (intB b)] (ListAt.row (enc := encW) (sz := 1) (xs := [(.slice a15 ((intB a).length) c16), (.slice a25 ((intB b).length) c26)]) encW_len (by decide) (H31.at 4 rfl)) (Parts.cons (ListAt.row (enc := encB) (sz := 1) encB_len (by decide) (H31.at 2 rfl)) (Parts.cons (ListAt.row (enc := encB) (sz := 1) encB_len (by decide) (H31.at 3 rfl)) Parts.nil)) (by simp only [List.flatten_cons, List.flatten_nil, List.length_append, List.length_nil]; omega) (by simp)) ?_
 rintro _ w36 ⟨u37, rfl, k38, p39, q40⟩
 have H41 := H31.addU p39 k38 q40
 obtain ⟨a42, c43, rfl⟩ := ownsRow_shape (H41.at 5 rfl)
 refine ⟨_, rfl, ?_⟩
 have S44 := H41.pk [0, 1]
 refine kq _ _ S44 <| hv0 8 S44 2 (.slice a42 (([(intB a), (intB b)].flatten).length) c43) <| zhf <| ztn <| w_ret <| ze1 (.slice a42 (([(intB a), (intB b)].flatten).length) c43) ?_
 have hX : ([(intB a), (intB b)].flatten) = sigB a b := by rfl
 exact ⟨_, rfl, (by rw [← hX]; exact H41.at 5 rfl), H41.upd 0 rfl [] (fun _ h => h.elim), (by rw [← hX]; exact H41.fresh 0 rfl (fun _ h => h) 5 rfl rfl)⟩
theorem rPutStamp_any (w : World) (s : StampD) (hs : StB s) :
  Calls Tryz.prog 148 #[(.agg ⟨(([(.int .i64 (s.r)), (.int .i64 (s.cl)), (.int .i64 (s.seq))] : List Value) ++ hc s.h ++ ([(.int .u64 (s.t)), (.int .i64 (s.sb)), (.int .i64 (s.sm))] : List Value))⟩)] w fun e w' => ∃ u, e = .returned u ∧ (rowC 5 1 u (putStampB s).length ((putStampB s).flatMap encB)).ok w' ∧ Upd [] w w' ∧ ∀ q_, (rowC 5 1 u (putStampB s).length ((putStampB s).flatMap encB)).fp q_ → w.heap.size ≤ q_ := by
 unfold StB at hs
 have H := Sat.start0 w
 refine calls_fr Tryz.func148 rfl 10 rfl (Nat.le_of_ble_eq_true rfl) ?_
 refine zsl <| zwd fun Kq kq => zdb (kRt3_3 s) H fun b2 w3 H4 => ?_
 refine kq _ _ <| wv 2 (.slice none 0 0) <| znt <| w_seq <| h_start H4 [restC w (fun _ => False), cellC b2 149 (kRt3_3 s)] 8 rfl (by kernel_rfl) (fun Hx => (Hx.pk [0, 1])) fun w5 H6 S7 => ?_
 refine hv0 0 S7 3 (.agg ⟨(kRt3_3 s)⟩) ?_ (he := fun _ H' => (zlN (vs := (kRt3_3 s)) (H'.at 1 rfl)))
 refine hv0 2 S7 5 (pt b2 36) <| hv0 3 S7 6 (.agg ⟨(kRt3_0 s.sb s.sm)⟩) ?_ (he := fun _ H' => (zlN (vs := (kRt3_0 s.sb s.sm)) (H'.at 1 rfl)))
 refine zhd0 1 fun Kq kq => ?_
 refine zdc 4 (rBare_any w5 s hs.1) ?_
 rintro _ w9 ⟨u10, rfl, k11, p12, q13⟩
 have H14 := H6.addU p12 k11 q13
 obtain ⟨a15, c16, rfl⟩ := ownsRow_shape (H14.at 2 rfl)
 refine ⟨_, rfl, ?_⟩
 have S17 := H14.pk [0, 1]
 refine kq _ _ S17 <| zhd0 4 fun Kq kq => ?_
 refine zdc 7 (rSig_any w9 s.sb s.sm (by omega)) ?_
 rintro _ w19 ⟨u20, rfl, k21, p22, q23⟩
 have H24 := H14.addU p22 k21 q23
 obtain ⟨a25, c26, rfl⟩ := ownsRow_shape (H24.at 3 rfl)
 refine ⟨_, rfl, ?_⟩
 have S27 := H24.pk [0, 1]
 refine kq _ _ S27 <| zhd0 5 fun Kq kq => ?_
 refine zdbs 84 1 24 (.slice none 0 0) [(0, (.slice a15 ((bareB s).length) c16)), (1, (.slice a25 ((sigB s.sb s.sm).length) c26))] (kRt3_2 a15 ((bareB s).length) c16 a25 ((sigB s.sb s.sm).length) c26) H24 ?_
 intro b29 w30 H31
 have S32 := H31.pk [0, 1]
 refine kq _ _ S32 <| zhd0 6 fun Kq kq => ?_
 have l34 := bareB_len s
 have l35 := sigB_len s.sb s.sm
 refine zdc 9 (rJoin_any w30 (.slice (some ⟨b29, 0, none⟩) 2 2) [(.slice a15 ((bareB s).length) c16), (.slice a25 ((sigB s.sb s.sm).length) c26)] [(bareB s), (sigB s.sb s.sm)] (ListAt.row (enc := encW) (sz := 1) (xs := [(.slice a15 ((bareB s).length) c16), (.slice a25 ((sigB s.sb s.sm).length) c26)]) encW_len (by decide) (H31.at 4 rfl)) (Parts.cons (ListAt.row (enc := encB) (sz := 1) encB_len (by decide) (H31.at 2 rfl)) (Parts.cons (ListAt.row (enc := encB) (sz := 1) encB_len (by decide) (H31.at 3 rfl)) Parts.nil)) (by simp only [List.flatten_cons, List.flatten_nil, List.length_append, List.length_nil]; omega) (by simp)) ?_
 rintro _ w36 ⟨u37, rfl, k38, p39, q40⟩
 have H41 := H31.addU p39 k38 q40
 obtain ⟨a42, c43, rfl⟩ := ownsRow_shape (H41.at 5 rfl)
 refine ⟨_, rfl, ?_⟩
 have S44 := H41.pk [0, 1]
 refine kq _ _ S44 <| hv0 7 S44 2 (.slice a42 (([(bareB s), (sigB s.sb s.sm)].flatten).length) c43) <| zhf <| ztn <| w_ret <| ze1 (.slice a42 (([(bareB s), (sigB s.sb s.sm)].flatten).length) c43) ?_
 have hX : ([(bareB s), (sigB s.sb s.sm)].flatten) = putStampB s := by rfl
 exact ⟨_, rfl, (by rw [← hX]; exact H41.at 5 rfl), H41.upd 0 rfl [] (fun _ h => h.elim), (by rw [← hX]; exact H41.fresh 0 rfl (fun _ h => h) 5 rfl rfl)⟩
theorem rPutCommit_any (w : World) (s : CommitD) (hs : CoB s) :
  Calls Tryz.prog 147 #[(.agg ⟨(([(.int .i64 (s.cl)), (.int .i64 (s.seq))] : List Value) ++ hc s.h ++ ([(.int .i64 (s.len)), (.int .i64 (s.sb)), (.int .i64 (s.sm))] : List Value))⟩)] w fun e w' => ∃ u, e = .returned u ∧ (rowC 5 1 u (putCommitB s).length ((putCommitB s).flatMap encB)).ok w' ∧ Upd [] w w' ∧ ∀ q_, (rowC 5 1 u (putCommitB s).length ((putCommitB s).flatMap encB)).fp q_ → w.heap.size ≤ q_ := by
 unfold CoB at hs
 have H := Sat.start0 w
 refine calls_fr Tryz.func147 rfl 16 rfl (Nat.le_of_ble_eq_true rfl) ?_
 refine zsl <| zwd fun Kq kq => zdb (kRt3_4 s) H fun b2 w3 H4 => ?_
 refine kq _ _ <| wv 2 (.slice none 0 0) <| znt <| w_seq <| h_start H4 [restC w (fun _ => False), cellC b2 73 (kRt3_4 s)] 14 rfl (by kernel_rfl) (fun Hx => (Hx.pk [0, 1])) fun w5 H6 S7 => ?_
 refine hv0 0 S7 3 (pt b2 0) <| hv0 1 S7 4 (.agg ⟨(kRt3_0 s.cl s.seq)⟩) ?_ (he := fun _ H' => (zlN (vs := (kRt3_0 s.cl s.seq)) (H'.at 1 rfl)))
 refine hv0 3 S7 6 (pt b2 2) <| hv0 4 S7 7 (.slice (some ⟨b2, 2, none⟩) 32 32) <| hv0 5 S7 8 (pt b2 34) <| hv0 6 S7 9 (.int .i64 (s.len)) ?_ (he := fun _ H' => (zl1 (H'.cell 1 rfl (by kernel_rfl))))
 refine hv0 8 S7 11 (pt b2 35) <| hv0 9 S7 12 (.agg ⟨(kRt3_0 s.sb s.sm)⟩) ?_ (he := fun _ H' => (zlN (vs := (kRt3_0 s.sb s.sm)) (H'.at 1 rfl)))
 refine zhd0 2 fun Kq kq => ?_
 refine zdc 5 (rName_any w5 s.cl s.seq (by omega)) ?_
 rintro _ w9 ⟨u10, rfl, k11, p12, q13⟩
 have H14 := H6.addU p12 k11 q13
 obtain ⟨a15, c16, rfl⟩ := ownsRow_shape (H14.at 2 rfl)
 refine ⟨_, rfl, ?_⟩
 have S17 := H14.pk [0, 1]
 refine kq _ _ S17 <| zhd0 7 fun Kq kq => ?_
 refine zdc 10 (rInt_any w9 s.len (by omega)) ?_
 rintro _ w19 ⟨u20, rfl, k21, p22, q23⟩
 have H24 := H14.addU p22 k21 q23
 obtain ⟨a25, c26, rfl⟩ := ownsRow_shape (H24.at 3 rfl)
 refine ⟨_, rfl, ?_⟩
 have S27 := H24.pk [0, 1]
 refine kq _ _ S27 <| zhd0 10 fun Kq kq => ?_
 refine zdc 13 (rSig_any w19 s.sb s.sm (by omega)) ?_
 rintro _ w29 ⟨u30, rfl, k31, p32, q33⟩
 have H34 := H24.addU p32 k31 q33
 obtain ⟨a35, c36, rfl⟩ := ownsRow_shape (H34.at 4 rfl)
 refine ⟨_, rfl, ?_⟩
 have S37 := H34.pk [0, 1]
 refine kq _ _ S37 <| zhd0 11 fun Kq kq => ?_
 refine zdbs 84 1 24 (.slice none 0 0) [(0, (.slice a15 ((nameB s.cl s.seq).length) c16)), (1, (.slice (some ⟨b2, 2, none⟩) 32 32)), (2, (.slice a25 ((intB s.len).length) c26)), (3, (.slice a35 ((sigB s.sb s.sm).length) c36))] ([(.slice a15 ((nameB s.cl s.seq).length) c16), (.slice (some ⟨b2, 2, none⟩) 32 32), (.slice a25 ((intB s.len).length) c26), (.slice a35 ((sigB s.sb s.sm).length) c36)] : List Value) H34 ?_
 intro b39 w40 H41
 have S42 := H41.pk [0, 1]
 refine kq _ _ S42 <| zhd0 12 fun Kq kq => ?_
 have l44 := nameB_len s.cl s.seq
 have l45 := s.h.len
 have l46 := intB_len s.len
 have l47 := sigB_len s.sb s.sm
 refine zdc 15 (rJoin_any w40 (.slice (some ⟨b39, 0, none⟩) 4 4) [(.slice a15 ((nameB s.cl s.seq).length) c16), (.slice (some ⟨b2, 2, none⟩) 32 32), (.slice a25 ((intB s.len).length) c26), (.slice a35 ((sigB s.sb s.sm).length) c36)] [(nameB s.cl s.seq), s.h.l, (intB s.len), (sigB s.sb s.sm)] (ListAt.row (enc := encW) (sz := 1) (xs := [(.slice a15 ((nameB s.cl s.seq).length) c16), (.slice (some ⟨b2, 2, none⟩) 32 32), (.slice a25 ((intB s.len).length) c26), (.slice a35 ((sigB s.sb s.sm).length) c36)]) encW_len (by decide) (H41.at 5 rfl)) (Parts.cons (ListAt.row (enc := encB) (sz := 1) encB_len (by decide) (H41.at 2 rfl)) (Parts.cons (ListAt.ofHash (cell_runT (H41.at 1 rfl) (by kernel_rfl)) (by decide)) (Parts.cons (ListAt.row (enc := encB) (sz := 1) encB_len (by decide) (H41.at 3 rfl)) (Parts.cons (ListAt.row (enc := encB) (sz := 1) encB_len (by decide) (H41.at 4 rfl)) Parts.nil)))) (by simp only [List.flatten_cons, List.flatten_nil, List.length_append, List.length_nil]; omega) (by simp)) ?_
 rintro _ w48 ⟨u49, rfl, k50, p51, q52⟩
 have H53 := H41.addU p51 k50 q52
 obtain ⟨a54, c55, rfl⟩ := ownsRow_shape (H53.at 6 rfl)
 refine ⟨_, rfl, ?_⟩
 have S56 := H53.pk [0, 1]
 refine kq _ _ S56 <| hv0 13 S56 2 (.slice a54 (([(nameB s.cl s.seq), s.h.l, (intB s.len), (sigB s.sb s.sm)].flatten).length) c55) <| zhf <| ztn <| w_ret <| ze1 (.slice a54 (([(nameB s.cl s.seq), s.h.l, (intB s.len), (sigB s.sb s.sm)].flatten).length) c55) ?_
 have hX : ([(nameB s.cl s.seq), s.h.l, (intB s.len), (sigB s.sb s.sm)].flatten) = putCommitB s := by rfl
 exact ⟨_, rfl, (by rw [← hX]; exact H53.at 6 rfl), H53.upd 0 rfl [] (fun _ h => h.elim), (by rw [← hX]; exact H53.fresh 0 rfl (fun _ h => h) 6 rfl rfl)⟩
theorem rBareAck_any (w : World) (s : StampD) (hs : (s.r ≤ 9223372036854775807 ∧ s.cl ≤ 9223372036854775807 ∧ s.seq ≤ 9223372036854775807 ∧ 0 ≤ s.t ∧ s.t < 18446744073709551616)) :
  Calls Tryz.prog 87 #[(.agg ⟨(([(.int .i64 (s.r)), (.int .i64 (s.cl)), (.int .i64 (s.seq))] : List Value) ++ hc s.h ++ ([(.int .u64 (s.t)), (.int .i64 (s.sb)), (.int .i64 (s.sm))] : List Value))⟩)] w fun e w' => ∃ u, e = .returned u ∧ (rowC 5 1 u (bareB s).length ((bareB s).flatMap encB)).ok w' ∧ Upd [] w w' ∧ ∀ q_, (rowC 5 1 u (bareB s).length ((bareB s).flatMap encB)).fp q_ → w.heap.size ≤ q_ := by
 have H := Sat.start0 w
 refine calls_fr Tryz.func87 rfl 16 rfl (Nat.le_of_ble_eq_true rfl) ?_
 refine zsl <| zwd fun Kq kq => zdb (kRt3_3 s) H fun b2 w3 H4 => ?_
 refine kq _ _ <| wv 2 (.slice none 0 0) <| znt <| w_seq <| h_start H4 [restC w (fun _ => False), cellC b2 113 (kRt3_3 s)] 14 rfl (by kernel_rfl) (fun Hx => (Hx.pk [0, 1])) fun w5 H6 S7 => ?_
 refine hv0 0 S7 3 (pt b2 0) <| hv0 1 S7 4 (.int .i64 (s.r)) ?_ (he := fun _ H' => (zl1 (H'.cell 1 rfl (by kernel_rfl))))
 refine hv0 3 S7 6 (pt b2 1) <| hv0 4 S7 7 (.agg ⟨(kRt3_0 s.cl s.seq)⟩) ?_ (he := fun _ H' => (zlN (vs := (kRt3_0 s.cl s.seq)) (H'.at 1 rfl)))
 refine hv0 6 S7 9 (pt b2 3) <| hv0 7 S7 10 (.slice (some ⟨b2, 3, none⟩) 32 32) <| hv0 8 S7 11 (pt b2 35) <| hv0 9 S7 12 (.int .u64 (s.t)) ?_ (he := fun _ H' => (zl1 (H'.cell 1 rfl (by kernel_rfl))))
 refine zhd0 2 fun Kq kq => ?_
 refine zdc 5 (rInt_any w5 s.r (by omega)) ?_
 rintro _ w9 ⟨u10, rfl, k11, p12, q13⟩
 have H14 := H6.addU p12 k11 q13
 obtain ⟨a15, c16, rfl⟩ := ownsRow_shape (H14.at 2 rfl)
 refine ⟨_, rfl, ?_⟩
 have S17 := H14.pk [0, 1]
 refine kq _ _ S17 <| zhd0 5 fun Kq kq => ?_
 refine zdc 8 (rName_any w9 s.cl s.seq (by omega)) ?_
 rintro _ w19 ⟨u20, rfl, k21, p22, q23⟩
 have H24 := H14.addU p22 k21 q23
 obtain ⟨a25, c26, rfl⟩ := ownsRow_shape (H24.at 3 rfl)
 refine ⟨_, rfl, ?_⟩
 have S27 := H24.pk [0, 1]
 refine kq _ _ S27 <| zhd0 10 fun Kq kq => ?_
 refine d_call (d := 13) rfl (by rw [show s.t = ((s.t.toNat : Nat) : Int) by omega]; kernel_rfl) (rNum_any w19 s.t.toNat (by omega)) ?_
 rintro _ w29 ⟨u30, rfl, k31, p32, q33⟩
 have H34 := H24.addU p32 k31 q33
 obtain ⟨a35, c36, rfl⟩ := ownsRow_shape (H34.at 4 rfl)
 refine ⟨_, rfl, ?_⟩
 have S37 := H34.pk [0, 1]
 refine kq _ _ S37 <| zhd0 11 fun Kq kq => ?_
 refine zdbs 84 1 24 (.slice none 0 0) [(0, (.slice a15 ((intB s.r).length) c16)), (1, (.slice a25 ((nameB s.cl s.seq).length) c26)), (2, (.slice (some ⟨b2, 3, none⟩) 32 32)), (3, (.slice a35 ((varB s.t.toNat).length) c36))] ([(.slice a15 ((intB s.r).length) c16), (.slice a25 ((nameB s.cl s.seq).length) c26), (.slice (some ⟨b2, 3, none⟩) 32 32), (.slice a35 ((varB s.t.toNat).length) c36)] : List Value) H34 ?_
 intro b39 w40 H41
 have S42 := H41.pk [0, 1]
 refine kq _ _ S42 <| zhd0 12 fun Kq kq => ?_
 have l44 := intB_len s.r
 have l45 := nameB_len s.cl s.seq
 have l46 := s.h.len
 have l47 := varB_len s.t.toNat
 refine zdc 15 (rJoin_any w40 (.slice (some ⟨b39, 0, none⟩) 4 4) [(.slice a15 ((intB s.r).length) c16), (.slice a25 ((nameB s.cl s.seq).length) c26), (.slice (some ⟨b2, 3, none⟩) 32 32), (.slice a35 ((varB s.t.toNat).length) c36)] [(intB s.r), (nameB s.cl s.seq), s.h.l, (varB s.t.toNat)] (ListAt.row (enc := encW) (sz := 1) (xs := [(.slice a15 ((intB s.r).length) c16), (.slice a25 ((nameB s.cl s.seq).length) c26), (.slice (some ⟨b2, 3, none⟩) 32 32), (.slice a35 ((varB s.t.toNat).length) c36)]) encW_len (by decide) (H41.at 5 rfl)) (Parts.cons (ListAt.row (enc := encB) (sz := 1) encB_len (by decide) (H41.at 2 rfl)) (Parts.cons (ListAt.row (enc := encB) (sz := 1) encB_len (by decide) (H41.at 3 rfl)) (Parts.cons (ListAt.ofHash (cell_runT (H41.at 1 rfl) (by kernel_rfl)) (by decide)) (Parts.cons (ListAt.row (enc := encB) (sz := 1) encB_len (by decide) (H41.at 4 rfl)) Parts.nil)))) (by simp only [List.flatten_cons, List.flatten_nil, List.length_append, List.length_nil]; omega) (by simp)) ?_
 rintro _ w48 ⟨u49, rfl, k50, p51, q52⟩
 have H53 := H41.addU p51 k50 q52
 obtain ⟨a54, c55, rfl⟩ := ownsRow_shape (H53.at 6 rfl)
 refine ⟨_, rfl, ?_⟩
 have S56 := H53.pk [0, 1]
 refine kq _ _ S56 <| hv0 13 S56 2 (.slice a54 (([(intB s.r), (nameB s.cl s.seq), s.h.l, (varB s.t.toNat)].flatten).length) c55) <| zhf <| ztn <| w_ret <| ze1 (.slice a54 (([(intB s.r), (nameB s.cl s.seq), s.h.l, (varB s.t.toNat)].flatten).length) c55) ?_
 have hX : ([(intB s.r), (nameB s.cl s.seq), s.h.l, (varB s.t.toNat)].flatten) = bareB s := by rfl
 exact ⟨_, rfl, (by rw [← hX]; exact H53.at 6 rfl), H53.upd 0 rfl [] (fun _ h => h.elim), (by rw [← hX]; exact H53.fresh 0 rfl (fun _ h => h) 6 rfl rfl)⟩
theorem rAckText_any (w : World) (s : StampD) (hs : (s.r ≤ 9223372036854775807 ∧ s.cl ≤ 9223372036854775807 ∧ s.seq ≤ 9223372036854775807 ∧ 0 ≤ s.t ∧ s.t < 18446744073709551616)) :
  Calls Tryz.prog 36 #[(.agg ⟨(([(.int .i64 (s.r)), (.int .i64 (s.cl)), (.int .i64 (s.seq))] : List Value) ++ hc s.h ++ ([(.int .u64 (s.t)), (.int .i64 (s.sb)), (.int .i64 (s.sm))] : List Value))⟩)] w fun e w' => ∃ u, e = .returned u ∧ (rowC 5 1 u (ackB s).length ((ackB s).flatMap encB)).ok w' ∧ Upd [] w w' ∧ ∀ q_, (rowC 5 1 u (ackB s).length ((ackB s).flatMap encB)).fp q_ → w.heap.size ≤ q_ := by
 have H := Sat.start0 w
 refine calls_fr Tryz.func36 rfl 10 rfl (Nat.le_of_ble_eq_true rfl) ?_
 refine zsl <| zwd fun Kq kq => zdb (kRt3_3 s) H fun b2 w3 H4 => ?_
 refine kq _ _ <| wv 2 (.slice none 0 0) <| znt <| w_seq <| h_start H4 [restC w (fun _ => False), cellC b2 113 (kRt3_3 s)] 8 rfl (by kernel_rfl) (fun Hx => (Hx.pk [0, 1])) fun w5 H6 S7 => ?_
 refine hv0 3 S7 6 (.agg ⟨(kRt3_3 s)⟩) ?_ (he := fun _ H' => (zlN (vs := (kRt3_3 s)) (H'.at 1 rfl)))
 refine zhd0 0 fun Kq kq => ?_
 refine zdbs 5 1 1 (.int .u8 (0)) [(0, (.int .u8 (97))), (1, (.int .u8 (99))), (2, (.int .u8 (107)))] ([(.int .u8 (97)), (.int .u8 (99)), (.int .u8 (107))] : List Value) H6 ?_
 intro b9 w10 (H11 : Sat w [restC w (fun _ => False), cellC b2 113 (kRt3_3 s), rowC 5 1 (.slice (some ⟨b9, 0, none⟩) 3 3) 3 ([(.int .u8 (97)), (.int .u8 (99)), (.int .u8 (107))] : List Value)] w10)
 have H12 : Sat w [restC w (fun _ => False), cellC b2 113 (kRt3_3 s), rowC 5 1 (.slice (some ⟨b9, 0, none⟩) 3 3) 3 ([97, 99, 107].flatMap encB)] w10 := H11.cast (by rw [show (([(.int .u8 (97)), (.int .u8 (99)), (.int .u8 (107))] : List Value) : List Value) = [97, 99, 107].flatMap encB from rfl])
 have S13 := H12.pk [0, 1]
 refine kq _ _ S13 <| zhd0 1 fun Kq kq => ?_
 refine d_convMark (e := 5) (s := [97, 99, 107]) rfl H12 2 rfl (by kernel_rfl) (by kernel_rfl) rfl ?_
 intro w15 H16
 have S17 := H16.pk [0, 1]
 refine kq _ _ S17 <| zhd0 2 fun Kq kq => ?_
 refine zdc 5 (rRow_any w15 (.slice (some ⟨b9, 0, none⟩) 3 3) ([97, 99, 107]) (ListAt.ofTxt (H16.at 2 rfl)) (by simp)) ?_
 rintro _ w19 ⟨u20, rfl, k21, p22, q23⟩
 have H24 := H16.addU p22 k21 q23
 obtain ⟨a25, c26, rfl⟩ := ownsRow_shape (H24.at 3 rfl)
 refine ⟨_, rfl, ?_⟩
 have S27 := H24.pk [0, 1]
 refine kq _ _ S27 <| zhd0 4 fun Kq kq => ?_
 refine zdc 7 (rBareAck_any w19 s hs) ?_
 rintro _ w29 ⟨u30, rfl, k31, p32, q33⟩
 have H34 := H24.addU p32 k31 q33
 obtain ⟨a35, c36, rfl⟩ := ownsRow_shape (H34.at 4 rfl)
 refine ⟨_, rfl, ?_⟩
 have S37 := H34.pk [0, 1]
 refine kq _ _ S37 <| zhd0 5 fun Kq kq => ?_
 refine zdbs 84 1 24 (.slice none 0 0) [(0, (.slice a25 ((rowB ([97, 99, 107])).length) c26)), (1, (.slice a35 ((bareB s).length) c36))] (kRt3_2 a25 ((rowB ([97, 99, 107])).length) c26 a35 ((bareB s).length) c36) H34 ?_
 intro b39 w40 H41
 have S42 := H41.pk [0, 1]
 refine kq _ _ S42 <| zhd0 6 fun Kq kq => ?_
 have l44 := rowB_len ([97, 99, 107])
 simp only [List.length_cons, List.length_nil] at l44
 have l45 := bareB_len s
 refine zdc 9 (rJoin_any w40 (.slice (some ⟨b39, 0, none⟩) 2 2) [(.slice a25 ((rowB ([97, 99, 107])).length) c26), (.slice a35 ((bareB s).length) c36)] [(rowB ([97, 99, 107])), (bareB s)] (ListAt.row (enc := encW) (sz := 1) (xs := [(.slice a25 ((rowB ([97, 99, 107])).length) c26), (.slice a35 ((bareB s).length) c36)]) encW_len (by decide) (H41.at 5 rfl)) (Parts.cons (ListAt.row (enc := encB) (sz := 1) encB_len (by decide) (H41.at 3 rfl)) (Parts.cons (ListAt.row (enc := encB) (sz := 1) encB_len (by decide) (H41.at 4 rfl)) Parts.nil)) (by simp only [List.flatten_cons, List.flatten_nil, List.length_append, List.length_nil]; omega) (by simp)) ?_
 rintro _ w46 ⟨u47, rfl, k48, p49, q50⟩
 have H51 := H41.addU p49 k48 q50
 obtain ⟨a52, c53, rfl⟩ := ownsRow_shape (H51.at 6 rfl)
 refine ⟨_, rfl, ?_⟩
 have S54 := H51.pk [0, 1]
 refine kq _ _ S54 <| hv0 7 S54 2 (.slice a52 (([(rowB ([97, 99, 107])), (bareB s)].flatten).length) c53) <| zhf <| ztn <| w_ret <| ze1 (.slice a52 (([(rowB ([97, 99, 107])), (bareB s)].flatten).length) c53) ?_
 have hX : ([(rowB ([97, 99, 107])), (bareB s)].flatten) = ackB s := by rfl
 exact ⟨_, rfl, (by rw [← hX]; exact H51.at 6 rfl), H51.upd 0 rfl [] (fun _ h => h.elim), (by rw [← hX]; exact H51.fresh 0 rfl (fun _ h => h) 6 rfl rfl)⟩
theorem rPutCert_any (w : World) (c : CeR) (hB : CeB w c) :
  Calls Tryz.prog 118 #[(.agg ⟨(([(.int .i64 (c.x.cl)), (.int .i64 (c.x.seq))] : List Value) ++ hc c.x.h ++ ([(.int .i64 (c.x.len)), (.int .i64 (c.x.sb)), (.int .i64 (c.x.sm)), (.slice c.sa c.S.length c.sc)] : List Value))⟩)] w fun e w' => ∃ u, e = .returned u ∧ (rowC 5 1 u (putCertB c).length ((putCertB c).flatMap encB)).ok w' ∧ Upd [] w w' ∧ ∀ q_, (rowC 5 1 u (putCertB c).length ((putCertB c).flatMap encB)).fp q_ → w.heap.size ≤ q_ := by
 have hS := hB.at_
 have hlS := hB.len
 have hx := hB.x
 unfold CoB at hx
 have H := Sat.start0 w
 refine calls_fr Tryz.func118 rfl 30 rfl (Nat.le_of_ble_eq_true rfl) ?_
 refine zsl <| zwd fun Kq kq => zdb (kRt3_5 c) H fun b2 w3 H4 => ?_
 refine kq _ _ <| wv 2 (.slice none 0 0) <| znt <| w_seq <| h_start H4 [restC w (fun _ => False), cellC b2 76 (kRt3_5 c)] 10 rfl (by kernel_rfl) (fun Hx => (Hx.pk [0, 1])) fun w5 H6 S7 => ?_
 refine hv0 0 S7 5 (pt b2 0) <| hv0 1 S7 6 (.agg ⟨(kRt3_4 c.x)⟩) ?_ (he := fun _ H' => (zlN (vs := (kRt3_4 c.x)) (H'.at 1 rfl)))
 refine hv0 3 S7 8 (pt b2 37) <| hv0 4 S7 9 (.slice c.sa c.S.length c.sc) ?_ (he := fun _ H' => (zl1 (H'.cell 1 rfl (by kernel_rfl))))
 refine h_val 5 rfl (by kernel_rfl) (by kernel_rfl) (by kernel_rfl) (fun _ _ _ h => h) S7 (wants0 rfl) (d := 10) (v := (.int .i64 ((c.S.length : Int)))) rfl (fun _ H' => (by kernel_rfl)) ?_
 refine zhd0 2 fun Kq kq => ?_
 refine zdc 7 (rPutCommit_any w5 c.x hB.x) ?_
 rintro _ w9 ⟨u10, rfl, k11, p12, q13⟩
 have H14 := H6.addU p12 k11 q13
 obtain ⟨a15, c16, rfl⟩ := ownsRow_shape (H14.at 2 rfl)
 refine ⟨_, rfl, ?_⟩
 have S17 := H14.pk [0, 1]
 refine kq _ _ S17 <| zhd0 6 fun Kq kq => ?_
 refine zdc 11 (rInt_any w9 (c.S.length : Int) (by omega)) ?_
 rintro _ w19 ⟨u20, rfl, k21, p22, q23⟩
 have H24 := H14.addU p22 k21 q23
 obtain ⟨a25, c26, rfl⟩ := ownsRow_shape (H24.at 3 rfl)
 refine ⟨_, rfl, ?_⟩
 have S27 := H24.pk [0, 1]
 refine kq _ _ S27 <| zhd0 7 fun Kq kq => ?_
 refine zdbs 84 1 24 (.slice none 0 0) [(0, (.slice a15 ((putCommitB c.x).length) c16)), (1, (.slice a25 ((intB (c.S.length : Int)).length) c26))] (kRt3_2 a15 ((putCommitB c.x).length) c16 a25 ((intB (c.S.length : Int)).length) c26) H24 ?_
 intro b29 w30 H31
 have S32 := H31.pk [0, 1]
 refine kq _ _ S32 <| zhd0 8 fun Kq kq => ?_
 have l34 := putCommitB_len c.x
 have l35 := intB_len (c.S.length : Int)
 refine zdc 13 (rJoin_any w30 (.slice (some ⟨b29, 0, none⟩) 2 2) [(.slice a15 ((putCommitB c.x).length) c16), (.slice a25 ((intB (c.S.length : Int)).length) c26)] [(putCommitB c.x), (intB (c.S.length : Int))] (ListAt.row (enc := encW) (sz := 1) (xs := [(.slice a15 ((putCommitB c.x).length) c16), (.slice a25 ((intB (c.S.length : Int)).length) c26)]) encW_len (by decide) (H31.at 4 rfl)) (Parts.cons (ListAt.row (enc := encB) (sz := 1) encB_len (by decide) (H31.at 2 rfl)) (Parts.cons (ListAt.row (enc := encB) (sz := 1) encB_len (by decide) (H31.at 3 rfl)) Parts.nil)) (by simp only [List.flatten_cons, List.flatten_nil, List.length_append, List.length_nil]; omega) (by simp)) ?_
 rintro _ w36 ⟨u37, rfl, k38, p39, q40⟩
 have H41 := H31.addU p39 k38 q40
 obtain ⟨a42, c43, rfl⟩ := ownsRow_shape (H41.at 5 rfl)
 refine ⟨_, rfl, ?_⟩
 have S44 := H41.pk [0, 1]
 refine kq _ _ S44 <| hv0 9 S44 3 (.slice a42 (([(putCommitB c.x), (intB (c.S.length : Int))].flatten).length) c43) <| zhf <| ztn <| w_seq <| zsl <| wv 14 (pt b2 37) <| zw1 15 (.slice c.sa c.S.length c.sc) (H41.cell 1 rfl (by kernel_rfl)) <| wv 16 (.int .i64 ((c.S.length : Int))) <| wv 17 (.int .i64 (0)) ?_
 refine znt <| w_block ?_
 obtain ⟨hd, hhd⟩ : ∃ hd, hd = ([(putCommitB c.x), (intB (c.S.length : Int))].flatten) := ⟨_, rfl⟩
 have hdl : hd.length ≤ 200 := by rw [hhd]; have q1 := putCommitB_len c.x; have q2 := intB_len (c.S.length : Int); simp only [List.flatten_cons, List.flatten_nil, List.length_append, List.length_nil]; omega
 refine wp_round ([3, 4] ++ List.range' 17 12) (fun F_ W_ m_ => ∃ (i : Nat) (a : Option Addr) (c_ : Nat) (D : List UInt8), F_ 17 = (.int .i64 ((i : Int))) ∧ F_ 3 = (.slice a D.length c_) ∧ (i ≤ c.S.length) ∧ (D = hd ++ (c.S.take i).flatMap putStampB) ∧ Sat w [restC w (fun _ => False), cellC b2 76 (kRt3_5 c), (kRt3_1 a15 (putCommitB c.x) c16), (kRt3_1 a25 (intB (c.S.length : Int)) c26), rowC 84 1 (.slice (some ⟨b29, 0, none⟩) 2 2) 2 (kRt3_2 a15 ((putCommitB c.x).length) c16 a25 ((intB (c.S.length : Int)).length) c26), (kRt3_1 a D c_)] W_ ∧ m_ = c.S.length - i) _ ⟨0, a42, c43, ([(putCommitB c.x), (intB (c.S.length : Int))].flatten), (show ((.int .i64 (0)) : Value) = _ by first | rfl | go_num), (by first | rfl | go_num), (Nat.zero_le _), (by rw [hhd]; simp), H41, rfl⟩ ?_
 rintro g45 w46 _ ⟨i, a, c_, D, v48, v49, hi, hD, H47, rfl⟩
 refine wp_know 17 _ v48 ?_
 refine wp_know 3 _ v49 ?_
 have hDl : D.length ≤ 9500 := by rw [hD, List.length_append]; have q1 := flatB_le putStampB_len (c.S.take i); rw [List.length_take] at q1; omega
 have q2 := putStampB_len (c.S.getD i stamp0)
 refine zsl <| wv 18 (.bool (decide ((i : Int) < (c.S.length : Int)))) <| znt <| w_seq ?_
 refine (bsplit (decide ((i : Int) < (c.S.length : Int)))).elim (fun b51 => ?_) (fun b51 => ?_)
 ·have g52 := of_decide_eq_true b51
  refine zwkt _ b51 ?_
  refine w_skip <| ztn <| w_seq <| w_block <| zsl <| wv 19 (.int .i64 ((i : Int))) <| wv 4 (.int .i64 ((i : Int))) <| znt <| w_lit <| wv 20 (.slice a D.length c_) ?_
  refine wv 21 (pt b2 37) <| zw1 22 (.slice c.sa c.S.length c.sc) (H47.cell 1 rfl (by kernel_rfl)) <| wv 23 (.int .i64 ((i : Int))) ?_
  obtain ⟨g54, o55, c56, e57, R58⟩ := SliceOf.atD hS stamp0 (show i < c.S.length by omega)
  refine wv 24 (.pointer (some ⟨g54, o55 + ((i : Int)).toNat * 38, none⟩)) ?_ (hr := e_indexAddrW (E := 149) (by kernel_rfl) (by kernel_rfl) (Nat.le_of_ble_eq_true rfl) rfl e57 rfl (by omega) (by omega))
  refine wv 25 (.agg ⟨(kRt3_3 (c.S.getD i stamp0))⟩) ?_ (hr := e_loadRun (vs := (kRt3_3 (c.S.getD i stamp0))) rfl (by kernel_rfl) (by kernel_rfl) (Nat.le_of_ble_eq_true (by kernel_rfl)) (H47.runR 0 rfl (cells_run R58 0 (by kernel_rfl) (show o55 + ((i : Int)).toNat * 38 = o55 + i * 38 + 0 by omega)) (fun h => h)))
  refine zwd fun Kq kq => zdc 26 (rPutStamp_any w46 (c.S.getD i stamp0) (hB.S i (by omega))) ?_
  rintro _ w60 ⟨u61, rfl, k62, p63, q64⟩
  have H65 := H47.addU p63 k62 q64
  obtain ⟨a66, c67, rfl⟩ := ownsRow_shape (H65.at 6 rfl)
  refine ⟨_, rfl, ?_⟩
  refine kq _ _ <| zwd fun Kq kq => d_append (T := 84) (e := 5) (size := 1) (bytes := 1) rfl H65 (by kernel_rfl) 5 6 rfl rfl rfl rfl (flat_one encB encB_one (putStampB (c.S.getD i stamp0))) (by omega) (by omega) fun v69 w70 H71 => ?_
  have H74 : Sat w [restC w (fun _ => False), cellC b2 76 (kRt3_5 c), (kRt3_1 a15 (putCommitB c.x) c16), (kRt3_1 a25 (intB (c.S.length : Int)) c26), rowC 84 1 (.slice (some ⟨b29, 0, none⟩) 2 2) 2 (kRt3_2 a15 ((putCommitB c.x).length) c16 a25 ((intB (c.S.length : Int)).length) c26), rowC 5 1 v69 ((D ++ (putStampB (c.S.getD i stamp0))).length) ((D ++ (putStampB (c.S.getD i stamp0))).flatMap encB), (kRt3_1 a66 (putStampB (c.S.getD i stamp0)) c67)] w70 := H71.cast (by simp only [List.length_append, List.flatMap_append] <;> rfl)
  obtain ⟨a72, c73, rfl⟩ := ownsRow_shape (H74.at 5 rfl)
  refine kq _ _ <| wv 3 (.slice a72 ((D ++ (putStampB (c.S.getD i stamp0))).length) c73) <| w_nil <| blk_normal <| ztn <| w_lit <| zwi 28 ((i : Int) + 1) <| wv 17 (.int .i64 ((i : Int) + 1)) <| w_nil ?_
  have H75 := H74.pk [0, 1, 2, 3, 4, 5]
  refine round_back ?_ _ ⟨(i + 1), a72, c73, (D ++ (putStampB (c.S.getD i stamp0))), rfl, (show ((.slice a72 ((D ++ (putStampB (c.S.getD i stamp0))).length) c73) : Value) = _ by first | rfl | go_num), (by omega), (by rw [hD, flatB_step c.S stamp0 (by omega), List.append_assoc]), H75, rfl⟩ (by omega)
  exact zs
 have g76 := of_decide_eq_false b51
 refine zwkf _ b51 ?_
 refine zxb <| ztn <| zsl <| wv 29 (.slice a D.length c_) <| wv 2 (.slice a D.length c_) <| znt <| w_ret <| ze1 (.slice a D.length c_) ?_
 have hX : D = putCertB c := by unfold putCertB stampsB; rw [hD, hhd, List.take_of_length_le (by omega)]
 exact ⟨_, rfl, (by rw [← hX]; exact H47.at 5 rfl), H47.upd 0 rfl [] (fun _ h => h.elim), (by rw [← hX]; exact H47.fresh 0 rfl (fun _ h => h) 5 rfl rfl)⟩
theorem ces_len {w : World} {C : List CeR} (h : ∀ i, i < C.length → CeB w (C.getD i ce0)) : ∀ c ∈ C, c.S.length ≤ 100 := fun c hm => by
 obtain ⟨i, hi, e⟩ := List.mem_iff_getElem.1 hm
 have q := (h i hi).len
 rw [List.getD_eq_getElem?_getD, List.getElem?_eq_getElem hi] at q
 rw [← e]; exact q
theorem rBarePromise_any (w : World) (p : PrR) (hC : ListAt encCe 38 w (.slice p.ca p.C.length p.cc) p.C) (hB : ∀ i, i < p.C.length → CeB w (p.C.getD i ce0)) (hl : p.C.length ≤ 64) (hn : p.r ≤ 9223372036854775807 ∧ p.e ≤ 9223372036854775807 ∧ 0 ≤ p.f ∧ p.f < 18446744073709551616) :
  Calls Tryz.prog 88 #[(.agg ⟨([(.int .i64 (p.r)), (.int .i64 (p.e)), (.int .u64 (p.f)), (.slice p.ca p.C.length p.cc), (.int .i64 (p.sb)), (.int .i64 (p.sm))] : List Value)⟩)] w fun e w' => ∃ u, e = .returned u ∧ (rowC 5 1 u (barePrB p).length ((barePrB p).flatMap encB)).ok w' ∧ Upd [] w w' ∧ ∀ q_, (rowC 5 1 u (barePrB p).length ((barePrB p).flatMap encB)).fp q_ → w.heap.size ≤ q_ := by
 have H := Sat.start0 w
 refine calls_fr Tryz.func88 rfl 36 rfl (Nat.le_of_ble_eq_true rfl) ?_
 refine zsl <| zwd fun Kq kq => zdb (kRt3_6 p) H fun b2 w3 H4 => ?_
 refine kq _ _ <| wv 2 (.slice none 0 0) <| znt <| w_seq <| h_start H4 [restC w (fun _ => False), cellC b2 71 (kRt3_6 p)] 16 rfl (by kernel_rfl) (fun Hx => (Hx.pk [0, 1])) fun w5 H6 S7 => ?_
 refine hv0 0 S7 5 (pt b2 0) <| hv0 1 S7 6 (.int .i64 (p.r)) ?_ (he := fun _ H' => (zl1 (H'.cell 1 rfl rfl)))
 refine hv0 3 S7 8 (pt b2 1) <| hv0 4 S7 9 (.int .i64 (p.e)) ?_ (he := fun _ H' => (zl1 (H'.cell 1 rfl rfl)))
 refine hv0 6 S7 11 (pt b2 2) <| hv0 7 S7 12 (.int .u64 (p.f)) ?_ (he := fun _ H' => (zl1 (H'.cell 1 rfl rfl)))
 refine hv0 9 S7 14 (pt b2 3) <| hv0 10 S7 15 (.slice p.ca p.C.length p.cc) ?_ (he := fun _ H' => (zl1 (H'.cell 1 rfl rfl)))
 refine h_val 11 rfl (by kernel_rfl) (by kernel_rfl) (by kernel_rfl) (fun _ _ _ h => h) S7 (wants0 rfl) (d := 16) (v := (.int .i64 ((p.C.length : Int)))) rfl (fun _ H' => (by kernel_rfl)) ?_
 refine zhd0 2 fun Kq kq => ?_
 refine zdc 7 (rInt_any w5 p.r (by omega)) ?_
 rintro _ w9 ⟨u10, rfl, k11, p12, q13⟩
 have H14 := H6.addU p12 k11 q13
 obtain ⟨a15, c16, rfl⟩ := ownsRow_shape (H14.at 2 rfl)
 refine ⟨_, rfl, ?_⟩
 have S17 := H14.pk [0, 1]
 refine kq _ _ S17 <| zhd0 5 fun Kq kq => ?_
 refine zdc 10 (rInt_any w9 p.e (by omega)) ?_
 rintro _ w19 ⟨u20, rfl, k21, p22, q23⟩
 have H24 := H14.addU p22 k21 q23
 obtain ⟨a25, c26, rfl⟩ := ownsRow_shape (H24.at 3 rfl)
 refine ⟨_, rfl, ?_⟩
 have S27 := H24.pk [0, 1]
 refine kq _ _ S27 <| zhd0 8 fun Kq kq => ?_
 refine d_call (d := 13) rfl (by rw [show p.f = ((p.f.toNat : Nat) : Int) by omega]; kernel_rfl) (rNum_any w19 p.f.toNat (by omega)) ?_
 rintro _ w29 ⟨u30, rfl, k31, p32, q33⟩
 have H34 := H24.addU p32 k31 q33
 obtain ⟨a35, c36, rfl⟩ := ownsRow_shape (H34.at 4 rfl)
 refine ⟨_, rfl, ?_⟩
 have S37 := H34.pk [0, 1]
 refine kq _ _ S37 <| zhd0 12 fun Kq kq => ?_
 refine zdc 17 (rInt_any w29 (p.C.length : Int) (by omega)) ?_
 rintro _ w39 ⟨u40, rfl, k41, p42, q43⟩
 have H44 := H34.addU p42 k41 q43
 obtain ⟨a45, c46, rfl⟩ := ownsRow_shape (H44.at 5 rfl)
 refine ⟨_, rfl, ?_⟩
 have S47 := H44.pk [0, 1]
 refine kq _ _ S47 <| zhd0 13 fun Kq kq => ?_
 refine zdbs 84 1 24 (.slice none 0 0) [(0, (.slice a15 ((intB p.r).length) c16)), (1, (.slice a25 ((intB p.e).length) c26)), (2, (.slice a35 ((varB p.f.toNat).length) c36)), (3, (.slice a45 ((intB (p.C.length : Int)).length) c46))] (kRt3_7 a15 ((intB p.r).length) c16 a25 ((intB p.e).length) c26 a35 ((varB p.f.toNat).length) c36 a45 ((intB (p.C.length : Int)).length) c46) H44 ?_
 intro b49 w50 H51
 have S52 := H51.pk [0, 1]
 refine kq _ _ S52 <| zhd0 14 fun Kq kq => ?_
 have l54 := intB_len p.r
 have l55 := intB_len p.e
 have l56 := varB_len p.f.toNat
 have l57 := intB_len (p.C.length : Int)
 refine zdc 19 (rJoin_any w50 (.slice (some ⟨b49, 0, none⟩) 4 4) [(.slice a15 ((intB p.r).length) c16), (.slice a25 ((intB p.e).length) c26), (.slice a35 ((varB p.f.toNat).length) c36), (.slice a45 ((intB (p.C.length : Int)).length) c46)] [(intB p.r), (intB p.e), (varB p.f.toNat), (intB (p.C.length : Int))] (ListAt.row (enc := encW) (sz := 1) (xs := [(.slice a15 ((intB p.r).length) c16), (.slice a25 ((intB p.e).length) c26), (.slice a35 ((varB p.f.toNat).length) c36), (.slice a45 ((intB (p.C.length : Int)).length) c46)]) encW_len (by decide) (H51.at 6 rfl)) (Parts.cons (ListAt.row (enc := encB) (sz := 1) encB_len (by decide) (H51.at 2 rfl)) (Parts.cons (ListAt.row (enc := encB) (sz := 1) encB_len (by decide) (H51.at 3 rfl)) (Parts.cons (ListAt.row (enc := encB) (sz := 1) encB_len (by decide) (H51.at 4 rfl)) (Parts.cons (ListAt.row (enc := encB) (sz := 1) encB_len (by decide) (H51.at 5 rfl)) Parts.nil)))) (by simp only [List.flatten_cons, List.flatten_nil, List.length_append, List.length_nil]; omega) (by simp)) ?_
 rintro _ w58 ⟨u59, rfl, k60, p61, q62⟩
 have H63 := H51.addU p61 k60 q62
 obtain ⟨a64, c65, rfl⟩ := ownsRow_shape (H63.at 7 rfl)
 refine ⟨_, rfl, ?_⟩
 have S66 := H63.pk [0, 1]
 refine kq _ _ S66 <| hv0 15 S66 3 (.slice a64 (([(intB p.r), (intB p.e), (varB p.f.toNat), (intB (p.C.length : Int))].flatten).length) c65) <| zhf <| ztn <| w_seq <| zsl <| wv 20 (pt b2 3) <| zw1 21 (.slice p.ca p.C.length p.cc) (H63.cell 1 rfl rfl) <| wv 22 (.int .i64 ((p.C.length : Int))) <| wv 23 (.int .i64 (0)) ?_
 refine znt <| w_block ?_
 obtain ⟨hd, hhd⟩ : ∃ hd, hd = ([(intB p.r), (intB p.e), (varB p.f.toNat), (intB (p.C.length : Int))].flatten) := ⟨_, rfl⟩
 have hdl : hd.length ≤ 200 := by rw [hhd]; have q1 := intB_len p.r; have q2 := intB_len p.e; have q3 := varB_len p.f.toNat; have q4 := intB_len (p.C.length : Int); simp only [List.flatten_cons, List.flatten_nil, List.length_append, List.length_nil]; omega
 refine wp_round ([3, 4] ++ List.range' 23 12) (fun F_ W_ m_ => ∃ (i : Nat) (a : Option Addr) (c_ : Nat) (D : List UInt8), F_ 23 = (.int .i64 ((i : Int))) ∧ F_ 3 = (.slice a D.length c_) ∧ (i ≤ p.C.length) ∧ (D = hd ++ (p.C.take i).flatMap putCertB) ∧ Sat w [restC w (fun _ => False), cellC b2 71 (kRt3_6 p), (kRt3_1 a15 (intB p.r) c16), (kRt3_1 a25 (intB p.e) c26), (kRt3_1 a35 (varB p.f.toNat) c36), (kRt3_1 a45 (intB (p.C.length : Int)) c46), rowC 84 1 (.slice (some ⟨b49, 0, none⟩) 4 4) 4 (kRt3_7 a15 ((intB p.r).length) c16 a25 ((intB p.e).length) c26 a35 ((varB p.f.toNat).length) c36 a45 ((intB (p.C.length : Int)).length) c46), (kRt3_1 a D c_)] W_ ∧ m_ = p.C.length - i) _ ⟨0, a64, c65, ([(intB p.r), (intB p.e), (varB p.f.toNat), (intB (p.C.length : Int))].flatten), (show ((.int .i64 (0)) : Value) = _ by first | rfl | go_num), (by first | rfl | go_num), (Nat.zero_le _), (by rw [hhd]; simp), H63, rfl⟩ ?_
 rintro g67 w68 _ ⟨i, a, c_, D, v70, v71, hi, hD, H69, rfl⟩
 refine wp_know 23 _ v70 ?_
 refine wp_know 3 _ v71 ?_
 have hDl : D.length ≤ 600000 := by rw [hD, List.length_append]; have q1 := flatB_leM (g := putCertB) (p.C.take i) (fun c hc => putCertB_len (ces_len hB c (List.mem_of_mem_take hc))); rw [List.length_take] at q1; omega
 have q2 := fun h : i < p.C.length => putCertB_len (hB i h).len
 refine zsl <| wv 24 (.bool (decide ((i : Int) < (p.C.length : Int)))) <| znt <| w_seq ?_
 refine (bsplit (decide ((i : Int) < (p.C.length : Int)))).elim (fun b73 => ?_) (fun b73 => ?_)
 ·have g74 := of_decide_eq_true b73
  refine zwkt _ b73 ?_
  refine w_skip <| ztn <| w_seq <| w_block <| zsl <| wv 25 (.int .i64 ((i : Int))) <| wv 4 (.int .i64 ((i : Int))) <| znt <| w_lit <| wv 26 (.slice a D.length c_) ?_
  refine wv 27 (pt b2 3) <| zw1 28 (.slice p.ca p.C.length p.cc) (H69.cell 1 rfl rfl) <| wv 29 (.int .i64 ((i : Int))) ?_
  obtain ⟨g76, o77, c78, e79, R80⟩ := SliceOf.atD hC ce0 (show i < p.C.length by omega)
  refine wv 30 (.pointer (some ⟨g76, o77 + ((i : Int)).toNat * 38, none⟩)) ?_ (hr := e_indexAddrW (E := 76) (by kernel_rfl) (by kernel_rfl) (Nat.le_of_ble_eq_true rfl) rfl e79 rfl (by omega) (by omega))
  refine wv 31 (.agg ⟨(kRt3_8 ((p.C.getD i ce0).x) (p.C.getD i ce0) (((p.C.getD i ce0).S).length))⟩) ?_ (hr := e_loadRun (vs := (kRt3_8 ((p.C.getD i ce0).x) (p.C.getD i ce0) (((p.C.getD i ce0).S).length))) rfl (by kernel_rfl) (by kernel_rfl) (Nat.le_of_ble_eq_true (by kernel_rfl)) (H69.runR 0 rfl (cells_run R80 0 (by kernel_rfl) (show o77 + ((i : Int)).toNat * 38 = o77 + i * 38 + 0 by omega)) (fun h => h)))
  refine zwd fun Kq kq => zdc 32 (rPutCert_any w68 (p.C.getD i ce0) ((hB i (by omega)).keep H69 0 rfl)) ?_
  rintro _ w82 ⟨u83, rfl, k84, p85, q86⟩
  have H87 := H69.addU p85 k84 q86
  obtain ⟨a88, c89, rfl⟩ := ownsRow_shape (H87.at 8 rfl)
  refine ⟨_, rfl, ?_⟩
  refine kq _ _ <| zwd fun Kq kq => d_append (T := 84) (e := 5) (size := 1) (bytes := 1) rfl H87 (by kernel_rfl) 7 8 rfl rfl rfl rfl (flat_one encB encB_one (putCertB (p.C.getD i ce0))) (by omega) (by omega) fun v91 w92 H93 => ?_
  have H96 : Sat w [restC w (fun _ => False), cellC b2 71 (kRt3_6 p), (kRt3_1 a15 (intB p.r) c16), (kRt3_1 a25 (intB p.e) c26), (kRt3_1 a35 (varB p.f.toNat) c36), (kRt3_1 a45 (intB (p.C.length : Int)) c46), rowC 84 1 (.slice (some ⟨b49, 0, none⟩) 4 4) 4 (kRt3_7 a15 ((intB p.r).length) c16 a25 ((intB p.e).length) c26 a35 ((varB p.f.toNat).length) c36 a45 ((intB (p.C.length : Int)).length) c46), rowC 5 1 v91 ((D ++ (putCertB (p.C.getD i ce0))).length) ((D ++ (putCertB (p.C.getD i ce0))).flatMap encB), (kRt3_1 a88 (putCertB (p.C.getD i ce0)) c89)] w92 := H93.cast (by simp only [List.length_append, List.flatMap_append] <;> rfl)
  obtain ⟨a94, c95, rfl⟩ := ownsRow_shape (H96.at 7 rfl)
  refine kq _ _ <| wv 3 (.slice a94 ((D ++ (putCertB (p.C.getD i ce0))).length) c95) <| w_nil <| blk_normal <| ztn <| w_lit <| zwi 34 ((i : Int) + 1) <| wv 23 (.int .i64 ((i : Int) + 1)) <| w_nil ?_
  have H97 := H96.pk [0, 1, 2, 3, 4, 5, 6, 7]
  refine round_back ?_ _ ⟨(i + 1), a94, c95, (D ++ (putCertB (p.C.getD i ce0))), rfl, (show ((.slice a94 ((D ++ (putCertB (p.C.getD i ce0))).length) c95) : Value) = _ by first | rfl | go_num), (by omega), (by rw [hD, flatB_step p.C ce0 (by omega), List.append_assoc]), H97, rfl⟩ (by omega)
  exact zs
 have g98 := of_decide_eq_false b73
 refine zwkf _ b73 ?_
 refine zxb <| ztn <| zsl <| wv 35 (.slice a D.length c_) <| wv 2 (.slice a D.length c_) <| znt <| w_ret <| ze1 (.slice a D.length c_) ?_
 have hX : D = barePrB p := by unfold barePrB certsB; rw [hD, hhd, List.take_of_length_le (by omega)]
 exact ⟨_, rfl, (by rw [← hX]; exact H69.at 7 rfl), H69.upd 0 rfl [] (fun _ h => h.elim), (by rw [← hX]; exact H69.fresh 0 rfl (fun _ h => h) 7 rfl rfl)⟩
theorem rPromiseText_any (w : World) (p : PrR) (hC : ListAt encCe 38 w (.slice p.ca p.C.length p.cc) p.C) (hB : ∀ i, i < p.C.length → CeB w (p.C.getD i ce0)) (hl : p.C.length ≤ 64) (hn : p.r ≤ 9223372036854775807 ∧ p.e ≤ 9223372036854775807 ∧ 0 ≤ p.f ∧ p.f < 18446744073709551616) :
  Calls Tryz.prog 38 #[(.agg ⟨([(.int .i64 (p.r)), (.int .i64 (p.e)), (.int .u64 (p.f)), (.slice p.ca p.C.length p.cc), (.int .i64 (p.sb)), (.int .i64 (p.sm))] : List Value)⟩)] w fun e w' => ∃ u, e = .returned u ∧ (rowC 5 1 u (promB p).length ((promB p).flatMap encB)).ok w' ∧ Upd [] w w' ∧ ∀ q_, (rowC 5 1 u (promB p).length ((promB p).flatMap encB)).fp q_ → w.heap.size ≤ q_ := by
 have hp := barePrB_len (ces_len hB) hl
 have H := Sat.start0 w
 refine calls_fr Tryz.func38 rfl 10 rfl (Nat.le_of_ble_eq_true rfl) ?_
 refine zsl <| zwd fun Kq kq => zdb (kRt3_6 p) H fun b2 w3 H4 => ?_
 refine kq _ _ <| wv 2 (.slice none 0 0) <| znt <| w_seq <| h_start H4 [restC w (fun _ => False), cellC b2 71 (kRt3_6 p)] 8 rfl (by kernel_rfl) (fun Hx => (Hx.pk [0, 1])) fun w5 H6 S7 => ?_
 refine hv0 3 S7 6 (.agg ⟨(kRt3_6 p)⟩) ?_ (he := fun _ H' => (zlN (vs := (kRt3_6 p)) (H'.at 1 rfl)))
 refine zhd0 0 fun Kq kq => ?_
 refine zdbs 5 1 1 (.int .u8 (0)) [(0, (.int .u8 (112))), (1, (.int .u8 (114))), (2, (.int .u8 (111))), (3, (.int .u8 (109))), (4, (.int .u8 (105))), (5, (.int .u8 (115))), (6, (.int .u8 (101)))] (kRt3_9) H6 ?_
 intro b9 w10 (H11 : Sat w [restC w (fun _ => False), cellC b2 71 (kRt3_6 p), rowC 5 1 (.slice (some ⟨b9, 0, none⟩) 7 7) 7 (kRt3_9)] w10)
 have H12 : Sat w [restC w (fun _ => False), cellC b2 71 (kRt3_6 p), rowC 5 1 (.slice (some ⟨b9, 0, none⟩) 7 7) 7 ([112, 114, 111, 109, 105, 115, 101].flatMap encB)] w10 := H11.cast (by rw [show ((kRt3_9) : List Value) = [112, 114, 111, 109, 105, 115, 101].flatMap encB from rfl])
 have S13 := H12.pk [0, 1]
 refine kq _ _ S13 <| zhd0 1 fun Kq kq => ?_
 refine d_convMark (e := 5) (s := [112, 114, 111, 109, 105, 115, 101]) rfl H12 2 rfl (by kernel_rfl) (by kernel_rfl) rfl ?_
 intro w15 H16
 have S17 := H16.pk [0, 1]
 refine kq _ _ S17 <| zhd0 2 fun Kq kq => ?_
 refine zdc 5 (rRow_any w15 (.slice (some ⟨b9, 0, none⟩) 7 7) ([112, 114, 111, 109, 105, 115, 101]) (ListAt.ofTxt (H16.at 2 rfl)) (by simp)) ?_
 rintro _ w19 ⟨u20, rfl, k21, p22, q23⟩
 have H24 := H16.addU p22 k21 q23
 obtain ⟨a25, c26, rfl⟩ := ownsRow_shape (H24.at 3 rfl)
 refine ⟨_, rfl, ?_⟩
 have S27 := H24.pk [0, 1]
 refine kq _ _ S27 <| zhd0 4 fun Kq kq => ?_
 refine zdc 7 (rBarePromise_any w19 p (ListAt.now H24 0 rfl hC) (fun i hi => (hB i hi).keep H24 0 rfl) hl hn) ?_
 rintro _ w29 ⟨u30, rfl, k31, p32, q33⟩
 have H34 := H24.addU p32 k31 q33
 obtain ⟨a35, c36, rfl⟩ := ownsRow_shape (H34.at 4 rfl)
 refine ⟨_, rfl, ?_⟩
 have S37 := H34.pk [0, 1]
 refine kq _ _ S37 <| zhd0 5 fun Kq kq => ?_
 refine zdbs 84 1 24 (.slice none 0 0) [(0, (.slice a25 ((rowB ([112, 114, 111, 109, 105, 115, 101])).length) c26)), (1, (.slice a35 ((barePrB p).length) c36))] (kRt3_2 a25 ((rowB ([112, 114, 111, 109, 105, 115, 101])).length) c26 a35 ((barePrB p).length) c36) H34 ?_
 intro b39 w40 H41
 have S42 := H41.pk [0, 1]
 refine kq _ _ S42 <| zhd0 6 fun Kq kq => ?_
 have l44 := rowB_len ([112, 114, 111, 109, 105, 115, 101])
 simp only [List.length_cons, List.length_nil] at l44
 have l45 := hp
 refine zdc 9 (rJoin_any w40 (.slice (some ⟨b39, 0, none⟩) 2 2) [(.slice a25 ((rowB ([112, 114, 111, 109, 105, 115, 101])).length) c26), (.slice a35 ((barePrB p).length) c36)] [(rowB ([112, 114, 111, 109, 105, 115, 101])), (barePrB p)] (ListAt.row (enc := encW) (sz := 1) (xs := [(.slice a25 ((rowB ([112, 114, 111, 109, 105, 115, 101])).length) c26), (.slice a35 ((barePrB p).length) c36)]) encW_len (by decide) (H41.at 5 rfl)) (Parts.cons (ListAt.row (enc := encB) (sz := 1) encB_len (by decide) (H41.at 3 rfl)) (Parts.cons (ListAt.row (enc := encB) (sz := 1) encB_len (by decide) (H41.at 4 rfl)) Parts.nil)) (by simp only [List.flatten_cons, List.flatten_nil, List.length_append, List.length_nil]; omega) (by simp)) ?_
 rintro _ w46 ⟨u47, rfl, k48, p49, q50⟩
 have H51 := H41.addU p49 k48 q50
 obtain ⟨a52, c53, rfl⟩ := ownsRow_shape (H51.at 6 rfl)
 refine ⟨_, rfl, ?_⟩
 have S54 := H51.pk [0, 1]
 refine kq _ _ S54 <| hv0 7 S54 2 (.slice a52 (([(rowB ([112, 114, 111, 109, 105, 115, 101])), (barePrB p)].flatten).length) c53) <| zhf <| ztn <| w_ret <| ze1 (.slice a52 (([(rowB ([112, 114, 111, 109, 105, 115, 101])), (barePrB p)].flatten).length) c53) ?_
 have hX : ([(rowB ([112, 114, 111, 109, 105, 115, 101])), (barePrB p)].flatten) = promB p := by rfl
 exact ⟨_, rfl, (by rw [← hX]; exact H51.at 6 rfl), H51.upd 0 rfl [] (fun _ h => h.elim), (by rw [← hX]; exact H51.fresh 0 rfl (fun _ h => h) 6 rfl rfl)⟩
end Go.Proofs.YtenihpghfdcpkaaGreat
