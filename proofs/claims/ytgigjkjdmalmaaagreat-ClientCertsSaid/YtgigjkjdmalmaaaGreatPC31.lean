/- WHAT IS PROVED: contracts and plain laws of Rt2, IntJ, FrameU, OpenC10, OpenJ, OpenBo. Conditions: stated with each. -/
import Derived.Test.YtgigjkjdmalmaaaGreatPC05
import Derived.Test.YtgigjkjdmalmaaaGreatPC08
import Derived.Test.YtgigjkjdmalmaaaGreatPC11
import Derived.Test.YtgigjkjdmalmaaaGreatPC12
set_option maxHeartbeats 4000000
set_option maxRecDepth 100000
namespace Go.Proofs.YtgigjkjdmalmaaaGreat
open Go.RowKit
theorem Z6E (w : World) (a b : Int) (hs : a ≤ 9223372036854775807 ∧ b ≤ 9223372036854775807) :
  Calls Tryz.prog 54 #[(.agg ⟨([(.int .i64 (a)), (.int .i64 (b))] : List Value)⟩)] w fun e w' => ∃ u, e = .returned u ∧ (Ze 5 1 u (Z0k a b).length ((Z0k a b).flatMap Zo)).ok w' ∧ Upd [] w w' ∧ ∀ q_, (Ze 5 1 u (Z0k a b).length ((Z0k a b).flatMap Zo)).fp q_ → w.heap.size ≤ q_ := by
 have H := Sat.start0 w
 refine Zv Tryz.func54 rfl 11 rfl (Nat.le_of_ble_eq_true rfl) ?_
 refine Zh ?_
 refine Zs ?_
 refine ZQ (Z2 rfl) (fun K1 hK1 => ?_)
 refine Z0N (vs := ([(.int .i64 (a)), (.int .i64 (b))] : List Value)) rfl H rfl rfl ?_
 intro b2 w3 (H4 : Sat w [Za w (fun _ => False), Z3 b2 43 ([(.int .i64 (a)), (.int .i64 (b))] : List Value)] w3)
 refine hK1 _ _ ?_
 clear hK1 K1
 refine Z5 (Z2 rfl) (d := 2) (v := (.slice none 0 0)) rfl (by kernel_rfl) ?_
 refine Zr ?_
 refine Z7 ?_
 refine Zh ?_
 refine Z0g H4 [Za w (fun _ => False), Z3 b2 43 ([(.int .i64 (a)), (.int .i64 (b))] : List Value)] 9 rfl (by kernel_rfl) (fun Hx => (Hx.pick [0, 1] (by decide))) ?_
 intro w5 H6 S7
 refine Zp 0 rfl (by kernel_rfl) (by kernel_rfl) (by kernel_rfl) (fun _ _ _ h => h) S7 (Z2 rfl) (d := 3) (v := (.pointer (some ⟨b2, 0, none⟩))) rfl (fun _ H' => (by kernel_rfl)) ?_
 refine Zp 1 rfl (by kernel_rfl) (by kernel_rfl) (by kernel_rfl) (fun _ _ _ h => h) S7 (Z2 rfl) (d := 4) (v := (.int .i64 (a))) rfl (fun _ H' => (Zi rfl (by kernel_rfl) (H'.cell 1 rfl rfl))) ?_
 refine Zp 3 rfl (by kernel_rfl) (by kernel_rfl) (by kernel_rfl) (fun _ _ _ h => h) S7 (Z2 rfl) (d := 6) (v := (.pointer (some ⟨b2, 1, none⟩))) rfl (fun _ H' => (by kernel_rfl)) ?_
 refine Zp 4 rfl (by kernel_rfl) (by kernel_rfl) (by kernel_rfl) (fun _ _ _ h => h) S7 (Z2 rfl) (d := 7) (v := (.int .i64 (b))) rfl (fun _ H' => (Zi rfl (by kernel_rfl) (H'.cell 1 rfl rfl))) ?_
 refine Z13 2 rfl (by kernel_rfl) (Z2 rfl) (fun K8 hK8 => ?_)
 refine ZJ (d := 5) rfl (by kernel_rfl) (Z20 w5 a (by omega)) ?_
 rintro _ w9 ⟨u10, rfl, k11, p12, q13⟩
 have H14 : Sat w [Za w (fun _ => False), Z3 b2 43 ([(.int .i64 (a)), (.int .i64 (b))] : List Value), Ze 5 1 u10 ((Zj a).length) ((Zj a).flatMap Zo)] w9 := H6.addU p12 k11 q13
 obtain ⟨a15, c16, rfl⟩ := Zg (H14.at 2 rfl)
 refine ⟨_, rfl, ?_⟩
 have S17 := H14.pick [0, 1] (by decide)
 refine hK8 _ _ S17 ?_
 clear hK8 K8
 refine Z13 5 rfl (by kernel_rfl) (Z2 rfl) (fun K18 hK18 => ?_)
 refine ZJ (d := 8) rfl (by kernel_rfl) (Z20 w9 b (by omega)) ?_
 rintro _ w19 ⟨u20, rfl, k21, p22, q23⟩
 have H24 : Sat w [Za w (fun _ => False), Z3 b2 43 ([(.int .i64 (a)), (.int .i64 (b))] : List Value), Ze 5 1 (.slice a15 ((Zj a).length) c16) ((Zj a).length) ((Zj a).flatMap Zo), Ze 5 1 u20 ((Zj b).length) ((Zj b).flatMap Zo)] w19 := H14.addU p22 k21 q23
 obtain ⟨a25, c26, rfl⟩ := Zg (H24.at 3 rfl)
 refine ⟨_, rfl, ?_⟩
 have S27 := H24.pick [0, 1] (by decide)
 refine hK18 _ _ S27 ?_
 clear hK18 K18
 refine Z13 6 rfl (by kernel_rfl) (Z2 rfl) (fun K28 hK28 => ?_)
 refine ZY (e := 38) (size := 1) (bytes := 24) (z := (.slice none 0 0)) (pvs := [(0, (.slice a15 ((Zj a).length) c16)), (1, (.slice a25 ((Zj b).length) c26))]) (vs := ([(.slice a15 ((Zj a).length) c16), (.slice a25 ((Zj b).length) c26)] : List Value)) rfl H24 (by kernel_rfl) (by kernel_rfl) (by kernel_rfl) (by kernel_rfl) (by kernel_rfl) rfl rfl ?_
 intro b29 w30 (H31 : Sat w [Za w (fun _ => False), Z3 b2 43 ([(.int .i64 (a)), (.int .i64 (b))] : List Value), Ze 5 1 (.slice a15 ((Zj a).length) c16) ((Zj a).length) ((Zj a).flatMap Zo), Ze 5 1 (.slice a25 ((Zj b).length) c26) ((Zj b).length) ((Zj b).flatMap Zo), Ze 38 1 (.slice (some ⟨b29, 0, none⟩) 2 2) 2 ([(.slice a15 ((Zj a).length) c16), (.slice a25 ((Zj b).length) c26)] : List Value)] w30)
 have S32 := H31.pick [0, 1] (by decide)
 refine hK28 _ _ S32 ?_
 clear hK28 K28
 refine Z13 7 rfl (by kernel_rfl) (Z2 rfl) (fun K33 hK33 => ?_)
 have l34 := Z04 a
 have l35 := Z04 b
 refine ZJ (d := 10) rfl (by kernel_rfl) (Z2r w30 (.slice (some ⟨b29, 0, none⟩) 2 2) [(.slice a15 ((Zj a).length) c16), (.slice a25 ((Zj b).length) c26)] [(Zj a), (Zj b)] (ListAt.row (enc := Z8d) (sz := 1) (xs := [(.slice a15 ((Zj a).length) c16), (.slice a25 ((Zj b).length) c26)]) Z2W (by decide) (H31.at 4 rfl)) (Parts.cons (ListAt.row (enc := Zo) (sz := 1) ZV (by decide) (H31.at 2 rfl)) (Parts.cons (ListAt.row (enc := Zo) (sz := 1) ZV (by decide) (H31.at 3 rfl)) Parts.nil)) (by simp only [List.flatten_cons, List.flatten_nil, List.length_append, List.length_nil]; omega) (by simp)) ?_
 rintro _ w36 ⟨u37, rfl, k38, p39, q40⟩
 have H41 : Sat w [Za w (fun _ => False), Z3 b2 43 ([(.int .i64 (a)), (.int .i64 (b))] : List Value), Ze 5 1 (.slice a15 ((Zj a).length) c16) ((Zj a).length) ((Zj a).flatMap Zo), Ze 5 1 (.slice a25 ((Zj b).length) c26) ((Zj b).length) ((Zj b).flatMap Zo), Ze 38 1 (.slice (some ⟨b29, 0, none⟩) 2 2) 2 ([(.slice a15 ((Zj a).length) c16), (.slice a25 ((Zj b).length) c26)] : List Value), Ze 5 1 u37 (([(Zj a), (Zj b)].flatten).length) (([(Zj a), (Zj b)].flatten).flatMap Zo)] w36 := H31.addU p39 k38 q40
 obtain ⟨a42, c43, rfl⟩ := Zg (H41.at 5 rfl)
 refine ⟨_, rfl, ?_⟩
 have S44 := H41.pick [0, 1] (by decide)
 refine hK33 _ _ S44 ?_
 clear hK33 K33
 refine Zp 8 rfl (by kernel_rfl) (by kernel_rfl) (by kernel_rfl) (fun _ _ _ h => h) S44 (Z2 rfl) (d := 2) (v := (.slice a42 (([(Zj a), (Zj b)].flatten).length) c43)) rfl (fun _ H' => (by kernel_rfl)) ?_
 refine Z0M (by kernel_rfl) ?_
 refine Z7 ?_
 refine ZU ?_
 refine Z0T rfl (ZK (v := (.slice a42 (([(Zj a), (Zj b)].flatten).length) c43)) rfl) ?_
 have hX : ([(Zj a), (Zj b)].flatten) = Z0k a b := by rfl
 exact ⟨_, rfl, (by rw [← hX]; exact H41.at 5 rfl), H41.upd 0 rfl [] (fun _ h => h.elim), (by rw [← hX]; exact H41.fresh 0 rfl (fun _ h => h) 5 rfl rfl)⟩
theorem Z6D (w : World) (s : Zl) (hs : (s.r ≤ 9223372036854775807 ∧ s.cl ≤ 9223372036854775807 ∧ s.seq ≤ 9223372036854775807 ∧ 0 ≤ s.t ∧ s.t < 18446744073709551616)) :
  Calls Tryz.prog 35 #[(.agg ⟨(([(.int .i64 (s.r)), (.int .i64 (s.cl)), (.int .i64 (s.seq))] : List Value) ++ hc s.h ++ ([(.int .u64 (s.t)), (.int .i64 (s.sb)), (.int .i64 (s.sm))] : List Value))⟩)] w fun e w' => ∃ u, e = .returned u ∧ (Ze 5 1 u (Z0U s).length ((Z0U s).flatMap Zo)).ok w' ∧ Upd [] w w' ∧ ∀ q_, (Ze 5 1 u (Z0U s).length ((Z0U s).flatMap Zo)).fp q_ → w.heap.size ≤ q_ := by
 have H := Sat.start0 w
 refine Zv Tryz.func35 rfl 16 rfl (Nat.le_of_ble_eq_true rfl) ?_
 refine Zh ?_
 refine Zs ?_
 refine ZQ (Z2 rfl) (fun K1 hK1 => ?_)
 refine Z0N (vs := (([(.int .i64 (s.r)), (.int .i64 (s.cl)), (.int .i64 (s.seq))] : List Value) ++ hc s.h ++ ([(.int .u64 (s.t)), (.int .i64 (s.sb)), (.int .i64 (s.sm))] : List Value))) rfl H rfl rfl ?_
 intro b2 w3 (H4 : Sat w [Za w (fun _ => False), Z3 b2 49 (([(.int .i64 (s.r)), (.int .i64 (s.cl)), (.int .i64 (s.seq))] : List Value) ++ hc s.h ++ ([(.int .u64 (s.t)), (.int .i64 (s.sb)), (.int .i64 (s.sm))] : List Value))] w3)
 refine hK1 _ _ ?_
 clear hK1 K1
 refine Z5 (Z2 rfl) (d := 2) (v := (.slice none 0 0)) rfl (by kernel_rfl) ?_
 refine Zr ?_
 refine Z7 ?_
 refine Zh ?_
 refine Z0g H4 [Za w (fun _ => False), Z3 b2 49 (([(.int .i64 (s.r)), (.int .i64 (s.cl)), (.int .i64 (s.seq))] : List Value) ++ hc s.h ++ ([(.int .u64 (s.t)), (.int .i64 (s.sb)), (.int .i64 (s.sm))] : List Value))] 14 rfl (by kernel_rfl) (fun Hx => (Hx.pick [0, 1] (by decide))) ?_
 intro w5 H6 S7
 refine Zp 0 rfl (by kernel_rfl) (by kernel_rfl) (by kernel_rfl) (fun _ _ _ h => h) S7 (Z2 rfl) (d := 3) (v := (.pointer (some ⟨b2, 0, none⟩))) rfl (fun _ H' => (by kernel_rfl)) ?_
 refine Zp 1 rfl (by kernel_rfl) (by kernel_rfl) (by kernel_rfl) (fun _ _ _ h => h) S7 (Z2 rfl) (d := 4) (v := (.int .i64 (s.r))) rfl (fun _ H' => (Zi rfl (by kernel_rfl) (H'.cell 1 rfl (by kernel_rfl)))) ?_
 refine Zp 3 rfl (by kernel_rfl) (by kernel_rfl) (by kernel_rfl) (fun _ _ _ h => h) S7 (Z2 rfl) (d := 6) (v := (.pointer (some ⟨b2, 1, none⟩))) rfl (fun _ H' => (by kernel_rfl)) ?_
 refine Zp 4 rfl (by kernel_rfl) (by kernel_rfl) (by kernel_rfl) (fun _ _ _ h => h) S7 (Z2 rfl) (d := 7) (v := (.agg ⟨([(.int .i64 (s.cl)), (.int .i64 (s.seq))] : List Value)⟩)) rfl (fun _ H' => (ZE (vs := ([(.int .i64 (s.cl)), (.int .i64 (s.seq))] : List Value)) rfl (by kernel_rfl) (by kernel_rfl) (by exact Nat.le_of_ble_eq_true (by kernel_rfl)) (H'.at 1 rfl) (by kernel_rfl))) ?_
 refine Zp 6 rfl (by kernel_rfl) (by kernel_rfl) (by kernel_rfl) (fun _ _ _ h => h) S7 (Z2 rfl) (d := 9) (v := (.pointer (some ⟨b2, 3, none⟩))) rfl (fun _ H' => (by kernel_rfl)) ?_
 refine Zp 7 rfl (by kernel_rfl) (by kernel_rfl) (by kernel_rfl) (fun _ _ _ h => h) S7 (Z2 rfl) (d := 10) (v := (.slice (some ⟨b2, 3, none⟩) 32 32)) rfl (fun _ H' => (by kernel_rfl)) ?_
 refine Zp 8 rfl (by kernel_rfl) (by kernel_rfl) (by kernel_rfl) (fun _ _ _ h => h) S7 (Z2 rfl) (d := 11) (v := (.pointer (some ⟨b2, 35, none⟩))) rfl (fun _ H' => (by kernel_rfl)) ?_
 refine Zp 9 rfl (by kernel_rfl) (by kernel_rfl) (by kernel_rfl) (fun _ _ _ h => h) S7 (Z2 rfl) (d := 12) (v := (.int .u64 (s.t))) rfl (fun _ H' => (Zi rfl (by kernel_rfl) (H'.cell 1 rfl (by kernel_rfl)))) ?_
 refine Z13 2 rfl (by kernel_rfl) (Z2 rfl) (fun K8 hK8 => ?_)
 refine ZJ (d := 5) rfl (by kernel_rfl) (Z20 w5 s.r (by omega)) ?_
 rintro _ w9 ⟨u10, rfl, k11, p12, q13⟩
 have H14 : Sat w [Za w (fun _ => False), Z3 b2 49 (([(.int .i64 (s.r)), (.int .i64 (s.cl)), (.int .i64 (s.seq))] : List Value) ++ hc s.h ++ ([(.int .u64 (s.t)), (.int .i64 (s.sb)), (.int .i64 (s.sm))] : List Value)), Ze 5 1 u10 ((Zj s.r).length) ((Zj s.r).flatMap Zo)] w9 := H6.addU p12 k11 q13
 obtain ⟨a15, c16, rfl⟩ := Zg (H14.at 2 rfl)
 refine ⟨_, rfl, ?_⟩
 have S17 := H14.pick [0, 1] (by decide)
 refine hK8 _ _ S17 ?_
 clear hK8 K8
 refine Z13 5 rfl (by kernel_rfl) (Z2 rfl) (fun K18 hK18 => ?_)
 refine ZJ (d := 8) rfl (by kernel_rfl) (Z6E w9 s.cl s.seq (by omega)) ?_
 rintro _ w19 ⟨u20, rfl, k21, p22, q23⟩
 have H24 : Sat w [Za w (fun _ => False), Z3 b2 49 (([(.int .i64 (s.r)), (.int .i64 (s.cl)), (.int .i64 (s.seq))] : List Value) ++ hc s.h ++ ([(.int .u64 (s.t)), (.int .i64 (s.sb)), (.int .i64 (s.sm))] : List Value)), Ze 5 1 (.slice a15 ((Zj s.r).length) c16) ((Zj s.r).length) ((Zj s.r).flatMap Zo), Ze 5 1 u20 ((Z0k s.cl s.seq).length) ((Z0k s.cl s.seq).flatMap Zo)] w19 := H14.addU p22 k21 q23
 obtain ⟨a25, c26, rfl⟩ := Zg (H24.at 3 rfl)
 refine ⟨_, rfl, ?_⟩
 have S27 := H24.pick [0, 1] (by decide)
 refine hK18 _ _ S27 ?_
 clear hK18 K18
 refine Z13 10 rfl (by kernel_rfl) (Z2 rfl) (fun K28 hK28 => ?_)
 refine ZJ (d := 13) rfl (by rw [show s.t = ((s.t.toNat : Nat) : Int) by omega]; kernel_rfl) (Z5r w19 s.t.toNat (by omega)) ?_
 rintro _ w29 ⟨u30, rfl, k31, p32, q33⟩
 have H34 : Sat w [Za w (fun _ => False), Z3 b2 49 (([(.int .i64 (s.r)), (.int .i64 (s.cl)), (.int .i64 (s.seq))] : List Value) ++ hc s.h ++ ([(.int .u64 (s.t)), (.int .i64 (s.sb)), (.int .i64 (s.sm))] : List Value)), Ze 5 1 (.slice a15 ((Zj s.r).length) c16) ((Zj s.r).length) ((Zj s.r).flatMap Zo), Ze 5 1 (.slice a25 ((Z0k s.cl s.seq).length) c26) ((Z0k s.cl s.seq).length) ((Z0k s.cl s.seq).flatMap Zo), Ze 5 1 u30 ((Z0S s.t.toNat).length) ((Z0S s.t.toNat).flatMap Zo)] w29 := H24.addU p32 k31 q33
 obtain ⟨a35, c36, rfl⟩ := Zg (H34.at 4 rfl)
 refine ⟨_, rfl, ?_⟩
 have S37 := H34.pick [0, 1] (by decide)
 refine hK28 _ _ S37 ?_
 clear hK28 K28
 refine Z13 11 rfl (by kernel_rfl) (Z2 rfl) (fun K38 hK38 => ?_)
 refine ZY (e := 38) (size := 1) (bytes := 24) (z := (.slice none 0 0)) (pvs := [(0, (.slice a15 ((Zj s.r).length) c16)), (1, (.slice a25 ((Z0k s.cl s.seq).length) c26)), (2, (.slice (some ⟨b2, 3, none⟩) 32 32)), (3, (.slice a35 ((Z0S s.t.toNat).length) c36))]) (vs := ([(.slice a15 ((Zj s.r).length) c16), (.slice a25 ((Z0k s.cl s.seq).length) c26), (.slice (some ⟨b2, 3, none⟩) 32 32), (.slice a35 ((Z0S s.t.toNat).length) c36)] : List Value)) rfl H34 (by kernel_rfl) (by kernel_rfl) (by kernel_rfl) (by kernel_rfl) (by kernel_rfl) rfl rfl ?_
 intro b39 w40 (H41 : Sat w [Za w (fun _ => False), Z3 b2 49 (([(.int .i64 (s.r)), (.int .i64 (s.cl)), (.int .i64 (s.seq))] : List Value) ++ hc s.h ++ ([(.int .u64 (s.t)), (.int .i64 (s.sb)), (.int .i64 (s.sm))] : List Value)), Ze 5 1 (.slice a15 ((Zj s.r).length) c16) ((Zj s.r).length) ((Zj s.r).flatMap Zo), Ze 5 1 (.slice a25 ((Z0k s.cl s.seq).length) c26) ((Z0k s.cl s.seq).length) ((Z0k s.cl s.seq).flatMap Zo), Ze 5 1 (.slice a35 ((Z0S s.t.toNat).length) c36) ((Z0S s.t.toNat).length) ((Z0S s.t.toNat).flatMap Zo), Ze 38 1 (.slice (some ⟨b39, 0, none⟩) 4 4) 4 ([(.slice a15 ((Zj s.r).length) c16), (.slice a25 ((Z0k s.cl s.seq).length) c26), (.slice (some ⟨b2, 3, none⟩) 32 32), (.slice a35 ((Z0S s.t.toNat).length) c36)] : List Value)] w40)
 have S42 := H41.pick [0, 1] (by decide)
 refine hK38 _ _ S42 ?_
 clear hK38 K38
 refine Z13 12 rfl (by kernel_rfl) (Z2 rfl) (fun K43 hK43 => ?_)
 have l44 := Z04 s.r
 have l45 := Z3d s.cl s.seq
 have l46 := s.h.len
 have l47 := Z2Y s.t.toNat
 refine ZJ (d := 15) rfl (by kernel_rfl) (Z2r w40 (.slice (some ⟨b39, 0, none⟩) 4 4) [(.slice a15 ((Zj s.r).length) c16), (.slice a25 ((Z0k s.cl s.seq).length) c26), (.slice (some ⟨b2, 3, none⟩) 32 32), (.slice a35 ((Z0S s.t.toNat).length) c36)] [(Zj s.r), (Z0k s.cl s.seq), s.h.l, (Z0S s.t.toNat)] (ListAt.row (enc := Z8d) (sz := 1) (xs := [(.slice a15 ((Zj s.r).length) c16), (.slice a25 ((Z0k s.cl s.seq).length) c26), (.slice (some ⟨b2, 3, none⟩) 32 32), (.slice a35 ((Z0S s.t.toNat).length) c36)]) Z2W (by decide) (H41.at 5 rfl)) (Parts.cons (ListAt.row (enc := Zo) (sz := 1) ZV (by decide) (H41.at 2 rfl)) (Parts.cons (ListAt.row (enc := Zo) (sz := 1) ZV (by decide) (H41.at 3 rfl)) (Parts.cons (ListAt.ofHash (Z33 (H41.at 1 rfl) (by kernel_rfl)) (by decide)) (Parts.cons (ListAt.row (enc := Zo) (sz := 1) ZV (by decide) (H41.at 4 rfl)) Parts.nil)))) (by simp only [List.flatten_cons, List.flatten_nil, List.length_append, List.length_nil]; omega) (by simp)) ?_
 rintro _ w48 ⟨u49, rfl, k50, p51, q52⟩
 have H53 : Sat w [Za w (fun _ => False), Z3 b2 49 (([(.int .i64 (s.r)), (.int .i64 (s.cl)), (.int .i64 (s.seq))] : List Value) ++ hc s.h ++ ([(.int .u64 (s.t)), (.int .i64 (s.sb)), (.int .i64 (s.sm))] : List Value)), Ze 5 1 (.slice a15 ((Zj s.r).length) c16) ((Zj s.r).length) ((Zj s.r).flatMap Zo), Ze 5 1 (.slice a25 ((Z0k s.cl s.seq).length) c26) ((Z0k s.cl s.seq).length) ((Z0k s.cl s.seq).flatMap Zo), Ze 5 1 (.slice a35 ((Z0S s.t.toNat).length) c36) ((Z0S s.t.toNat).length) ((Z0S s.t.toNat).flatMap Zo), Ze 38 1 (.slice (some ⟨b39, 0, none⟩) 4 4) 4 ([(.slice a15 ((Zj s.r).length) c16), (.slice a25 ((Z0k s.cl s.seq).length) c26), (.slice (some ⟨b2, 3, none⟩) 32 32), (.slice a35 ((Z0S s.t.toNat).length) c36)] : List Value), Ze 5 1 u49 (([(Zj s.r), (Z0k s.cl s.seq), s.h.l, (Z0S s.t.toNat)].flatten).length) (([(Zj s.r), (Z0k s.cl s.seq), s.h.l, (Z0S s.t.toNat)].flatten).flatMap Zo)] w48 := H41.addU p51 k50 q52
 obtain ⟨a54, c55, rfl⟩ := Zg (H53.at 6 rfl)
 refine ⟨_, rfl, ?_⟩
 have S56 := H53.pick [0, 1] (by decide)
 refine hK43 _ _ S56 ?_
 clear hK43 K43
 refine Zp 13 rfl (by kernel_rfl) (by kernel_rfl) (by kernel_rfl) (fun _ _ _ h => h) S56 (Z2 rfl) (d := 2) (v := (.slice a54 (([(Zj s.r), (Z0k s.cl s.seq), s.h.l, (Z0S s.t.toNat)].flatten).length) c55)) rfl (fun _ H' => (by kernel_rfl)) ?_
 refine Z0M (by kernel_rfl) ?_
 refine Z7 ?_
 refine ZU ?_
 refine Z0T rfl (ZK (v := (.slice a54 (([(Zj s.r), (Z0k s.cl s.seq), s.h.l, (Z0S s.t.toNat)].flatten).length) c55)) rfl) ?_
 have hX : ([(Zj s.r), (Z0k s.cl s.seq), s.h.l, (Z0S s.t.toNat)].flatten) = Z0U s := by rfl
 exact ⟨_, rfl, (by rw [← hX]; exact H53.at 6 rfl), H53.upd 0 rfl [] (fun _ h => h.elim), (by rw [← hX]; exact H53.fresh 0 rfl (fun _ h => h) 6 rfl rfl)⟩
theorem Z3v (w : World) (s : Zl) (hs : (s.r ≤ 9223372036854775807 ∧ s.cl ≤ 9223372036854775807 ∧ s.seq ≤ 9223372036854775807 ∧ 0 ≤ s.t ∧ s.t < 18446744073709551616)) :
  Calls Tryz.prog 15 #[(.agg ⟨(([(.int .i64 (s.r)), (.int .i64 (s.cl)), (.int .i64 (s.seq))] : List Value) ++ hc s.h ++ ([(.int .u64 (s.t)), (.int .i64 (s.sb)), (.int .i64 (s.sm))] : List Value))⟩)] w fun e w' => ∃ u, e = .returned u ∧ (Ze 5 1 u (Z08 s).length ((Z08 s).flatMap Zo)).ok w' ∧ Upd [] w w' ∧ ∀ q_, (Ze 5 1 u (Z08 s).length ((Z08 s).flatMap Zo)).fp q_ → w.heap.size ≤ q_ := by
 have H := Sat.start0 w
 refine Zv Tryz.func15 rfl 10 rfl (Nat.le_of_ble_eq_true rfl) ?_
 refine Zh ?_
 refine Zs ?_
 refine ZQ (Z2 rfl) (fun K1 hK1 => ?_)
 refine Z0N (vs := (([(.int .i64 (s.r)), (.int .i64 (s.cl)), (.int .i64 (s.seq))] : List Value) ++ hc s.h ++ ([(.int .u64 (s.t)), (.int .i64 (s.sb)), (.int .i64 (s.sm))] : List Value))) rfl H rfl rfl ?_
 intro b2 w3 (H4 : Sat w [Za w (fun _ => False), Z3 b2 49 (([(.int .i64 (s.r)), (.int .i64 (s.cl)), (.int .i64 (s.seq))] : List Value) ++ hc s.h ++ ([(.int .u64 (s.t)), (.int .i64 (s.sb)), (.int .i64 (s.sm))] : List Value))] w3)
 refine hK1 _ _ ?_
 clear hK1 K1
 refine Z5 (Z2 rfl) (d := 2) (v := (.slice none 0 0)) rfl (by kernel_rfl) ?_
 refine Zr ?_
 refine Z7 ?_
 refine Zh ?_
 refine Z0g H4 [Za w (fun _ => False), Z3 b2 49 (([(.int .i64 (s.r)), (.int .i64 (s.cl)), (.int .i64 (s.seq))] : List Value) ++ hc s.h ++ ([(.int .u64 (s.t)), (.int .i64 (s.sb)), (.int .i64 (s.sm))] : List Value))] 8 rfl (by kernel_rfl) (fun Hx => (Hx.pick [0, 1] (by decide))) ?_
 intro w5 H6 S7
 refine Zp 3 rfl (by kernel_rfl) (by kernel_rfl) (by kernel_rfl) (fun _ _ _ h => h) S7 (Z2 rfl) (d := 6) (v := (.agg ⟨(([(.int .i64 (s.r)), (.int .i64 (s.cl)), (.int .i64 (s.seq))] : List Value) ++ hc s.h ++ ([(.int .u64 (s.t)), (.int .i64 (s.sb)), (.int .i64 (s.sm))] : List Value))⟩)) rfl (fun _ H' => (ZE (vs := (([(.int .i64 (s.r)), (.int .i64 (s.cl)), (.int .i64 (s.seq))] : List Value) ++ hc s.h ++ ([(.int .u64 (s.t)), (.int .i64 (s.sb)), (.int .i64 (s.sm))] : List Value))) rfl (by kernel_rfl) (by kernel_rfl) (by exact Nat.le_of_ble_eq_true (by kernel_rfl)) (H'.at 1 rfl) (by kernel_rfl))) ?_
 refine Z13 0 rfl (by kernel_rfl) (Z2 rfl) (fun K8 hK8 => ?_)
 refine ZY (e := 5) (size := 1) (bytes := 1) (z := (.int .u8 (0))) (pvs := [(0, (.int .u8 (115))), (1, (.int .u8 (116))), (2, (.int .u8 (97))), (3, (.int .u8 (109))), (4, (.int .u8 (112)))]) (vs := ([(.int .u8 (115)), (.int .u8 (116)), (.int .u8 (97)), (.int .u8 (109)), (.int .u8 (112))] : List Value)) rfl H6 (by kernel_rfl) (by kernel_rfl) (by kernel_rfl) (by kernel_rfl) (by kernel_rfl) rfl rfl ?_
 intro b9 w10 (H11 : Sat w [Za w (fun _ => False), Z3 b2 49 (([(.int .i64 (s.r)), (.int .i64 (s.cl)), (.int .i64 (s.seq))] : List Value) ++ hc s.h ++ ([(.int .u64 (s.t)), (.int .i64 (s.sb)), (.int .i64 (s.sm))] : List Value)), Ze 5 1 (.slice (some ⟨b9, 0, none⟩) 5 5) 5 ([(.int .u8 (115)), (.int .u8 (116)), (.int .u8 (97)), (.int .u8 (109)), (.int .u8 (112))] : List Value)] w10)
 have H12 : Sat w [Za w (fun _ => False), Z3 b2 49 (([(.int .i64 (s.r)), (.int .i64 (s.cl)), (.int .i64 (s.seq))] : List Value) ++ hc s.h ++ ([(.int .u64 (s.t)), (.int .i64 (s.sb)), (.int .i64 (s.sm))] : List Value)), Ze 5 1 (.slice (some ⟨b9, 0, none⟩) 5 5) 5 ([115, 116, 97, 109, 112].flatMap Zo)] w10 := H11.cast (by rw [show (([(.int .u8 (115)), (.int .u8 (116)), (.int .u8 (97)), (.int .u8 (109)), (.int .u8 (112))] : List Value) : List Value) = [115, 116, 97, 109, 112].flatMap Zo from rfl])
 have S13 := H12.pick [0, 1] (by decide)
 refine hK8 _ _ S13 ?_
 clear hK8 K8
 refine Z13 1 rfl (by kernel_rfl) (Z2 rfl) (fun K14 hK14 => ?_)
 refine Z0E (e := 5) (s := [115, 116, 97, 109, 112]) rfl H12 2 rfl (by kernel_rfl) (by kernel_rfl) rfl ?_
 intro w15 (H16 : Sat w [Za w (fun _ => False), Z3 b2 49 (([(.int .i64 (s.r)), (.int .i64 (s.cl)), (.int .i64 (s.seq))] : List Value) ++ hc s.h ++ ([(.int .u64 (s.t)), (.int .i64 (s.sb)), (.int .i64 (s.sm))] : List Value)), ZN (.slice (some ⟨b9, 0, none⟩) 5 5) ([115, 116, 97, 109, 112])] w15)
 have S17 := H16.pick [0, 1] (by decide)
 refine hK14 _ _ S17 ?_
 clear hK14 K14
 refine Z13 2 rfl (by kernel_rfl) (Z2 rfl) (fun K18 hK18 => ?_)
 refine ZJ (d := 5) rfl (by kernel_rfl) (Z4a w15 (.slice (some ⟨b9, 0, none⟩) 5 5) ([115, 116, 97, 109, 112]) (ListAt.ofTxt (H16.at 2 rfl)) (by simp)) ?_
 rintro _ w19 ⟨u20, rfl, k21, p22, q23⟩
 have H24 : Sat w [Za w (fun _ => False), Z3 b2 49 (([(.int .i64 (s.r)), (.int .i64 (s.cl)), (.int .i64 (s.seq))] : List Value) ++ hc s.h ++ ([(.int .u64 (s.t)), (.int .i64 (s.sb)), (.int .i64 (s.sm))] : List Value)), ZN (.slice (some ⟨b9, 0, none⟩) 5 5) ([115, 116, 97, 109, 112]), Ze 5 1 u20 ((Zu ([115, 116, 97, 109, 112])).length) ((Zu ([115, 116, 97, 109, 112])).flatMap Zo)] w19 := H16.addU p22 k21 q23
 obtain ⟨a25, c26, rfl⟩ := Zg (H24.at 3 rfl)
 refine ⟨_, rfl, ?_⟩
 have S27 := H24.pick [0, 1] (by decide)
 refine hK18 _ _ S27 ?_
 clear hK18 K18
 refine Z13 4 rfl (by kernel_rfl) (Z2 rfl) (fun K28 hK28 => ?_)
 refine ZJ (d := 7) rfl (by kernel_rfl) (Z6D w19 s hs) ?_
 rintro _ w29 ⟨u30, rfl, k31, p32, q33⟩
 have H34 : Sat w [Za w (fun _ => False), Z3 b2 49 (([(.int .i64 (s.r)), (.int .i64 (s.cl)), (.int .i64 (s.seq))] : List Value) ++ hc s.h ++ ([(.int .u64 (s.t)), (.int .i64 (s.sb)), (.int .i64 (s.sm))] : List Value)), ZN (.slice (some ⟨b9, 0, none⟩) 5 5) ([115, 116, 97, 109, 112]), Ze 5 1 (.slice a25 ((Zu ([115, 116, 97, 109, 112])).length) c26) ((Zu ([115, 116, 97, 109, 112])).length) ((Zu ([115, 116, 97, 109, 112])).flatMap Zo), Ze 5 1 u30 ((Z0U s).length) ((Z0U s).flatMap Zo)] w29 := H24.addU p32 k31 q33
 obtain ⟨a35, c36, rfl⟩ := Zg (H34.at 4 rfl)
 refine ⟨_, rfl, ?_⟩
 have S37 := H34.pick [0, 1] (by decide)
 refine hK28 _ _ S37 ?_
 clear hK28 K28
 refine Z13 5 rfl (by kernel_rfl) (Z2 rfl) (fun K38 hK38 => ?_)
 refine ZY (e := 38) (size := 1) (bytes := 24) (z := (.slice none 0 0)) (pvs := [(0, (.slice a25 ((Zu ([115, 116, 97, 109, 112])).length) c26)), (1, (.slice a35 ((Z0U s).length) c36))]) (vs := ([(.slice a25 ((Zu ([115, 116, 97, 109, 112])).length) c26), (.slice a35 ((Z0U s).length) c36)] : List Value)) rfl H34 (by kernel_rfl) (by kernel_rfl) (by kernel_rfl) (by kernel_rfl) (by kernel_rfl) rfl rfl ?_
 intro b39 w40 (H41 : Sat w [Za w (fun _ => False), Z3 b2 49 (([(.int .i64 (s.r)), (.int .i64 (s.cl)), (.int .i64 (s.seq))] : List Value) ++ hc s.h ++ ([(.int .u64 (s.t)), (.int .i64 (s.sb)), (.int .i64 (s.sm))] : List Value)), ZN (.slice (some ⟨b9, 0, none⟩) 5 5) ([115, 116, 97, 109, 112]), Ze 5 1 (.slice a25 ((Zu ([115, 116, 97, 109, 112])).length) c26) ((Zu ([115, 116, 97, 109, 112])).length) ((Zu ([115, 116, 97, 109, 112])).flatMap Zo), Ze 5 1 (.slice a35 ((Z0U s).length) c36) ((Z0U s).length) ((Z0U s).flatMap Zo), Ze 38 1 (.slice (some ⟨b39, 0, none⟩) 2 2) 2 ([(.slice a25 ((Zu ([115, 116, 97, 109, 112])).length) c26), (.slice a35 ((Z0U s).length) c36)] : List Value)] w40)
 have S42 := H41.pick [0, 1] (by decide)
 refine hK38 _ _ S42 ?_
 clear hK38 K38
 refine Z13 6 rfl (by kernel_rfl) (Z2 rfl) (fun K43 hK43 => ?_)
 have l44 := Z0D ([115, 116, 97, 109, 112])
 simp only [List.length_cons, List.length_nil] at l44
 have l45 := Z63 s
 refine ZJ (d := 9) rfl (by kernel_rfl) (Z2r w40 (.slice (some ⟨b39, 0, none⟩) 2 2) [(.slice a25 ((Zu ([115, 116, 97, 109, 112])).length) c26), (.slice a35 ((Z0U s).length) c36)] [(Zu ([115, 116, 97, 109, 112])), (Z0U s)] (ListAt.row (enc := Z8d) (sz := 1) (xs := [(.slice a25 ((Zu ([115, 116, 97, 109, 112])).length) c26), (.slice a35 ((Z0U s).length) c36)]) Z2W (by decide) (H41.at 5 rfl)) (Parts.cons (ListAt.row (enc := Zo) (sz := 1) ZV (by decide) (H41.at 3 rfl)) (Parts.cons (ListAt.row (enc := Zo) (sz := 1) ZV (by decide) (H41.at 4 rfl)) Parts.nil)) (by simp only [List.flatten_cons, List.flatten_nil, List.length_append, List.length_nil]; omega) (by simp)) ?_
 rintro _ w46 ⟨u47, rfl, k48, p49, q50⟩
 have H51 : Sat w [Za w (fun _ => False), Z3 b2 49 (([(.int .i64 (s.r)), (.int .i64 (s.cl)), (.int .i64 (s.seq))] : List Value) ++ hc s.h ++ ([(.int .u64 (s.t)), (.int .i64 (s.sb)), (.int .i64 (s.sm))] : List Value)), ZN (.slice (some ⟨b9, 0, none⟩) 5 5) ([115, 116, 97, 109, 112]), Ze 5 1 (.slice a25 ((Zu ([115, 116, 97, 109, 112])).length) c26) ((Zu ([115, 116, 97, 109, 112])).length) ((Zu ([115, 116, 97, 109, 112])).flatMap Zo), Ze 5 1 (.slice a35 ((Z0U s).length) c36) ((Z0U s).length) ((Z0U s).flatMap Zo), Ze 38 1 (.slice (some ⟨b39, 0, none⟩) 2 2) 2 ([(.slice a25 ((Zu ([115, 116, 97, 109, 112])).length) c26), (.slice a35 ((Z0U s).length) c36)] : List Value), Ze 5 1 u47 (([(Zu ([115, 116, 97, 109, 112])), (Z0U s)].flatten).length) (([(Zu ([115, 116, 97, 109, 112])), (Z0U s)].flatten).flatMap Zo)] w46 := H41.addU p49 k48 q50
 obtain ⟨a52, c53, rfl⟩ := Zg (H51.at 6 rfl)
 refine ⟨_, rfl, ?_⟩
 have S54 := H51.pick [0, 1] (by decide)
 refine hK43 _ _ S54 ?_
 clear hK43 K43
 refine Zp 7 rfl (by kernel_rfl) (by kernel_rfl) (by kernel_rfl) (fun _ _ _ h => h) S54 (Z2 rfl) (d := 2) (v := (.slice a52 (([(Zu ([115, 116, 97, 109, 112])), (Z0U s)].flatten).length) c53)) rfl (fun _ H' => (by kernel_rfl)) ?_
 refine Z0M (by kernel_rfl) ?_
 refine Z7 ?_
 refine ZU ?_
 refine Z0T rfl (ZK (v := (.slice a52 (([(Zu ([115, 116, 97, 109, 112])), (Z0U s)].flatten).length) c53)) rfl) ?_
 have hX : ([(Zu ([115, 116, 97, 109, 112])), (Z0U s)].flatten) = Z08 s := by rfl
 exact ⟨_, rfl, (by rw [← hX]; exact H51.at 6 rfl), H51.upd 0 rfl [] (fun _ h => h.elim), (by rw [← hX]; exact H51.fresh 0 rfl (fun _ h => h) 6 rfl rfl)⟩
def encJ (x : Int) : List Value := [.int .i64 x]
end Go.Proofs.YtgigjkjdmalmaaaGreat
namespace Go.Proofs.YtgigjkjdmalmaaaGreat
open Go.ChangeShapes Go.WideShapes Go.ChangeAt Go.RowKit Go.Deep
section
variable {H : Type} {enc : TypeId × Value → H} {P : Program} {W : World}
theorem wf_u64 {z : Int} (h : (Lit.int .u64 z).wf = true) : 0 ≤ z ∧ z ≤ 18446744073709551615 := by
 simpa [Lit.wf, IntKind.min, IntKind.max, IntKind.signed, IntKind.bits] using h
def Z5Z (w : World) (a : Addr) (x : Int) : Prop := w.cell? a = some (.int .u64 x)
theorem Z6A {t e : TypeId} (ht : P.underlying t = some (.slice e)) (he : P.underlying e = some (.int .u64)) (hc : P.cellsOf e = 1) {v : Value} {d : DataW H} {ps : List MemPlace} (hv : ∃ a len cap, v = .slice a len cap)
  (h : DataW.Trod enc P W 0 (fun _ => true) true t v d ps) : ∃ xs, (∀ x ∈ xs, 0 ≤ x ∧ x ≤ 18446744073709551615) ∧ ListAt encU 1 W v xs := by
 obtain ⟨xs, hx⟩ := Z1R (R := fun w a x => Z5Z w a x ∧ 0 ≤ x ∧ x ≤ 18446744073709551615) ht hc (by omega) hv h (fun cs n y b off hl hcs hy => by
  obtain ⟨z, rfl, hz⟩ := Z2u he hy
  exact ⟨z, hcs 0 (by simp), wf_u64 hz⟩)
 refine ⟨xs, fun n hn => ?_, SliceOf.imp hx fun a x h j u hj => ?_⟩
 ·obtain ⟨i, hi, rfl⟩ := List.mem_iff_getElem.1 hn
  obtain ⟨b, off, cap, _, _, hall⟩ := hx.some (by omega)
  exact (hall i hi).2
 ·match j, hj with
  | 0, hj =>
   simp only [encU, List.getElem?_cons_zero, Option.some.injEq] at hj
   subst hj
   have := h.1
   obtain ⟨b, o, s⟩ := a
   unfold Z5Z at this
   have e : (⟨b, o, s⟩ : Addr).add 0 = ⟨b, o, s⟩ := by cases s <;> simp [Addr.add]
   rw [e]; exact this
  | _ + 1, hj => simp [encU] at hj
end
section
variable {H : Type} {enc : TypeId × Value → H} {W : World}
end
section
variable {H : Type} {enc : TypeId × Value → H} {W : World}
theorem Z5f {a : Addr} {x : Value} (h : W.cell? a = some x) : Z1L W a [x] := fun j u hj => by
 match j, hj with
 | 0, hj =>
  simp only [List.getElem?_cons_zero, Option.some.injEq] at hj
  subst hj
  obtain ⟨b, o, s⟩ := a
  have e : (⟨b, o, s⟩ : Addr).add 0 = ⟨b, o, s⟩ := by cases s <;> simp [Addr.add]
  rw [e]; exact h
 | _ + 1, hj => simp at hj
theorem Z7Y {v : Value} {d : DataW H} {ps : List MemPlace} (hv : ∃ a len cap, v = .slice a len cap) (h : DataW.Trod enc Tryz.prog W 0 (fun _ => true) true 22 v d ps) : ∃ xs, (∀ x ∈ xs, -9223372036854775808 ≤ x ∧ x ≤ 9223372036854775807) ∧ ListAt encJ 1 W v xs := by
 obtain ⟨xs, hx⟩ := Z1R (sz := 1) (R := fun w a (x : Int) => w.cell? a = some (.int .i64 x) ∧ -9223372036854775808 ≤ x ∧ x ≤ 9223372036854775807) Tryz.underlying22 (by kernel_rfl) (by omega) hv h (fun cs n y b off hl hcs hy => by
  obtain ⟨z, rfl, hz⟩ := Z2u (k := .i64) Tryz.underlying3 hy
  exact ⟨z, hcs 0 (by simp), wf_i64 hz⟩)
 refine ⟨xs, fun n hn => ?_, SliceOf.imp hx fun a x h => Z5f h.1⟩
 obtain ⟨i, hi, rfl⟩ := List.mem_iff_getElem.1 hn
 obtain ⟨b, off, cap, _, _, hall⟩ := hx.some (by omega)
 exact (hall i hi).2
end
def encBo (x : Bool) : List Value := [.bool x]
section
variable {H : Type} {enc : TypeId × Value → H} {W : World}
theorem Z7X {v : Value} {d : DataW H} {ps : List MemPlace} (hv : ∃ a len cap, v = .slice a len cap) (h : DataW.Trod enc Tryz.prog W 0 (fun _ => true) true 24 v d ps) : ∃ xs, ListAt encBo 1 W v xs := by
 obtain ⟨xs, hx⟩ := Z1R (sz := 1) (R := fun w a (x : Bool) => w.cell? a = some (.bool x)) Tryz.underlying24 (by kernel_rfl) (by omega) hv h (fun cs n y b off hl hcs hy => by
  obtain ⟨z, rfl, _⟩ := DataW.trod_bool Tryz.underlying4 hy
  exact ⟨z, hcs 0 (by simp)⟩)
 exact ⟨xs, SliceOf.imp hx fun a x h => Z5f h⟩
end
end Go.Proofs.YtgigjkjdmalmaaaGreat
