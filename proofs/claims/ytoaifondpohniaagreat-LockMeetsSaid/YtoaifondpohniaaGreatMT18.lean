/- WHAT IS PROVED: contracts and plain laws of Rt2. Conditions: stated with each. -/
import Derived.Test.YtoaifondpohniaaGreatMT08
set_option maxHeartbeats 4000000
set_option maxRecDepth 100000
namespace Go.Proofs.YtoaifondpohniaaGreat
open Go.RowKit
theorem Z7y (w : World) (a b : Int) (hs : a ≤ 9223372036854775807 ∧ b ≤ 9223372036854775807) :
  Calls Tryz.prog 77 #[(.agg ⟨([(.int .i64 (a)), (.int .i64 (b))] : List Value)⟩)] w fun e w' => ∃ u, e = .returned u ∧ (Zd 5 1 u (ZN a b).length ((ZN a b).flatMap Zw)).ok w' ∧ Upd [] w w' ∧ ∀ q_, (Zd 5 1 u (ZN a b).length ((ZN a b).flatMap Zw)).fp q_ → w.heap.size ≤ q_ := by
 have H := Sat.start0 w
 refine Zr Tryz.func77 rfl 11 rfl (Nat.le_of_ble_eq_true rfl) ?_
 refine Zb ?_
 refine Zl ?_
 refine ZQ (Z0 rfl) (fun K1 hK1 => ?_)
 refine Z1F (vs := ([(.int .i64 (a)), (.int .i64 (b))] : List Value)) rfl H rfl rfl ?_
 intro b2 w3 (H4 : Sat w [Z5 w (fun _ => False), Z1 b2 24 ([(.int .i64 (a)), (.int .i64 (b))] : List Value)] w3)
 refine hK1 _ _ ?_
 clear hK1 K1
 refine Z3 (Z0 rfl) (d := 2) (v := (.slice none 0 0)) rfl (by kernel_rfl) ?_
 refine Zi ?_
 refine Z4 ?_
 refine Zb ?_
 refine Z0f H4 [Z5 w (fun _ => False), Z1 b2 24 ([(.int .i64 (a)), (.int .i64 (b))] : List Value)] 9 rfl (by kernel_rfl) (fun Hx => (Hx.pick [0, 1] (by decide))) ?_
 intro w5 H6 S7
 refine ZM 0 rfl (by kernel_rfl) (by kernel_rfl) (by kernel_rfl) (fun _ _ _ h => h) S7 (Z0 rfl) (d := 3) (v := (.pointer (some ⟨b2, 0, none⟩))) rfl (fun _ H' => (by kernel_rfl)) ?_
 refine ZM 1 rfl (by kernel_rfl) (by kernel_rfl) (by kernel_rfl) (fun _ _ _ h => h) S7 (Z0 rfl) (d := 4) (v := (.int .i64 (a))) rfl (fun _ H' => (Za rfl (by kernel_rfl) (H'.cell 1 rfl rfl))) ?_
 refine ZM 3 rfl (by kernel_rfl) (by kernel_rfl) (by kernel_rfl) (fun _ _ _ h => h) S7 (Z0 rfl) (d := 6) (v := (.pointer (some ⟨b2, 1, none⟩))) rfl (fun _ H' => (by kernel_rfl)) ?_
 refine ZM 4 rfl (by kernel_rfl) (by kernel_rfl) (by kernel_rfl) (fun _ _ _ h => h) S7 (Z0 rfl) (d := 7) (v := (.int .i64 (b))) rfl (fun _ H' => (Za rfl (by kernel_rfl) (H'.cell 1 rfl rfl))) ?_
 refine Z1l 2 rfl (by kernel_rfl) (Z0 rfl) (fun K8 hK8 => ?_)
 refine ZX (d := 5) rfl (by kernel_rfl) (Z1V w5 a (by omega)) ?_
 rintro _ w9 ⟨u10, rfl, k11, p12, q13⟩
 have H14 : Sat w [Z5 w (fun _ => False), Z1 b2 24 ([(.int .i64 (a)), (.int .i64 (b))] : List Value), Zd 5 1 u10 ((Zc a).length) ((Zc a).flatMap Zw)] w9 := H6.addU p12 k11 q13
 obtain ⟨a15, c16, rfl⟩ := Z9 (H14.at 2 rfl)
 refine ⟨_, rfl, ?_⟩
 have S17 := H14.pick [0, 1] (by decide)
 refine hK8 _ _ S17 ?_
 clear hK8 K8
 refine Z1l 5 rfl (by kernel_rfl) (Z0 rfl) (fun K18 hK18 => ?_)
 refine ZX (d := 8) rfl (by kernel_rfl) (Z1V w9 b (by omega)) ?_
 rintro _ w19 ⟨u20, rfl, k21, p22, q23⟩
 have H24 : Sat w [Z5 w (fun _ => False), Z1 b2 24 ([(.int .i64 (a)), (.int .i64 (b))] : List Value), Zd 5 1 (.slice a15 ((Zc a).length) c16) ((Zc a).length) ((Zc a).flatMap Zw), Zd 5 1 u20 ((Zc b).length) ((Zc b).flatMap Zw)] w19 := H14.addU p22 k21 q23
 obtain ⟨a25, c26, rfl⟩ := Z9 (H24.at 3 rfl)
 refine ⟨_, rfl, ?_⟩
 have S27 := H24.pick [0, 1] (by decide)
 refine hK18 _ _ S27 ?_
 clear hK18 K18
 refine Z1l 6 rfl (by kernel_rfl) (Z0 rfl) (fun K28 hK28 => ?_)
 refine Z05 (e := 62) (size := 1) (bytes := 24) (z := (.slice none 0 0)) (pvs := [(0, (.slice a15 ((Zc a).length) c16)), (1, (.slice a25 ((Zc b).length) c26))]) (vs := ([(.slice a15 ((Zc a).length) c16), (.slice a25 ((Zc b).length) c26)] : List Value)) rfl H24 (by kernel_rfl) (by kernel_rfl) (by kernel_rfl) (by kernel_rfl) (by kernel_rfl) rfl rfl ?_
 intro b29 w30 (H31 : Sat w [Z5 w (fun _ => False), Z1 b2 24 ([(.int .i64 (a)), (.int .i64 (b))] : List Value), Zd 5 1 (.slice a15 ((Zc a).length) c16) ((Zc a).length) ((Zc a).flatMap Zw), Zd 5 1 (.slice a25 ((Zc b).length) c26) ((Zc b).length) ((Zc b).flatMap Zw), Zd 62 1 (.slice (some ⟨b29, 0, none⟩) 2 2) 2 ([(.slice a15 ((Zc a).length) c16), (.slice a25 ((Zc b).length) c26)] : List Value)] w30)
 have S32 := H31.pick [0, 1] (by decide)
 refine hK28 _ _ S32 ?_
 clear hK28 K28
 refine Z1l 7 rfl (by kernel_rfl) (Z0 rfl) (fun K33 hK33 => ?_)
 have l34 := ZR a
 have l35 := ZR b
 refine ZX (d := 10) rfl (by kernel_rfl) (Z2F w30 (.slice (some ⟨b29, 0, none⟩) 2 2) [(.slice a15 ((Zc a).length) c16), (.slice a25 ((Zc b).length) c26)] [(Zc a), (Zc b)] (ListAt.row (enc := Z9y) (sz := 1) (xs := [(.slice a15 ((Zc a).length) c16), (.slice a25 ((Zc b).length) c26)]) Z3y (by decide) (H31.at 4 rfl)) (Parts.cons (ListAt.row (enc := Zw) (sz := 1) Z06 (by decide) (H31.at 2 rfl)) (Parts.cons (ListAt.row (enc := Zw) (sz := 1) Z06 (by decide) (H31.at 3 rfl)) Parts.nil)) (by simp only [List.flatten_cons, List.flatten_nil, List.length_append, List.length_nil]; omega) (by simp)) ?_
 rintro _ w36 ⟨u37, rfl, k38, p39, q40⟩
 have H41 : Sat w [Z5 w (fun _ => False), Z1 b2 24 ([(.int .i64 (a)), (.int .i64 (b))] : List Value), Zd 5 1 (.slice a15 ((Zc a).length) c16) ((Zc a).length) ((Zc a).flatMap Zw), Zd 5 1 (.slice a25 ((Zc b).length) c26) ((Zc b).length) ((Zc b).flatMap Zw), Zd 62 1 (.slice (some ⟨b29, 0, none⟩) 2 2) 2 ([(.slice a15 ((Zc a).length) c16), (.slice a25 ((Zc b).length) c26)] : List Value), Zd 5 1 u37 (([(Zc a), (Zc b)].flatten).length) (([(Zc a), (Zc b)].flatten).flatMap Zw)] w36 := H31.addU p39 k38 q40
 obtain ⟨a42, c43, rfl⟩ := Z9 (H41.at 5 rfl)
 refine ⟨_, rfl, ?_⟩
 have S44 := H41.pick [0, 1] (by decide)
 refine hK33 _ _ S44 ?_
 clear hK33 K33
 refine ZM 8 rfl (by kernel_rfl) (by kernel_rfl) (by kernel_rfl) (fun _ _ _ h => h) S44 (Z0 rfl) (d := 2) (v := (.slice a42 (([(Zc a), (Zc b)].flatten).length) c43)) rfl (fun _ H' => (by kernel_rfl)) ?_
 refine Z20 (by kernel_rfl) ?_
 refine Z4 ?_
 refine ZY ?_
 refine Z1i rfl (ZJ (v := (.slice a42 (([(Zc a), (Zc b)].flatten).length) c43)) rfl) ?_
 have hX : ([(Zc a), (Zc b)].flatten) = ZN a b := by rfl
 exact ⟨_, rfl, (by rw [← hX]; exact H41.at 5 rfl), H41.upd 0 rfl [] (fun _ h => h.elim), (by rw [← hX]; exact H41.fresh 0 rfl (fun _ h => h) 5 rfl rfl)⟩
theorem Z85 (w : World) (s : Ze) (hs : (s.r ≤ 9223372036854775807 ∧ s.cl ≤ 9223372036854775807 ∧ s.seq ≤ 9223372036854775807 ∧ 0 ≤ s.t ∧ s.t < 18446744073709551616)) :
  Calls Tryz.prog 95 #[(.agg ⟨(([(.int .i64 (s.r)), (.int .i64 (s.cl)), (.int .i64 (s.seq))] : List Value) ++ hc s.h ++ ([(.int .u64 (s.t)), (.int .i64 (s.sb)), (.int .i64 (s.sm))] : List Value))⟩)] w fun e w' => ∃ u, e = .returned u ∧ (Zd 5 1 u (Z18 s).length ((Z18 s).flatMap Zw)).ok w' ∧ Upd [] w w' ∧ ∀ q_, (Zd 5 1 u (Z18 s).length ((Z18 s).flatMap Zw)).fp q_ → w.heap.size ≤ q_ := by
 have H := Sat.start0 w
 refine Zr Tryz.func95 rfl 16 rfl (Nat.le_of_ble_eq_true rfl) ?_
 refine Zb ?_
 refine Zl ?_
 refine ZQ (Z0 rfl) (fun K1 hK1 => ?_)
 refine Z1F (vs := (([(.int .i64 (s.r)), (.int .i64 (s.cl)), (.int .i64 (s.seq))] : List Value) ++ hc s.h ++ ([(.int .u64 (s.t)), (.int .i64 (s.sb)), (.int .i64 (s.sm))] : List Value))) rfl H rfl rfl ?_
 intro b2 w3 (H4 : Sat w [Z5 w (fun _ => False), Z1 b2 101 (([(.int .i64 (s.r)), (.int .i64 (s.cl)), (.int .i64 (s.seq))] : List Value) ++ hc s.h ++ ([(.int .u64 (s.t)), (.int .i64 (s.sb)), (.int .i64 (s.sm))] : List Value))] w3)
 refine hK1 _ _ ?_
 clear hK1 K1
 refine Z3 (Z0 rfl) (d := 2) (v := (.slice none 0 0)) rfl (by kernel_rfl) ?_
 refine Zi ?_
 refine Z4 ?_
 refine Zb ?_
 refine Z0f H4 [Z5 w (fun _ => False), Z1 b2 101 (([(.int .i64 (s.r)), (.int .i64 (s.cl)), (.int .i64 (s.seq))] : List Value) ++ hc s.h ++ ([(.int .u64 (s.t)), (.int .i64 (s.sb)), (.int .i64 (s.sm))] : List Value))] 14 rfl (by kernel_rfl) (fun Hx => (Hx.pick [0, 1] (by decide))) ?_
 intro w5 H6 S7
 refine ZM 0 rfl (by kernel_rfl) (by kernel_rfl) (by kernel_rfl) (fun _ _ _ h => h) S7 (Z0 rfl) (d := 3) (v := (.pointer (some ⟨b2, 0, none⟩))) rfl (fun _ H' => (by kernel_rfl)) ?_
 refine ZM 1 rfl (by kernel_rfl) (by kernel_rfl) (by kernel_rfl) (fun _ _ _ h => h) S7 (Z0 rfl) (d := 4) (v := (.int .i64 (s.r))) rfl (fun _ H' => (Za rfl (by kernel_rfl) (H'.cell 1 rfl (by kernel_rfl)))) ?_
 refine ZM 3 rfl (by kernel_rfl) (by kernel_rfl) (by kernel_rfl) (fun _ _ _ h => h) S7 (Z0 rfl) (d := 6) (v := (.pointer (some ⟨b2, 1, none⟩))) rfl (fun _ H' => (by kernel_rfl)) ?_
 refine ZM 4 rfl (by kernel_rfl) (by kernel_rfl) (by kernel_rfl) (fun _ _ _ h => h) S7 (Z0 rfl) (d := 7) (v := (.agg ⟨([(.int .i64 (s.cl)), (.int .i64 (s.seq))] : List Value)⟩)) rfl (fun _ H' => (Zs (vs := ([(.int .i64 (s.cl)), (.int .i64 (s.seq))] : List Value)) rfl (by kernel_rfl) (by kernel_rfl) (by exact Nat.le_of_ble_eq_true (by kernel_rfl)) (H'.at 1 rfl) (by kernel_rfl))) ?_
 refine ZM 6 rfl (by kernel_rfl) (by kernel_rfl) (by kernel_rfl) (fun _ _ _ h => h) S7 (Z0 rfl) (d := 9) (v := (.pointer (some ⟨b2, 3, none⟩))) rfl (fun _ H' => (by kernel_rfl)) ?_
 refine ZM 7 rfl (by kernel_rfl) (by kernel_rfl) (by kernel_rfl) (fun _ _ _ h => h) S7 (Z0 rfl) (d := 10) (v := (.slice (some ⟨b2, 3, none⟩) 32 32)) rfl (fun _ H' => (by kernel_rfl)) ?_
 refine ZM 8 rfl (by kernel_rfl) (by kernel_rfl) (by kernel_rfl) (fun _ _ _ h => h) S7 (Z0 rfl) (d := 11) (v := (.pointer (some ⟨b2, 35, none⟩))) rfl (fun _ H' => (by kernel_rfl)) ?_
 refine ZM 9 rfl (by kernel_rfl) (by kernel_rfl) (by kernel_rfl) (fun _ _ _ h => h) S7 (Z0 rfl) (d := 12) (v := (.int .u64 (s.t))) rfl (fun _ H' => (Za rfl (by kernel_rfl) (H'.cell 1 rfl (by kernel_rfl)))) ?_
 refine Z1l 2 rfl (by kernel_rfl) (Z0 rfl) (fun K8 hK8 => ?_)
 refine ZX (d := 5) rfl (by kernel_rfl) (Z1V w5 s.r (by omega)) ?_
 rintro _ w9 ⟨u10, rfl, k11, p12, q13⟩
 have H14 : Sat w [Z5 w (fun _ => False), Z1 b2 101 (([(.int .i64 (s.r)), (.int .i64 (s.cl)), (.int .i64 (s.seq))] : List Value) ++ hc s.h ++ ([(.int .u64 (s.t)), (.int .i64 (s.sb)), (.int .i64 (s.sm))] : List Value)), Zd 5 1 u10 ((Zc s.r).length) ((Zc s.r).flatMap Zw)] w9 := H6.addU p12 k11 q13
 obtain ⟨a15, c16, rfl⟩ := Z9 (H14.at 2 rfl)
 refine ⟨_, rfl, ?_⟩
 have S17 := H14.pick [0, 1] (by decide)
 refine hK8 _ _ S17 ?_
 clear hK8 K8
 refine Z1l 5 rfl (by kernel_rfl) (Z0 rfl) (fun K18 hK18 => ?_)
 refine ZX (d := 8) rfl (by kernel_rfl) (Z7y w9 s.cl s.seq (by omega)) ?_
 rintro _ w19 ⟨u20, rfl, k21, p22, q23⟩
 have H24 : Sat w [Z5 w (fun _ => False), Z1 b2 101 (([(.int .i64 (s.r)), (.int .i64 (s.cl)), (.int .i64 (s.seq))] : List Value) ++ hc s.h ++ ([(.int .u64 (s.t)), (.int .i64 (s.sb)), (.int .i64 (s.sm))] : List Value)), Zd 5 1 (.slice a15 ((Zc s.r).length) c16) ((Zc s.r).length) ((Zc s.r).flatMap Zw), Zd 5 1 u20 ((ZN s.cl s.seq).length) ((ZN s.cl s.seq).flatMap Zw)] w19 := H14.addU p22 k21 q23
 obtain ⟨a25, c26, rfl⟩ := Z9 (H24.at 3 rfl)
 refine ⟨_, rfl, ?_⟩
 have S27 := H24.pick [0, 1] (by decide)
 refine hK18 _ _ S27 ?_
 clear hK18 K18
 refine Z1l 10 rfl (by kernel_rfl) (Z0 rfl) (fun K28 hK28 => ?_)
 refine ZX (d := 13) rfl (by rw [show s.t = ((s.t.toNat : Nat) : Int) by omega]; kernel_rfl) (Z6X w19 s.t.toNat (by omega)) ?_
 rintro _ w29 ⟨u30, rfl, k31, p32, q33⟩
 have H34 : Sat w [Z5 w (fun _ => False), Z1 b2 101 (([(.int .i64 (s.r)), (.int .i64 (s.cl)), (.int .i64 (s.seq))] : List Value) ++ hc s.h ++ ([(.int .u64 (s.t)), (.int .i64 (s.sb)), (.int .i64 (s.sm))] : List Value)), Zd 5 1 (.slice a15 ((Zc s.r).length) c16) ((Zc s.r).length) ((Zc s.r).flatMap Zw), Zd 5 1 (.slice a25 ((ZN s.cl s.seq).length) c26) ((ZN s.cl s.seq).length) ((ZN s.cl s.seq).flatMap Zw), Zd 5 1 u30 ((Z0G s.t.toNat).length) ((Z0G s.t.toNat).flatMap Zw)] w29 := H24.addU p32 k31 q33
 obtain ⟨a35, c36, rfl⟩ := Z9 (H34.at 4 rfl)
 refine ⟨_, rfl, ?_⟩
 have S37 := H34.pick [0, 1] (by decide)
 refine hK28 _ _ S37 ?_
 clear hK28 K28
 refine Z1l 11 rfl (by kernel_rfl) (Z0 rfl) (fun K38 hK38 => ?_)
 refine Z05 (e := 62) (size := 1) (bytes := 24) (z := (.slice none 0 0)) (pvs := [(0, (.slice a15 ((Zc s.r).length) c16)), (1, (.slice a25 ((ZN s.cl s.seq).length) c26)), (2, (.slice (some ⟨b2, 3, none⟩) 32 32)), (3, (.slice a35 ((Z0G s.t.toNat).length) c36))]) (vs := ([(.slice a15 ((Zc s.r).length) c16), (.slice a25 ((ZN s.cl s.seq).length) c26), (.slice (some ⟨b2, 3, none⟩) 32 32), (.slice a35 ((Z0G s.t.toNat).length) c36)] : List Value)) rfl H34 (by kernel_rfl) (by kernel_rfl) (by kernel_rfl) (by kernel_rfl) (by kernel_rfl) rfl rfl ?_
 intro b39 w40 (H41 : Sat w [Z5 w (fun _ => False), Z1 b2 101 (([(.int .i64 (s.r)), (.int .i64 (s.cl)), (.int .i64 (s.seq))] : List Value) ++ hc s.h ++ ([(.int .u64 (s.t)), (.int .i64 (s.sb)), (.int .i64 (s.sm))] : List Value)), Zd 5 1 (.slice a15 ((Zc s.r).length) c16) ((Zc s.r).length) ((Zc s.r).flatMap Zw), Zd 5 1 (.slice a25 ((ZN s.cl s.seq).length) c26) ((ZN s.cl s.seq).length) ((ZN s.cl s.seq).flatMap Zw), Zd 5 1 (.slice a35 ((Z0G s.t.toNat).length) c36) ((Z0G s.t.toNat).length) ((Z0G s.t.toNat).flatMap Zw), Zd 62 1 (.slice (some ⟨b39, 0, none⟩) 4 4) 4 ([(.slice a15 ((Zc s.r).length) c16), (.slice a25 ((ZN s.cl s.seq).length) c26), (.slice (some ⟨b2, 3, none⟩) 32 32), (.slice a35 ((Z0G s.t.toNat).length) c36)] : List Value)] w40)
 have S42 := H41.pick [0, 1] (by decide)
 refine hK38 _ _ S42 ?_
 clear hK38 K38
 refine Z1l 12 rfl (by kernel_rfl) (Z0 rfl) (fun K43 hK43 => ?_)
 have l44 := ZR s.r
 have l45 := Z28 s.cl s.seq
 have l46 := s.h.len
 have l47 := Z2g s.t.toNat
 refine ZX (d := 15) rfl (by kernel_rfl) (Z2F w40 (.slice (some ⟨b39, 0, none⟩) 4 4) [(.slice a15 ((Zc s.r).length) c16), (.slice a25 ((ZN s.cl s.seq).length) c26), (.slice (some ⟨b2, 3, none⟩) 32 32), (.slice a35 ((Z0G s.t.toNat).length) c36)] [(Zc s.r), (ZN s.cl s.seq), s.h.l, (Z0G s.t.toNat)] (ListAt.row (enc := Z9y) (sz := 1) (xs := [(.slice a15 ((Zc s.r).length) c16), (.slice a25 ((ZN s.cl s.seq).length) c26), (.slice (some ⟨b2, 3, none⟩) 32 32), (.slice a35 ((Z0G s.t.toNat).length) c36)]) Z3y (by decide) (H41.at 5 rfl)) (Parts.cons (ListAt.row (enc := Zw) (sz := 1) Z06 (by decide) (H41.at 2 rfl)) (Parts.cons (ListAt.row (enc := Zw) (sz := 1) Z06 (by decide) (H41.at 3 rfl)) (Parts.cons (ListAt.ofHash (Z3n (H41.at 1 rfl) (by kernel_rfl)) (by decide)) (Parts.cons (ListAt.row (enc := Zw) (sz := 1) Z06 (by decide) (H41.at 4 rfl)) Parts.nil)))) (by simp only [List.flatten_cons, List.flatten_nil, List.length_append, List.length_nil]; omega) (by simp)) ?_
 rintro _ w48 ⟨u49, rfl, k50, p51, q52⟩
 have H53 : Sat w [Z5 w (fun _ => False), Z1 b2 101 (([(.int .i64 (s.r)), (.int .i64 (s.cl)), (.int .i64 (s.seq))] : List Value) ++ hc s.h ++ ([(.int .u64 (s.t)), (.int .i64 (s.sb)), (.int .i64 (s.sm))] : List Value)), Zd 5 1 (.slice a15 ((Zc s.r).length) c16) ((Zc s.r).length) ((Zc s.r).flatMap Zw), Zd 5 1 (.slice a25 ((ZN s.cl s.seq).length) c26) ((ZN s.cl s.seq).length) ((ZN s.cl s.seq).flatMap Zw), Zd 5 1 (.slice a35 ((Z0G s.t.toNat).length) c36) ((Z0G s.t.toNat).length) ((Z0G s.t.toNat).flatMap Zw), Zd 62 1 (.slice (some ⟨b39, 0, none⟩) 4 4) 4 ([(.slice a15 ((Zc s.r).length) c16), (.slice a25 ((ZN s.cl s.seq).length) c26), (.slice (some ⟨b2, 3, none⟩) 32 32), (.slice a35 ((Z0G s.t.toNat).length) c36)] : List Value), Zd 5 1 u49 (([(Zc s.r), (ZN s.cl s.seq), s.h.l, (Z0G s.t.toNat)].flatten).length) (([(Zc s.r), (ZN s.cl s.seq), s.h.l, (Z0G s.t.toNat)].flatten).flatMap Zw)] w48 := H41.addU p51 k50 q52
 obtain ⟨a54, c55, rfl⟩ := Z9 (H53.at 6 rfl)
 refine ⟨_, rfl, ?_⟩
 have S56 := H53.pick [0, 1] (by decide)
 refine hK43 _ _ S56 ?_
 clear hK43 K43
 refine ZM 13 rfl (by kernel_rfl) (by kernel_rfl) (by kernel_rfl) (fun _ _ _ h => h) S56 (Z0 rfl) (d := 2) (v := (.slice a54 (([(Zc s.r), (ZN s.cl s.seq), s.h.l, (Z0G s.t.toNat)].flatten).length) c55)) rfl (fun _ H' => (by kernel_rfl)) ?_
 refine Z20 (by kernel_rfl) ?_
 refine Z4 ?_
 refine ZY ?_
 refine Z1i rfl (ZJ (v := (.slice a54 (([(Zc s.r), (ZN s.cl s.seq), s.h.l, (Z0G s.t.toNat)].flatten).length) c55)) rfl) ?_
 have hX : ([(Zc s.r), (ZN s.cl s.seq), s.h.l, (Z0G s.t.toNat)].flatten) = Z18 s := by rfl
 exact ⟨_, rfl, (by rw [← hX]; exact H53.at 6 rfl), H53.upd 0 rfl [] (fun _ h => h.elim), (by rw [← hX]; exact H53.fresh 0 rfl (fun _ h => h) 6 rfl rfl)⟩
theorem Z35 (w : World) (s : Ze) (hs : (s.r ≤ 9223372036854775807 ∧ s.cl ≤ 9223372036854775807 ∧ s.seq ≤ 9223372036854775807 ∧ 0 ≤ s.t ∧ s.t < 18446744073709551616)) :
  Calls Tryz.prog 59 #[(.agg ⟨(([(.int .i64 (s.r)), (.int .i64 (s.cl)), (.int .i64 (s.seq))] : List Value) ++ hc s.h ++ ([(.int .u64 (s.t)), (.int .i64 (s.sb)), (.int .i64 (s.sm))] : List Value))⟩)] w fun e w' => ∃ u, e = .returned u ∧ (Zd 5 1 u (Zx s).length ((Zx s).flatMap Zw)).ok w' ∧ Upd [] w w' ∧ ∀ q_, (Zd 5 1 u (Zx s).length ((Zx s).flatMap Zw)).fp q_ → w.heap.size ≤ q_ := by
 have H := Sat.start0 w
 refine Zr Tryz.func59 rfl 10 rfl (Nat.le_of_ble_eq_true rfl) ?_
 refine Zb ?_
 refine Zl ?_
 refine ZQ (Z0 rfl) (fun K1 hK1 => ?_)
 refine Z1F (vs := (([(.int .i64 (s.r)), (.int .i64 (s.cl)), (.int .i64 (s.seq))] : List Value) ++ hc s.h ++ ([(.int .u64 (s.t)), (.int .i64 (s.sb)), (.int .i64 (s.sm))] : List Value))) rfl H rfl rfl ?_
 intro b2 w3 (H4 : Sat w [Z5 w (fun _ => False), Z1 b2 101 (([(.int .i64 (s.r)), (.int .i64 (s.cl)), (.int .i64 (s.seq))] : List Value) ++ hc s.h ++ ([(.int .u64 (s.t)), (.int .i64 (s.sb)), (.int .i64 (s.sm))] : List Value))] w3)
 refine hK1 _ _ ?_
 clear hK1 K1
 refine Z3 (Z0 rfl) (d := 2) (v := (.slice none 0 0)) rfl (by kernel_rfl) ?_
 refine Zi ?_
 refine Z4 ?_
 refine Zb ?_
 refine Z0f H4 [Z5 w (fun _ => False), Z1 b2 101 (([(.int .i64 (s.r)), (.int .i64 (s.cl)), (.int .i64 (s.seq))] : List Value) ++ hc s.h ++ ([(.int .u64 (s.t)), (.int .i64 (s.sb)), (.int .i64 (s.sm))] : List Value))] 8 rfl (by kernel_rfl) (fun Hx => (Hx.pick [0, 1] (by decide))) ?_
 intro w5 H6 S7
 refine ZM 3 rfl (by kernel_rfl) (by kernel_rfl) (by kernel_rfl) (fun _ _ _ h => h) S7 (Z0 rfl) (d := 6) (v := (.agg ⟨(([(.int .i64 (s.r)), (.int .i64 (s.cl)), (.int .i64 (s.seq))] : List Value) ++ hc s.h ++ ([(.int .u64 (s.t)), (.int .i64 (s.sb)), (.int .i64 (s.sm))] : List Value))⟩)) rfl (fun _ H' => (Zs (vs := (([(.int .i64 (s.r)), (.int .i64 (s.cl)), (.int .i64 (s.seq))] : List Value) ++ hc s.h ++ ([(.int .u64 (s.t)), (.int .i64 (s.sb)), (.int .i64 (s.sm))] : List Value))) rfl (by kernel_rfl) (by kernel_rfl) (by exact Nat.le_of_ble_eq_true (by kernel_rfl)) (H'.at 1 rfl) (by kernel_rfl))) ?_
 refine Z1l 0 rfl (by kernel_rfl) (Z0 rfl) (fun K8 hK8 => ?_)
 refine Z05 (e := 5) (size := 1) (bytes := 1) (z := (.int .u8 (0))) (pvs := [(0, (.int .u8 (115))), (1, (.int .u8 (116))), (2, (.int .u8 (97))), (3, (.int .u8 (109))), (4, (.int .u8 (112)))]) (vs := ([(.int .u8 (115)), (.int .u8 (116)), (.int .u8 (97)), (.int .u8 (109)), (.int .u8 (112))] : List Value)) rfl H6 (by kernel_rfl) (by kernel_rfl) (by kernel_rfl) (by kernel_rfl) (by kernel_rfl) rfl rfl ?_
 intro b9 w10 (H11 : Sat w [Z5 w (fun _ => False), Z1 b2 101 (([(.int .i64 (s.r)), (.int .i64 (s.cl)), (.int .i64 (s.seq))] : List Value) ++ hc s.h ++ ([(.int .u64 (s.t)), (.int .i64 (s.sb)), (.int .i64 (s.sm))] : List Value)), Zd 5 1 (.slice (some ⟨b9, 0, none⟩) 5 5) 5 ([(.int .u8 (115)), (.int .u8 (116)), (.int .u8 (97)), (.int .u8 (109)), (.int .u8 (112))] : List Value)] w10)
 have H12 : Sat w [Z5 w (fun _ => False), Z1 b2 101 (([(.int .i64 (s.r)), (.int .i64 (s.cl)), (.int .i64 (s.seq))] : List Value) ++ hc s.h ++ ([(.int .u64 (s.t)), (.int .i64 (s.sb)), (.int .i64 (s.sm))] : List Value)), Zd 5 1 (.slice (some ⟨b9, 0, none⟩) 5 5) 5 ([115, 116, 97, 109, 112].flatMap Zw)] w10 := H11.cast (by rw [show (([(.int .u8 (115)), (.int .u8 (116)), (.int .u8 (97)), (.int .u8 (109)), (.int .u8 (112))] : List Value) : List Value) = [115, 116, 97, 109, 112].flatMap Zw from rfl])
 have S13 := H12.pick [0, 1] (by decide)
 refine hK8 _ _ S13 ?_
 clear hK8 K8
 refine Z1l 1 rfl (by kernel_rfl) (Z0 rfl) (fun K14 hK14 => ?_)
 refine Z1Z (e := 5) (s := [115, 116, 97, 109, 112]) rfl H12 2 rfl (by kernel_rfl) (by kernel_rfl) rfl ?_
 intro w15 (H16 : Sat w [Z5 w (fun _ => False), Z1 b2 101 (([(.int .i64 (s.r)), (.int .i64 (s.cl)), (.int .i64 (s.seq))] : List Value) ++ hc s.h ++ ([(.int .u64 (s.t)), (.int .i64 (s.sb)), (.int .i64 (s.sm))] : List Value)), Z1O (.slice (some ⟨b9, 0, none⟩) 5 5) ([115, 116, 97, 109, 112])] w15)
 have S17 := H16.pick [0, 1] (by decide)
 refine hK14 _ _ S17 ?_
 clear hK14 K14
 refine Z1l 2 rfl (by kernel_rfl) (Z0 rfl) (fun K18 hK18 => ?_)
 refine ZX (d := 5) rfl (by kernel_rfl) (Z4a w15 (.slice (some ⟨b9, 0, none⟩) 5 5) ([115, 116, 97, 109, 112]) (ListAt.ofTxt (H16.at 2 rfl)) (by simp)) ?_
 rintro _ w19 ⟨u20, rfl, k21, p22, q23⟩
 have H24 : Sat w [Z5 w (fun _ => False), Z1 b2 101 (([(.int .i64 (s.r)), (.int .i64 (s.cl)), (.int .i64 (s.seq))] : List Value) ++ hc s.h ++ ([(.int .u64 (s.t)), (.int .i64 (s.sb)), (.int .i64 (s.sm))] : List Value)), Z1O (.slice (some ⟨b9, 0, none⟩) 5 5) ([115, 116, 97, 109, 112]), Zd 5 1 u20 ((Zv ([115, 116, 97, 109, 112])).length) ((Zv ([115, 116, 97, 109, 112])).flatMap Zw)] w19 := H16.addU p22 k21 q23
 obtain ⟨a25, c26, rfl⟩ := Z9 (H24.at 3 rfl)
 refine ⟨_, rfl, ?_⟩
 have S27 := H24.pick [0, 1] (by decide)
 refine hK18 _ _ S27 ?_
 clear hK18 K18
 refine Z1l 4 rfl (by kernel_rfl) (Z0 rfl) (fun K28 hK28 => ?_)
 refine ZX (d := 7) rfl (by kernel_rfl) (Z85 w19 s hs) ?_
 rintro _ w29 ⟨u30, rfl, k31, p32, q33⟩
 have H34 : Sat w [Z5 w (fun _ => False), Z1 b2 101 (([(.int .i64 (s.r)), (.int .i64 (s.cl)), (.int .i64 (s.seq))] : List Value) ++ hc s.h ++ ([(.int .u64 (s.t)), (.int .i64 (s.sb)), (.int .i64 (s.sm))] : List Value)), Z1O (.slice (some ⟨b9, 0, none⟩) 5 5) ([115, 116, 97, 109, 112]), Zd 5 1 (.slice a25 ((Zv ([115, 116, 97, 109, 112])).length) c26) ((Zv ([115, 116, 97, 109, 112])).length) ((Zv ([115, 116, 97, 109, 112])).flatMap Zw), Zd 5 1 u30 ((Z18 s).length) ((Z18 s).flatMap Zw)] w29 := H24.addU p32 k31 q33
 obtain ⟨a35, c36, rfl⟩ := Z9 (H34.at 4 rfl)
 refine ⟨_, rfl, ?_⟩
 have S37 := H34.pick [0, 1] (by decide)
 refine hK28 _ _ S37 ?_
 clear hK28 K28
 refine Z1l 5 rfl (by kernel_rfl) (Z0 rfl) (fun K38 hK38 => ?_)
 refine Z05 (e := 62) (size := 1) (bytes := 24) (z := (.slice none 0 0)) (pvs := [(0, (.slice a25 ((Zv ([115, 116, 97, 109, 112])).length) c26)), (1, (.slice a35 ((Z18 s).length) c36))]) (vs := ([(.slice a25 ((Zv ([115, 116, 97, 109, 112])).length) c26), (.slice a35 ((Z18 s).length) c36)] : List Value)) rfl H34 (by kernel_rfl) (by kernel_rfl) (by kernel_rfl) (by kernel_rfl) (by kernel_rfl) rfl rfl ?_
 intro b39 w40 (H41 : Sat w [Z5 w (fun _ => False), Z1 b2 101 (([(.int .i64 (s.r)), (.int .i64 (s.cl)), (.int .i64 (s.seq))] : List Value) ++ hc s.h ++ ([(.int .u64 (s.t)), (.int .i64 (s.sb)), (.int .i64 (s.sm))] : List Value)), Z1O (.slice (some ⟨b9, 0, none⟩) 5 5) ([115, 116, 97, 109, 112]), Zd 5 1 (.slice a25 ((Zv ([115, 116, 97, 109, 112])).length) c26) ((Zv ([115, 116, 97, 109, 112])).length) ((Zv ([115, 116, 97, 109, 112])).flatMap Zw), Zd 5 1 (.slice a35 ((Z18 s).length) c36) ((Z18 s).length) ((Z18 s).flatMap Zw), Zd 62 1 (.slice (some ⟨b39, 0, none⟩) 2 2) 2 ([(.slice a25 ((Zv ([115, 116, 97, 109, 112])).length) c26), (.slice a35 ((Z18 s).length) c36)] : List Value)] w40)
 have S42 := H41.pick [0, 1] (by decide)
 refine hK38 _ _ S42 ?_
 clear hK38 K38
 refine Z1l 6 rfl (by kernel_rfl) (Z0 rfl) (fun K43 hK43 => ?_)
 have l44 := Z12 ([115, 116, 97, 109, 112])
 simp only [List.length_cons, List.length_nil] at l44
 have l45 := Z4F s
 refine ZX (d := 9) rfl (by kernel_rfl) (Z2F w40 (.slice (some ⟨b39, 0, none⟩) 2 2) [(.slice a25 ((Zv ([115, 116, 97, 109, 112])).length) c26), (.slice a35 ((Z18 s).length) c36)] [(Zv ([115, 116, 97, 109, 112])), (Z18 s)] (ListAt.row (enc := Z9y) (sz := 1) (xs := [(.slice a25 ((Zv ([115, 116, 97, 109, 112])).length) c26), (.slice a35 ((Z18 s).length) c36)]) Z3y (by decide) (H41.at 5 rfl)) (Parts.cons (ListAt.row (enc := Zw) (sz := 1) Z06 (by decide) (H41.at 3 rfl)) (Parts.cons (ListAt.row (enc := Zw) (sz := 1) Z06 (by decide) (H41.at 4 rfl)) Parts.nil)) (by simp only [List.flatten_cons, List.flatten_nil, List.length_append, List.length_nil]; omega) (by simp)) ?_
 rintro _ w46 ⟨u47, rfl, k48, p49, q50⟩
 have H51 : Sat w [Z5 w (fun _ => False), Z1 b2 101 (([(.int .i64 (s.r)), (.int .i64 (s.cl)), (.int .i64 (s.seq))] : List Value) ++ hc s.h ++ ([(.int .u64 (s.t)), (.int .i64 (s.sb)), (.int .i64 (s.sm))] : List Value)), Z1O (.slice (some ⟨b9, 0, none⟩) 5 5) ([115, 116, 97, 109, 112]), Zd 5 1 (.slice a25 ((Zv ([115, 116, 97, 109, 112])).length) c26) ((Zv ([115, 116, 97, 109, 112])).length) ((Zv ([115, 116, 97, 109, 112])).flatMap Zw), Zd 5 1 (.slice a35 ((Z18 s).length) c36) ((Z18 s).length) ((Z18 s).flatMap Zw), Zd 62 1 (.slice (some ⟨b39, 0, none⟩) 2 2) 2 ([(.slice a25 ((Zv ([115, 116, 97, 109, 112])).length) c26), (.slice a35 ((Z18 s).length) c36)] : List Value), Zd 5 1 u47 (([(Zv ([115, 116, 97, 109, 112])), (Z18 s)].flatten).length) (([(Zv ([115, 116, 97, 109, 112])), (Z18 s)].flatten).flatMap Zw)] w46 := H41.addU p49 k48 q50
 obtain ⟨a52, c53, rfl⟩ := Z9 (H51.at 6 rfl)
 refine ⟨_, rfl, ?_⟩
 have S54 := H51.pick [0, 1] (by decide)
 refine hK43 _ _ S54 ?_
 clear hK43 K43
 refine ZM 7 rfl (by kernel_rfl) (by kernel_rfl) (by kernel_rfl) (fun _ _ _ h => h) S54 (Z0 rfl) (d := 2) (v := (.slice a52 (([(Zv ([115, 116, 97, 109, 112])), (Z18 s)].flatten).length) c53)) rfl (fun _ H' => (by kernel_rfl)) ?_
 refine Z20 (by kernel_rfl) ?_
 refine Z4 ?_
 refine ZY ?_
 refine Z1i rfl (ZJ (v := (.slice a52 (([(Zv ([115, 116, 97, 109, 112])), (Z18 s)].flatten).length) c53)) rfl) ?_
 have hX : ([(Zv ([115, 116, 97, 109, 112])), (Z18 s)].flatten) = Zx s := by rfl
 exact ⟨_, rfl, (by rw [← hX]; exact H51.at 6 rfl), H51.upd 0 rfl [] (fun _ h => h.elim), (by rw [← hX]; exact H51.fresh 0 rfl (fun _ h => h) 6 rfl rfl)⟩
theorem Z25 (w : World) (s : Zk) (hs : (s.cl ≤ 9223372036854775807 ∧ s.seq ≤ 9223372036854775807 ∧ s.len ≤ 9223372036854775807)) :
  Calls Tryz.prog 40 #[(.agg ⟨(([(.int .i64 (s.cl)), (.int .i64 (s.seq))] : List Value) ++ hc s.h ++ ([(.int .i64 (s.len)), (.int .i64 (s.sb)), (.int .i64 (s.sm))] : List Value))⟩)] w fun e w' => ∃ u, e = .returned u ∧ (Zd 5 1 u (Zq s).length ((Zq s).flatMap Zw)).ok w' ∧ Upd [] w w' ∧ ∀ q_, (Zd 5 1 u (Zq s).length ((Zq s).flatMap Zw)).fp q_ → w.heap.size ≤ q_ := by
 have H := Sat.start0 w
 refine Zr Tryz.func40 rfl 21 rfl (Nat.le_of_ble_eq_true rfl) ?_
 refine Zb ?_
 refine Zl ?_
 refine ZQ (Z0 rfl) (fun K1 hK1 => ?_)
 refine Z1F (vs := (([(.int .i64 (s.cl)), (.int .i64 (s.seq))] : List Value) ++ hc s.h ++ ([(.int .i64 (s.len)), (.int .i64 (s.sb)), (.int .i64 (s.sm))] : List Value))) rfl H rfl rfl ?_
 intro b2 w3 (H4 : Sat w [Z5 w (fun _ => False), Z1 b2 50 (([(.int .i64 (s.cl)), (.int .i64 (s.seq))] : List Value) ++ hc s.h ++ ([(.int .i64 (s.len)), (.int .i64 (s.sb)), (.int .i64 (s.sm))] : List Value))] w3)
 refine hK1 _ _ ?_
 clear hK1 K1
 refine Z3 (Z0 rfl) (d := 2) (v := (.slice none 0 0)) rfl (by kernel_rfl) ?_
 refine Zi ?_
 refine Z4 ?_
 refine Zb ?_
 refine Z0f H4 [Z5 w (fun _ => False), Z1 b2 50 (([(.int .i64 (s.cl)), (.int .i64 (s.seq))] : List Value) ++ hc s.h ++ ([(.int .i64 (s.len)), (.int .i64 (s.sb)), (.int .i64 (s.sm))] : List Value))] 19 rfl (by kernel_rfl) (fun Hx => (Hx.pick [0, 1] (by decide))) ?_
 intro w5 H6 S7
 refine ZM 3 rfl (by kernel_rfl) (by kernel_rfl) (by kernel_rfl) (fun _ _ _ h => h) S7 (Z0 rfl) (d := 6) (v := (.pointer (some ⟨b2, 0, none⟩))) rfl (fun _ H' => (by kernel_rfl)) ?_
 refine ZM 4 rfl (by kernel_rfl) (by kernel_rfl) (by kernel_rfl) (fun _ _ _ h => h) S7 (Z0 rfl) (d := 7) (v := (.pointer (some ⟨b2, 0, none⟩))) rfl (fun _ H' => (by kernel_rfl)) ?_
 refine ZM 5 rfl (by kernel_rfl) (by kernel_rfl) (by kernel_rfl) (fun _ _ _ h => h) S7 (Z0 rfl) (d := 8) (v := (.int .i64 (s.cl))) rfl (fun _ H' => (Za rfl (by kernel_rfl) (H'.cell 1 rfl (by kernel_rfl)))) ?_
 refine ZM 7 rfl (by kernel_rfl) (by kernel_rfl) (by kernel_rfl) (fun _ _ _ h => h) S7 (Z0 rfl) (d := 10) (v := (.pointer (some ⟨b2, 0, none⟩))) rfl (fun _ H' => (by kernel_rfl)) ?_
 refine ZM 8 rfl (by kernel_rfl) (by kernel_rfl) (by kernel_rfl) (fun _ _ _ h => h) S7 (Z0 rfl) (d := 11) (v := (.pointer (some ⟨b2, 1, none⟩))) rfl (fun _ H' => (by kernel_rfl)) ?_
 refine ZM 9 rfl (by kernel_rfl) (by kernel_rfl) (by kernel_rfl) (fun _ _ _ h => h) S7 (Z0 rfl) (d := 12) (v := (.int .i64 (s.seq))) rfl (fun _ H' => (Za rfl (by kernel_rfl) (H'.cell 1 rfl (by kernel_rfl)))) ?_
 refine ZM 11 rfl (by kernel_rfl) (by kernel_rfl) (by kernel_rfl) (fun _ _ _ h => h) S7 (Z0 rfl) (d := 14) (v := (.pointer (some ⟨b2, 2, none⟩))) rfl (fun _ H' => (by kernel_rfl)) ?_
 refine ZM 12 rfl (by kernel_rfl) (by kernel_rfl) (by kernel_rfl) (fun _ _ _ h => h) S7 (Z0 rfl) (d := 15) (v := (.slice (some ⟨b2, 2, none⟩) 32 32)) rfl (fun _ H' => (by kernel_rfl)) ?_
 refine ZM 13 rfl (by kernel_rfl) (by kernel_rfl) (by kernel_rfl) (fun _ _ _ h => h) S7 (Z0 rfl) (d := 16) (v := (.pointer (some ⟨b2, 34, none⟩))) rfl (fun _ H' => (by kernel_rfl)) ?_
 refine ZM 14 rfl (by kernel_rfl) (by kernel_rfl) (by kernel_rfl) (fun _ _ _ h => h) S7 (Z0 rfl) (d := 17) (v := (.int .i64 (s.len))) rfl (fun _ H' => (Za rfl (by kernel_rfl) (H'.cell 1 rfl (by kernel_rfl)))) ?_
 refine Z1l 0 rfl (by kernel_rfl) (Z0 rfl) (fun K8 hK8 => ?_)
 refine Z05 (e := 5) (size := 1) (bytes := 1) (z := (.int .u8 (0))) (pvs := [(0, (.int .u8 (114))), (1, (.int .u8 (101))), (2, (.int .u8 (113))), (3, (.int .u8 (117))), (4, (.int .u8 (101))), (5, (.int .u8 (115))), (6, (.int .u8 (116)))]) (vs := ([(.int .u8 (114)), (.int .u8 (101)), (.int .u8 (113)), (.int .u8 (117)), (.int .u8 (101)), (.int .u8 (115)), (.int .u8 (116))] : List Value)) rfl H6 (by kernel_rfl) (by kernel_rfl) (by kernel_rfl) (by kernel_rfl) (by kernel_rfl) rfl rfl ?_
 intro b9 w10 (H11 : Sat w [Z5 w (fun _ => False), Z1 b2 50 (([(.int .i64 (s.cl)), (.int .i64 (s.seq))] : List Value) ++ hc s.h ++ ([(.int .i64 (s.len)), (.int .i64 (s.sb)), (.int .i64 (s.sm))] : List Value)), Zd 5 1 (.slice (some ⟨b9, 0, none⟩) 7 7) 7 ([(.int .u8 (114)), (.int .u8 (101)), (.int .u8 (113)), (.int .u8 (117)), (.int .u8 (101)), (.int .u8 (115)), (.int .u8 (116))] : List Value)] w10)
 have H12 : Sat w [Z5 w (fun _ => False), Z1 b2 50 (([(.int .i64 (s.cl)), (.int .i64 (s.seq))] : List Value) ++ hc s.h ++ ([(.int .i64 (s.len)), (.int .i64 (s.sb)), (.int .i64 (s.sm))] : List Value)), Zd 5 1 (.slice (some ⟨b9, 0, none⟩) 7 7) 7 ([114, 101, 113, 117, 101, 115, 116].flatMap Zw)] w10 := H11.cast (by rw [show (([(.int .u8 (114)), (.int .u8 (101)), (.int .u8 (113)), (.int .u8 (117)), (.int .u8 (101)), (.int .u8 (115)), (.int .u8 (116))] : List Value) : List Value) = [114, 101, 113, 117, 101, 115, 116].flatMap Zw from rfl])
 have S13 := H12.pick [0, 1] (by decide)
 refine hK8 _ _ S13 ?_
 clear hK8 K8
 refine Z1l 1 rfl (by kernel_rfl) (Z0 rfl) (fun K14 hK14 => ?_)
 refine Z1Z (e := 5) (s := [114, 101, 113, 117, 101, 115, 116]) rfl H12 2 rfl (by kernel_rfl) (by kernel_rfl) rfl ?_
 intro w15 (H16 : Sat w [Z5 w (fun _ => False), Z1 b2 50 (([(.int .i64 (s.cl)), (.int .i64 (s.seq))] : List Value) ++ hc s.h ++ ([(.int .i64 (s.len)), (.int .i64 (s.sb)), (.int .i64 (s.sm))] : List Value)), Z1O (.slice (some ⟨b9, 0, none⟩) 7 7) ([114, 101, 113, 117, 101, 115, 116])] w15)
 have S17 := H16.pick [0, 1] (by decide)
 refine hK14 _ _ S17 ?_
 clear hK14 K14
 refine Z1l 2 rfl (by kernel_rfl) (Z0 rfl) (fun K18 hK18 => ?_)
 refine ZX (d := 5) rfl (by kernel_rfl) (Z4a w15 (.slice (some ⟨b9, 0, none⟩) 7 7) ([114, 101, 113, 117, 101, 115, 116]) (ListAt.ofTxt (H16.at 2 rfl)) (by simp)) ?_
 rintro _ w19 ⟨u20, rfl, k21, p22, q23⟩
 have H24 : Sat w [Z5 w (fun _ => False), Z1 b2 50 (([(.int .i64 (s.cl)), (.int .i64 (s.seq))] : List Value) ++ hc s.h ++ ([(.int .i64 (s.len)), (.int .i64 (s.sb)), (.int .i64 (s.sm))] : List Value)), Z1O (.slice (some ⟨b9, 0, none⟩) 7 7) ([114, 101, 113, 117, 101, 115, 116]), Zd 5 1 u20 ((Zv ([114, 101, 113, 117, 101, 115, 116])).length) ((Zv ([114, 101, 113, 117, 101, 115, 116])).flatMap Zw)] w19 := H16.addU p22 k21 q23
 obtain ⟨a25, c26, rfl⟩ := Z9 (H24.at 3 rfl)
 refine ⟨_, rfl, ?_⟩
 have S27 := H24.pick [0, 1] (by decide)
 refine hK18 _ _ S27 ?_
 clear hK18 K18
 refine Z1l 6 rfl (by kernel_rfl) (Z0 rfl) (fun K28 hK28 => ?_)
 refine ZX (d := 9) rfl (by kernel_rfl) (Z1V w19 s.cl (by omega)) ?_
 rintro _ w29 ⟨u30, rfl, k31, p32, q33⟩
 have H34 : Sat w [Z5 w (fun _ => False), Z1 b2 50 (([(.int .i64 (s.cl)), (.int .i64 (s.seq))] : List Value) ++ hc s.h ++ ([(.int .i64 (s.len)), (.int .i64 (s.sb)), (.int .i64 (s.sm))] : List Value)), Z1O (.slice (some ⟨b9, 0, none⟩) 7 7) ([114, 101, 113, 117, 101, 115, 116]), Zd 5 1 (.slice a25 ((Zv ([114, 101, 113, 117, 101, 115, 116])).length) c26) ((Zv ([114, 101, 113, 117, 101, 115, 116])).length) ((Zv ([114, 101, 113, 117, 101, 115, 116])).flatMap Zw), Zd 5 1 u30 ((Zc s.cl).length) ((Zc s.cl).flatMap Zw)] w29 := H24.addU p32 k31 q33
 obtain ⟨a35, c36, rfl⟩ := Z9 (H34.at 4 rfl)
 refine ⟨_, rfl, ?_⟩
 have S37 := H34.pick [0, 1] (by decide)
 refine hK28 _ _ S37 ?_
 clear hK28 K28
 refine Z1l 10 rfl (by kernel_rfl) (Z0 rfl) (fun K38 hK38 => ?_)
 refine ZX (d := 13) rfl (by kernel_rfl) (Z1V w29 s.seq (by omega)) ?_
 rintro _ w39 ⟨u40, rfl, k41, p42, q43⟩
 have H44 : Sat w [Z5 w (fun _ => False), Z1 b2 50 (([(.int .i64 (s.cl)), (.int .i64 (s.seq))] : List Value) ++ hc s.h ++ ([(.int .i64 (s.len)), (.int .i64 (s.sb)), (.int .i64 (s.sm))] : List Value)), Z1O (.slice (some ⟨b9, 0, none⟩) 7 7) ([114, 101, 113, 117, 101, 115, 116]), Zd 5 1 (.slice a25 ((Zv ([114, 101, 113, 117, 101, 115, 116])).length) c26) ((Zv ([114, 101, 113, 117, 101, 115, 116])).length) ((Zv ([114, 101, 113, 117, 101, 115, 116])).flatMap Zw), Zd 5 1 (.slice a35 ((Zc s.cl).length) c36) ((Zc s.cl).length) ((Zc s.cl).flatMap Zw), Zd 5 1 u40 ((Zc s.seq).length) ((Zc s.seq).flatMap Zw)] w39 := H34.addU p42 k41 q43
 obtain ⟨a45, c46, rfl⟩ := Z9 (H44.at 5 rfl)
 refine ⟨_, rfl, ?_⟩
 have S47 := H44.pick [0, 1] (by decide)
 refine hK38 _ _ S47 ?_
 clear hK38 K38
 refine Z1l 15 rfl (by kernel_rfl) (Z0 rfl) (fun K48 hK48 => ?_)
 refine ZX (d := 18) rfl (by kernel_rfl) (Z1V w39 s.len (by omega)) ?_
 rintro _ w49 ⟨u50, rfl, k51, p52, q53⟩
 have H54 : Sat w [Z5 w (fun _ => False), Z1 b2 50 (([(.int .i64 (s.cl)), (.int .i64 (s.seq))] : List Value) ++ hc s.h ++ ([(.int .i64 (s.len)), (.int .i64 (s.sb)), (.int .i64 (s.sm))] : List Value)), Z1O (.slice (some ⟨b9, 0, none⟩) 7 7) ([114, 101, 113, 117, 101, 115, 116]), Zd 5 1 (.slice a25 ((Zv ([114, 101, 113, 117, 101, 115, 116])).length) c26) ((Zv ([114, 101, 113, 117, 101, 115, 116])).length) ((Zv ([114, 101, 113, 117, 101, 115, 116])).flatMap Zw), Zd 5 1 (.slice a35 ((Zc s.cl).length) c36) ((Zc s.cl).length) ((Zc s.cl).flatMap Zw), Zd 5 1 (.slice a45 ((Zc s.seq).length) c46) ((Zc s.seq).length) ((Zc s.seq).flatMap Zw), Zd 5 1 u50 ((Zc s.len).length) ((Zc s.len).flatMap Zw)] w49 := H44.addU p52 k51 q53
 obtain ⟨a55, c56, rfl⟩ := Z9 (H54.at 6 rfl)
 refine ⟨_, rfl, ?_⟩
 have S57 := H54.pick [0, 1] (by decide)
 refine hK48 _ _ S57 ?_
 clear hK48 K48
 refine Z1l 16 rfl (by kernel_rfl) (Z0 rfl) (fun K58 hK58 => ?_)
 refine Z05 (e := 62) (size := 1) (bytes := 24) (z := (.slice none 0 0)) (pvs := [(0, (.slice a25 ((Zv ([114, 101, 113, 117, 101, 115, 116])).length) c26)), (1, (.slice a35 ((Zc s.cl).length) c36)), (2, (.slice a45 ((Zc s.seq).length) c46)), (3, (.slice (some ⟨b2, 2, none⟩) 32 32)), (4, (.slice a55 ((Zc s.len).length) c56))]) (vs := ([(.slice a25 ((Zv ([114, 101, 113, 117, 101, 115, 116])).length) c26), (.slice a35 ((Zc s.cl).length) c36), (.slice a45 ((Zc s.seq).length) c46), (.slice (some ⟨b2, 2, none⟩) 32 32), (.slice a55 ((Zc s.len).length) c56)] : List Value)) rfl H54 (by kernel_rfl) (by kernel_rfl) (by kernel_rfl) (by kernel_rfl) (by kernel_rfl) rfl rfl ?_
 intro b59 w60 (H61 : Sat w [Z5 w (fun _ => False), Z1 b2 50 (([(.int .i64 (s.cl)), (.int .i64 (s.seq))] : List Value) ++ hc s.h ++ ([(.int .i64 (s.len)), (.int .i64 (s.sb)), (.int .i64 (s.sm))] : List Value)), Z1O (.slice (some ⟨b9, 0, none⟩) 7 7) ([114, 101, 113, 117, 101, 115, 116]), Zd 5 1 (.slice a25 ((Zv ([114, 101, 113, 117, 101, 115, 116])).length) c26) ((Zv ([114, 101, 113, 117, 101, 115, 116])).length) ((Zv ([114, 101, 113, 117, 101, 115, 116])).flatMap Zw), Zd 5 1 (.slice a35 ((Zc s.cl).length) c36) ((Zc s.cl).length) ((Zc s.cl).flatMap Zw), Zd 5 1 (.slice a45 ((Zc s.seq).length) c46) ((Zc s.seq).length) ((Zc s.seq).flatMap Zw), Zd 5 1 (.slice a55 ((Zc s.len).length) c56) ((Zc s.len).length) ((Zc s.len).flatMap Zw), Zd 62 1 (.slice (some ⟨b59, 0, none⟩) 5 5) 5 ([(.slice a25 ((Zv ([114, 101, 113, 117, 101, 115, 116])).length) c26), (.slice a35 ((Zc s.cl).length) c36), (.slice a45 ((Zc s.seq).length) c46), (.slice (some ⟨b2, 2, none⟩) 32 32), (.slice a55 ((Zc s.len).length) c56)] : List Value)] w60)
 have S62 := H61.pick [0, 1] (by decide)
 refine hK58 _ _ S62 ?_
 clear hK58 K58
 refine Z1l 17 rfl (by kernel_rfl) (Z0 rfl) (fun K63 hK63 => ?_)
 have l64 := Z12 ([114, 101, 113, 117, 101, 115, 116])
 simp only [List.length_cons, List.length_nil] at l64
 have l65 := ZR s.cl
 have l66 := ZR s.seq
 have l67 := s.h.len
 have l68 := ZR s.len
 refine ZX (d := 20) rfl (by kernel_rfl) (Z2F w60 (.slice (some ⟨b59, 0, none⟩) 5 5) [(.slice a25 ((Zv ([114, 101, 113, 117, 101, 115, 116])).length) c26), (.slice a35 ((Zc s.cl).length) c36), (.slice a45 ((Zc s.seq).length) c46), (.slice (some ⟨b2, 2, none⟩) 32 32), (.slice a55 ((Zc s.len).length) c56)] [(Zv ([114, 101, 113, 117, 101, 115, 116])), (Zc s.cl), (Zc s.seq), s.h.l, (Zc s.len)] (ListAt.row (enc := Z9y) (sz := 1) (xs := [(.slice a25 ((Zv ([114, 101, 113, 117, 101, 115, 116])).length) c26), (.slice a35 ((Zc s.cl).length) c36), (.slice a45 ((Zc s.seq).length) c46), (.slice (some ⟨b2, 2, none⟩) 32 32), (.slice a55 ((Zc s.len).length) c56)]) Z3y (by decide) (H61.at 7 rfl)) (Parts.cons (ListAt.row (enc := Zw) (sz := 1) Z06 (by decide) (H61.at 3 rfl)) (Parts.cons (ListAt.row (enc := Zw) (sz := 1) Z06 (by decide) (H61.at 4 rfl)) (Parts.cons (ListAt.row (enc := Zw) (sz := 1) Z06 (by decide) (H61.at 5 rfl)) (Parts.cons (ListAt.ofHash (Z3n (H61.at 1 rfl) (by kernel_rfl)) (by decide)) (Parts.cons (ListAt.row (enc := Zw) (sz := 1) Z06 (by decide) (H61.at 6 rfl)) Parts.nil))))) (by simp only [List.flatten_cons, List.flatten_nil, List.length_append, List.length_nil]; omega) (by simp)) ?_
 rintro _ w69 ⟨u70, rfl, k71, p72, q73⟩
 have H74 : Sat w [Z5 w (fun _ => False), Z1 b2 50 (([(.int .i64 (s.cl)), (.int .i64 (s.seq))] : List Value) ++ hc s.h ++ ([(.int .i64 (s.len)), (.int .i64 (s.sb)), (.int .i64 (s.sm))] : List Value)), Z1O (.slice (some ⟨b9, 0, none⟩) 7 7) ([114, 101, 113, 117, 101, 115, 116]), Zd 5 1 (.slice a25 ((Zv ([114, 101, 113, 117, 101, 115, 116])).length) c26) ((Zv ([114, 101, 113, 117, 101, 115, 116])).length) ((Zv ([114, 101, 113, 117, 101, 115, 116])).flatMap Zw), Zd 5 1 (.slice a35 ((Zc s.cl).length) c36) ((Zc s.cl).length) ((Zc s.cl).flatMap Zw), Zd 5 1 (.slice a45 ((Zc s.seq).length) c46) ((Zc s.seq).length) ((Zc s.seq).flatMap Zw), Zd 5 1 (.slice a55 ((Zc s.len).length) c56) ((Zc s.len).length) ((Zc s.len).flatMap Zw), Zd 62 1 (.slice (some ⟨b59, 0, none⟩) 5 5) 5 ([(.slice a25 ((Zv ([114, 101, 113, 117, 101, 115, 116])).length) c26), (.slice a35 ((Zc s.cl).length) c36), (.slice a45 ((Zc s.seq).length) c46), (.slice (some ⟨b2, 2, none⟩) 32 32), (.slice a55 ((Zc s.len).length) c56)] : List Value), Zd 5 1 u70 (([(Zv ([114, 101, 113, 117, 101, 115, 116])), (Zc s.cl), (Zc s.seq), s.h.l, (Zc s.len)].flatten).length) (([(Zv ([114, 101, 113, 117, 101, 115, 116])), (Zc s.cl), (Zc s.seq), s.h.l, (Zc s.len)].flatten).flatMap Zw)] w69 := H61.addU p72 k71 q73
 obtain ⟨a75, c76, rfl⟩ := Z9 (H74.at 8 rfl)
 refine ⟨_, rfl, ?_⟩
 have S77 := H74.pick [0, 1] (by decide)
 refine hK63 _ _ S77 ?_
 clear hK63 K63
 refine ZM 18 rfl (by kernel_rfl) (by kernel_rfl) (by kernel_rfl) (fun _ _ _ h => h) S77 (Z0 rfl) (d := 2) (v := (.slice a75 (([(Zv ([114, 101, 113, 117, 101, 115, 116])), (Zc s.cl), (Zc s.seq), s.h.l, (Zc s.len)].flatten).length) c76)) rfl (fun _ H' => (by kernel_rfl)) ?_
 refine Z20 (by kernel_rfl) ?_
 refine Z4 ?_
 refine ZY ?_
 refine Z1i rfl (ZJ (v := (.slice a75 (([(Zv ([114, 101, 113, 117, 101, 115, 116])), (Zc s.cl), (Zc s.seq), s.h.l, (Zc s.len)].flatten).length) c76)) rfl) ?_
 have hX : ([(Zv ([114, 101, 113, 117, 101, 115, 116])), (Zc s.cl), (Zc s.seq), s.h.l, (Zc s.len)].flatten) = Zq s := by rfl
 exact ⟨_, rfl, (by rw [← hX]; exact H74.at 8 rfl), H74.upd 0 rfl [] (fun _ h => h.elim), (by rw [← hX]; exact H74.fresh 0 rfl (fun _ h => h) 8 rfl rfl)⟩
end Go.Proofs.YtoaifondpohniaaGreat
